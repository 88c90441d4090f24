import PyProof.Rows.All
import Wide.All
import OpenK.AllK
import Wide.FinOn
import HandS.ForMost
import HandS.ForExc
import HandS.NoneIn
import HandS.Zip
import HandS.SortInts
import HandS.More
import HandS.IsInst
import HandS.EndBits
import HandS.Conv
import HandS.WideBits
import HandS.TupMul
import PyProof.ListMulAny
import HandS.Style
import KE.GoesEnumKw
import HandS.Text
import HandS.RaiseMore
import PyProof.ReprBulk
import PySem.Challenge.RW_poolhopes_k50_sheets_written_and_read
set_option Elab.async false
set_option linter.all false
set_option maxRecDepth 100000
set_option maxHeartbeats 8000000
namespace DL
open PySem L2 PySem.Spec
open PyProof.Rows hiding St
abbrev Frag := PySem.W.Frag
/-! ## data over an abstract heap -/
def kD : Key → PyData
  | .inl i => .int i
  | .inr s => .str s
def ktD (k : List Key) : PyData := .tuple (k.map kD)
mutual
inductive Rp (K : Frag) (G : Hp) : V → PyData → Prop
  | non : Rp K G .non .none
  | bl (b : Bool) : Rp K G (.bl b) (.bool b)
  | int (i : Int) : Rp K G (.int i) (.int i)
  | str (x : Str) : Rp K G (.str x) (.str x)
  | lst {a : Addr} {xs : List V} {ds : List PyData} : SqL K G a xs → RpA K G xs ds → Rp K G (.ref a) (.list ds)
  | tup {a : Addr} {xs : List V} {ds : List PyData} : SqT K G a xs → RpA K G xs ds → Rp K G (.ref a) (.tuple ds)
  | dK {a : Addr} {od : Obj} {ks : List (Key × V)} {kvs : List (PyData × PyData)} : G a = some (.frz od (.dK ks)) → RpK K G ks kvs → Rp K G (.ref a) (.dict kvs)
  | dT {a : Addr} {od : Obj} {ks : List (List Key × V)} {kvs : List (PyData × PyData)} : G a = some (.frz od (.dT ks)) → RpT K G ks kvs → kvs ≠ [] → Rp K G (.ref a) (.dict kvs)
inductive RpA (K : Frag) (G : Hp) : List V → List PyData → Prop
  | nil : RpA K G [] []
  | cons {v : V} {vs : List V} {d : PyData} {ds : List PyData} : Rp K G v d → RpA K G vs ds → RpA K G (v :: vs) (d :: ds)
inductive RpK (K : Frag) (G : Hp) : List (Key × V) → List (PyData × PyData) → Prop
  | nil : RpK K G [] []
  | cons {k : Key} {v : V} {vs : List (Key × V)} {d : PyData} {ds : List (PyData × PyData)} : Rp K G v d → RpK K G vs ds → RpK K G ((k, v) :: vs) ((kD k, d) :: ds)
inductive RpT (K : Frag) (G : Hp) : List (List Key × V) → List (PyData × PyData) → Prop
  | nil : RpT K G [] []
  | cons {k : List Key} {v : V} {vs : List (List Key × V)} {d : PyData} {ds : List (PyData × PyData)} : Rp K G v d → RpT K G vs ds → RpT K G ((k, v) :: vs) ((ktD k, d) :: ds)
end
theorem sameT {K : Frag} {H H' : Hp} {a : Addr} {xs : List V} (e : Same H H') (h : SqT K H a xs) : SqT K H' a xs := by
  rcases h with (h | ⟨o, h⟩) | h
  · exact .inl (.inl (e _ _ h))
  · exact .inl (.inr ⟨o, e _ _ h⟩)
  · exact .inr h
section
variable {K : Frag} {G G' H H' : Hp}
mutual
theorem Rp.mono (S : Same G G') : ∀ (d : PyData) (v : V), Rp K G v d → Rp K G' v d
  | .none, _, .non => .non
  | .bool _, _, .bl b => .bl b
  | .int _, _, .int i => .int i
  | .str _, _, .str x => .str x
  | .list ds, _, .lst h r => .lst (S.seq h) (RpA.mono S ds _ r)
  | .tuple ds, _, .tup h r => .tup (sameT S h) (RpA.mono S ds _ r)
  | .dict kvs, _, .dK h r => .dK (S _ _ h) (RpK.mono S kvs _ r)
  | .dict kvs, _, .dT h r n => .dT (S _ _ h) (RpT.mono S kvs _ r) n
theorem RpA.mono (S : Same G G') : ∀ (ds : List PyData) (vs : List V), RpA K G vs ds → RpA K G' vs ds
  | [], _, .nil => .nil
  | d :: ds, _, .cons r rs => .cons (Rp.mono S d _ r) (RpA.mono S ds _ rs)
theorem RpK.mono (S : Same G G') : ∀ (kvs : List (PyData × PyData)) (vs : List (Key × V)), RpK K G vs kvs → RpK K G' vs kvs
  | [], _, .nil => .nil
  | (_, d) :: ds, _, .cons r rs => .cons (Rp.mono S d _ r) (RpK.mono S ds _ rs)
theorem RpT.mono (S : Same G G') : ∀ (kvs : List (PyData × PyData)) (vs : List (List Key × V)), RpT K G vs kvs → RpT K G' vs kvs
  | [], _, .nil => .nil
  | (_, d) :: ds, _, .cons r rs => .cons (Rp.mono S d _ r) (RpT.mono S ds _ rs)
end
theorem Rp.up {d : PyData} {v : V} (r : Rp K G v d) (S : Same G G') : Rp K G' v d := Rp.mono S d v r
theorem RpA.up {d : List PyData} {v : List V} (r : RpA K G v d) (S : Same G G') : RpA K G' v d := RpA.mono S d v r
theorem RpK.up {d : List (PyData × PyData)} {v : List (Key × V)} (r : RpK K G v d) (S : Same G G') : RpK K G' v d := RpK.mono S d v r
theorem RpT.up {d : List (PyData × PyData)} {v : List (List Key × V)} (r : RpT K G v d) (S : Same G G') : RpT K G' v d := RpT.mono S d v r
theorem RpA.len : ∀ {vs : List V} {ds : List PyData}, RpA K G vs ds → vs.length = ds.length
  | _, _, .nil => rfl
  | _, _, .cons _ t => congrArg Nat.succ (RpA.len t)
theorem RpA.get : ∀ {vs : List V} {ds : List PyData} {i : Nat} {v : V}, RpA K G vs ds → vs[i]? = some v → ∃ d, ds[i]? = some d ∧ Rp K G v d
  | _, _, i, _, .nil, e => by simp at e
  | _, _, 0, _, .cons r _, e => ⟨_, rfl, by simpa using (by simpa using e : _ = _) ▸ r⟩
  | _, _, i + 1, _, .cons _ t, e => by
    obtain ⟨d, h1, h2⟩ := RpA.get (i := i) t (by simpa using e)
    exact ⟨d, by simpa using h1, h2⟩
theorem RpA.getD : ∀ {vs : List V} {ds : List PyData} {i : Nat} {d : PyData}, RpA K G vs ds → ds[i]? = some d → ∃ v, vs[i]? = some v ∧ Rp K G v d
  | _, _, i, _, .nil, e => by simp at e
  | _, _, 0, _, .cons r _, e => ⟨_, rfl, by simpa using (by simpa using e : _ = _) ▸ r⟩
  | _, _, i + 1, _, .cons _ t, e => by
    obtain ⟨d, h1, h2⟩ := RpA.getD (i := i) t (by simpa using e)
    exact ⟨d, by simpa using h1, h2⟩
theorem RpA.append : ∀ {xs ys : List V} {ds es : List PyData}, RpA K G xs ds → RpA K G ys es → RpA K G (xs ++ ys) (ds ++ es)
  | _, _, _, _, .nil, s => s
  | _, _, _, _, .cons r t, s => .cons r (RpA.append t s)
end
end DL
namespace DL
open PySem L2 PySem.Spec
open PyProof.Rows hiding St
/-! ## slots, outcomes -/
/-- what a slot holds: nothing known; data that nobody changes; an object that this def owns; a parameter's object that this def may change; such a one given away; an object that is only read here -/
inductive Sl where
  | un | cl (d : PyData) | ow (d : PyData) | pw (d : PyData) | pc (d : PyData) | lw (d : PyData)
abbrev DEnv := List Sl
structure Exc where
  cls : Str
  fs : List (Str × PyData)
inductive Out (α : Type) where
  | bad
  | ok (a : α) (r : DEnv)
  | ex (c : Exc) (r : DEnv)
inductive EV where
  | val (d : PyData)
  | slot (i : Nat)
inductive SOut where
  | bad
  | nx (r : DEnv)
  | rt (d : PyData) (fr : Bool) (r : DEnv)
  | bk (r : DEnv)
  | ct (r : DEnv)
  | ex (c : Exc) (r : DEnv)
/-- the object at p, owned: its items are data of G -/
def Ow (K : Frag) (G H : Hp) (p : Addr) : PyData → Prop
  | .list ds => ∃ xs, H p = some (.lst xs) ∧ RpA K G xs ds
  | .dict kvs => (∃ ks, H p = some (.dK ks) ∧ RpK K G ks kvs) ∨ ∃ ks, H p = some (.dT ks) ∧ RpT K G ks kvs ∧ kvs ≠ []
  | _ => False
/-- .. only read -/
def OwR (K : Frag) (G H : Hp) (p : Addr) : PyData → Prop
  | .list ds => ∃ xs, Rd H p (.lst xs) ∧ RpA K G xs ds
  | .dict kvs => (∃ ks, Rd H p (.dK ks) ∧ RpK K G ks kvs) ∨ ∃ ks, Rd H p (.dT ks) ∧ RpT K G ks kvs ∧ kvs ≠ []
  | _ => False
def SlR (K : Frag) (G H : Hp) (v : Option V) : Sl → Prop
  | .un => True
  | .cl d => ∃ x, v = some x ∧ Rp K G x d
  | .pc d => ∃ x, v = some x ∧ Rp K G x d
  | .ow d => ∃ p, v = some (.ref p) ∧ G p = none ∧ Ow K G H p d
  | .pw d => ∃ p, v = some (.ref p) ∧ G p = none ∧ Ow K G H p d
  | .lw d => ∃ p, v = some (.ref p) ∧ G p = none ∧ OwR K G H p d
def Sl.mut : Sl → Bool
  | .ow _ => true
  | .pw _ => true
  | _ => false
def Sl.isO : Sl → Bool
  | .ow _ => true
  | .pw _ => true
  | .lw _ => true
  | _ => false
/-- where a body began -/
structure Bs where
  G : Hp
  H : Hp
  P : List (Nat × Addr)
  T : List (Addr × PyData)
structure INV (K : Frag) (B : Bs) (env : DEnv) (σ : St) (G H : Hp) : Prop where
  len : σ.length = env.length
  sl : ∀ (i : Nat) (s : Sl), env[i]? = some s → ∃ v, σ[i]? = some v ∧ SlR K G H v s
  nd : ∀ (i j : Nat) (p : Addr) (s t : Sl), env[i]? = some s → env[j]? = some t → s.mut = true → t.isO = true → σ[i]? = some (some (.ref p)) → σ[j]? = some (some (.ref p)) → i = j
  gh : Same G H
  g0 : Same B.G G
  h0 : ∀ b o, (∀ j, (j, b) ∉ B.P) → B.H b = some o → H b = some o
  fr : ∀ b, B.G b = none → B.H b ≠ none → (∀ j, (j, b) ∉ B.P) → G b = none
  ow : ∀ (i : Nat) (p : Addr) (d : PyData), env[i]? = some (.ow d) → σ[i]? = some (some (.ref p)) → B.H p = none ∧ ∀ j, (j, p) ∉ B.P
  pw : ∀ (i : Nat) (p : Addr) (d : PyData), env[i]? = some (.pw d) → σ[i]? = some (some (.ref p)) → (i, p) ∈ B.P
  lw : ∀ (i : Nat) (p : Addr) (d : PyData), env[i]? = some (.lw d) → σ[i]? = some (some (.ref p)) → B.H p ≠ none ∧ B.G p = none ∧ ∀ j, (j, p) ∉ B.P
  pp : ∀ (j : Nat) (p : Addr), (j, p) ∈ B.P → σ[j]? = some (some (.ref p)) ∧ H p ≠ none ∧ ∃ d, env[j]? = some (.pw d) ∨ env[j]? = some (.pc d)
  tp : ∀ q ∈ B.T, G q.1 = none ∧ Ow K G H q.1 q.2 ∧ B.H q.1 = none ∧ (∀ j, (j, q.1) ∉ B.P) ∧ ∀ (i : Nat) (s : Sl), env[i]? = some s → s.isO = true → σ[i]? ≠ some (some (.ref q.1))
  td : (B.T.map (·.1)).Nodup ∧ ∀ (i j : Nat) (p : Addr), (i, p) ∈ B.P → (j, p) ∈ B.P → i = j
section
variable {K : Frag} {B : Bs} {env : DEnv} {σ : St} {G H : Hp}
theorem Ow.up {G' H' : Hp} {p : Addr} {d : PyData} (x : Ow K G H p d) (S : Same G G') (e : H' p = H p) : Ow K G' H' p d := by
  cases d with
  | list ds => obtain ⟨xs, h, r⟩ := x; exact ⟨xs, e.trans h, r.up S⟩
  | dict kvs =>
    rcases x with ⟨ks, h, r⟩ | ⟨ks, h, r, n⟩
    · exact .inl ⟨ks, e.trans h, r.up S⟩
    · exact .inr ⟨ks, e.trans h, r.up S, n⟩
  | _ => exact x.elim
theorem Ow.some {p : Addr} {d : PyData} (x : Ow K G H p d) : H p ≠ none := by
  cases d with
  | list ds => obtain ⟨xs, h, r⟩ := x; rw [h]; simp
  | dict kvs =>
    rcases x with ⟨ks, h, r⟩ | ⟨ks, h, r⟩ <;> (rw [h]; simp)
  | _ => exact x.elim
theorem rd_up {H H' : Hp} {p : Addr} {u : HO} (r : Rd H p u) (e : H' p = H p) : Rd H' p u := by
  rcases r with r | ⟨o, r⟩
  · exact .inl (e.trans r)
  · exact .inr ⟨o, e.trans r⟩
theorem rd_same {H H' : Hp} {p : Addr} {u : HO} (r : Rd H p u) (e : Same H H') : Rd H' p u := by
  rcases r with r | ⟨o, r⟩
  · exact .inl (e _ _ r)
  · exact .inr ⟨o, e _ _ r⟩
theorem OwR.up {G' H' : Hp} {p : Addr} {d : PyData} (x : OwR K G H p d) (S : Same G G') (e : H' p = H p) : OwR K G' H' p d := by
  cases d with
  | list ds => obtain ⟨xs, h, r⟩ := x; exact ⟨xs, rd_up h e, r.up S⟩
  | dict kvs =>
    rcases x with ⟨ks, h, r⟩ | ⟨ks, h, r, n⟩
    · exact .inl ⟨ks, rd_up h e, r.up S⟩
    · exact .inr ⟨ks, rd_up h e, r.up S, n⟩
  | _ => exact x.elim
theorem rd_some {H : Hp} {p : Addr} {u : HO} (r : Rd H p u) : H p ≠ none := by
  rcases r with r | ⟨o, r⟩ <;> (rw [r]; simp)
theorem OwR.some {p : Addr} {d : PyData} (x : OwR K G H p d) : H p ≠ none := by
  cases d with
  | list ds => obtain ⟨xs, h, r⟩ := x; exact rd_some h
  | dict kvs =>
    rcases x with ⟨ks, h, r⟩ | ⟨ks, h, r⟩ <;> exact rd_some h
  | _ => exact x.elim
theorem Ow.toR {p : Addr} {d : PyData} (x : Ow K G H p d) : OwR K G H p d := by
  cases d with
  | list ds => obtain ⟨xs, h, r⟩ := x; exact ⟨xs, .inl h, r⟩
  | dict kvs =>
    rcases x with ⟨ks, h, r⟩ | ⟨ks, h, r, n⟩
    · exact .inl ⟨ks, .inl h, r⟩
    · exact .inr ⟨ks, .inl h, r, n⟩
  | _ => exact x.elim
/-- a slot's object stays, G grows -/
theorem SlR.up {G' H' : Hp} {v : Option V} {s : Sl} (x : SlR K G H v s) (S : Same G G') (e : ∀ p, v = some (.ref p) → s.isO = true → H' p = H p ∧ G' p = none) : SlR K G' H' v s := by
  cases s with
  | un => trivial
  | cl d => obtain ⟨y, h, r⟩ := x; exact ⟨y, h, r.up S⟩
  | pc d => obtain ⟨y, h, r⟩ := x; exact ⟨y, h, r.up S⟩
  | ow d => obtain ⟨p, h, n, r⟩ := x; obtain ⟨e1, e2⟩ := e p h rfl; exact ⟨p, h, e2, r.up S e1⟩
  | pw d => obtain ⟨p, h, n, r⟩ := x; obtain ⟨e1, e2⟩ := e p h rfl; exact ⟨p, h, e2, r.up S e1⟩
  | lw d => obtain ⟨p, h, n, r⟩ := x; obtain ⟨e1, e2⟩ := e p h rfl; exact ⟨p, h, e2, r.up S e1⟩
/-- an owned slot's object is there and not in G -/
theorem SlR.own {v : Option V} {s : Sl} (x : SlR K G H v s) (h : s.isO = true) : ∃ p, v = some (.ref p) ∧ G p = none ∧ H p ≠ none := by
  cases s with
  | ow d => obtain ⟨p, h, n, r⟩ := x; exact ⟨p, h, n, r.some⟩
  | pw d => obtain ⟨p, h, n, r⟩ := x; exact ⟨p, h, n, r.some⟩
  | lw d => obtain ⟨p, h, n, r⟩ := x; exact ⟨p, h, n, r.some⟩
  | _ => cases h
theorem INV.newB (I : INV K B env σ G H) {p : Addr} (n : H p = none) : B.H p = none ∧ ∀ j, (j, p) ∉ B.P := by
  have np : ∀ j, (j, p) ∉ B.P := fun j hj => (I.pp j p hj).2.1 n
  refine ⟨?_, np⟩
  cases q : B.H p with
  | none => rfl
  | some o => have := I.h0 p o np q; rw [n] at this; cases this
theorem same_upd {H : Hp} {p : Addr} {o : HO} (n : H p = none) : Same H (upd H p o) := fun b u e => by rw [upd_ne (ne_of_none e n)]; exact e
/-- a new object, clean from the start -/
theorem INV.alloc (I : INV K B env σ G H) {p : Addr} {o : HO} (n : H p = none) : INV K B env σ (upd G p o) (upd H p o) := by
  obtain ⟨nb, np⟩ := I.newB n
  have nG : G p = none := by
    cases q : G p with
    | none => rfl
    | some u => have := I.gh p u q; rw [n] at this; cases this
  refine ⟨I.len, fun i s e => ?_, I.nd, fun b u e => ?_, fun b u e => ?_, fun b u h e => ?_, fun b h1 h2 h3 => ?_, I.ow, I.pw, I.lw, fun j q h => ?_, fun q hq => ?_, I.td⟩
  · obtain ⟨v, h1, h2⟩ := I.sl i s e
    refine ⟨v, h1, h2.up (same_upd nG) fun q hq ho => ?_⟩
    obtain ⟨q', hq', g1, g2⟩ := h2.own ho
    have e1 : q = q' := by rw [hq] at hq'; exact V.ref.inj (Option.some.inj hq')
    subst e1
    have ne : q ≠ p := fun z => g2 (z ▸ n)
    exact ⟨upd_ne ne, (upd_ne ne).trans g1⟩
  · by_cases hb : b = p
    · rw [hb, upd_same] at e; rw [hb, upd_same]; exact e
    · rw [upd_ne hb] at e ⊢; exact I.gh b u e
  · exact same_upd nG b u (I.g0 b u e)
  · exact same_upd n b u (I.h0 b u h e)
  · have hb : b ≠ p := fun z => h2 (z ▸ nb)
    rw [upd_ne hb]; exact I.fr b h1 h2 h3
  · obtain ⟨a1, a2, a3⟩ := I.pp j q h
    have hb : q ≠ p := fun z => a2 (z ▸ n)
    exact ⟨a1, by rw [upd_ne hb]; exact a2, a3⟩
  · obtain ⟨a1, a2, a3, a4, a5⟩ := I.tp q hq
    have hb : q.1 ≠ p := fun z => a2.some (z ▸ n)
    exact ⟨by rw [upd_ne hb]; exact a1, a2.up (same_upd nG) (upd_ne hb), a3, a4, a5⟩
/-- a new object that is not in G -/
theorem INV.tmp (I : INV K B env σ G H) {p : Addr} {o : HO} (n : H p = none) : INV K B env σ G (upd H p o) := by
  refine ⟨I.len, fun i s e => ?_, I.nd, fun b u e => ?_, I.g0, fun b u h e => ?_, I.fr, I.ow, I.pw, I.lw, fun j q h => ?_, fun q hq => ?_, I.td⟩
  · obtain ⟨v, h1, h2⟩ := I.sl i s e
    refine ⟨v, h1, h2.up (Same.refl _) fun q hq ho => ?_⟩
    obtain ⟨q', hq', g1, g2⟩ := h2.own ho
    have e1 : q = q' := by rw [hq] at hq'; exact V.ref.inj (Option.some.inj hq')
    subst e1
    have ne : q ≠ p := fun z => g2 (z ▸ n)
    exact ⟨upd_ne ne, g1⟩
  · exact same_upd n b u (I.gh b u e)
  · exact same_upd n b u (I.h0 b u h e)
  · obtain ⟨a1, a2, a3⟩ := I.pp j q h
    have hb : q ≠ p := fun z => a2 (z ▸ n)
    exact ⟨a1, by rw [upd_ne hb]; exact a2, a3⟩
  · obtain ⟨a1, a2, a3, a4, a5⟩ := I.tp q hq
    have hb : q.1 ≠ p := fun z => a2.some (z ▸ n)
    exact ⟨a1, a2.up (Same.refl _) (upd_ne hb), a3, a4, a5⟩
/-- fresh: not in G, in no slot, not there at the start -/
structure Fresh (B : Bs) (env : DEnv) (σ : St) (G H : Hp) (p : Addr) : Prop where
  g : G p = none
  s : ∀ (i : Nat) (s : Sl), env[i]? = some s → s.isO = true → σ[i]? ≠ some (some (.ref p))
  b : B.H p = none
  n : ∀ j, (j, p) ∉ B.P
  t : ∀ q ∈ B.T, q.1 ≠ p
theorem INV.fresh (I : INV K B env σ G H) {p : Addr} (n : H p = none) : Fresh B env σ G H p := by
  obtain ⟨nb, np⟩ := I.newB n
  refine ⟨?_, fun i s e ho z => ?_, nb, np, fun q hq z => (I.tp q hq).2.1.some (z ▸ n)⟩
  · cases q : G p with
    | none => rfl
    | some u => have := I.gh p u q; rw [n] at this; cases this
  · obtain ⟨v, h1, h2⟩ := I.sl i s e
    obtain ⟨q', hq', g1, g2⟩ := h2.own ho
    rw [h1] at z
    have e1 : v = some (.ref p) := Option.some.inj z
    rw [hq'] at e1
    have e2 : q' = p := V.ref.inj (Option.some.inj e1)
    exact g2 (e2 ▸ n)
/-- a slot is assigned -/
def asgOk (env : DEnv) (i : Nat) : Bool := match env[i]? with
    | some (.pw _) => false
    | some (.pc _) => false
    | some _ => true
    | none => false
theorem asgOk.no (I : INV K B env σ G H) {i : Nat} (h : asgOk env i = true) : ∀ p, (i, p) ∉ B.P := fun p hp => by
  obtain ⟨_, _, d, hd | hd⟩ := I.pp i p hp
  · unfold asgOk at h; rw [hd] at h; cases h
  · unfold asgOk at h; rw [hd] at h; cases h
theorem asgOk.lt {i : Nat} (h : asgOk env i = true) : i < env.length := by
  unfold asgOk at h
  cases q : env[i]? with
  | none => rw [q] at h; cases h
  | some s => exact (List.getElem?_eq_some_iff.mp q).1
theorem get_set {α : Type} {l : List α} {i j : Nat} {a b : α} (h : (l.set i a)[j]? = some b) : (i = j ∧ a = b) ∨ (i ≠ j ∧ l[j]? = some b) := by
  by_cases e : i = j
  · subst e
    by_cases hl : i < l.length
    · rw [List.getElem?_set_self hl] at h; exact .inl ⟨rfl, Option.some.inj h⟩
    · rw [List.getElem?_eq_none (by simpa using hl)] at h; cases h
  · rw [List.getElem?_set_ne e] at h; exact .inr ⟨e, h⟩
/-- the slot at i becomes s, which nobody else sees -/
theorem INV.set (I : INV K B env σ G H) {i : Nat} (h : asgOk env i = true) {s : Sl} {v : Option V} (x : SlR K G H v s)
    (hm : ∀ d, s ≠ .pw d) (hl : ∀ d, s ≠ .lw d) (hf : s.isO = true → ∀ p, v = some (.ref p) → Fresh B env σ G H p) : INV K B (env.set i s) (σ.set i v) G H := by
  have hno := asgOk.no I h
  have hlt := asgOk.lt h
  have hls : i < σ.length := by rw [I.len]; exact hlt
  refine ⟨by rw [List.length_set, List.length_set]; exact I.len, fun j t e => ?_, fun j k p t u e1 e2 m1 m2 s1 s2 => ?_, I.gh, I.g0, I.h0, I.fr, fun j p d e q => ?_, fun j p d e q => ?_, fun j p d e q => ?_, fun j p hp => ?_, fun q hq => ?_, I.td⟩
  · rcases get_set e with ⟨rfl, rfl⟩ | ⟨ne, e⟩
    · exact ⟨v, List.getElem?_set_self hls, x⟩
    · obtain ⟨w, h1, h2⟩ := I.sl j t e
      exact ⟨w, by rw [List.getElem?_set_ne ne]; exact h1, h2⟩
  · rcases get_set e1 with ⟨rfl, rfl⟩ | ⟨n1, e1⟩
    · rcases get_set e2 with ⟨rfl, rfl⟩ | ⟨n2, e2⟩
      · rfl
      · rw [List.getElem?_set_ne n2] at s2
        rw [List.getElem?_set_self hls] at s1
        have z : s.isO = true := by cases s <;> first | rfl | cases m1
        exact absurd s2 ((hf z p (Option.some.inj s1)).s k u e2 m2)
    · rcases get_set e2 with ⟨rfl, rfl⟩ | ⟨n2, e2⟩
      · rw [List.getElem?_set_ne n1] at s1
        rw [List.getElem?_set_self hls] at s2
        have z : t.isO = true := by cases t <;> first | rfl | cases m1
        exact absurd s1 ((hf m2 p (Option.some.inj s2)).s j t e1 z)
      · rw [List.getElem?_set_ne n1] at s1
        rw [List.getElem?_set_ne n2] at s2
        exact I.nd j k p t u e1 e2 m1 m2 s1 s2
  · rcases get_set e with ⟨rfl, e1⟩ | ⟨ne, e⟩
    · rw [List.getElem?_set_self hls] at q
      exact ⟨(hf (by rw [e1]; rfl) p (Option.some.inj q)).b, (hf (by rw [e1]; rfl) p (Option.some.inj q)).n⟩
    · rw [List.getElem?_set_ne ne] at q; exact I.ow j p d e q
  · rcases get_set e with ⟨rfl, e1⟩ | ⟨ne, e⟩
    · exact absurd e1 (hm d)
    · rw [List.getElem?_set_ne ne] at q; exact I.pw j p d e q
  · rcases get_set e with ⟨rfl, e1⟩ | ⟨ne, e⟩
    · exact absurd e1 (hl d)
    · rw [List.getElem?_set_ne ne] at q; exact I.lw j p d e q
  · obtain ⟨a1, a2, d, a3⟩ := I.pp j p hp
    have ne : i ≠ j := fun z => hno p (z ▸ hp)
    refine ⟨by rw [List.getElem?_set_ne ne]; exact a1, a2, d, ?_⟩
    rw [List.getElem?_set_ne ne]; exact a3
  · obtain ⟨a1, a2, a3, a4, a5⟩ := I.tp q hq
    refine ⟨a1, a2, a3, a4, fun j t e ho z => ?_⟩
    rcases get_set e with ⟨rfl, rfl⟩ | ⟨ne, e⟩
    · rw [List.getElem?_set_self hls] at z
      exact (hf ho q.1 (Option.some.inj z)).t q hq rfl
    · rw [List.getElem?_set_ne ne] at z; exact a5 j t e ho z
theorem INV.setCl (I : INV K B env σ G H) {i : Nat} (h : asgOk env i = true) {v : V} {d : PyData} (r : Rp K G v d) : INV K B (env.set i (.cl d)) (σ.set i (some v)) G H :=
  I.set h ⟨v, rfl, r⟩ (fun _ z => by cases z) (fun _ z => by cases z) (fun z => by cases z)
theorem INV.setOw (I : INV K B env σ G H) {i : Nat} (h : asgOk env i = true) {p : Addr} {d : PyData} (f : Fresh B env σ G H p) (r : Ow K G H p d) : INV K B (env.set i (.ow d)) (σ.set i (some (.ref p))) G H :=
  I.set h ⟨p, rfl, f.g, r⟩ (fun _ z => by cases z) (fun _ z => by cases z) (fun _ q e => by cases e; exact f)
end
end DL
namespace DL
open PySem L2 PySem.Spec
open PyProof.Rows hiding St
/-! ## views, readings -/
/-- a value as it stands: its head in H, its items in G -/
def View (K : Frag) (G H : Hp) (v : V) : PyData → Prop
  | .none => v = .non
  | .bool b => v = .bl b
  | .int i => v = .int i
  | .str x => v = .str x
  | .list ds => ∃ a xs, v = .ref a ∧ SqL K H a xs ∧ RpA K G xs ds
  | .tuple ds => ∃ a xs, v = .ref a ∧ SqT K G a xs ∧ RpA K G xs ds
  | .dict kvs => ∃ a, v = .ref a ∧ ((∃ ks, Rd H a (.dK ks) ∧ RpK K G ks kvs) ∨ ∃ ks, Rd H a (.dT ks) ∧ RpT K G ks kvs ∧ kvs ≠ [])
def VR (K : Frag) (G : Hp) (σ : St) (v : V) : EV → Prop
  | .val d => Rp K G v d
  | .slot i => σ[i]? = some (some v)
def Sl.dat : Sl → Option PyData
  | .un => none
  | .cl d => some d
  | .ow d => some d
  | .pw d => some d
  | .pc d => some d
  | .lw d => some d
def dat (env : DEnv) : EV → Option PyData
  | .val d => some d
  | .slot i => match env[i]? with
    | some s => s.dat
    | none => none
inductive Stp : Hp → Hp → Hp → Hp → Prop
  | refl {G H : Hp} : Stp G H G H
  | alloc {G H G' H' : Hp} {p : Addr} {o : HO} : H p = none → Stp (upd G p o) (upd H p o) G' H' → Stp G H G' H'
def Out.bind {α β : Type} (o : Out α) (f : α → DEnv → Out β) : Out β := match o with
  | .bad => .bad
  | .ok a r => f a r
  | .ex c r => .ex c r
section
variable {K : Frag} {G H G' H' : Hp} {B : Bs} {env env' : DEnv} {σ : St}
theorem Rp.view {v : V} {d : PyData} (r : Rp K G v d) (S : Same G H) : View K G H v d := by
  cases r with
  | non => rfl
  | bl b => rfl
  | int i => rfl
  | str x => rfl
  | lst h r => exact ⟨_, _, rfl, S.seq h, r⟩
  | tup h r => exact ⟨_, _, rfl, h, r⟩
  | dK h r => exact ⟨_, rfl, .inl ⟨_, .inr ⟨_, S _ _ h⟩, r⟩⟩
  | dT h r n => exact ⟨_, rfl, .inr ⟨_, .inr ⟨_, S _ _ h⟩, r, n⟩⟩
theorem OwR.view {p : Addr} {d : PyData} (x : OwR K G H p d) : View K G H (.ref p) d := by
  cases d with
  | list ds =>
    obtain ⟨xs, h, r⟩ := x
    exact ⟨p, xs, rfl, .inl h, r⟩
  | dict kvs => exact ⟨p, rfl, x⟩
  | _ => exact x.elim
theorem SlR.view {v : V} {s : Sl} {d : PyData} (x : SlR K G H (some v) s) (S : Same G H) (e : s.dat = some d) : View K G H v d := by
  cases s with
  | un => cases e
  | cl d' => cases e; obtain ⟨y, h, r⟩ := x; cases h; exact r.view S
  | pc d' => cases e; obtain ⟨y, h, r⟩ := x; cases h; exact r.view S
  | ow d' => cases e; obtain ⟨p, h, n, r⟩ := x; cases h; exact r.toR.view
  | pw d' => cases e; obtain ⟨p, h, n, r⟩ := x; cases h; exact r.toR.view
  | lw d' => cases e; obtain ⟨p, h, n, r⟩ := x; cases h; exact r.view
theorem INV.view (I : INV K B env σ G H) {v : V} {e : EV} {d : PyData} (r : VR K G σ v e) (h : dat env e = some d) : View K G H v d := by
  cases e with
  | val d' => cases h; exact Rp.view r I.gh
  | slot i =>
    have h : (match env[i]? with | some s => s.dat | none => none) = some d := h
    cases q : env[i]? with
    | none => rw [q] at h; cases h
    | some s =>
      rw [q] at h
      obtain ⟨w, h1, h2⟩ := I.sl i s q
      have e1 : w = some v := by
        have r' : σ[i]? = some (some v) := r
        rw [h1] at r'; exact Option.some.inj r'
      subst e1
      exact h2.view I.gh h
theorem VR.up {v : V} {e : EV} (r : VR K G σ v e) (S : Same G G') : VR K G' σ v e := by
  cases e with
  | val d => exact Rp.up r S
  | slot i => exact r
theorem INV.stp (s : Stp G H G' H') : INV K B env σ G H → INV K B env σ G' H' ∧ Same G G' := by
  induction s with
  | refl => exact fun I => ⟨I, Same.refl _⟩
  | alloc n _ ih =>
    intro I
    obtain ⟨J, S⟩ := ih (I.alloc n)
    exact ⟨J, (same_upd (I.fresh n).g).trans S⟩
end
/-! ## what is wanted of an outcome -/
/-- an error as it flies -/
def XR (K : Frag) (mg : Str → Option Value) (G : Hp) (c : Exc) (cls : Value) (d : Option Addr) (H : Hp) : Prop :=
  ∃ C, mg c.cls = some (.ref C) ∧ cls = .ref C ∧ ((c.fs = [] ∧ d = none) ∨ ∃ dd fs, d = some dd ∧ H dd = some (.xd fs) ∧ Paired (fun (p : Str × V) (q : Str × PyData) => p.1 = q.1 ∧ Rp K G p.2 q.2) fs c.fs)
abbrev Rel (α W : Type) := DEnv → Hp → Hp → W → α → Prop
section
variable {α β W : Type} {K : Frag} {mg : Str → Option Value} {B : Bs} {EK : XK} {σ : St}
def PD (K : Frag) (mg : Str → Option Value) (B : Bs) (EK : XK) (rel : Rel α W) (σ : St) (o : Out α) (G : Hp) (Q : W → Hp → Prop) : Prop := match o with
  | .bad => False
  | .ok a r => ∀ w G' H', INV K B r σ G' H' → Same G G' → rel r G' H' w a → Q w H'
  | .ex c r => ∀ cls d G' H', INV K B r σ G' H' → Same G G' → XR K mg G' c cls d H' → EK cls d H'
theorem PD.up {rel : Rel α W} {o : Out α} {G G0 : Hp} {Q : W → Hp → Prop} (h : PD K mg B EK rel σ o G0 Q) (S : Same G0 G) : PD K mg B EK rel σ o G Q := by
  cases o with
  | bad => exact h
  | ok a r => exact fun w G' H' I S' x => h w G' H' I (S.trans S') x
  | ex c r => exact fun cls d G' H' I S' x => h cls d G' H' I (S.trans S') x
theorem PD.imp {rel : Rel α W} {o : Out α} {G : Hp} {Q Q' : W → Hp → Prop} (h : PD K mg B EK rel σ o G Q) (f : ∀ w H, Q w H → Q' w H) : PD K mg B EK rel σ o G Q' := by
  cases o with
  | bad => exact h
  | ok a r => exact fun w G' H' I S' x => f _ _ (h w G' H' I S' x)
  | ex c r => exact h
/-- the reading of an outcome -/
def tG (K : Frag) (mg : Str → Option Value) (B : Bs) (EK : XK) (rel : St → Rel α W) (m : DEnv → Out α) : St → Hp → (W → Hp → Prop) → Prop :=
  fun σ H Q => ∃ env G, INV K B env σ G H ∧ PD K mg B EK (rel σ) σ (m env) G Q
/-- behind a first part -/
theorem PD.bind {W' : Type} {relA : Rel α W} {relB : Rel β W'} {o : Out α} {f : α → DEnv → Out β} {G : Hp} {Q : W' → Hp → Prop} (h : PD K mg B EK relB σ (o.bind f) G Q) :
    PD K mg B EK relA σ o G fun w H1 => ∃ a env1 G1, INV K B env1 σ G1 H1 ∧ Same G G1 ∧ relA env1 G1 H1 w a ∧ PD K mg B EK relB σ (f a env1) G1 Q := by
  cases o with
  | bad => exact h
  | ok a r => exact fun w G' H' I' S x => ⟨a, r, G', I', S, x, PD.up h S⟩
  | ex c r => exact h
end
abbrev rV (K : Frag) (σ : St) : Rel EV V := fun _ G _ v e => VR K G σ v e
abbrev rB : Rel Bool Bool := fun _ _ _ b b' => b = b'
abbrev rL (K : Frag) (σ : St) : Rel (List EV) (List V) := fun _ G _ vs es => Paired (fun v e => VR K G σ v e) vs es
/-- a new object, in no hand -/
abbrev rF (K : Frag) (B : Bs) (σ : St) : Rel PyData V := fun env G H v d => ∃ p, v = .ref p ∧ Fresh B env σ G H p ∧ Ow K G H p d
abbrev tD (K : Frag) (mg : Str → Option Value) (B : Bs) (EK : XK) (m : DEnv → Out EV) : TE := tG K mg B EK (rV K) m
abbrev tT (K : Frag) (mg : Str → Option Value) (B : Bs) (EK : XK) (m : DEnv → Out Bool) : TT := tG K mg B EK (fun _ => rB) m
abbrev tA (K : Frag) (mg : Str → Option Value) (B : Bs) (EK : XK) (m : DEnv → Out (List EV)) : TA := tG K mg B EK (rL K) m
abbrev tF (K : Frag) (mg : Str → Option Value) (B : Bs) (EK : XK) (m : DEnv → Out PyData) : TE := tG K mg B EK (rF K B) m
abbrev DE (X : Cx) (EK : XK) (e : Expr) (m : DEnv → Out EV) : Prop := ∀ B : Bs, PE X e (tD X.K X.mg B EK m)
abbrev DT (X : Cx) (EK : XK) (e : Expr) (m : DEnv → Out Bool) : Prop := ∀ B : Bs, PT X e (tT X.K X.mg B EK m)
abbrev DW (X : Cx) (EK : XK) (e : Expr) (m : DEnv → Out Bool) : Prop := ∀ B : Bs, PW X e (tT X.K X.mg B EK m)
abbrev DA (X : Cx) (EK : XK) (es : List Expr) (m : DEnv → Out (List EV)) : Prop := ∀ B : Bs, PA X es (tA X.K X.mg B EK m)
abbrev DF (X : Cx) (EK : XK) (e : Expr) (m : DEnv → Out PyData) : Prop := ∀ B : Bs, PE X e (tF X.K X.mg B EK m)
theorem PE.weak {X : Cx} {e : Expr} {t t' : TE} (h : PE X e t) (w : ∀ σ H Q, t' σ H Q → t σ H Q) : PE X e t' := ⟨fun pins s σ H Q I q => h.run pins s σ H Q I (w σ H Q q)⟩
theorem PT.weak {X : Cx} {e : Expr} {t t' : TT} (h : PT X e t) (w : ∀ σ H Q, t' σ H Q → t σ H Q) : PT X e t' := ⟨fun pins s σ H Q I q => h.run pins s σ H Q I (w σ H Q q)⟩
theorem PW.weak {X : Cx} {e : Expr} {t t' : TT} (h : PW X e t) (w : ∀ σ H Q, t' σ H Q → t σ H Q) : PW X e t' := ⟨fun wh pins s σ H Q I q => h.run wh pins s σ H Q I (w σ H Q q)⟩
theorem PA.weak {X : Cx} {es : List Expr} {t t' : TA} (h : PA X es t) (w : ∀ σ H Q, t' σ H Q → t σ H Q) : PA X es t' := ⟨fun pos pins s σ H Q I q => h.run pos pins s σ H Q I (w σ H Q q)⟩
theorem PS.weak {X : Cx} {st : Stmt} {t t' : TS} (h : PS X st t) (w : ∀ D σ H, t' D σ H → t D σ H) : PS X st t' := ⟨fun pins s σ H D I q => h.run pins s σ H D I (w D σ H q)⟩
theorem PSs.weak {X : Cx} {st : List Stmt} {t t' : TS} (h : PSs X st t) (w : ∀ D σ H, t' D σ H → t D σ H) : PSs X st t' := ⟨fun pins s σ H D I q => h.run pins s σ H D I (w D σ H q)⟩
section
variable {X : Cx} {B : Bs} {EK : XK} {a b c e : Expr} {pos : Pos} {ma mb mc : DEnv → Out EV}
/-! ### names, constants -/
def mName (i : Nat) : DEnv → Out EV := fun env => match env[i]? with
  | some (.cl d) => .ok (.val d) env
  | some (.pc d) => .ok (.val d) env
  | some .un => .bad
  | some _ => .ok (.slot i) env
  | none => .bad
theorem slot_val {K : Frag} {env : DEnv} {σ : St} {G H : Hp} (I : INV K B env σ G H) {i : Nat} {s : Sl} (h : env[i]? = some s) (hs : s.dat ≠ none) : ∃ v, σ[i]? = some (some v) ∧ SlR K G H (some v) s := by
  obtain ⟨w, h1, h2⟩ := I.sl i s h
  cases s with
  | un => exact absurd rfl hs
  | cl d => obtain ⟨y, rfl, r⟩ := id h2; exact ⟨y, h1, h2⟩
  | pc d => obtain ⟨y, rfl, r⟩ := id h2; exact ⟨y, h1, h2⟩
  | ow d => obtain ⟨y, rfl, r⟩ := id h2; exact ⟨_, h1, h2⟩
  | pw d => obtain ⟨y, rfl, r⟩ := id h2; exact ⟨_, h1, h2⟩
  | lw d => obtain ⟨y, rfl, r⟩ := id h2; exact ⟨_, h1, h2⟩
theorem de_name (i : Nat) {x : Str} {p : Pos} (h : PE X (.Name x p) (tVar i)) : DE X EK (.Name x p) (mName i) := by
  refine fun B => PE.weak h fun σ H Q ⟨env, G, I, q⟩ => ?_
  unfold mName at q
  cases e : env[i]? with
  | none => rw [e] at q; exact q.elim
  | some s =>
    rw [e] at q
    cases s with
    | un => exact q.elim
    | cl d =>
      obtain ⟨v, h1, h2⟩ := slot_val I e (by simp [Sl.dat])
      obtain ⟨y, e1, r⟩ := h2; cases e1
      exact ⟨v, h1, q v G H I (Same.refl _) r⟩
    | pc d =>
      obtain ⟨v, h1, h2⟩ := slot_val I e (by simp [Sl.dat])
      obtain ⟨y, e1, r⟩ := h2; cases e1
      exact ⟨v, h1, q v G H I (Same.refl _) r⟩
    | ow d =>
      obtain ⟨v, h1, h2⟩ := slot_val I e (by simp [Sl.dat])
      exact ⟨v, h1, q v G H I (Same.refl _) h1⟩
    | pw d =>
      obtain ⟨v, h1, h2⟩ := slot_val I e (by simp [Sl.dat])
      exact ⟨v, h1, q v G H I (Same.refl _) h1⟩
    | lw d =>
      obtain ⟨v, h1, h2⟩ := slot_val I e (by simp [Sl.dat])
      exact ⟨v, h1, q v G H I (Same.refl _) h1⟩
def mC (d : PyData) : DEnv → Out EV := fun env => .ok (.val d) env
theorem de_c {v : V} {d : PyData} (h : PE X e (tC v)) (r : ∀ G, Rp X.K G v d) : DE X EK e (mC d) :=
  fun B => PE.weak h fun σ H Q ⟨env, G, I, q⟩ => q v G H I (Same.refl _) (r G)
theorem de_int {i : Int} {j : Nat} : DE X EK (.Constant (.int i) j pos) (mC (.int i)) := de_c pe_int fun _ => .int i
theorem de_str {x : Str} {j : Nat} : DE X EK (.Constant (.str x) j pos) (mC (.str x)) := de_c pe_str fun _ => .str x
theorem de_bl {x : Bool} {j : Nat} : DE X EK (.Constant (.bool x) j pos) (mC (.bool x)) := de_c pe_bl fun _ => .bl x
theorem de_non {j : Nat} : DE X EK (.Constant .none j pos) (mC .none) := de_c pe_non fun _ => .non
/-! ### operators -/
/-- an operator's rule does what f says -/
def SB (K : Frag) (r : R2) (f : PyData → PyData → Option PyData) : Prop := ∀ (G H : Hp) (x y : V) (dx dy d : PyData) (Q : VK), Same G H → View K G H x dx → View K G H y dy → f dx dy = some d →
  (∀ v G' H', Stp G H G' H' → Rp K G' v d → Q v H') → r x y H Q
def fin1 (f : PyData → PyData → Option PyData) (x y : EV) (r : DEnv) : Out EV := match dat r x, dat r y with
  | some dx, some dy => (match f dx dy with
    | some d => .ok (.val d) r
    | none => .bad)
  | _, _ => .bad
def mBin (f : PyData → PyData → Option PyData) (ma mb : DEnv → Out EV) : DEnv → Out EV := fun env => (ma env).bind fun x r => (mb r).bind fun y r' => fin1 f x y r'
theorem fin1_red {K : Frag} {mg : Str → Option Value} {r : R2} {f : PyData → PyData → Option PyData} (s : SB K r f) {σ : St} {G H : Hp} {Q : VK} {x y : EV} {v w : V} {env : DEnv} (I : INV K B env σ G H) (rx : VR K G σ v x) (ry : VR K G σ w y)
    (h : PD K mg B EK (rV K σ) σ (fin1 f x y env) G Q) : r v w H Q := by
  unfold fin1 at h
  cases q1 : dat env x with
  | none => rw [q1] at h; exact h.elim
  | some dx =>
    cases q2 : dat env y with
    | none => rw [q1, q2] at h; exact h.elim
    | some dy =>
      rw [q1, q2] at h
      cases q3 : f dx dy with
      | none => simp only [q3] at h; exact h.elim
      | some d =>
        simp only [q3] at h
        exact s G H v w dx dy d Q I.gh (I.view rx q1) (I.view ry q2) q3 fun u G' H' st ru => h u G' H' (INV.stp st I).1 (INV.stp st I).2 ru
theorem bin_red {K : Frag} {mg : Str → Option Value} {r : R2} {f : PyData → PyData → Option PyData} (s : SB K r f) {σ : St} {H : Hp} {Q : VK} (h : tD K mg B EK (mBin f ma mb) σ H Q) :
    tOp r (tD K mg B EK ma) (tD K mg B EK mb) σ H Q := by
  obtain ⟨env, G, I, h⟩ := h
  refine ⟨env, G, I, (PD.bind h).imp fun v H1 ⟨x, env1, G1, I1, _, r1, h1⟩ => ?_⟩
  refine ⟨env1, G1, I1, (PD.bind h1).imp fun w H2 ⟨y, env2, G2, I2, S2, r2, h2⟩ => ?_⟩
  exact fin1_red s I2 (r1.up S2) r2 h2
theorem de_bin {op : Operator} {r : R2} {f : PyData → PyData → Option PyData} (ho : OpR X (binaryOp op) r) (s : SB X.K r f) (ha : DE X EK a ma) (hb : DE X EK b mb) : DE X EK (.BinOp a op b pos) (mBin f ma mb) :=
  fun B => PE.weak (pe_op ho (ha B) (hb B)) fun _ _ _ h => bin_red s h
theorem de_cmp {op : CmpOp} {r : R2} {f : PyData → PyData → Option PyData} (ho : OpR X (compareOp op) r) (s : SB X.K r f) (ha : DE X EK a ma) (hb : DE X EK b mb) (hm : behindInMarks op b = false) : DE X EK (.Compare a [op] [b] pos) (mBin f ma mb) :=
  fun B => PE.weak (pe_cmpR ho (ha B) (hb B) hm) fun _ _ _ h => bin_red s h
end
end DL
namespace DL
open PySem L2 PySem.Spec
open PyProof.Rows hiding St
/-! ## operators by values -/
section
variable {K : Frag}
/-- two rules as one -/
def rOr (r r' : R2) : R2 := fun x y H Q => r x y H Q ∨ r' x y H Q
theorem op_or2 {X : Cx} {f : Value → Value → Sem Value} {r r' : R2} (h : OpR X f r) (h' : OpR X f r') : OpR X f (rOr r r') := fun pins s σ H x y v u Q I rx ry q => by
  rcases q with q | q
  · exact h pins s σ H x y v u Q I rx ry q
  · exact h' pins s σ H x y v u Q I rx ry q
def fI (C : Int → Int → Bool) (g : Int → Int → PyData) : PyData → PyData → Option PyData
  | .int i, .int j => if C i j then some (g i j) else none
  | _, _ => none
theorem sb_I {C : Int → Int → Prop} {Cb : Int → Int → Bool} {g : Int → Int → V} {g' : Int → Int → PyData} (hC : ∀ i j, Cb i j = true → C i j) (hg : ∀ i j G, Rp K G (g i j) (g' i j)) : SB K (rI C g) (fI Cb g') := by
  intro G H x y dx dy d Q S vx vy e q
  cases dx with
  | int i =>
    cases dy with
    | int j =>
      unfold fI at e
      by_cases c : Cb i j = true
      · simp only [c, if_true] at e
        cases e
        exact ⟨i, j, vx, vy, hC i j c, q _ G H .refl (hg i j G)⟩
      · simp only [c] at e; cases e
    | _ => cases e
  | _ => cases e
theorem sb_I0 {g : Int → Int → V} {g' : Int → Int → PyData} (hg : ∀ i j G, Rp K G (g i j) (g' i j)) : SB K (rI0 g) (fI (fun _ _ => true) g') := by
  intro G H x y dx dy d Q S vx vy e q
  cases dx with
  | int i =>
    cases dy with
    | int j => cases e; exact ⟨i, j, vx, vy, q _ G H .refl (hg i j G)⟩
    | _ => cases e
  | _ => cases e
abbrev fSub := fI (fun _ _ => true) fun i j => .int (i - j)
abbrev fMul := fI (fun i j => (decide (-(2 ^ 64) < i) && decide (i < 2 ^ 64)) || (decide (-(2 ^ 64) < j) && decide (j < 2 ^ 64))) fun i j => .int (i * j)
abbrev fDiv := fI (fun _ j => decide (j ≠ 0) && decide (j.natAbs < 1073741824)) fun i j => .int (i.fdiv j)
abbrev fMod := fI (fun _ j => decide (j ≠ 0)) fun i j => .int (i.fmod j)
abbrev fPow := fI (fun i j => decide (0 ≤ j) && decide (j ≤ 1000000) && decide (i.natAbs < 2 ^ 64)) fun i j => .int (i ^ j.toNat)
abbrev fLt := fI (fun _ _ => true) fun i j => .bool (decide (i < j))
abbrev fLe := fI (fun _ _ => true) fun i j => .bool (decide (i ≤ j))
abbrev fGt := fI (fun _ _ => true) fun i j => .bool (decide (j < i))
abbrev fGe := fI (fun _ _ => true) fun i j => .bool (decide (j ≤ i))
theorem sb_sub : SB K (rI0 fun i j => .int (i - j)) fSub := sb_I0 fun _ _ _ => .int _
theorem sb_mul : SB K (rI CMul fun i j => .int (i * j)) fMul := sb_I (fun i j h => by simpa [CMul] using h) fun _ _ _ => .int _
theorem sb_div : SB K (rI CDivN fun i j => .int (i.fdiv j)) fDiv := sb_I (fun i j h => by simpa [CDivN] using h) fun _ _ _ => .int _
theorem sb_mod : SB K (rI (fun _ j => j ≠ 0) fun i j => .int (i.fmod j)) fMod := sb_I (fun i j h => by simpa using h) fun _ _ _ => .int _
theorem sb_pow : SB K (rI CPow fun i j => .int (i ^ j.toNat)) fPow := sb_I (fun i j h => by simpa [CPow, and_assoc] using h) fun _ _ _ => .int _
theorem sb_lt : SB K (rI0 fun i j => .bl (decide (i < j))) fLt := sb_I0 fun _ _ _ => .bl _
theorem sb_le : SB K (rI0 fun i j => .bl (decide (i ≤ j))) fLe := sb_I0 fun _ _ _ => .bl _
theorem sb_gt : SB K (rI0 fun i j => .bl (decide (j < i))) fGt := sb_I0 fun _ _ _ => .bl _
theorem sb_ge : SB K (rI0 fun i j => .bl (decide (j ≤ i))) fGe := sb_I0 fun _ _ _ => .bl _
/-! ### is None -/
def isNo : PyData → Bool
  | .none => true
  | _ => false
def fIsN (x y : PyData) : Option PyData := if isNo y then some (.bool (isNo x)) else none
def fNotN (x y : PyData) : Option PyData := if isNo y then some (.bool (!isNo x)) else none
theorem view_non {G H : Hp} {x : V} {d : PyData} (h : View K G H x d) : decide (x = .non) = isNo d := by
  cases d with
  | none => have h : x = .non := h; subst h; rfl
  | bool b => have h : x = .bl b := h; subst h; rfl
  | int b => have h : x = .int b := h; subst h; rfl
  | str b => have h : x = .str b := h; subst h; rfl
  | list ds => obtain ⟨a, xs, rfl, _⟩ := h; rfl
  | tuple ds => obtain ⟨a, xs, rfl, _⟩ := h; rfl
  | dict ds => obtain ⟨a, rfl, _⟩ := h; rfl
theorem view_no {G H : Hp} {x : V} {d : PyData} (h : View K G H x d) (e : isNo d = true) : x = .non := by
  have q := view_non h
  rw [e] at q
  exact of_decide_eq_true q
theorem sb_isN : SB K (fun x y H Q => y = .non ∧ Q (.bl (decide (x = .non))) H) fIsN := by
  intro G H x y dx dy d Q S vx vy e q
  unfold fIsN at e
  split at e
  · rename_i c
    cases e
    refine ⟨view_no vy c, q _ G H .refl ?_⟩
    rw [view_non vx]; exact .bl _
  · cases e
theorem sb_notN : SB K (fun x y H Q => y = .non ∧ Q (.bl (!decide (x = .non))) H) fNotN := by
  intro G H x y dx dy d Q S vx vy e q
  unfold fNotN at e
  split at e
  · rename_i c
    cases e
    refine ⟨view_no vy c, q _ G H .refl ?_⟩
    rw [view_non vx]; exact .bl _
  · cases e
/-! ### == and != -/
mutual
theorem Rp.dp {G H : Hp} (S : Same G H) : ∀ (d : PyData) (v : V), d.canLay0 = true → Rp K G v d → Dp K H v d
  | .none, _, _, .non => .non
  | .bool _, _, _, .bl b => .bl b
  | .int _, _, _, .int i => .int i
  | .str _, _, _, .str x => .str x
  | .list ds, _, c, .lst h r => .lst (S.seq h) (RpA.dp S ds _ (by simpa [PyData.canLay0] using c) r)
  | .tuple ds, _, c, .tup h r => .tup (sameT S h) (RpA.dp S ds _ (by simpa [PyData.canLay0] using c) r)
  | .dict kvs, _, c, _ => by simp [PyData.canLay0] at c
theorem RpA.dp {G H : Hp} (S : Same G H) : ∀ (ds : List PyData) (vs : List V), PyData.canLayAll0 ds = true → RpA K G vs ds → DpAll K H vs ds
  | [], _, _, .nil => .nil
  | d :: ds, _, c, .cons r rs => by
    have c' : (d.canLay0 && PyData.canLayAll0 ds) = true := by simpa [PyData.canLayAll0] using c
    rw [Bool.and_eq_true] at c'
    exact .cons (Rp.dp S d _ c'.1 r) (RpA.dp S ds _ c'.2 rs)
end
theorem View.dp {G H : Hp} (S : Same G H) {d : PyData} {v : V} (c : d.canLay0 = true) (h : View K G H v d) : Dp K H v d := by
  cases d with
  | none => have h : v = .non := h; subst h; exact .non
  | bool b => have h : v = .bl b := h; subst h; exact .bl _
  | int b => have h : v = .int b := h; subst h; exact .int _
  | str b => have h : v = .str b := h; subst h; exact .str _
  | list ds => obtain ⟨a, xs, rfl, h1, h2⟩ := h; exact .lst h1 (h2.dp S _ _ (by simpa [PyData.canLay0] using c))
  | tuple ds => obtain ⟨a, xs, rfl, h1, h2⟩ := h; exact .tup (sameT S h1) (h2.dp S _ _ (by simpa [PyData.canLay0] using c))
  | dict ds => simp [PyData.canLay0] at c
def fEq (x y : PyData) : Option PyData := if SeqAt.shaped x && SeqAt.shaped y then some (.bool (PyData.eqv x y)) else none
def fNe (x y : PyData) : Option PyData := if SeqAt.shaped x && SeqAt.shaped y then some (.bool (!PyData.eqv x y)) else none
theorem sb_eq : SB K (rEqD K) fEq := by
  intro G H x y dx dy d Q S vx vy e q
  unfold fEq at e
  split at e
  · rename_i c
    rw [Bool.and_eq_true] at c
    cases e
    exact ⟨dx, dy, vx.dp S (SeqAt.canLay_of_shaped c.1), vy.dp S (SeqAt.canLay_of_shaped c.2), c.1, c.2, q _ G H .refl (.bl _)⟩
  · cases e
theorem sb_ne : SB K (rNeD K) fNe := by
  intro G H x y dx dy d Q S vx vy e q
  unfold fNe at e
  split at e
  · rename_i c
    rw [Bool.and_eq_true] at c
    cases e
    exact ⟨dx, dy, vx.dp S (SeqAt.canLay_of_shaped c.1), vy.dp S (SeqAt.canLay_of_shaped c.2), c.1, c.2, q _ G H .refl (.bl _)⟩
  · cases e
end
section
variable {X : Cx} {B : Bs} {EK : XK} {a b c e : Expr} {pos : Pos} {ma mb mc : DEnv → Out EV}
theorem de_sub (ha : DE X EK a ma) (hb : DE X EK b mb) : DE X EK (.BinOp a .Sub b pos) (mBin fSub ma mb) := de_bin op_sub sb_sub ha hb
theorem de_mul (ha : DE X EK a ma) (hb : DE X EK b mb) : DE X EK (.BinOp a .Mult b pos) (mBin fMul ma mb) := de_bin op_mul sb_mul ha hb
theorem de_div (ha : DE X EK a ma) (hb : DE X EK b mb) : DE X EK (.BinOp a .FloorDiv b pos) (mBin fDiv ma mb) := de_bin op_fdivN sb_div ha hb
theorem de_mod (ha : DE X EK a ma) (hb : DE X EK b mb) : DE X EK (.BinOp a .Mod b pos) (mBin fMod ma mb) := de_bin op_modN sb_mod ha hb
theorem de_pow (ha : DE X EK a ma) (hb : DE X EK b mb) : DE X EK (.BinOp a .Pow b pos) (mBin fPow ma mb) := de_bin op_pow sb_pow ha hb
/-! ### tests -/
def mTest (m : DEnv → Out EV) : DEnv → Out Bool := fun env => (m env).bind fun e r => match e with
  | .val (.bool b) => .ok b r
  | _ => .bad
theorem test_red {K : Frag} {mg : Str → Option Value} {σ : St} {H : Hp} {Q : Bool → Hp → Prop} {m : DEnv → Out EV} (h : tT K mg B EK (mTest m) σ H Q) : tD K mg B EK m σ H fun x H' => ∃ k, x = .bl k ∧ Q k H' := by
  obtain ⟨env, G, I, h⟩ := h
  refine ⟨env, G, I, (PD.bind h).imp fun v H1 ⟨x, env1, G1, I1, _, r1, h1⟩ => ?_⟩
  cases x with
  | slot i => exact h1.elim
  | val d =>
    cases d with
    | bool k =>
      cases r1
      exact ⟨k, rfl, h1 k G1 H1 I1 (Same.refl _) rfl⟩
    | _ => exact h1.elim
theorem dt_val (h : DE X EK e ma) (he : ∀ whole, isTrue e X.env whole = (do let v ← whole; standAt e.pos; holding [v] (truthy v)) := by intro _; rfl) : DT X EK e (mTest ma) :=
  fun B => PT.weak (pt_val (h B) he) fun _ _ _ q => test_red q
theorem dt_cmp {op : CmpOp} {r : R2} {f : PyData → PyData → Option PyData} (ho : OpR X (compareOp op) r) (s : SB X.K r f) (ha : DE X EK a ma) (hb : DE X EK b mb) (hm : behindInMarks op b = false) : DT X EK (.Compare a [op] [b] pos) (mTest (mBin f ma mb)) :=
  fun B => PT.weak (pt_cmpR ho (ha B) (hb B) hm) fun _ _ _ h => bin_red s (test_red h)
/-! ### chains -/
def mChain (f f' : PyData → PyData → Option PyData) (ma mb mc : DEnv → Out EV) : DEnv → Out EV := fun env => (ma env).bind fun x r => (mb r).bind fun y r' => (fin1 f x y r').bind fun k r2 => match k with
  | .val (.bool true) => (mc r2).bind fun z r3 => fin1 f' y z r3
  | .val (.bool false) => .ok (.val (.bool false)) r2
  | _ => .bad
theorem fin1_to {α W : Type} {rel : Rel α W} {Q : W → Hp → Prop} {K : Frag} {mg : Str → Option Value} {r : R2} {f : PyData → PyData → Option PyData} (s : SB K r f) {σ : St} {G H : Hp} {Q0 : VK} {x y : EV} {v w : V} {env : DEnv} (I : INV K B env σ G H) (rx : VR K G σ v x) (ry : VR K G σ w y)
    {g : EV → DEnv → Out α} (h : PD K mg B EK rel σ ((fin1 f x y env).bind g) G Q) (k : ∀ u H1 d G1, INV K B env σ G1 H1 → Same G G1 → Rp K G1 u d → PD K mg B EK rel σ (g (.val d) env) G1 Q → Q0 u H1) : r v w H Q0 := by
  unfold fin1 at h
  cases q1 : dat env x with
  | none => rw [q1] at h; exact h.elim
  | some dx =>
    cases q2 : dat env y with
    | none => rw [q1, q2] at h; exact h.elim
    | some dy =>
      rw [q1, q2] at h
      cases q3 : f dx dy with
      | none => simp only [q3] at h; exact h.elim
      | some d =>
        simp only [q3] at h
        exact s G H v w dx dy d _ I.gh (I.view rx q1) (I.view ry q2) q3 fun u G' H' st ru => k u H' d G' (INV.stp st I).1 (INV.stp st I).2 ru (PD.up h (INV.stp st I).2)
theorem chain_red {K : Frag} {mg : Str → Option Value} {r r' : R2} {f f' : PyData → PyData → Option PyData} (s : SB K r f) (s' : SB K r' f') {σ : St} {H : Hp} {Q : VK} (h : tD K mg B EK (mChain f f' ma mb mc) σ H Q) :
    tChain r r' (tD K mg B EK ma) (tD K mg B EK mb) (tD K mg B EK mc) σ H Q := by
  obtain ⟨env, G, I, h⟩ := h
  refine ⟨env, G, I, (PD.bind h).imp fun v H1 ⟨x, env1, G1, I1, _, r1, h1⟩ => ?_⟩
  refine ⟨env1, G1, I1, (PD.bind h1).imp fun w H2 ⟨y, env2, G2, I2, S2, r2, h2⟩ => ?_⟩
  refine fin1_to s I2 (r1.up S2) r2 h2 fun u H3 d G3 I3 S3 ru h3 => ?_
  cases ru with
  | bl k =>
    refine ⟨k, rfl, ?_⟩
    cases k with
    | false => exact iteF (h3 (.bl false) G3 H3 I3 (Same.refl _) (.bl false))
    | true =>
      refine iteT ⟨env2, G3, I3, (PD.bind (relA := rV K σ) h3).imp fun z H4 ⟨y', env4, G4, I4, S4, r4, h4⟩ => ?_⟩
      exact fin1_red s' I4 ((r2.up S3).up S4) r4 h4
  | _ => exact h3.elim
theorem de_chain {op op' : CmpOp} {r r' : R2} {f f' : PyData → PyData → Option PyData} (ho : OpR X (compareOp op) r) (ho' : OpR X (compareOp op') r') (s : SB X.K r f) (s' : SB X.K r' f') (ha : DE X EK a ma) (hb : DE X EK b mb) (hc : DE X EK c mc)
    (hm : lastMarks [op, op'] [b, c] = false := by with_unfolding_all rfl) : DE X EK (.Compare a [op, op'] [b, c] pos) (mChain f f' ma mb mc) :=
  fun B => PE.weak (pe_chain ho ho' (ha B) (hb B) (hc B) hm) fun _ _ _ h => chain_red s s' h
theorem dt_chain {op op' : CmpOp} {r r' : R2} {f f' : PyData → PyData → Option PyData} (ho : OpR X (compareOp op) r) (ho' : OpR X (compareOp op') r') (s : SB X.K r f) (s' : SB X.K r' f') (ha : DE X EK a ma) (hb : DE X EK b mb) (hc : DE X EK c mc)
    (hm : lastMarks [op, op'] [b, c] = false := by with_unfolding_all rfl) : DT X EK (.Compare a [op, op'] [b, c] pos) (mTest (mChain f f' ma mb mc)) :=
  fun B => PT.weak (pt_chain ho ho' (ha B) (hb B) (hc B) hm) fun _ _ _ h => chain_red s s' (test_red h)
/-! ### and, or, not, x if t else y -/
def mAnd (ma mb : DEnv → Out Bool) : DEnv → Out Bool := fun env => (ma env).bind fun k r => if k = true then mb r else .ok false r
def mOr (ma mb : DEnv → Out Bool) : DEnv → Out Bool := fun env => (ma env).bind fun k r => if k = true then .ok true r else mb r
def mNot (ma : DEnv → Out Bool) : DEnv → Out Bool := fun env => (ma env).bind fun k r => .ok (!k) r
def mVal (ma : DEnv → Out Bool) : DEnv → Out EV := fun env => (ma env).bind fun k r => .ok (.val (.bool k)) r
variable {ta tb : DEnv → Out Bool} {rest : List Expr}
theorem dw_and1 (h : DT X EK a ta) : DW X EK (.BoolOp .And [a] pos) ta := fun B => pw_and1 (h B)
theorem dw_or1 (h : DT X EK a ta) : DW X EK (.BoolOp .Or [a] pos) ta := fun B => pw_or1 (h B)
theorem dw_and (ha : DT X EK a ta) (hb : DW X EK (.BoolOp .And (b :: rest) pos) tb) : DW X EK (.BoolOp .And (a :: b :: rest) pos) (mAnd ta tb) :=
  fun B => PW.weak (pw_and (ha B) (hb B)) fun σ H Q ⟨env, G, I, h⟩ => ⟨env, G, I, (PD.bind h).imp fun k H1 ⟨k', env1, G1, I1, _, r1, h1⟩ => by
    have r1 : k = k' := r1
    subst r1
    cases k with
    | true => rw [if_pos rfl] at h1 ⊢; exact ⟨env1, G1, I1, h1⟩
    | false => rw [if_neg Bool.false_ne_true] at h1 ⊢; exact h1 false G1 H1 I1 (Same.refl _) rfl⟩
theorem dw_or (ha : DT X EK a ta) (hb : DW X EK (.BoolOp .Or (b :: rest) pos) tb) : DW X EK (.BoolOp .Or (a :: b :: rest) pos) (mOr ta tb) :=
  fun B => PW.weak (pw_or (ha B) (hb B)) fun σ H Q ⟨env, G, I, h⟩ => ⟨env, G, I, (PD.bind h).imp fun k H1 ⟨k', env1, G1, I1, _, r1, h1⟩ => by
    have r1 : k = k' := r1
    subst r1
    cases k with
    | false => rw [if_neg Bool.false_ne_true] at h1 ⊢; exact ⟨env1, G1, I1, h1⟩
    | true => rw [if_pos rfl] at h1 ⊢; exact h1 true G1 H1 I1 (Same.refl _) rfl⟩
theorem dt_w (h : DW X EK a ta) : DT X EK a ta := fun B => PW.pt (h B)
theorem dt_not (h : DT X EK a ta) : DT X EK (.UnaryOp .Not a pos) (mNot ta) :=
  fun B => PT.weak (pt_not (h B)) fun σ H Q ⟨env, G, I, h⟩ => ⟨env, G, I, (PD.bind h).imp fun k H1 ⟨k', env1, G1, I1, _, r1, h1⟩ => by
    have r1 : k = k' := r1
    subst r1
    exact h1 (!k) G1 H1 I1 (Same.refl _) rfl⟩
/-- and, or, not as values: all parts True or False -/
def mBool (m : DEnv → Out EV) : DEnv → Out EV := fun env => (m env).bind fun e r => match e with
  | .val (.bool b) => .ok (.val (.bool b)) r
  | _ => .bad
def mAndV (ma mb : DEnv → Out EV) : DEnv → Out EV := fun env => (ma env).bind fun e r => match e with
  | .val (.bool true) => mb r
  | .val (.bool false) => .ok (.val (.bool false)) r
  | _ => .bad
def mOrV (ma mb : DEnv → Out EV) : DEnv → Out EV := fun env => (ma env).bind fun e r => match e with
  | .val (.bool false) => mb r
  | .val (.bool true) => .ok (.val (.bool true)) r
  | _ => .bad
def mNotV (ma : DEnv → Out EV) : DEnv → Out EV := fun env => (ma env).bind fun e r => match e with
  | .val (.bool b) => .ok (.val (.bool (!b))) r
  | _ => .bad
theorem de_one {op : BoolOp} (h : DE X EK a ma) : DE X EK (.BoolOp op [a] pos) ma := fun B => pe_one (h B)
theorem de_and (ha : DE X EK a ma) (hb : DE X EK (.BoolOp .And (b :: rest) pos) mb) : DE X EK (.BoolOp .And (a :: b :: rest) pos) (mAndV ma mb) :=
  fun B => PE.weak (pe_and (ha B) (hb B)) fun σ H Q ⟨env, G, I, h⟩ => ⟨env, G, I, (PD.bind h).imp fun v H1 ⟨x, env1, G1, I1, _, r1, h1⟩ => by
    cases x with
    | slot i => exact h1.elim
    | val d =>
      cases d with
      | bool k =>
        cases r1
        refine ⟨k, rfl, ?_⟩
        cases k with
        | true => exact iteT ⟨env1, G1, I1, h1⟩
        | false => exact iteF (h1 (.bl false) G1 H1 I1 (Same.refl _) (.bl false))
      | _ => exact h1.elim⟩
theorem de_or (ha : DE X EK a ma) (hb : DE X EK (.BoolOp .Or (b :: rest) pos) mb) : DE X EK (.BoolOp .Or (a :: b :: rest) pos) (mOrV ma mb) :=
  fun B => PE.weak (pe_or (ha B) (hb B)) fun σ H Q ⟨env, G, I, h⟩ => ⟨env, G, I, (PD.bind h).imp fun v H1 ⟨x, env1, G1, I1, _, r1, h1⟩ => by
    cases x with
    | slot i => exact h1.elim
    | val d =>
      cases d with
      | bool k =>
        cases r1
        refine ⟨k, rfl, ?_⟩
        cases k with
        | false => exact iteF ⟨env1, G1, I1, h1⟩
        | true => exact iteT (h1 (.bl true) G1 H1 I1 (Same.refl _) (.bl true))
      | _ => exact h1.elim⟩
theorem de_not (ha : DE X EK a ma) : DE X EK (.UnaryOp .Not a pos) (mNotV ma) :=
  fun B => PE.weak (pe_not (ha B)) fun σ H Q ⟨env, G, I, h⟩ => ⟨env, G, I, (PD.bind h).imp fun v H1 ⟨x, env1, G1, I1, _, r1, h1⟩ => by
    cases x with
    | slot i => exact h1.elim
    | val d =>
      cases d with
      | bool k => cases r1; exact ⟨k, rfl, h1 (.bl (!k)) G1 H1 I1 (Same.refl _) (.bl _)⟩
      | _ => exact h1.elim⟩
def mIfE (t : DEnv → Out Bool) (ma mb : DEnv → Out EV) : DEnv → Out EV := fun env => (t env).bind fun k r => if k = true then ma r else mb r
theorem de_if (ht : DT X EK c ta) (ha : DE X EK a ma) (hb : DE X EK b mb) : DE X EK (.IfExp c a b pos) (mIfE ta ma mb) :=
  fun B => PE.weak (pe_ifExp (ht B) (ha B) (hb B)) fun σ H Q ⟨env, G, I, h⟩ => ⟨env, G, I, (PD.bind h).imp fun k H1 ⟨k', env1, G1, I1, _, r1, h1⟩ => by
    have r1 : k = k' := r1
    subst r1
    cases k with
    | true => rw [if_pos rfl] at h1; exact iteT ⟨env1, G1, I1, h1⟩
    | false => rw [if_neg Bool.false_ne_true] at h1; exact iteF ⟨env1, G1, I1, h1⟩⟩
def mNeg (ma : DEnv → Out EV) : DEnv → Out EV := fun env => (ma env).bind fun e r => match dat r e with
  | some (.int i) => .ok (.val (.int (-i))) r
  | _ => .bad
theorem de_neg (ha : DE X EK a ma) : DE X EK (.UnaryOp .USub a pos) (mNeg ma) :=
  fun B => PE.weak (pe_un un_neg (ha B)) fun σ H Q ⟨env, G, I, h⟩ => ⟨env, G, I, (PD.bind h).imp fun v H1 ⟨x, env1, G1, I1, _, r1, h1⟩ => by
    cases q : dat env1 x with
    | none => simp only [q] at h1; exact h1.elim
    | some d =>
      cases d with
      | int i =>
        simp only [q] at h1
        have vw : v = .int i := I1.view r1 q
        exact ⟨i, vw, h1 (.int (-i)) G1 H1 I1 (Same.refl _) (.int _)⟩
      | _ => simp only [q] at h1; exact h1.elim⟩
end
end DL
namespace DL
open PySem L2 PySem.Spec
open PyProof.Rows hiding St
/-! ## giving away, taking in -/
section
variable {K : Frag} {B : Bs} {env : DEnv} {σ : St} {G H : Hp}
theorem Fresh.any {H' : Hp} {p : Addr} (f : Fresh B env σ G H p) : Fresh B env σ G H' p := ⟨f.g, f.s, f.b, f.n, f.t⟩
/-- a fresh object becomes another -/
theorem INV.touch (I : INV K B env σ G H) {p : Addr} {o : HO} (f : Fresh B env σ G H p) : INV K B env σ G (upd H p o) := by
  refine ⟨I.len, fun i s e => ?_, I.nd, fun b u e => ?_, I.g0, fun b u h e => ?_, I.fr, I.ow, I.pw, I.lw, fun j q h => ?_, fun q hq => ?_, I.td⟩
  · obtain ⟨v, h1, h2⟩ := I.sl i s e
    refine ⟨v, h1, h2.up (Same.refl _) fun q hq ho => ?_⟩
    obtain ⟨q', hq', g1, g2⟩ := h2.own ho
    have e1 : q = q' := by rw [hq] at hq'; exact V.ref.inj (Option.some.inj hq')
    subst e1
    have ne : q ≠ p := fun z => f.s i s e ho (by rw [h1, hq, z])
    exact ⟨upd_ne ne, g1⟩
  · have ne : b ≠ p := fun z => by rw [z, f.g] at e; cases e
    rw [upd_ne ne]; exact I.gh b u e
  · have ne : b ≠ p := fun z => by rw [z, f.b] at e; cases e
    rw [upd_ne ne]; exact I.h0 b u h e
  · obtain ⟨a1, a2, a3⟩ := I.pp j q h
    have ne : q ≠ p := fun z => f.n j (z ▸ h)
    exact ⟨a1, by rw [upd_ne ne]; exact a2, a3⟩
  · obtain ⟨a1, a2, a3, a4, a5⟩ := I.tp q hq
    exact ⟨a1, a2.up (Same.refl _) (upd_ne (f.t q hq)), a3, a4, a5⟩
/-- a fresh object is given to all -/
theorem INV.absorb (I : INV K B env σ G H) {p : Addr} {o : HO} (f : Fresh B env σ G H p) (h : H p = some o) : INV K B env σ (upd G p o) H := by
  have nG : G p = none := f.g
  refine ⟨I.len, fun i s e => ?_, I.nd, fun b u e => ?_, fun b u e => ?_, I.h0, fun b h1 h2 h3 => ?_, I.ow, I.pw, I.lw, I.pp, fun q hq => ?_, I.td⟩
  · obtain ⟨v, h1, h2⟩ := I.sl i s e
    refine ⟨v, h1, h2.up (same_upd nG) fun q hq ho => ?_⟩
    obtain ⟨q', hq', g1, g2⟩ := h2.own ho
    have e1 : q = q' := by rw [hq] at hq'; exact V.ref.inj (Option.some.inj hq')
    subst e1
    have ne : q ≠ p := fun z => f.s i s e ho (by rw [h1, hq, z])
    exact ⟨rfl, (upd_ne ne).trans g1⟩
  · by_cases hb : b = p
    · rw [hb, upd_same] at e; rw [hb, h]; exact e
    · rw [upd_ne hb] at e; exact I.gh b u e
  · exact same_upd nG b u (I.g0 b u e)
  · have hb : b ≠ p := fun z => h2 (z ▸ f.b)
    rw [upd_ne hb]; exact I.fr b h1 h2 h3
  · obtain ⟨a1, a2, a3, a4, a5⟩ := I.tp q hq
    exact ⟨(upd_ne (f.t q hq)).trans a1, a2.up (same_upd nG) rfl, a3, a4, a5⟩
/-- a slot's knowledge is dropped -/
theorem INV.unset (I : INV K B env σ G H) {i : Nat} (h : asgOk env i = true) : INV K B (env.set i .un) σ G H := by
  have hlt := asgOk.lt h
  have hls : i < σ.length := by rw [I.len]; exact hlt
  have J := I.set h (s := .un) (v := σ[i]) trivial (fun _ z => by cases z) (fun _ z => by cases z) (fun z => by cases z)
  have e : σ.set i σ[i] = σ := List.set_getElem_self hls
  rw [e] at J
  exact J
/-- the owner forgets: the slot's object is fresh again -/
theorem INV.forget (I : INV K B env σ G H) {i : Nat} {d : PyData} (e : env[i]? = some (.ow d)) : ∃ p, σ[i]? = some (some (.ref p)) ∧ Ow K G H p d ∧ INV K B (env.set i .un) σ G H ∧ Fresh B (env.set i .un) σ G H p := by
  obtain ⟨v, h1, p, rfl, g, o⟩ := I.sl i _ e
  obtain ⟨nb, np⟩ := I.ow i p d e h1
  have ha : asgOk env i = true := by unfold asgOk; rw [e]
  refine ⟨p, h1, o, I.unset ha, g, fun j s ej ho z => ?_, nb, np, fun q hq z => (I.tp q hq).2.2.2.2 i _ e rfl (z ▸ h1)⟩
  rcases get_set ej with ⟨rfl, rfl⟩ | ⟨ne, ej⟩
  · cases ho
  · exact ne (I.nd i j p _ _ e ej rfl ho h1 z)
theorem set_set {α : Type} (l : List α) (i : Nat) (a b : α) : (l.set i a).set i b = l.set i b := by simp
/-- the slot's list is given to all -/
theorem INV.freeze (I : INV K B env σ G H) {i : Nat} {ds : List PyData} (e : env[i]? = some (.ow (.list ds))) : ∃ p xs, σ[i]? = some (some (.ref p)) ∧ INV K B (env.set i (.cl (.list ds))) σ (upd G p (.lst xs)) H ∧ Same G (upd G p (.lst xs)) ∧ Rp K (upd G p (.lst xs)) (.ref p) (.list ds) := by
  obtain ⟨p, h1, ⟨xs, h2, r⟩, J, f⟩ := I.forget e
  have J2 := J.absorb f h2
  have S : Same G (upd G p (.lst xs)) := same_upd f.g
  have rp : Rp K (upd G p (.lst xs)) (.ref p) (.list ds) := .lst (.inl (.inl upd_same)) (r.up S)
  have hlt : i < env.length := (List.getElem?_eq_some_iff.mp e).1
  have J3 := J2.setCl (i := i) (by unfold asgOk; rw [List.getElem?_set_self hlt]) rp
  rw [set_set] at J3
  have hls : i < σ.length := by rw [I.len]; exact hlt
  have e2 : σ.set i (some (.ref p)) = σ := by
    have q : σ[i] = some (.ref p) := (List.getElem?_eq_some_iff.mp h1).2
    rw [← q]; exact List.set_getElem_self hls
  rw [e2] at J3
  exact ⟨p, xs, h1, J3, S, rp⟩
def Sl.put : Sl → PyData → Option Sl
  | .ow _, d => some (.ow d)
  | .pw _, d => some (.pw d)
  | _, _ => none
/-- the object of an owned slot changes -/
theorem INV.write (I : INV K B env σ G H) {i : Nat} {s s' : Sl} {d : PyData} {p : Addr} {o : HO} (e : env[i]? = some s) (hp : s.put d = some s') (h : σ[i]? = some (some (.ref p))) (x : Ow K G (upd H p o) p d) : INV K B (env.set i s') σ G (upd H p o) := by
  have hlt : i < env.length := (List.getElem?_eq_some_iff.mp e).1
  have hm : s.mut = true ∧ s'.mut = true ∧ s'.isO = true ∧ s.isO = true := by
    cases s <;> first | (cases hp; exact ⟨rfl, rfl, rfl, rfl⟩) | cases hp
  obtain ⟨m1, m2, m3, m4⟩ := hm
  obtain ⟨v, h1, h2⟩ := I.sl i s e
  obtain ⟨p', hp', g, hs⟩ := h2.own m4
  have ep : p' = p := by
    rw [h1, hp'] at h
    exact V.ref.inj (Option.some.inj (Option.some.inj h))
  subst ep
  have ne : ∀ j t q, env[j]? = some t → t.isO = true → σ[j]? = some (some (.ref q)) → j ≠ i → q ≠ p' := fun j t q ej ho sj nj z => by
    subst z
    exact nj (I.nd i j q s t e ej m1 ho h sj).symm
  refine ⟨by rw [List.length_set]; exact I.len, fun j t ej => ?_, fun j k q t u e1 e2 n1 n2 s1 s2 => ?_, fun b u eb => ?_, I.g0, fun b u hb eb => ?_, I.fr, fun j q d' ej sj => ?_, fun j q d' ej sj => ?_, fun j q d' ej sj => ?_, fun j q hq => ?_, fun q hq => ?_, I.td⟩
  · rcases get_set ej with ⟨rfl, rfl⟩ | ⟨nj, ej⟩
    · refine ⟨v, h1, ?_⟩
      cases s with
      | ow _ => cases hp; exact ⟨p', hp', g, x⟩
      | pw _ => cases hp; exact ⟨p', hp', g, x⟩
      | _ => cases hp
    · obtain ⟨w, b1, b2⟩ := I.sl j t ej
      refine ⟨w, b1, b2.up (Same.refl _) fun q hq ho => ?_⟩
      have nq := ne j t q ej ho (by rw [b1, hq]) (Ne.symm nj)
      obtain ⟨q', hq', g1, g2⟩ := b2.own ho
      have e1 : q = q' := by rw [hq] at hq'; exact V.ref.inj (Option.some.inj hq')
      subst e1
      exact ⟨upd_ne nq, g1⟩
  · have back : ∀ {j : Nat} {t : Sl}, (env.set i s')[j]? = some t → ∃ t', env[j]? = some t' ∧ t'.mut = t.mut ∧ t'.isO = t.isO := fun {j t} ej => by
      rcases get_set ej with ⟨rfl, rfl⟩ | ⟨nj, ej⟩
      · exact ⟨s, e, by rw [m1, m2], by rw [m3, m4]⟩
      · exact ⟨t, ej, rfl, rfl⟩
    obtain ⟨t', f1, f2, f3⟩ := back e1
    obtain ⟨u', f4, f5, f6⟩ := back e2
    exact I.nd j k q t' u' f1 f4 (by rw [f2]; exact n1) (by rw [f6]; exact n2) s1 s2
  · have nb : b ≠ p' := fun z => by rw [z, g] at eb; cases eb
    rw [upd_ne nb]; exact I.gh b u eb
  · have nb : b ≠ p' := fun z => by
      subst z
      cases s with
      | ow d0 => exact absurd ((I.ow i b d0 e (by rw [h1, hp'])).1) (by rw [eb]; simp)
      | pw d0 => exact hb i (I.pw i b d0 e (by rw [h1, hp']))
      | _ => cases hp
    rw [upd_ne nb]; exact I.h0 b u hb eb
  · rcases get_set ej with ⟨rfl, e3⟩ | ⟨nj, ej⟩
    · cases s with
      | ow d0 => exact I.ow i q d0 e sj
      | pw d0 => cases hp; cases e3
      | _ => cases hp
    · exact I.ow j q d' ej sj
  · rcases get_set ej with ⟨rfl, e3⟩ | ⟨nj, ej⟩
    · cases s with
      | ow d0 => cases hp; cases e3
      | pw d0 => exact I.pw i q d0 e sj
      | _ => cases hp
    · exact I.pw j q d' ej sj
  · rcases get_set ej with ⟨rfl, e3⟩ | ⟨nj, ej⟩
    · rw [e3] at m2; cases m2
    · exact I.lw j q d' ej sj
  · obtain ⟨a1, a2, d', a3⟩ := I.pp j q hq
    refine ⟨a1, ?_, ?_⟩
    · by_cases hb : q = p'
      · rw [hb, upd_same]; simp
      · rw [upd_ne hb]; exact a2
    · by_cases hj : i = j
      · subst hj
        cases s with
        | ow d0 =>
          rw [e] at a3
          rcases a3 with a3 | a3 <;> cases a3
        | pw d0 => cases hp; exact ⟨d, .inl (List.getElem?_set_self hlt)⟩
        | _ => cases hp
      · exact ⟨d', by rw [List.getElem?_set_ne hj]; exact a3⟩
  · obtain ⟨a1, a2, a3, a4, a5⟩ := I.tp q hq
    have nq : q.1 ≠ p' := fun z => a5 i s e m4 (by rw [h1, hp', z])
    refine ⟨a1, a2.up (Same.refl _) (upd_ne nq), a3, a4, fun j t ej ho z => ?_⟩
    rcases get_set ej with ⟨rfl, rfl⟩ | ⟨nj, ej⟩
    · exact a5 i s e m4 z
    · exact a5 j t ej ho z
def Bs.push (B : Bs) (p : Addr) (d : PyData) : Bs := { B with T := (p, d) :: B.T }
theorem INV.push (I : INV K B env σ G H) {p : Addr} {d : PyData} (f : Fresh B env σ G H p) (x : Ow K G H p d) : INV K (B.push p d) env σ G H := by
  refine ⟨I.len, I.sl, I.nd, I.gh, I.g0, I.h0, I.fr, I.ow, I.pw, I.lw, I.pp, fun q hq => ?_, ?_⟩
  · rcases List.mem_cons.mp hq with rfl | hq
    · exact ⟨f.g, x, f.b, f.n, f.s⟩
    · exact I.tp q hq
  · refine ⟨?_, I.td.2⟩
    show ((p, d) :: B.T |>.map (·.1)).Nodup
    rw [List.map_cons, List.nodup_cons]
    refine ⟨fun hm => ?_, I.td.1⟩
    obtain ⟨q, hq, e⟩ := List.mem_map.mp hm
    exact f.t q hq e
theorem INV.pop {p : Addr} {d : PyData} (I : INV K (B.push p d) env σ G H) : INV K B env σ G H ∧ Fresh B env σ G H p ∧ Ow K G H p d := by
  have hm : (p, d) ∈ (B.push p d).T := List.mem_cons_self
  obtain ⟨a1, a2, a3, a4, a5⟩ := I.tp _ hm
  have td : ((p, d) :: B.T |>.map (·.1)).Nodup := I.td.1
  rw [List.map_cons, List.nodup_cons] at td
  exact ⟨⟨I.len, I.sl, I.nd, I.gh, I.g0, I.h0, I.fr, I.ow, I.pw, I.lw, I.pp, fun q hq => I.tp q (List.mem_cons_of_mem _ hq), td.2, I.td.2⟩,
    ⟨a1, a5, a3, a4, fun q hq z => td.1 (List.mem_map.mpr ⟨q, hq, z⟩)⟩, a2⟩
end
end DL
namespace DL
open PySem L2 PySem.Spec
open PyProof.Rows hiding St
/-! ## arguments, displays, fresh objects -/
/-- a clean value -/
def cln (env : DEnv) : EV → Option PyData
  | .val d => some d
  | .slot i => match env[i]? with
    | some (.cl d) => some d
    | some (.pc d) => some d
    | _ => none
def clns (env : DEnv) : List EV → Option (List PyData)
  | [] => some []
  | e :: es => match cln env e, clns env es with
    | some d, some ds => some (d :: ds)
    | _, _ => none
section
variable {K : Frag} {B : Bs} {env : DEnv} {σ : St} {G H : Hp}
theorem INV.cln (I : INV K B env σ G H) {v : V} {e : EV} {d : PyData} (r : VR K G σ v e) (h : cln env e = some d) : Rp K G v d := by
  cases e with
  | val d' => cases h; exact r
  | slot i =>
    have r : σ[i]? = some (some v) := r
    unfold DL.cln at h
    simp only at h
    cases q : env[i]? with
    | none => rw [q] at h; cases h
    | some s =>
      rw [q] at h
      cases s with
      | cl d' =>
        cases h
        obtain ⟨w, h1, x, h2, h3⟩ := I.sl i _ q
        rw [h1, h2] at r; cases r; exact h3
      | pc d' =>
        cases h
        obtain ⟨w, h1, x, h2, h3⟩ := I.sl i _ q
        rw [h1, h2] at r; cases r; exact h3
      | _ => cases h
theorem INV.clns (I : INV K B env σ G H) : ∀ {vs : List V} {es : List EV} {ds : List PyData}, Paired (fun v e => VR K G σ v e) vs es → clns env es = some ds → RpA K G vs ds
  | _, _, _, .nil, h => by cases h; exact .nil
  | _, _, _, .cons (a := v) (b := e) r rs, h => by
    unfold DL.clns at h
    split at h
    · rename_i d ds h1 h2
      cases h
      exact .cons (I.cln r h1) (INV.clns I rs h2)
    · cases h
end
section
variable {X : Cx} {B : Bs} {EK : XK} {a b c e : Expr} {pos : Pos} {ma mb mc : DEnv → Out EV} {es : List Expr} {mr : DEnv → Out (List EV)}
def mNil : DEnv → Out (List EV) := fun env => .ok [] env
def mCons (ma : DEnv → Out EV) (mr : DEnv → Out (List EV)) : DEnv → Out (List EV) := fun env => (ma env).bind fun x r => (mr r).bind fun xs r' => .ok (x :: xs) r'
theorem da_nil : DA X EK [] mNil := fun B => PA.weak pa_nil fun σ H Q ⟨env, G, I, h⟩ => h [] G H I (Same.refl _) .nil
theorem rL_up {K : Frag} {σ : St} {G G' : Hp} (S : Same G G') : ∀ {vs : List V} {es : List EV}, Paired (fun v e => VR K G σ v e) vs es → Paired (fun v e => VR K G' σ v e) vs es
  | _, _, .nil => .nil
  | _, _, .cons r rs => .cons (VR.up r S) (rL_up S rs)
theorem da_cons (ha : DE X EK a ma) (hr : DA X EK es mr) (hs : starEach (a :: es) X.env = (false, eval a X.env) :: starEach es X.env := by rfl) : DA X EK (a :: es) (mCons ma mr) :=
  fun B => PA.weak (pa_cons (ha B) (hr B) hs) fun σ H Q ⟨env, G, I, h⟩ => ⟨env, G, I, (PD.bind h).imp fun v H1 ⟨x, env1, G1, I1, _, r1, h1⟩ =>
    ⟨env1, G1, I1, (PD.bind h1).imp fun vs H2 ⟨xs, env2, G2, I2, S2, r2, h2⟩ => h2 (v :: vs) G2 H2 I2 (Same.refl _) (.cons (VR.up r1 S2) r2)⟩⟩
def mTup (m : DEnv → Out (List EV)) : DEnv → Out EV := fun env => (m env).bind fun xs r => match clns r xs with
  | some ds => if ds.length ≤ 1000 then .ok (.val (.tuple ds)) r else .bad
  | none => .bad
def mLst (m : DEnv → Out (List EV)) : DEnv → Out EV := fun env => (m env).bind fun xs r => match clns r xs with
  | some ds => if ds.length ≤ 1000 then .ok (.val (.list ds)) r else .bad
  | none => .bad
def mLstF (m : DEnv → Out (List EV)) : DEnv → Out PyData := fun env => (m env).bind fun xs r => match clns r xs with
  | some ds => if ds.length ≤ 1000 then .ok (.list ds) r else .bad
  | none => .bad
theorem le_line {n : Nat} (h : n ≤ 1000) : n ≤ sizeLine := Nat.le_of_lt (small1000 h)
theorem de_tup {k : Nat} (h : DA X EK es mr) : DE X EK (.Tuple es k pos) (mTup mr) :=
  fun B => PE.weak (pe_tup (h B)) fun σ H Q ⟨env, G, I, h⟩ => ⟨env, G, I, (PD.bind h).imp fun vs H1 ⟨xs, env1, G1, I1, _, r1, h1⟩ => by
    cases q : clns env1 xs with
    | none => simp only [q] at h1; exact h1.elim
    | some ds =>
      simp only [q] at h1
      have r := I1.clns r1 q
      by_cases hl : ds.length ≤ 1000
      · rw [if_pos hl] at h1
        refine ⟨le_line (r.len ▸ hl), fun p n => ?_⟩
        have S := same_upd (o := .tup vs) (I1.fresh n).g
        exact h1 _ _ _ (I1.alloc n) S (.tup (.inl (.inl upd_same)) (r.up S))
      · rw [if_neg hl] at h1; exact h1.elim⟩
theorem de_lst (h : DA X EK es mr) : DE X EK (.List es pos) (mLst mr) :=
  fun B => PE.weak (pe_lst (h B)) fun σ H Q ⟨env, G, I, h⟩ => ⟨env, G, I, (PD.bind h).imp fun vs H1 ⟨xs, env1, G1, I1, _, r1, h1⟩ => by
    cases q : clns env1 xs with
    | none => simp only [q] at h1; exact h1.elim
    | some ds =>
      simp only [q] at h1
      have r := I1.clns r1 q
      by_cases hl : ds.length ≤ 1000
      · rw [if_pos hl] at h1
        refine ⟨le_line (r.len ▸ hl), fun p n => ?_⟩
        have S := same_upd (o := .lst vs) (I1.fresh n).g
        exact h1 _ _ _ (I1.alloc n) S (.lst (.inl (.inl upd_same)) (r.up S))
      · rw [if_neg hl] at h1; exact h1.elim⟩
theorem df_lst (h : DA X EK es mr) : DF X EK (.List es pos) (mLstF mr) :=
  fun B => PE.weak (pe_lst (h B)) fun σ H Q ⟨env, G, I, h⟩ => ⟨env, G, I, (PD.bind h).imp fun vs H1 ⟨xs, env1, G1, I1, _, r1, h1⟩ => by
    cases q : clns env1 xs with
    | none => simp only [q] at h1; exact h1.elim
    | some ds =>
      simp only [q] at h1
      have r := I1.clns r1 q
      by_cases hl : ds.length ≤ 1000
      · rw [if_pos hl] at h1
        refine ⟨le_line (r.len ▸ hl), fun p n => ?_⟩
        exact h1 _ _ _ (I1.tmp n) (Same.refl _) ⟨p, rfl, (I1.fresh n).any, vs, upd_same, r⟩
      · rw [if_neg hl] at h1; exact h1.elim⟩
/-! ### the lock behind a value -/
def tLkA (t : TE) : TE := fun σ H Q => t σ H fun v H1 => Q v H1 ∨ ∃ d u, H1 d = some u ∧ Mut (some u) ∧ ∀ od, Q v (upd H1 d (.frz od u))
theorem pe_lkA {t : TE} (h : PE X e t) : PE X e (tLkA t) := ⟨fun pins s σ H Q I q => by
  refine thn (h.run pins s σ H _ I q) fun u s1 ⟨v, H1, I1, r1, q1⟩ => ?_
  rcases q1 with q1 | ⟨d, w, hd, mu, q1⟩
  · exact ⟨v, H1, I1, r1, q1⟩
  · obtain ⟨od, I2⟩ := I1.lock hd mu
    exact ⟨v, _, I2, r1, q1 od⟩⟩
/-- a fresh object given to all -/
def mFr (m : DEnv → Out PyData) : DEnv → Out EV := fun env => (m env).bind fun d r => .ok (.val d) r
theorem give {K : Frag} {σ : St} {env : DEnv} {G H : Hp} (I : INV K B env σ G H) {p : Addr} {d : PyData} (f : Fresh B env σ G H p) (x : Ow K G H p d) {P : Hp → Prop}
    (k : ∀ G' H', INV K B env σ G' H' → Same G G' → Rp K G' (.ref p) d → P H') : P H ∨ ∃ d u, H d = some u ∧ Mut (some u) ∧ ∀ od, P (upd H d (.frz od u)) := by
  have S : ∀ {o : HO}, Same G (upd G p o) := same_upd f.g
  cases d with
  | list ds =>
    obtain ⟨xs, h, r⟩ := x
    exact .inl (k _ H (I.absorb f h) S (.lst (.inl (.inl upd_same)) (r.up S)))
  | dict kvs =>
    rcases x with ⟨ks, h, r⟩ | ⟨ks, h, r, ne⟩
    · exact .inr ⟨p, _, h, trivial, fun od => k _ _ ((I.touch (o := .frz od (.dK ks)) f).absorb f.any upd_same) S (.dK upd_same (r.up S))⟩
    · exact .inr ⟨p, _, h, trivial, fun od => k _ _ ((I.touch (o := .frz od (.dT ks)) f).absorb f.any upd_same) S (.dT upd_same (r.up S) ne)⟩
  | _ => exact x.elim
theorem de_fr {m : DEnv → Out PyData} (h : DF X EK e m) : DE X EK e (mFr m) :=
  fun B => PE.weak (pe_lkA (h B)) fun σ H Q ⟨env, G, I, h⟩ => ⟨env, G, I, (PD.bind h).imp fun v H1 ⟨d, env1, G1, I1, _, r1, h1⟩ => by
    obtain ⟨p, rfl, f, x⟩ := r1
    exact give (P := fun H => Q (.ref p) H) I1 f x fun G' H' I' S r => h1 _ G' H' I' S r⟩
/-- a name whose object is given to all -/
def mNameF (i : Nat) : DEnv → Out EV := fun env => match env[i]? with
  | some (.cl d) => .ok (.val d) env
  | some (.pc d) => .ok (.val d) env
  | some (.ow d) => .ok (.val d) (env.set i (.cl d))
  | _ => .bad
theorem de_nameF (i : Nat) {x : Str} {p : Pos} (h : PE X (.Name x p) (tVar i)) : DE X EK (.Name x p) (mNameF i) := by
  refine fun B => PE.weak (pe_lkA h) fun σ H Q ⟨env, G, I, q⟩ => ?_
  unfold mNameF at q
  cases e : env[i]? with
  | none => rw [e] at q; exact q.elim
  | some s =>
    rw [e] at q
    cases s with
    | cl d =>
      obtain ⟨v, h1, h2⟩ := slot_val I e (by simp [Sl.dat])
      obtain ⟨y, e1, r⟩ := h2; cases e1
      exact ⟨v, h1, .inl (q v G H I (Same.refl _) r)⟩
    | pc d =>
      obtain ⟨v, h1, h2⟩ := slot_val I e (by simp [Sl.dat])
      obtain ⟨y, e1, r⟩ := h2; cases e1
      exact ⟨v, h1, .inl (q v G H I (Same.refl _) r)⟩
    | ow d =>
      obtain ⟨p', h1, x, J, f⟩ := I.forget e
      refine ⟨_, h1, give (P := fun H => Q (.ref p') H) J f x fun G' H' J' S r => ?_⟩
      have hlt : i < env.length := (List.getElem?_eq_some_iff.mp e).1
      have J3 := J'.setCl (i := i) (by unfold asgOk; rw [List.getElem?_set_self hlt]) r
      rw [set_set] at J3
      have hls : i < σ.length := by rw [I.len]; exact hlt
      have e2 : σ.set i (some (.ref p')) = σ := by
        have q : σ[i] = some (.ref p') := (List.getElem?_eq_some_iff.mp h1).2
        rw [← q]; exact List.set_getElem_self hls
      rw [e2] at J3
      exact q _ G' H' J3 S r
    | _ => exact q.elim
end
end DL
namespace DL
open PySem L2 PySem.Spec
open PyProof.Rows hiding St
/-! ## statements -/
def Out.bindS {α : Type} (o : Out α) (f : α → DEnv → SOut) : SOut := match o with
  | .bad => .bad
  | .ok a r => f a r
  | .ex c r => .ex c r
def SOut.andThen (o : SOut) (f : DEnv → SOut) : SOut := match o with
  | .nx r => f r
  | .bad => .bad
  | .rt d fr r => .rt d fr r
  | .bk r => .bk r
  | .ct r => .ct r
  | .ex c r => .ex c r
section
variable {K : Frag} {mg : Str → Option Value} {B : Bs} {EK : XK}
/-- what a return hands over -/
def RtR (K : Frag) (B : Bs) (env : DEnv) (σ : St) (G H : Hp) (v : V) (d : PyData) : Bool → Prop
  | true => ∃ p, v = .ref p ∧ Fresh B env σ G H p ∧ Ow K G H p d
  | false => Rp K G v d
def PDS (K : Frag) (mg : Str → Option Value) (B : Bs) (EK : XK) (o : SOut) (G : Hp) (D : Ends) : Prop := match o with
  | .bad => False
  | .nx r => ∀ σ' G' H', INV K B r σ' G' H' → Same G G' → D.nx σ' H'
  | .bk r => ∀ σ' G' H', INV K B r σ' G' H' → Same G G' → D.bk σ' H'
  | .ct r => ∀ σ' G' H', INV K B r σ' G' H' → Same G G' → D.ct σ' H'
  | .rt d fr r => ∀ v σ' G' H', INV K B r σ' G' H' → Same G G' → RtR K B r σ' G' H' v d fr → D.rt v H'
  | .ex c r => ∀ cls d σ' G' H', INV K B r σ' G' H' → Same G G' → XR K mg G' c cls d H' → EK cls d H'
theorem PDS.up {o : SOut} {G G0 : Hp} {D : Ends} (h : PDS K mg B EK o G0 D) (S : Same G0 G) : PDS K mg B EK o G D := by
  cases o with
  | bad => exact h
  | nx r => exact fun σ' G' H' I S' => h σ' G' H' I (S.trans S')
  | bk r => exact fun σ' G' H' I S' => h σ' G' H' I (S.trans S')
  | ct r => exact fun σ' G' H' I S' => h σ' G' H' I (S.trans S')
  | rt d fr r => exact fun v σ' G' H' I S' x => h v σ' G' H' I (S.trans S') x
  | ex c r => exact fun cls d σ' G' H' I S' x => h cls d σ' G' H' I (S.trans S') x
/-- other ends -/
theorem PDS.ends {o : SOut} {G : Hp} {D D' : Ends} (h : PDS K mg B EK o G D) (h1 : ∀ σ H, D.nx σ H → D'.nx σ H) (h2 : ∀ v H, D.rt v H → D'.rt v H) (h3 : ∀ σ H, D.bk σ H → D'.bk σ H) (h4 : ∀ σ H, D.ct σ H → D'.ct σ H) : PDS K mg B EK o G D' := by
  cases o with
  | bad => exact h
  | nx r => exact fun σ' G' H' I S' => h1 _ _ (h σ' G' H' I S')
  | bk r => exact fun σ' G' H' I S' => h3 _ _ (h σ' G' H' I S')
  | ct r => exact fun σ' G' H' I S' => h4 _ _ (h σ' G' H' I S')
  | rt d fr r => exact fun v σ' G' H' I S' x => h2 _ _ (h v σ' G' H' I S' x)
  | ex c r => exact h
theorem PD.bindS {α W : Type} {relA : Rel α W} {σ : St} {o : Out α} {f : α → DEnv → SOut} {G : Hp} {D : Ends} (h : PDS K mg B EK (o.bindS f) G D) :
    PD K mg B EK relA σ o G fun w H1 => ∃ a env1 G1, INV K B env1 σ G1 H1 ∧ Same G G1 ∧ relA env1 G1 H1 w a ∧ PDS K mg B EK (f a env1) G1 D := by
  cases o with
  | bad => exact h
  | ok a r => exact fun w G' H' I' S x => ⟨a, r, G', I', S, x, PDS.up h S⟩
  | ex c r => exact fun cls d G' H' I' S x => h cls d σ G' H' I' S x
def tS (K : Frag) (mg : Str → Option Value) (B : Bs) (EK : XK) (m : DEnv → SOut) : TS := fun D σ H => ∃ env G, INV K B env σ G H ∧ PDS K mg B EK (m env) G D
end
abbrev DS (X : Cx) (EK : XK) (st : Stmt) (m : DEnv → SOut) : Prop := ∀ B : Bs, PS X st (tS X.K X.mg B EK m)
abbrev DSs (X : Cx) (EK : XK) (st : List Stmt) (m : DEnv → SOut) : Prop := ∀ B : Bs, PSs X st (tS X.K X.mg B EK m)
section
variable {X : Cx} {EK : XK} {a b c e : Expr} {pos : Pos} {ma mb mc : DEnv → Out EV} {st : Stmt} {rest : List Stmt} {m m' : DEnv → SOut}
def mNext : DEnv → SOut := .nx
def mSeq (m m' : DEnv → SOut) : DEnv → SOut := fun env => (m env).andThen m'
theorem dss_nil : DSs X EK [] mNext := fun B => PSs.weak pss_nil fun D σ H ⟨env, G, I, h⟩ => h σ G H I (Same.refl _)
theorem dss_one (h : DS X EK st m) : DSs X EK [st] m := fun B => pss_one (h B)
theorem dss_cons (h1 : DS X EK st m) (h2 : DSs X EK rest m') : DSs X EK (st :: rest) (mSeq m m') := fun B =>
  PSs.weak (pss_cons (h1 B) (h2 B)) fun D σ H ⟨env, G, I, h⟩ => ⟨env, G, I, by
    unfold mSeq at h
    cases q : m env with
    | bad => rw [q] at h; exact h
    | nx r => rw [q] at h; exact fun σ' G' H' I' S => ⟨r, G', I', PDS.up h S⟩
    | bk r => rw [q] at h; exact h
    | ct r => rw [q] at h; exact h
    | rt d fr r => rw [q] at h; exact h
    | ex c r => rw [q] at h; exact h⟩
def mPass : DEnv → SOut := .nx
theorem ds_pass : DS X EK (.Pass pos) mPass := fun B => PS.weak ps_pass fun D σ H ⟨env, G, I, h⟩ => h σ G H I (Same.refl _)
theorem ds_break : DS X EK (.Break pos) .bk := fun B => PS.weak ps_break fun D σ H ⟨env, G, I, h⟩ => h σ G H I (Same.refl _)
theorem ds_continue : DS X EK (.Continue pos) .ct := fun B => PS.weak ps_continue fun D σ H ⟨env, G, I, h⟩ => h σ G H I (Same.refl _)
def mExpr (m : DEnv → Out EV) : DEnv → SOut := fun env => (m env).bindS fun _ r => .nx r
theorem ds_expr (h : DE X EK e ma) (hs : swapsWith e none pos.line X.env = pure false := by rfl) : DS X EK (.Expr e pos) (mExpr ma) := fun B =>
  PS.weak (ps_expr (h B) hs) fun D σ H ⟨env, G, I, h⟩ => ⟨env, G, I, (PD.bindS h).imp fun v H1 ⟨x, env1, G1, I1, _, r1, h1⟩ => h1 σ G1 H1 I1 (Same.refl _)⟩
def mRet (m : DEnv → Out EV) : DEnv → SOut := fun env => (m env).bindS fun x r => match cln r x with
  | some d => .rt d false r
  | none => .bad
theorem ds_ret (h : DE X EK e ma) : DS X EK (.Return (some e) pos) (mRet ma) := fun B =>
  PS.weak (ps_ret (h B)) fun D σ H ⟨env, G, I, h⟩ => ⟨env, G, I, (PD.bindS h).imp fun v H1 ⟨x, env1, G1, I1, _, r1, h1⟩ => by
    cases q : cln env1 x with
    | none => simp only [q] at h1; exact h1.elim
    | some d => simp only [q] at h1; exact h1 v σ G1 H1 I1 (Same.refl _) (I1.cln r1 q)⟩
def mRetF (m : DEnv → Out PyData) : DEnv → SOut := fun env => (m env).bindS fun d r => .rt d true r
theorem ds_retF {m : DEnv → Out PyData} (h : DF X EK e m) : DS X EK (.Return (some e) pos) (mRetF m) := fun B =>
  PS.weak (ps_ret (h B)) fun D σ H ⟨env, G, I, h⟩ => ⟨env, G, I, (PD.bindS h).imp fun v H1 ⟨d, env1, G1, I1, _, r1, h1⟩ => h1 v σ G1 H1 I1 (Same.refl _) r1⟩
def mRetN : DEnv → SOut := fun env => .rt .none false env
theorem ds_retN : DS X EK (.Return none pos) mRetN := fun B => PS.weak ps_retN fun D σ H ⟨env, G, I, h⟩ => h .non σ G H I (Same.refl _) .non
/-- return x, x owned -/
def mRetO (i : Nat) : DEnv → SOut := fun env => match env[i]? with
  | some (.ow d) => .rt d true (env.set i .un)
  | some (.cl d) => .rt d false env
  | some (.pc d) => .rt d false env
  | _ => .bad
theorem ds_retO (i : Nat) {x : Str} {p : Pos} (h : PE X (.Name x p) (tVar i)) : DS X EK (.Return (some (.Name x p)) pos) (mRetO i) := fun B => by
  refine PS.weak (ps_ret h) fun D σ H ⟨env, G, I, q⟩ => ?_
  unfold mRetO at q
  cases e : env[i]? with
  | none => rw [e] at q; exact q.elim
  | some s =>
    rw [e] at q
    cases s with
    | cl d =>
      obtain ⟨v, h1, h2⟩ := slot_val I e (by simp [Sl.dat])
      obtain ⟨y, e1, r⟩ := h2; cases e1
      exact ⟨v, h1, q v σ G H I (Same.refl _) r⟩
    | pc d =>
      obtain ⟨v, h1, h2⟩ := slot_val I e (by simp [Sl.dat])
      obtain ⟨y, e1, r⟩ := h2; cases e1
      exact ⟨v, h1, q v σ G H I (Same.refl _) r⟩
    | ow d =>
      obtain ⟨p', h1, x, J, f⟩ := I.forget e
      exact ⟨_, h1, q _ σ G H J (Same.refl _) ⟨p', rfl, f, x⟩⟩
    | _ => exact q.elim
def mIf (t : DEnv → Out Bool) (m m' : DEnv → SOut) : DEnv → SOut := fun env => (t env).bindS fun k r => if k = true then m r else m' r
theorem ds_if {t : DEnv → Out Bool} {as bs : List Stmt} (ht : DT X EK c t) (ha : DSs X EK as m) (hb : DSs X EK bs m') : DS X EK (.If c as bs pos) (mIf t m m') := fun B =>
  PS.weak (ps_if (ht B) (ha B) (hb B)) fun D σ H ⟨env, G, I, h⟩ => ⟨env, G, I, (PD.bindS h).imp fun k H1 ⟨k', env1, G1, I1, _, r1, h1⟩ => by
    have r1 : k = k' := r1
    subst r1
    cases k with
    | true => rw [if_pos rfl] at h1; exact iteT ⟨env1, G1, I1, h1⟩
    | false => rw [if_neg Bool.false_ne_true] at h1; exact iteF ⟨env1, G1, I1, h1⟩⟩
/-! ### stores -/
def mSet (i : Nat) (m : DEnv → Out EV) : DEnv → SOut := fun env => (m env).bindS fun x r => match cln r x with
  | some d => if asgOk r i = true then .nx (r.set i (.cl d)) else .bad
  | none => .bad
def mSetF (i : Nat) (m : DEnv → Out PyData) : DEnv → SOut := fun env => (m env).bindS fun d r => if asgOk r i = true then .nx (r.set i (.ow d)) else .bad
theorem ds_set {i : Nat} {x : Str} {pos' : Pos} (h : DE X EK e ma) (hp : ∀ {te : TE}, PE X e te → PS X (.Assign [.Name x pos'] e pos) (tAsg te (gName i))) : DS X EK (.Assign [.Name x pos'] e pos) (mSet i ma) := fun B =>
  PS.weak (hp (h B)) fun D σ H ⟨env, G, I, h⟩ => ⟨env, G, I, (PD.bindS h).imp fun v H1 ⟨x, env1, G1, I1, _, r1, h1⟩ => by
    cases q : cln env1 x with
    | none => simp only [q] at h1; exact h1.elim
    | some d =>
      simp only [q] at h1
      by_cases ha : asgOk env1 i = true
      · rw [if_pos ha] at h1; exact h1 _ _ _ (I1.setCl ha (I1.cln r1 q)) (Same.refl _)
      · rw [if_neg ha] at h1; exact h1.elim⟩
theorem ds_setF {i : Nat} {x : Str} {pos' : Pos} {m : DEnv → Out PyData} (h : DF X EK e m) (hp : ∀ {te : TE}, PE X e te → PS X (.Assign [.Name x pos'] e pos) (tAsg te (gName i))) : DS X EK (.Assign [.Name x pos'] e pos) (mSetF i m) := fun B =>
  PS.weak (hp (h B)) fun D σ H ⟨env, G, I, h⟩ => ⟨env, G, I, (PD.bindS h).imp fun v H1 ⟨d, env1, G1, I1, _, r1, h1⟩ => by
    obtain ⟨p, rfl, f, x⟩ := r1
    by_cases ha : asgOk env1 i = true
    · simp only [if_pos ha] at h1; exact h1 _ _ _ (I1.setOw ha f x) (Same.refl _)
    · simp only [if_neg ha] at h1; exact h1.elim⟩
/-! ### targets -/
abbrev GM := PyData → DEnv → Option DEnv
/-- alike but at the slots of ns -/
def Agree (ns : List Nat) (σ σ' : St) : Prop := σ'.length = σ.length ∧ ∀ j, j ∉ ns → σ'[j]? = σ[j]?
theorem Agree.refl (ns : List Nat) (σ : St) : Agree ns σ σ := ⟨rfl, fun _ _ => rfl⟩
def tGd (K : Frag) (B : Bs) (g : GM) (ns : List Nat) : TG := fun v σ H Q => ∃ env G d env', INV K B env σ G H ∧ Rp K G v d ∧ g d env = some env' ∧ ∀ σ' G' H', INV K B env' σ' G' H' → Same G G' → Agree ns σ σ' → Q σ' H'
abbrev DG (X : Cx) (tg : Expr) (g : GM) (ns : List Nat) : Prop := ∀ B : Bs, PG X tg (tGd X.K B g ns)
abbrev GMs := List PyData → DEnv → Option DEnv
def tGds (K : Frag) (B : Bs) (g : GMs) (ns : List Nat) : TGs := fun vs σ H Q => ∃ env G ds env', INV K B env σ G H ∧ RpA K G vs ds ∧ g ds env = some env' ∧ ∀ σ' G' H', INV K B env' σ' G' H' → Same G G' → Agree ns σ σ' → Q σ' H'
abbrev DGs (X : Cx) (tg : List Expr) (g : GMs) (ns : List Nat) : Prop := ∀ B : Bs, PGs X tg (tGds X.K B g ns)
theorem PG.weak {tg : Expr} {t t' : TG} (h : PG X tg t) (w : ∀ v σ H Q, t' v σ H Q → t v σ H Q) : PG X tg t' := ⟨fun pins s σ H v u Q I r q => h.run pins s σ H v u Q I r (w v σ H Q q)⟩
theorem PGs.weak {tg : List Expr} {t t' : TGs} (h : PGs X tg t) (w : ∀ v σ H Q, t' v σ H Q → t v σ H Q) : PGs X tg t' := ⟨fun pins s σ H v u Q I r q => h.run pins s σ H v u Q I r (w v σ H Q q)⟩
def gN (i : Nat) : GM := fun d env => if asgOk env i = true then some (env.set i (.cl d)) else none
theorem dg_name {i : Nat} {tg : Expr} (h : PG X tg (gName i)) : DG X tg (gN i) [i] := fun B => PG.weak h fun v σ H Q ⟨env, G, d, env', I, r, g, k⟩ => by
  unfold gN at g
  by_cases ha : asgOk env i = true
  · rw [if_pos ha] at g; cases g; exact k _ _ _ (I.setCl ha r) (Same.refl _) ⟨by simp, fun j hj => List.getElem?_set_ne fun z => hj (by simp [z])⟩
  · rw [if_neg ha] at g; cases g
def gNl : GMs := fun ds env => match ds with
  | [] => some env
  | _ => none
def gCn (g : GM) (gs : GMs) : GMs := fun ds env => match ds with
  | d :: r => (g d env).bind (gs r)
  | [] => none
theorem dgs_nil : DGs X [] gNl [] := fun B => PGs.weak pgs_nil fun vs σ H Q ⟨env, G, ds, env', I, r, g, k⟩ => by
  cases r with
  | nil => cases g; exact ⟨rfl, k σ G H I (Same.refl _) (Agree.refl _ _)⟩
  | cons _ _ => cases g
theorem dgs_cons {tg : Expr} {ts : List Expr} {g : GM} {gs : GMs} {ns ms : List Nat} (h1 : DG X tg g ns) (h2 : DGs X ts gs ms) (hs : (assignEach (tg :: ts) X.env).map (·.2) = assign tg X.env :: (assignEach ts X.env).map (·.2) := by rfl) : DGs X (tg :: ts) (gCn g gs) (ns ++ ms) := fun B =>
  PGs.weak (pgs_cons (h1 B) (h2 B) hs) fun vs σ H Q ⟨env, G, ds, env', I, r, g0, k⟩ => by
    cases r with
    | nil => cases g0
    | cons r rs =>
      have g0 : (g _ env).bind (gs _) = some env' := g0
      cases q : g _ env with
      | none => rw [q] at g0; cases g0
      | some env1 =>
        rw [q] at g0
        exact ⟨_, _, rfl, env, G, _, env1, I, r, q, fun σ' G' H' I' S A => ⟨env1, G', _, env', I', rs.up S, g0, fun σ2 G2 H2 I2 S2 A2 => k σ2 G2 H2 I2 (S.trans S2) ⟨A2.1.trans A.1, fun j hj => (A2.2 j fun z => hj (List.mem_append_right _ z)).trans (A.2 j fun z => hj (List.mem_append_left _ z))⟩⟩⟩
def gT (n : Nat) (gs : GMs) : GM := fun d env => match d with
  | .tuple ds => if ds.length = n then gs ds env else none
  | .list ds => if ds.length = n then gs ds env else none
  | _ => none
def gTL (K : Frag) (n : Nat) (t : TGs) : TG := fun v σ H Q => gTup K n t v σ H Q ∨ gUnl K n t v σ H Q
theorem pg_tl {es : List Expr} {k : Nat} {t : TGs} {n : Nat} (hc : X.calm = true) (h : PGs X es t) (hn : (assignEach es X.env).length = n := by rfl) (hst : (assignEach es X.env).findIdx? (·.1) = none := by rfl) : PG X (.Tuple es k pos) (gTL X.K n t) :=
  ⟨fun pins s σ H v u Q I r q => q.elim (fun q => (pg_tup hc h hn hst).run pins s σ H v u Q I r q) fun q => (pg_unl hc h hn hst).run pins s σ H v u Q I r q⟩
theorem dg_tup {es : List Expr} {k n : Nat} {gs : GMs} {ns : List Nat} (hc : X.calm = true) (h : DGs X es gs ns) (hn : (assignEach es X.env).length = n := by rfl) (hst : (assignEach es X.env).findIdx? (·.1) = none := by rfl) : DG X (.Tuple es k pos) (gT n gs) ns := fun B =>
  PG.weak (pg_tl hc (h B) hn hst) fun v σ H Q ⟨env, G, d, env', I, r, g0, k⟩ => by
    cases r with
    | tup hs ra =>
      unfold gT at g0
      simp only at g0
      split at g0
      · rename_i hl
        exact .inl ⟨_, _, rfl, sameT I.gh hs, by rw [ra.len]; exact hl, env, G, _, env', I, ra, g0, k⟩
      · cases g0
    | lst hs ra =>
      unfold gT at g0
      simp only at g0
      split at g0
      · rename_i hl
        exact .inr ⟨_, _, rfl, I.gh.seq hs, by rw [ra.len]; exact hl, env, G, _, env', I, ra, g0, k⟩
      · cases g0
    | _ => cases g0
def mAsg (m : DEnv → Out EV) (g : GM) : DEnv → SOut := fun env => (m env).bindS fun x r => match cln r x with
  | some d => (match g d r with
    | some r' => .nx r'
    | none => .bad)
  | none => .bad
theorem ds_asg {tg : Expr} {g : GM} {ns : List Nat} (he : DE X EK e ma) (hg : DG X tg g ns) (hs : swapsWithSole [tg] e pos.line X.env = pure false := by rfl) (hw : swappedStores [tg] e X.env = pure none := by rfl)
    (h1 : (assignEach [tg] X.env).map (·.2) = [assign tg X.env] := by rfl) : DS X EK (.Assign [tg] e pos) (mAsg ma g) := fun B =>
  PS.weak (ps_asg (he B) (hg B) hs hw h1) fun D σ H ⟨env, G, I, h⟩ => ⟨env, G, I, (PD.bindS h).imp fun v H1 ⟨x, env1, G1, I1, _, r1, h1⟩ => by
    cases q : cln env1 x with
    | none => simp only [q] at h1; exact h1.elim
    | some d =>
      simp only [q] at h1
      cases q2 : g d env1 with
      | none => simp only [q2] at h1; exact h1.elim
      | some r' =>
        simp only [q2] at h1
        exact ⟨env1, G1, d, r', I1, I1.cln r1 q, q2, fun σ' G' H' I' S _ => h1 σ' G' H' I' S⟩⟩
/-! ### a, b = x, y -/
def mPar (i j : Nat) (ma mb : DEnv → Out EV) : DEnv → SOut := fun env => (ma env).bindS fun x r => (mb r).bindS fun y r' => match cln r' x, cln r' y with
  | some d, some d' => if asgOk r' i = true ∧ asgOk r' j = true then .nx ((r'.set i (.cl d)).set j (.cl d')) else .bad
  | _, _ => .bad
def mParFF (i j : Nat) (ma mb : DEnv → Out PyData) : DEnv → SOut := fun env => (ma env).bindS fun d r => (mb r).bindS fun d' r' =>
  if i ≠ j ∧ asgOk r' i = true ∧ asgOk r' j = true then .nx ((r'.set i (.ow d)).set j (.ow d')) else .bad
def mParFV (i j : Nat) (ma : DEnv → Out PyData) (mb : DEnv → Out EV) : DEnv → SOut := fun env => (ma env).bindS fun d r => (mb r).bindS fun y r' => match cln r' y with
  | some d' => if i ≠ j ∧ asgOk r' i = true ∧ asgOk r' j = true then .nx ((r'.set i (.ow d)).set j (.cl d')) else .bad
  | none => .bad
def mParVF (i j : Nat) (ma : DEnv → Out EV) (mb : DEnv → Out PyData) : DEnv → SOut := fun env => (ma env).bindS fun x r => (mb r).bindS fun d' r' => match cln r' x with
  | some d => if i ≠ j ∧ asgOk r' i = true ∧ asgOk r' j = true then .nx ((r'.set i (.cl d)).set j (.ow d')) else .bad
  | none => .bad
theorem asgOk_set {env : DEnv} {i j : Nat} {d : PyData} (h : asgOk env j = true) (hi : i ≠ j) {s : Sl} : asgOk (env.set i s) j = true := by
  unfold asgOk at h ⊢
  rw [List.getElem?_set_ne hi]; exact h
theorem asgOk_cl {env : DEnv} {i j : Nat} {d : PyData} (h : asgOk env j = true) : asgOk (env.set i (.cl d)) j = true := by
  by_cases e : i = j
  · subst e
    unfold asgOk
    rw [List.getElem?_set_self (asgOk.lt h)]
  · exact asgOk_set (d := d) h e
theorem Fresh.set {B : Bs} {env : DEnv} {σ : St} {G H : Hp} {p : Addr} (f : Fresh B env σ G H p) {i : Nat} {s : Sl} {v : Option V} (h : s.isO = true → v ≠ some (.ref p)) (hl : i < σ.length) : Fresh B (env.set i s) (σ.set i v) G H p :=
  ⟨f.g, fun j t e ho z => by
    rcases get_set e with ⟨rfl, rfl⟩ | ⟨ne, e⟩
    · rw [List.getElem?_set_self hl] at z; exact h ho (Option.some.inj z)
    · rw [List.getElem?_set_ne ne] at z; exact f.s j t e ho z, f.b, f.n, f.t⟩
end
end DL
namespace DL
open PySem L2 PySem.Spec
open PyProof.Rows hiding St
section
variable {X : Cx} {EK : XK} {a b c e : Expr} {pos : Pos} {ma mb : DEnv → Out EV} {fa fb : DEnv → Out PyData} {st : Stmt}
/-- the next part runs while p is held aside -/
theorem PD.bindSP {α W : Type} {K : Frag} {mg : Str → Option Value} {B : Bs} {EK : XK} {relA : Rel α W} {σ : St} {o : Out α} {f : α → DEnv → SOut} {G : Hp} {D : Ends} {p : Addr} {d : PyData} (h : PDS K mg B EK (o.bindS f) G D) :
    PD K mg (B.push p d) EK relA σ o G fun w H1 => ∃ a env1 G1, INV K (B.push p d) env1 σ G1 H1 ∧ Same G G1 ∧ relA env1 G1 H1 w a ∧ PDS K mg B EK (f a env1) G1 D := by
  cases o with
  | bad => exact h
  | ok a r => exact fun w G' H' I' S x => ⟨a, r, G', I', S, x, PDS.up h S⟩
  | ex c r => exact fun cls d G' H' I' S x => h cls d σ G' H' I'.pop.1 S x
abbrev ParOk (X : Cx) (i j : Nat) (a b : Expr) (st : Stmt) : Prop := ∀ {t1 t2 : TE}, PE X a t1 → PE X b t2 → PS X st (tPar i j (tCons t1 (tCons t2 tNil)))
theorem len_of {K : Frag} {B : Bs} {env : DEnv} {σ : St} {G H : Hp} (I : INV K B env σ G H) {i : Nat} (h : asgOk env i = true) : i < σ.length := by rw [I.len]; exact asgOk.lt h
theorem ds_par {i j : Nat} (ha : DE X EK a ma) (hb : DE X EK b mb) (hp : ParOk X i j a b st) : DS X EK st (mPar i j ma mb) := fun B =>
  PS.weak (hp (ha B) (hb B)) fun D σ H ⟨env, G, I, h⟩ => ⟨env, G, I, (PD.bindS h).imp fun v H1 ⟨x, env1, G1, I1, _, r1, h1⟩ =>
    ⟨env1, G1, I1, (PD.bindS h1).imp fun w H2 ⟨y, env2, G2, I2, S2, r2, h2⟩ => by
      cases q1 : cln env2 x with
      | none => simp only [q1] at h2; exact h2.elim
      | some d =>
        cases q2 : cln env2 y with
        | none => simp only [q1, q2] at h2; exact h2.elim
        | some d' =>
          simp only [q1, q2] at h2
          by_cases c : asgOk env2 i = true ∧ asgOk env2 j = true
          · rw [if_pos c] at h2
            refine ⟨v, w, rfl, h2 _ _ _ ((I2.setCl c.1 (I2.cln (VR.up r1 S2) q1)).setCl (asgOk_cl c.2) (I2.cln r2 q2)) (Same.refl _)⟩
          · rw [if_neg c] at h2; exact h2.elim⟩⟩
theorem PE.exB {t : Bs → TE} (h : ∀ B, PE X e (t B)) : PE X e (fun σ H Q => ∃ B, t B σ H Q) := ⟨fun pins s σ H Q I ⟨B, q⟩ => (h B).run pins s σ H Q I q⟩
theorem ds_parFF {i j : Nat} (ha : DF X EK a fa) (hb : DF X EK b fb) (hp : ParOk X i j a b st) : DS X EK st (mParFF i j fa fb) := fun B =>
  PS.weak (hp (ha B) (PE.exB hb)) fun D σ H ⟨env, G, I, h⟩ => ⟨env, G, I, (PD.bindS h).imp fun v H1 ⟨d, env1, G1, I1, _, ⟨p, ev, f, x⟩, h1⟩ =>
    ⟨B.push p d, env1, G1, I1.push f x, (PD.bindSP h1).imp fun w H2 ⟨d', env2, G2, I2, S2, ⟨p', ew, f', x'⟩, h2⟩ => by
      subst ev ew
      obtain ⟨I2, f2, x2⟩ := I2.pop
      have npp : p' ≠ p := fun z => f'.t (p, d) List.mem_cons_self z.symm
      have f'' : Fresh B env2 σ G2 H2 p' := ⟨f'.g, f'.s, f'.b, f'.n, fun q hq => f'.t q (List.mem_cons_of_mem _ hq)⟩
      by_cases c : i ≠ j ∧ asgOk env2 i = true ∧ asgOk env2 j = true
      · rw [if_pos c] at h2
        refine ⟨_, _, rfl, h2 _ _ _ ((I2.setOw c.2.1 f2 x2).setOw (asgOk_set (d := d) c.2.2 c.1) (f''.set (fun _ z => npp (V.ref.inj (Option.some.inj z)).symm) (len_of I2 c.2.1)) x') (Same.refl _)⟩
      · rw [if_neg c] at h2; exact h2.elim⟩⟩
theorem ds_parFV {i j : Nat} (ha : DF X EK a fa) (hb : DE X EK b mb) (hp : ParOk X i j a b st) : DS X EK st (mParFV i j fa mb) := fun B =>
  PS.weak (hp (ha B) (PE.exB hb)) fun D σ H ⟨env, G, I, h⟩ => ⟨env, G, I, (PD.bindS h).imp fun v H1 ⟨d, env1, G1, I1, _, ⟨p, ev, f, x⟩, h1⟩ =>
    ⟨B.push p d, env1, G1, I1.push f x, (PD.bindSP h1).imp fun w H2 ⟨y, env2, G2, I2, S2, r2, h2⟩ => by
      subst ev
      obtain ⟨I2, f2, x2⟩ := I2.pop
      cases q : cln env2 y with
      | none => simp only [q] at h2; exact h2.elim
      | some d' =>
        simp only [q] at h2
        by_cases c : i ≠ j ∧ asgOk env2 i = true ∧ asgOk env2 j = true
        · rw [if_pos c] at h2
          refine ⟨_, _, rfl, h2 _ _ _ ((I2.setOw c.2.1 f2 x2).setCl (asgOk_set (d := d) c.2.2 c.1) (I2.cln r2 q)) (Same.refl _)⟩
        · rw [if_neg c] at h2; exact h2.elim⟩⟩
theorem ds_parVF {i j : Nat} (ha : DE X EK a ma) (hb : DF X EK b fb) (hp : ParOk X i j a b st) : DS X EK st (mParVF i j ma fb) := fun B =>
  PS.weak (hp (ha B) (hb B)) fun D σ H ⟨env, G, I, h⟩ => ⟨env, G, I, (PD.bindS h).imp fun v H1 ⟨x, env1, G1, I1, _, r1, h1⟩ =>
    ⟨env1, G1, I1, (PD.bindS h1).imp fun w H2 ⟨d', env2, G2, I2, S2, ⟨p', ew, f', x'⟩, h2⟩ => by
      subst ew
      cases q : cln env2 x with
      | none => simp only [q] at h2; exact h2.elim
      | some d =>
        simp only [q] at h2
        by_cases c : i ≠ j ∧ asgOk env2 i = true ∧ asgOk env2 j = true
        · rw [if_pos c] at h2
          refine ⟨_, _, rfl, h2 _ _ _ ((I2.setCl c.2.1 (I2.cln (VR.up r1 S2) q)).setOw (asgOk_set (d := d) c.2.2 c.1) (f'.set (fun z => by cases z) (len_of I2 c.2.1)) x') (Same.refl _)⟩
        · rw [if_neg c] at h2; exact h2.elim⟩⟩
end
end DL
namespace DL
open PySem L2 PySem.Spec
open PyProof.Rows hiding St
/-! ## loops -/
/-- the iterator J gives ds, one after the other -/
def ItOk (K : Frag) (B : Bs) (J : It) (G0 : Hp) (ds : List PyData) : Prop := ∀ (env : DEnv) (σ : St) (G H : Hp), INV K B env σ G H → Same G0 G →
  ∀ i, (i < ds.length → J.go i H) ∧ (ds.length ≤ i → J.stop i H) ∧ ∀ x H', i < ds.length → J.yld i H x H' → ∃ G' d, Stp G H G' H' ∧ ds[i]? = some d ∧ Rp K G' x d
abbrev rI (K : Frag) (B : Bs) : Rel (List PyData) It := fun _ G _ J ds => ItOk K B J G ds
abbrev tI (K : Frag) (mg : Str → Option Value) (B : Bs) (EK : XK) (m : DEnv → Out (List PyData)) : TI := tG K mg B EK (fun _ => rI K B) m
abbrev DI (X : Cx) (EK : XK) (tg iter : Expr) (m : DEnv → Out (List PyData)) : Prop := ∀ B : Bs, PI X tg iter (tI X.K X.mg B EK m)
theorem PI.weak {X : Cx} {tg e : Expr} {t t' : TI} (h : PI X tg e t) (w : ∀ σ H Q, t' σ H Q → t σ H Q) : PI X tg e t' := ⟨fun pins s σ H Q I q => h.run pins s σ H Q I (w σ H Q q)⟩
def forM (g : GM) (body : DEnv → SOut) : List PyData → DEnv → SOut
  | [], r => .nx r
  | d :: ds, r => match g d r with
    | none => .bad
    | some r1 => match body r1 with
      | .nx r2 => forM g body ds r2
      | .ct r2 => forM g body ds r2
      | .bk r2 => .nx r2
      | .rt x fr r2 => .rt x fr r2
      | .ex c r2 => .ex c r2
      | .bad => .bad
def mFor (mi : DEnv → Out (List PyData)) (g : GM) (body : DEnv → SOut) : DEnv → SOut := fun env => (mi env).bindS fun ds r => forM g body ds r
section
variable {X : Cx} {EK : XK} {a b c e tg iter : Expr} {pos : Pos} {ma mb : DEnv → Out EV} {st : Stmt} {sts : List Stmt} {m : DEnv → SOut} {mi : DEnv → Out (List PyData)} {g : GM} {ns : List Nat}
theorem ds_for (hi : DI X EK tg iter mi) (hg : DG X tg g ns) (hb : DSs X EK sts m) (hp : ∀ {wi : TI} {tg' : TG} {tb : TS}, PI X tg iter wi → PG X tg tg' → PSs X sts tb → PS X st (tFor wi tg' tb)) : DS X EK st (mFor mi g m) := fun B =>
  PS.weak (hp (hi B) (hg B) (hb B)) fun D σ H ⟨env, G, I, h⟩ => ⟨env, G, I, (PD.bindS h).imp fun J H1 ⟨ds, env1, G1, I1, _, hJ, h1⟩ => by
    refine ⟨fun i m' σ' H' => m' = ds.length - i ∧ i ≤ ds.length ∧ ∃ env' G', INV X.K B env' σ' G' H' ∧ Same G1 G' ∧ PDS X.K X.mg B EK (forM g m (ds.drop i) env') G' D, ⟨ds.length, by simp, Nat.zero_le _, env1, G1, I1, Same.refl _, h1⟩, ?_⟩
    rintro i m' σ' H' ⟨rfl, hi, env', G', I', S', h'⟩
    obtain ⟨j1, j2, j3⟩ := hJ env' σ' G' H' I' S' i
    by_cases hlt : i < ds.length
    · refine .inr ⟨j1 hlt, fun σ2 H2 => ∃ env2 G2, INV X.K B env2 σ2 G2 H2 ∧ Same G1 G2 ∧ PDS X.K X.mg B EK (forM g m (ds.drop (i + 1)) env2) G2 D, fun σ2 H2 ⟨env2, G2, I2, S2, h2⟩ => ⟨ds.length - (i + 1), by omega, rfl, hlt, env2, G2, I2, S2, h2⟩, fun x H2 y => ?_⟩
      obtain ⟨G2, d, stp, hd, r⟩ := j3 x H2 hlt y
      obtain ⟨I2, S2⟩ := INV.stp stp I'
      rw [List.drop_eq_getElem_cons hlt] at h'
      have ed : ds[i] = d := by rw [List.getElem?_eq_getElem hlt] at hd; exact Option.some.inj hd
      rw [ed] at h'
      unfold forM at h'
      cases q : g d env' with
      | none => simp only [q] at h'; exact h'.elim
      | some r1 =>
        simp only [q] at h'
        refine ⟨env', G2, d, r1, I2, r, q, fun σ3 G3 H3 I3 S3 _ => ⟨r1, G3, I3, ?_⟩⟩
        have S13 : Same G' G3 := S2.trans S3
        cases q2 : m r1 with
        | bad => simp only [q2] at h'; exact h'
        | nx r2 => simp only [q2] at h'; exact fun σ4 G4 H4 I4 S4 => ⟨r2, G4, I4, (S'.trans S13).trans S4, PDS.up h' (S13.trans S4)⟩
        | ct r2 => simp only [q2] at h'; exact fun σ4 G4 H4 I4 S4 => ⟨r2, G4, I4, (S'.trans S13).trans S4, PDS.up h' (S13.trans S4)⟩
        | bk r2 => simp only [q2] at h'; exact fun σ4 G4 H4 I4 S4 => h' σ4 G4 H4 I4 (S13.trans S4)
        | rt x fr r2 => simp only [q2] at h'; exact fun v σ4 G4 H4 I4 S4 x => h' v σ4 G4 H4 I4 (S13.trans S4) x
        | ex c r2 => simp only [q2] at h'; exact fun cls dd σ4 G4 H4 I4 S4 x => h' cls dd σ4 G4 H4 I4 (S13.trans S4) x
    · have e : i = ds.length := by omega
      subst e
      refine .inl ⟨j2 (Nat.le_refl _), ?_⟩
      rw [List.drop_length] at h'
      exact h' σ' G' H' I' (Same.refl _)⟩
/-! ### what is walked -/
/-- the values of a list or tuple that stands while B stands -/
def Stands (K : Frag) (B : Bs) (G0 : Hp) (q : Hp → Prop) : Prop := ∀ (env : DEnv) (σ : St) (G H : Hp), INV K B env σ G H → Same G0 G → q H
theorem itok_list {K : Frag} {B : Bs} {p : Addr} {G0 : Hp} {ds : List PyData} {xs : List V} (h : Stands K B G0 fun H => SqL K H p xs) (r : RpA K G0 xs ds) : ItOk K B (Itl K p) G0 ds := fun env σ G H I S i => by
  have hx := h env σ G H I S
  refine ⟨fun hl => ?_, fun hl => ⟨xs, hx, by rw [r.len]; exact hl⟩, fun x H' hl ⟨e1, e2⟩ => ?_⟩
  · obtain ⟨v, hv, _⟩ := r.getD (List.getElem?_eq_getElem hl)
    exact ⟨xs, v, hx, hv⟩
  · subst e1
    obtain ⟨d, hd, rd⟩ := r.get (e2 xs hx)
    exact ⟨G, d, .refl, hd, rd.up S⟩
theorem itok_tup {K : Frag} {B : Bs} {p : Addr} {G0 : Hp} {ds : List PyData} {xs : List V} (h : Stands K B G0 fun H => SqT K H p xs) (r : RpA K G0 xs ds) : ItOk K B (Itt K p) G0 ds := fun env σ G H I S i => by
  have hx := h env σ G H I S
  refine ⟨fun hl => ?_, fun hl => ⟨xs, hx, by rw [r.len]; exact hl⟩, fun x H' hl ⟨e1, e2⟩ => ?_⟩
  · obtain ⟨v, hv, _⟩ := r.getD (List.getElem?_eq_getElem hl)
    exact ⟨xs, v, hx, hv⟩
  · subst e1
    obtain ⟨d, hd, rd⟩ := r.get (e2 xs hx)
    exact ⟨G, d, .refl, hd, rd.up S⟩
/-- what may be walked: clean, or only read here -/
def walkable (env : DEnv) : EV → Option PyData
  | .val d => some d
  | .slot i => match env[i]? with
    | some (.cl d) => some d
    | some (.pc d) => some d
    | some (.lw d) => some d
    | _ => none
/-- its head stands -/
def StV (K : Frag) (B : Bs) (G : Hp) (v : V) : PyData → Prop
  | .list ds => ∃ a xs, v = .ref a ∧ Stands K B G (fun H => SqL K H a xs) ∧ RpA K G xs ds
  | .tuple ds => ∃ a xs, v = .ref a ∧ Stands K B G (fun H => SqT K H a xs) ∧ RpA K G xs ds
  | _ => True
theorem INV.stands {K : Frag} {B : Bs} {env : DEnv} {σ : St} {G H : Hp} (I : INV K B env σ G H) {v : V} {e : EV} {d : PyData} (r : VR K G σ v e) (h : walkable env e = some d) : StV K B G v d := by
  have ofR : ∀ {v : V} {d : PyData}, Rp K G v d → StV K B G v d := fun {v d} r => by
    cases r with
    | lst hs ha => exact ⟨_, _, rfl, fun _ _ _ _ I' S => I'.gh.seq (S.seq hs), ha⟩
    | tup hs ha => exact ⟨_, _, rfl, fun _ _ _ _ I' S => sameT I'.gh (sameT S hs), ha⟩
    | _ => trivial
  cases e with
  | val d' => cases h; exact ofR r
  | slot i =>
    have r : σ[i]? = some (some v) := r
    unfold walkable at h
    simp only at h
    cases q : env[i]? with
    | none => rw [q] at h; cases h
    | some s =>
      rw [q] at h
      cases s with
      | cl d' =>
        cases h
        obtain ⟨w, h1, x, h2, h3⟩ := I.sl i _ q
        rw [h1, h2] at r; cases r; exact ofR h3
      | pc d' =>
        cases h
        obtain ⟨w, h1, x, h2, h3⟩ := I.sl i _ q
        rw [h1, h2] at r; cases r; exact ofR h3
      | lw d' =>
        cases h
        obtain ⟨w, h1, p, h2, h3, h4⟩ := I.sl i _ q
        rw [h1, h2] at r; cases r
        have eσ : σ[i]? = some (some (.ref p)) := by rw [h1, h2]
        obtain ⟨b1, b2, b3⟩ := I.lw i p d q eσ
        cases d with
        | list ds =>
          obtain ⟨xs, rd, ra⟩ := h4
          refine ⟨p, xs, rfl, fun env' σ' G' H' I' S => .inl ?_, ra⟩
          cases qb : B.H p with
          | none => exact absurd qb b1
          | some o =>
            have e1 := I.h0 p o b3 qb
            have e2 := I'.h0 p o b3 qb
            exact rd_up rd (e2.trans e1.symm)
        | tuple ds => exact h4.elim
        | _ => trivial
      | _ => cases h
def mIterL (ma : DEnv → Out EV) : DEnv → Out (List PyData) := fun env => (ma env).bind fun x r => match walkable r x with
  | some (.list ds) => .ok ds r
  | some (.tuple ds) => .ok ds r
  | _ => .bad
def iSeq (K : Frag) (tl : TE) : TI := fun σ H R => tl σ H fun x H1 => ∃ a, x = .ref a ∧ (((∃ xs, SqL K H1 a xs) ∧ R (Itl K a) H1) ∨ ((∃ xs, SqT K H1 a xs) ∧ R (Itt K a) H1))
theorem pi_seq {l : Expr} {tl : TE} (hl : PE X l tl) : PI X tg l (iSeq X.K tl) := by
  refine ⟨fun pins s σ H R I h => ?_⟩
  refine thn (hl.run pins s σ H _ I h) fun v s1 ⟨x, H1, I1, r1, a, e, q⟩ => ?_
  subst e
  cases r1
  have fp : ∀ b ∈ [s1.heap.objs.size], FpOk X pins H1 b := fun b hb => by
    have e : b = s1.heap.objs.size := by simpa using hb
    subst e
    exact I1.fpOk (Nat.le_refl _) (I1.hok.fresh (Nat.le_refl _))
  rcases q with ⟨⟨xs, hq⟩, q⟩ | ⟨⟨xs, hq⟩, q⟩
  · obtain ⟨its, rv, p, hz⟩ := I1.list hq
    refine wpAny_pyIter_list p.isList ?_
    exact ⟨s1.heap.objs.size, [s1.heap.objs.size], _, _, H1, rfl, I1.kept (t' := s1.toks) fun b o e => Heap.get?_push_of_some _ e, turn_list a _, ⟨_, Heap.get?_push_size _ rfl, rfl, rfl⟩, fp, q⟩
  · obtain ⟨its, rv, p, hz⟩ := I1.tuple hq
    refine wpAny_pyIter_tuple (show s1.heap.IsTuple a its.toArray from p) ?_
    exact ⟨s1.heap.objs.size, [s1.heap.objs.size], _, _, H1, rfl, I1.kept (t' := s1.toks) fun b o e => Heap.get?_push_of_some _ e, turn_tuple a _, ⟨_, Heap.get?_push_size _ rfl, rfl, rfl⟩, fp, q⟩
theorem di_seq (h : DE X EK a ma) : DI X EK tg a (mIterL ma) := fun B =>
  PI.weak (pi_seq (h B)) fun σ H Q ⟨env, G, I, h⟩ => ⟨env, G, I, (PD.bind h).imp fun v H1 ⟨x, env1, G1, I1, _, r1, h1⟩ => by
    cases q : walkable env1 x with
    | none => simp only [q] at h1; exact h1.elim
    | some d =>
      have st := I1.stands r1 q
      cases d with
      | list ds =>
        simp only [q] at h1
        obtain ⟨p, xs, e, s1, s2⟩ := st
        exact ⟨p, e, .inl ⟨⟨xs, s1 env1 σ G1 H1 I1 (Same.refl _)⟩, h1 _ G1 H1 I1 (Same.refl _) (itok_list s1 s2)⟩⟩
      | tuple ds =>
        simp only [q] at h1
        obtain ⟨p, xs, e, s1, s2⟩ := st
        exact ⟨p, e, .inr ⟨⟨xs, s1 env1 σ G1 H1 I1 (Same.refl _)⟩, h1 _ G1 H1 I1 (Same.refl _) (itok_tup s1 s2)⟩⟩
      | _ => simp only [q] at h1; exact h1.elim⟩
end
end DL
namespace DL
open PySem L2 PySem.Spec
open PyProof.Rows hiding St
/-! ## range, enumerate, zip -/
def rangeD (lo : Int) (n : Nat) : List PyData := (List.range n).map fun i => .int (lo + (i : Nat))
section
variable {K : Frag} {B : Bs}
theorem itok_range {G0 : Hp} (lo : Int) (n : Nat) : ItOk K B (Itr lo n) G0 (rangeD lo n) := fun env σ G H I S i => by
  have hl : (rangeD lo n).length = n := by unfold rangeD; simp
  refine ⟨fun h => by rw [hl] at h; exact h, fun h => by rw [hl] at h; exact h, fun x H' h ⟨e1, e2⟩ => ?_⟩
  subst e1 e2
  rw [hl] at h
  exact ⟨G, .int (lo + (i : Nat)), .refl, by unfold rangeD; rw [List.getElem?_map, List.getElem?_range h]; rfl, .int _⟩
def pairD (x y : PyData) : PyData := .tuple [x, y]
def enumD (k : Nat) : List PyData → List PyData
  | [] => []
  | d :: ds => pairD (.int (k : Nat)) d :: enumD (k + 1) ds
theorem enumD_len : ∀ (ds : List PyData) (k : Nat), (enumD k ds).length = ds.length
  | [], _ => rfl
  | _ :: ds, k => congrArg Nat.succ (enumD_len ds (k + 1))
theorem enumD_get : ∀ (ds : List PyData) (k i : Nat) (d : PyData), ds[i]? = some d → (enumD k ds)[i]? = some (pairD (.int ((k + i : Nat))) d)
  | [], _, _, _, h => by simp at h
  | x :: ds, k, 0, d, h => by
    have h : x = d := by simpa using h
    subst h; rfl
  | x :: ds, k, i + 1, d, h => by
    have h : ds[i]? = some d := by simpa using h
    have := enumD_get ds (k + 1) i d h
    show (enumD (k + 1) ds)[i]? = _
    rw [this]
    have e : k + 1 + i = k + (i + 1) := by omega
    rw [e]
theorem itok_enum {p : Addr} {G0 : Hp} {ds : List PyData} {xs : List V} (h : Stands K B G0 fun H => SqL K H p xs) (r : RpA K G0 xs ds) : ItOk K B (Ite K p) G0 (enumD 0 ds) := fun env σ G H I S i => by
  have hx := h env σ G H I S
  rw [enumD_len]
  refine ⟨fun hl => ?_, fun hl => ⟨xs, hx, by rw [r.len]; exact hl⟩, fun x H' hl ⟨T, y, e1, n, e2, e3⟩ => ?_⟩
  · obtain ⟨v, hv, _⟩ := r.getD (List.getElem?_eq_getElem hl)
    exact ⟨xs, v, hx, hv⟩
  · subst e1 e2
    obtain ⟨d, hd, rd⟩ := r.get (e3 xs hx)
    have S2 : Same G (upd G T (.tup [.int (i : Nat), y])) := same_upd (I.fresh n).g
    refine ⟨upd G T (.tup [.int (i : Nat), y]), _, .alloc n .refl, enumD_get ds 0 i d hd, ?_⟩
    rw [Nat.zero_add]
    exact .tup (.inl (.inl upd_same)) (.cons (.int _) (.cons ((rd.up S).up S2) .nil))
def zipD : List PyData → List PyData → List PyData
  | x :: xs, y :: ys => pairD x y :: zipD xs ys
  | _, _ => []
theorem zipD_len : ∀ (xs ys : List PyData), (zipD xs ys).length = min xs.length ys.length
  | [], ys => by simp [zipD]
  | _ :: _, [] => by simp [zipD]
  | _ :: xs, _ :: ys => by simp [zipD, zipD_len xs ys]
theorem zipD_get : ∀ (xs ys : List PyData) (i : Nat) (x y : PyData), xs[i]? = some x → ys[i]? = some y → (zipD xs ys)[i]? = some (pairD x y)
  | [], _, _, _, _, h, _ => by simp at h
  | _ :: _, [], _, _, _, _, h => by simp at h
  | a :: xs, b :: ys, 0, x, y, h, h' => by
    have h : a = x := by simpa using h
    have h' : b = y := by simpa using h'
    subst h h'; rfl
  | a :: xs, b :: ys, i + 1, x, y, h, h' => zipD_get xs ys i x y (by simpa using h) (by simpa using h')
theorem itok_zipL {p q : Addr} {G0 : Hp} {ds es : List PyData} {xs ys : List V} (h : Stands K B G0 fun H => SqL K H p xs) (r : RpA K G0 xs ds) (h' : Stands K B G0 fun H => SqL K H q ys) (r' : RpA K G0 ys es) : ItOk K B (Itz K p q) G0 (zipD ds es) := fun env σ G H I S i => by
  have hx := h env σ G H I S
  have hy := h' env σ G H I S
  rw [zipD_len]
  refine ⟨fun hl => ?_, fun hl => ⟨xs, ys, hx, hy, by rw [r.len, r'.len]; omega⟩, fun x H' hl ⟨T, y, z, e1, n, e2, e3, e4⟩ => ?_⟩
  · obtain ⟨v, hv, _⟩ := r.getD (List.getElem?_eq_getElem (by omega : i < ds.length))
    obtain ⟨w, hw, _⟩ := r'.getD (List.getElem?_eq_getElem (by omega : i < es.length))
    exact ⟨xs, ys, v, w, hx, hy, hv, hw⟩
  · subst e1 e2
    obtain ⟨d, hd, rd⟩ := r.get (e3 xs hx)
    obtain ⟨d', hd', rd'⟩ := r'.get (e4 ys hy)
    have S2 : Same G (upd G T (.tup [y, z])) := same_upd (I.fresh n).g
    exact ⟨upd G T (.tup [y, z]), _, .alloc n .refl, zipD_get ds es i d d' hd hd', .tup (.inl (.inl upd_same)) (.cons ((rd.up S).up S2) (.cons ((rd'.up S).up S2) .nil))⟩
theorem itok_zipT {p q : Addr} {G0 : Hp} {ds es : List PyData} {xs ys : List V} (h : Stands K B G0 fun H => SqT K H p xs) (r : RpA K G0 xs ds) (h' : Stands K B G0 fun H => SqT K H q ys) (r' : RpA K G0 ys es) : ItOk K B (RZ.ItzT K p q) G0 (zipD ds es) := fun env σ G H I S i => by
  have hx := h env σ G H I S
  have hy := h' env σ G H I S
  rw [zipD_len]
  refine ⟨fun hl => ?_, fun hl => ⟨xs, ys, hx, hy, by rw [r.len, r'.len]; omega⟩, fun x H' hl ⟨T, y, z, e1, n, e2, e3, e4⟩ => ?_⟩
  · obtain ⟨v, hv, _⟩ := r.getD (List.getElem?_eq_getElem (by omega : i < ds.length))
    obtain ⟨w, hw, _⟩ := r'.getD (List.getElem?_eq_getElem (by omega : i < es.length))
    exact ⟨xs, ys, v, w, hx, hy, hv, hw⟩
  · subst e1 e2
    obtain ⟨d, hd, rd⟩ := r.get (e3 xs hx)
    obtain ⟨d', hd', rd'⟩ := r'.get (e4 ys hy)
    have S2 : Same G (upd G T (.tup [y, z])) := same_upd (I.fresh n).g
    exact ⟨upd G T (.tup [y, z]), _, .alloc n .refl, zipD_get ds es i d d' hd hd', .tup (.inl (.inl upd_same)) (.cons ((rd.up S).up S2) (.cons ((rd'.up S).up S2) .nil))⟩
end
section
variable {X : Cx} {EK : XK} {a b c e tg iter : Expr} {pos p : Pos} {ma mb : DEnv → Out EV} {mr : DEnv → Out (List EV)}
def dats (env : DEnv) : List EV → Option (List PyData)
  | [] => some []
  | e :: es => match dat env e, dats env es with
    | some d, some ds => some (d :: ds)
    | _, _ => none
def Views (K : Frag) (G H : Hp) : List V → List PyData → Prop
  | [], [] => True
  | v :: vs, d :: ds => View K G H v d ∧ Views K G H vs ds
  | _, _ => False
theorem INV.views {K : Frag} {B : Bs} {env : DEnv} {σ : St} {G H : Hp} (I : INV K B env σ G H) : ∀ {vs : List V} {es : List EV} {ds : List PyData}, Paired (fun v e => VR K G σ v e) vs es → dats env es = some ds → Views K G H vs ds
  | _, _, _, .nil, h => by cases h; trivial
  | _, _, _, .cons r rs, h => by
    unfold dats at h
    split at h
    · rename_i d ds h1 h2
      cases h
      exact ⟨I.view r h1, INV.views I rs h2⟩
    · cases h
def mRange1 (mr : DEnv → Out (List EV)) : DEnv → Out (List PyData) := fun env => (mr env).bind fun xs r => match dats r xs with
  | some [.int j] => if -(2 ^ 62) ≤ j ∧ j < 2 ^ 62 then .ok (rangeD 0 j.toNat) r else .bad
  | _ => .bad
def mRange2 (mr : DEnv → Out (List EV)) : DEnv → Out (List PyData) := fun env => (mr env).bind fun xs r => match dats r xs with
  | some [.int i, .int j] => if -(2 ^ 62) ≤ i ∧ i < 2 ^ 62 ∧ -(2 ^ 62) ≤ j ∧ j < 2 ^ 62 then .ok (rangeD i (j - i).toNat) r else .bad
  | _ => .bad
theorem views1 {K : Frag} {G H : Hp} {vs : List V} {d : PyData} (h : Views K G H vs [d]) : ∃ v, vs = [v] ∧ View K G H v d := by
  match vs, h with
  | [v], h => exact ⟨v, rfl, h.1⟩
theorem views2 {K : Frag} {G H : Hp} {vs : List V} {d d' : PyData} (h : Views K G H vs [d, d']) : ∃ v v', vs = [v, v'] ∧ View K G H v d ∧ View K G H v' d' := by
  match vs, h with
  | [v, v'], h => exact ⟨v, v', rfl, h.1, h.2.1⟩
theorem di_range1 (hm : X.mg "range" = none) (ha : DA X EK [a] mr) (hg : Gl X "range" := by rfl) (hs : starEach [a] X.env = [(false, eval a X.env)] := by rfl) : DI X EK tg (.Call (.Name "range" p) [a] [] pos) (mRange1 mr) := fun B =>
  PI.weak (pi_range1 hg hm (ha B) hs) fun σ H Q ⟨env, G, I, h⟩ => ⟨env, G, I, (PD.bind h).imp fun vs H1 ⟨xs, env1, G1, I1, _, r1, h1⟩ => by
    split at h1
    · rename_i j q
      obtain ⟨v, rfl, vj⟩ := views1 (I1.views r1 q)
      have vj : v = .int j := vj
      subst vj
      by_cases hj : -(2 ^ 62) ≤ j ∧ j < 2 ^ 62
      · rw [if_pos hj] at h1; exact ⟨j, rfl, hj.1, hj.2, h1 _ G1 H1 I1 (Same.refl _) (itok_range 0 j.toNat)⟩
      · rw [if_neg hj] at h1; exact h1.elim
    · exact h1.elim⟩
theorem di_range2 (hm : X.mg "range" = none) (ha : DA X EK [a, b] mr) (hg : Gl X "range" := by rfl) (hs : starEach [a, b] X.env = [(false, eval a X.env), (false, eval b X.env)] := by rfl) (hs2 : starEach [b] X.env = [(false, eval b X.env)] := by rfl) :
    DI X EK tg (.Call (.Name "range" p) [a, b] [] pos) (mRange2 mr) := fun B =>
  PI.weak (pi_range2 hg hm (ha B) hs hs2) fun σ H Q ⟨env, G, I, h⟩ => ⟨env, G, I, (PD.bind h).imp fun vs H1 ⟨xs, env1, G1, I1, _, r1, h1⟩ => by
    split at h1
    · rename_i i j q
      obtain ⟨v, w, rfl, vi, vj⟩ := views2 (I1.views r1 q)
      have vi : v = .int i := vi
      have vj : w = .int j := vj
      subst vi vj
      by_cases hj : -(2 ^ 62) ≤ i ∧ i < 2 ^ 62 ∧ -(2 ^ 62) ≤ j ∧ j < 2 ^ 62
      · rw [if_pos hj] at h1; exact ⟨i, j, rfl, hj, h1 _ G1 H1 I1 (Same.refl _) (itok_range i (j - i).toNat)⟩
      · rw [if_neg hj] at h1; exact h1.elim
    · exact h1.elim⟩
def walks (env : DEnv) : List EV → Option (List PyData)
  | [] => some []
  | e :: es => match walkable env e, walks env es with
    | some d, some ds => some (d :: ds)
    | _, _ => none
def mEnum (mr : DEnv → Out (List EV)) : DEnv → Out (List PyData) := fun env => (mr env).bind fun xs r => match walks r xs with
  | some [.list ds] => .ok (enumD 0 ds) r
  | _ => .bad
theorem walks1 {env : DEnv} {xs : List EV} {d : PyData} (h : walks env xs = some [d]) : ∃ x, xs = [x] ∧ walkable env x = some d := by
  match xs, h with
  | [x], h =>
    unfold walks at h
    split at h
    · rename_i d' ds h1 h2
      cases h
      exact ⟨x, rfl, h1⟩
    · cases h
  | [], h => cases h
  | x :: y :: ys, h =>
    unfold walks at h
    split at h
    · rename_i d' ds h1 h2
      cases h
      unfold walks at h2
      split at h2 <;> cases h2
    · cases h
theorem walks2 {env : DEnv} {xs : List EV} {d d' : PyData} (h : walks env xs = some [d, d']) : ∃ x y, xs = [x, y] ∧ walkable env x = some d ∧ walkable env y = some d' := by
  match xs, h with
  | [], h => cases h
  | x :: xs, h =>
    unfold walks at h
    split at h
    · rename_i e ds h1 h2
      cases h
      obtain ⟨y, rfl, h3⟩ := walks1 h2
      exact ⟨x, y, rfl, h1, h3⟩
    · cases h
theorem di_enum {tpos : Pos} {elts : List Expr} {kk : Nat} (hm : X.mg "enumerate" = none) (ha : DA X EK [a] mr) (hg : Gl X "enumerate" := by rfl) (hs : starEach [a] X.env = [(false, eval a X.env)] := by rfl) :
    DI X EK (.Tuple elts kk tpos) (.Call (.Name "enumerate" p) [a] [] pos) (mEnum mr) := fun B =>
  PI.weak (pi_enum hg hm (ha B) hs) fun σ H Q ⟨env, G, I, h⟩ => ⟨env, G, I, (PD.bind h).imp fun vs H1 ⟨xs, env1, G1, I1, _, r1, h1⟩ => by
    split at h1
    · rename_i ds q
      obtain ⟨x, rfl, hw⟩ := walks1 q
      cases r1 with
      | cons r rr =>
        cases rr
        obtain ⟨p', ys, rfl, s1, s2⟩ := I1.stands r hw
        exact ⟨p', ys, rfl, s1 env1 σ G1 H1 I1 (Same.refl _), h1 _ G1 H1 I1 (Same.refl _) (itok_enum s1 s2)⟩
    · exact h1.elim⟩
def mZip (mr : DEnv → Out (List EV)) : DEnv → Out (List PyData) := fun env => (mr env).bind fun xs r => match walks r xs with
  | some [.list ds, .list es] => .ok (zipD ds es) r
  | some [.tuple ds, .tuple es] => .ok (zipD ds es) r
  | _ => .bad
theorem di_zip {tpos : Pos} {elts : List Expr} {kk : Nat} (hm : X.mg "zip" = none) (ha : DA X EK [a, b] mr) (hg : Gl X "zip" := by rfl) (hs : starEach [a, b] X.env = (false, eval a X.env) :: starEach [b] X.env := by rfl) (hpl : (backTo pos (starEach [b] X.env)).any (·.1) = false := by rfl) :
    DI X EK (.Tuple elts kk tpos) (.Call (.Name "zip" p) [a, b] [] pos) (mZip mr) := fun B =>
  PI.weak (RZ.pi_zipA hg hm (ha B) hs hpl) fun σ H Q ⟨env, G, I, h⟩ => ⟨env, G, I, (PD.bind h).imp fun vs H1 ⟨xs, env1, G1, I1, _, r1, h1⟩ => by
    split at h1
    · rename_i ds es q
      obtain ⟨x, y, rfl, hw, hw'⟩ := walks2 q
      cases r1 with
      | cons r rr =>
        cases rr with
        | cons r' rr =>
          cases rr
          obtain ⟨p1, ys, rfl, s1, s2⟩ := I1.stands r hw
          obtain ⟨p2, zs, rfl, t1, t2⟩ := I1.stands r' hw'
          exact ⟨p1, p2, ys, zs, rfl, .inl ⟨s1 env1 σ G1 H1 I1 (Same.refl _), t1 env1 σ G1 H1 I1 (Same.refl _), h1 _ G1 H1 I1 (Same.refl _) (itok_zipL s1 s2 t1 t2)⟩⟩
    · rename_i ds es q
      obtain ⟨x, y, rfl, hw, hw'⟩ := walks2 q
      cases r1 with
      | cons r rr =>
        cases rr with
        | cons r' rr =>
          cases rr
          obtain ⟨p1, ys, rfl, s1, s2⟩ := I1.stands r hw
          obtain ⟨p2, zs, rfl, t1, t2⟩ := I1.stands r' hw'
          exact ⟨p1, p2, ys, zs, rfl, .inr ⟨s1 env1 σ G1 H1 I1 (Same.refl _), t1 env1 σ G1 H1 I1 (Same.refl _), h1 _ G1 H1 I1 (Same.refl _) (itok_zipT s1 s2 t1 t2)⟩⟩
    · exact h1.elim⟩
end
end DL
namespace DL
open PySem L2 PySem.Spec
open PyProof.Rows hiding St
/-! ## list comprehensions -/
theorem wipe_get (σ : St) : ∀ (vs : List Nat) (j : Nat), (wipe σ vs)[j]? = if j ∈ vs then (if j < σ.length then some none else none) else σ[j]?
  | [], j => by simp [wipe]
  | v :: vs, j => by
    unfold wipe
    have ih := wipe_get σ vs j
    by_cases e : v = j
    · subst e
      rw [if_pos List.mem_cons_self]
      by_cases hl : v < σ.length
      · rw [if_pos hl, List.getElem?_set_self (by rw [wipe_length]; exact hl)]
      · rw [if_neg hl, List.getElem?_eq_none (by rw [List.length_set, wipe_length]; omega)]
    · rw [List.getElem?_set_ne e, ih]
      have : (j ∈ v :: vs) ↔ j ∈ vs := by simp [Ne.symm e]
      simp only [this]
theorem wipe_of {σ σ' : St} {vs : List Nat} (hl : σ'.length = σ.length) (h : ∀ j, j ∉ vs → σ'[j]? = σ[j]?) : wipe σ' vs = wipe σ vs := by
  apply List.ext_getElem?
  intro j
  rw [wipe_get, wipe_get, hl]
  by_cases hj : j ∈ vs
  · rw [if_pos hj, if_pos hj]
  · rw [if_neg hj, if_neg hj, h j hj]
theorem wipe_wipe (σ : St) (vs : List Nat) : wipe (wipe σ vs) vs = wipe σ vs :=
  wipe_of (wipe_length σ vs) fun j hj => by rw [wipe_get, if_neg hj]
def wipeE (env : DEnv) : List Nat → DEnv
  | [] => env
  | v :: vs => (wipeE env vs).set v .un
def okAll (env : DEnv) : List Nat → Bool
  | [] => true
  | v :: vs => asgOk env v && okAll env vs
theorem wipeE_ok {env : DEnv} {i : Nat} (h : asgOk env i = true) : ∀ vs : List Nat, asgOk (wipeE env vs) i = true
  | [] => h
  | v :: vs => by
    have ih := wipeE_ok h vs
    show asgOk ((wipeE env vs).set v .un) i = true
    by_cases e : v = i
    · subst e
      unfold asgOk
      rw [List.getElem?_set_self (asgOk.lt ih)]
    · unfold asgOk at ih ⊢
      rw [List.getElem?_set_ne e]; exact ih
section
variable {K : Frag} {B : Bs} {env : DEnv} {σ : St} {G H : Hp}
theorem INV.wipe (I : INV K B env σ G H) : ∀ (vs : List Nat), okAll env vs = true → INV K B (wipeE env vs) (L2.wipe σ vs) G H
  | [], _ => I
  | v :: vs, h => by
    unfold okAll at h
    rw [Bool.and_eq_true] at h
    have ih := INV.wipe I vs h.2
    exact ih.set (wipeE_ok h.1 vs) (s := .un) (v := none) trivial (fun _ z => by cases z) (fun _ z => by cases z) (fun z => by cases z)
def keepS : Option Sl → Sl
  | some (.cl d) => .cl d
  | _ => .un
def restoreE (env env2 : DEnv) : List Nat → DEnv
  | [] => env2
  | v :: vs => (restoreE env env2 vs).set v (keepS env[v]?)
def unwipe (σ τ : St) : List Nat → St
  | [] => τ
  | v :: vs => (unwipe σ τ vs).set v (σ[v]?.getD none)
theorem unwipe_len (σ τ : St) : ∀ vs : List Nat, (unwipe σ τ vs).length = τ.length
  | [] => rfl
  | v :: vs => by show ((unwipe σ τ vs).set v _).length = _; rw [List.length_set]; exact unwipe_len σ τ vs
theorem unwipe_get (σ τ : St) (hl : τ.length = σ.length) : ∀ (vs : List Nat) (j : Nat), (unwipe σ τ vs)[j]? = if j ∈ vs then σ[j]? else τ[j]?
  | [], j => by simp [unwipe]
  | v :: vs, j => by
    show ((unwipe σ τ vs).set v _)[j]? = _
    have ih := unwipe_get σ τ hl vs j
    by_cases e : v = j
    · subst e
      rw [if_pos List.mem_cons_self]
      by_cases h : v < σ.length
      · rw [List.getElem?_set_self (by rw [unwipe_len, hl]; exact h), List.getElem?_eq_getElem h]; rfl
      · rw [List.getElem?_eq_none (by rw [List.length_set, unwipe_len, hl]; omega), List.getElem?_eq_none (by omega)]
    · rw [List.getElem?_set_ne e, ih]
      have : (j ∈ v :: vs) ↔ j ∈ vs := by simp [Ne.symm e]
      simp only [this]
theorem unwipe_wipe (σ : St) (vs : List Nat) : unwipe σ (L2.wipe σ vs) vs = σ := by
  apply List.ext_getElem?
  intro j
  rw [unwipe_get σ _ (wipe_length σ vs), wipe_get]
  by_cases hj : j ∈ vs
  · rw [if_pos hj]
  · rw [if_neg hj, if_neg hj]
theorem restore_ok {env env2 : DEnv} {i : Nat} (h : asgOk env2 i = true) : ∀ vs : List Nat, asgOk (restoreE env env2 vs) i = true
  | [] => h
  | v :: vs => by
    have ih := restore_ok (env := env) h vs
    show asgOk ((restoreE env env2 vs).set v _) i = true
    by_cases e : v = i
    · subst e
      unfold asgOk
      rw [List.getElem?_set_self (asgOk.lt ih)]
      unfold keepS
      split <;> (rename_i q; split at q <;> cases q) <;> rfl
    · unfold asgOk at ih ⊢
      rw [List.getElem?_set_ne e]; exact ih
theorem INV.restore {env2 : DEnv} {τ : St} {G2 H2 : Hp} (I : INV K B env σ G H) (J : INV K B env2 τ G2 H2) (S : Same G G2) : ∀ (vs : List Nat), okAll env2 vs = true → INV K B (restoreE env env2 vs) (unwipe σ τ vs) G2 H2
  | [], _ => J
  | v :: vs, h => by
    unfold okAll at h
    rw [Bool.and_eq_true] at h
    have ih := INV.restore I J S vs h.2
    have hs : SlR K G2 H2 (σ[v]?.getD none) (keepS env[v]?) := by
      cases q : env[v]? with
      | none => trivial
      | some s =>
        cases s with
        | cl d =>
          obtain ⟨w, h1, x, h2, h3⟩ := I.sl v _ q
          rw [h1]
          exact ⟨x, h2, h3.up S⟩
        | _ => trivial
    refine ih.set (restore_ok h.1 vs) hs (fun d z => ?_) (fun d z => ?_) (fun z => ?_)
    all_goals
      unfold keepS at z
      split at z <;> cases z
theorem restore_fresh {env2 : DEnv} {τ : St} {p : Addr} (f : Fresh B env2 τ G H p) (hl : τ.length = env2.length) : ∀ (vs : List Nat), Fresh B (restoreE env env2 vs) (unwipe σ τ vs) G H p
  | [] => f
  | v :: vs => by
    have ih := restore_fresh f hl vs
    refine ⟨f.g, fun j s e ho => ?_, f.b, f.n, f.t⟩
    rcases get_set e with ⟨rfl, e2⟩ | ⟨ne, e⟩
    · subst e2
      unfold keepS at ho
      split at ho <;> cases ho
    · show ((unwipe σ τ vs).set v _)[j]? ≠ _
      rw [List.getElem?_set_ne ne]
      exact ih.s j s e ho
end
/-- the turns of a comprehension: the items so far, the slots behind -/
def lcM (vs : List Nat) (g : GM) (mt : DEnv → Out Bool) (me : DEnv → Out EV) : List PyData → DEnv → List PyData → Option (List PyData × DEnv)
  | [], r, acc => some (acc, r)
  | d :: ds, r, acc => match g d r with
    | none => none
    | some r1 => match mt r1 with
      | .ok false r2 => if okAll r2 vs = true then lcM vs g mt me ds (wipeE r2 vs) acc else none
      | .ok true r2 => (match me r2 with
        | .ok x r3 => (match cln r3 x with
          | some y => if okAll r3 vs = true then lcM vs g mt me ds (wipeE r3 vs) (acc ++ [y]) else none
          | none => none)
        | _ => none)
      | _ => none
def mLcF (vs : List Nat) (mi : DEnv → Out (List PyData)) (g : GM) (mt : DEnv → Out Bool) (me : DEnv → Out EV) : DEnv → Out PyData := fun env => (mi env).bind fun ds r =>
  if ds.length ≤ 1000000 ∧ okAll r vs = true then (match lcM vs g mt me ds (wipeE r vs) [] with
    | some (xs, r2) => if okAll r2 vs = true then .ok (.list xs) (restoreE r r2 vs) else .bad
    | none => .bad) else .bad
abbrev E0' : XK := fun _ _ _ => False
abbrev DTs (X : Cx) (EK : XK) (es : List Expr) (m : DEnv → Out Bool) : Prop := ∀ B : Bs, PTs X es (tT X.K X.mg B EK m)
def mYes : DEnv → Out Bool := fun env => .ok true env
section
variable {X : Cx} {EK : XK} {e tg iter elt : Expr} {ifs : List Expr} {pos : Pos}
theorem PTs.weak {es : List Expr} {t t' : TT} (h : PTs X es t) (w : ∀ σ H Q, t' σ H Q → t σ H Q) : PTs X es t' := ⟨fun pins s σ H Q I q => h.run pins s σ H Q I (w σ H Q q)⟩
theorem dts_nil : DTs X EK [] mYes := fun B => PTs.weak pts_nil fun σ H Q ⟨env, G, I, h⟩ => h true G H I (Same.refl _) rfl
theorem dts_one {c : Expr} {m : DEnv → Out Bool} (h : DT X EK c m) : DTs X EK [c] m := fun B => pts_one (h B)
theorem PTs.exB {es : List Expr} {t : Bs → TT} (h : ∀ B, PTs X es (t B)) : PTs X es (fun σ H Q => ∃ B, t B σ H Q) := ⟨fun pins s σ H Q I ⟨B, q⟩ => (h B).run pins s σ H Q I q⟩
theorem PG.exB {tg : Expr} {t : Bs → TG} (h : ∀ B, PG X tg (t B)) : PG X tg (fun v σ H Q => ∃ B, t B v σ H Q) := ⟨fun pins s σ H v u Q I r ⟨B, q⟩ => (h B).run pins s σ H v u Q I r q⟩
abbrev Blk (X : Cx) (scope : Scope) (s : Shared) (H : Hp) (C : Addr) (cl : List (Str × Addr)) (fp : List Addr) : Cx := X.blk s H scope (compEnvC scope cl C X.env) fp
theorem lc_w {vs ns : List Nat} {mi : DEnv → Out (List PyData)} {g : GM} {mt : DEnv → Out Bool} {me : DEnv → Out EV} (hn : ∀ j ∈ ns, j ∈ vs) (B : Bs) {σ : St} {H : Hp} {Q : VK} (hq0 : tF X.K X.mg B EK (mLcF vs mi g mt me) σ H Q) :
    tLc (tI X.K X.mg B EK mi) (fun v σ H Q => ∃ B, tGd X.K B g ns v σ H Q) (fun σ H Q => ∃ B, tT X.K X.mg B E0' mt σ H Q) (fun σ H Q => ∃ B, tD X.K X.mg B E0' me σ H Q) vs σ H Q := by
  obtain ⟨env, G, I, h⟩ := hq0
  refine ⟨env, G, I, (PD.bind h).imp fun J H1 ⟨ds, r, G1, I1, _, hJ, h1⟩ => ?_⟩
  intro D nD
  by_cases c : ds.length ≤ 1000000 ∧ okAll r vs = true
  case neg => rw [if_neg c] at h1; exact h1.elim
  rw [if_pos c] at h1
  cases q : lcM vs g mt me ds (wipeE r vs) [] with
  | none => simp only [q] at h1; exact h1.elim
  | some res =>
    obtain ⟨xs, r2⟩ := res
    simp only [q] at h1
    by_cases c2 : okAll r2 vs = true
    case neg => rw [if_neg c2] at h1; exact h1.elim
    rw [if_pos c2] at h1
    refine ⟨fun i m' H' => m' = ds.length - i ∧ i ≤ ds.length ∧ ∃ env' G' acc, INV X.K (B.push D (.list acc)) env' (wipe σ vs) G' H' ∧ Same G1 G' ∧ acc.length ≤ i ∧ lcM vs g mt me (ds.drop i) env' acc = some (xs, r2), ⟨ds.length, by simp, Nat.zero_le _, wipeE r vs, G1, [], ?_, Same.refl _, Nat.le_refl _, q⟩, ?_⟩
    · have I2 := I1.wipe vs c.2
      exact (I2.tmp nD).push (I2.fresh nD).any ⟨[], upd_same, .nil⟩
    · rintro i m' H' ⟨rfl, hi, env', G', acc, I', S', ha, hq⟩
      obtain ⟨Ip, fp, ⟨zs, hz, rz⟩⟩ := I'.pop
      obtain ⟨j1, j2, j3⟩ := hJ env' (wipe σ vs) G' H' Ip S' i
      by_cases hlt : i < ds.length
      · refine .inr ⟨j1 hlt, fun H2 => ∃ env2 G2 acc2, INV X.K (B.push D (.list acc2)) env2 (wipe σ vs) G2 H2 ∧ Same G1 G2 ∧ acc2.length ≤ i + 1 ∧ lcM vs g mt me (ds.drop (i + 1)) env2 acc2 = some (xs, r2), fun H2 ⟨env2, G2, acc2, I2, S2, a2, q2⟩ => ⟨ds.length - (i + 1), by omega, rfl, hlt, env2, G2, acc2, I2, S2, a2, q2⟩, fun x H2 y => ?_⟩
        obtain ⟨G2, d, stp, hd, rd⟩ := j3 x H2 hlt y
        obtain ⟨I2, S2⟩ := INV.stp stp I'
        rw [List.drop_eq_getElem_cons hlt] at hq
        have ed : ds[i] = d := by rw [List.getElem?_eq_getElem hlt] at hd; exact Option.some.inj hd
        rw [ed] at hq
        unfold lcM at hq
        cases qg : g d env' with
        | none => simp only [qg] at hq; cases hq
        | some r1 =>
          simp only [qg] at hq
          refine ⟨B.push D (.list acc), env', G2, d, r1, I2, rd, qg, fun σ3 G3 H3 I3 S3 A3 => ⟨?_, B.push D (.list acc), r1, G3, I3, ?_⟩⟩
          · rw [← wipe_wipe σ vs]
            exact wipe_of A3.1 fun j hj => A3.2 j fun z => hj (hn j z)
          · have w3 : wipe σ3 vs = wipe σ vs := by
              rw [← wipe_wipe σ vs]
              exact wipe_of A3.1 fun j hj => A3.2 j fun z => hj (hn j z)
            have S13 : Same G1 G3 := (S'.trans S2).trans S3
            cases qt : mt r1 with
            | bad => simp only [qt] at hq; cases hq
            | ex ce re => simp only [qt] at hq; cases hq
            | ok b r2' =>
              intro w G4 H4 I4 S4 eb
              have eb : w = b := eb
              subst eb
              cases w with
              | false =>
                simp only [qt] at hq
                by_cases c3 : okAll r2' vs = true
                case neg => rw [if_neg c3] at hq; cases hq
                rw [if_pos c3] at hq
                refine iteF ?_
                have I5 := I4.wipe vs c3
                rw [w3] at I5
                exact ⟨wipeE r2' vs, G4, acc, I5, S13.trans S4, by omega, hq⟩
              | true =>
                simp only [qt] at hq
                refine iteT ⟨B.push D (.list acc), r2', G4, I4, ?_⟩
                cases qe : me r2' with
                | bad => simp only [qe] at hq; cases hq
                | ex ce re => simp only [qe] at hq; cases hq
                | ok ev r3 =>
                  intro v G5 H5 I5 S5 rv
                  simp only [qe] at hq
                  cases qc : cln r3 ev with
                  | none => simp only [qc] at hq; cases hq
                  | some y' =>
                    simp only [qc] at hq
                    by_cases c3 : okAll r3 vs = true
                    case neg => rw [if_neg c3] at hq; cases hq
                    rw [if_pos c3] at hq
                    have ry := I5.cln rv qc
                    have I6 := I5.wipe vs c3
                    rw [w3] at I6
                    obtain ⟨I7, f7, ⟨zs7, hz7, rz7⟩⟩ := I6.pop
                    have l7 : zs7.length = acc.length := rz7.len
                    refine ⟨zs7, hz7, ?_, wipeE r3 vs, G5, acc ++ [y'], ?_, (S13.trans S4).trans S5, by rw [List.length_append]; simp; omega, hq⟩
                    · have : (1000000 : Nat) < sizeLine := by decide
                      omega
                    · exact (I7.touch f7).push f7.any ⟨zs7 ++ [v], upd_same, rz7.append (.cons ry .nil)⟩
      · have e : i = ds.length := by omega
        subst e
        rw [List.drop_length] at hq
        have hq : some (acc, env') = some (xs, r2) := hq
        cases hq
        refine .inl ⟨j2 (Nat.le_refl _), ?_⟩
        have J2 := INV.restore I1 Ip S' vs c2
        rw [unwipe_wipe] at J2
        have f2 : Fresh B (restoreE r r2 vs) (unwipe σ (wipe σ vs) vs) G' H' D := restore_fresh fp Ip.len vs
        rw [unwipe_wipe] at f2
        exact h1 _ G' H' J2 S' ⟨D, rfl, f2, zs, hz, rz⟩
theorem df_lc {scope : Scope} {vs ns : List Nat} {mi : DEnv → Out (List PyData)} {g : GM} {mt : DEnv → Out Bool} {me : DEnv → Out EV}
    (hp : ∀ {wi : TI} {g' : TG} {tt : TT} {te : TE}, PI X tg iter wi → (∀ s H C cl fp, PG (Blk X scope s H C cl fp) tg g') → (∀ s H C cl fp, PTs (Blk X scope s H C cl fp) ifs tt) → (∀ s H C cl fp, PE (Blk X scope s H C cl fp) elt te) → PE X e (tLc wi g' tt te vs))
    (hi : DI X EK tg iter mi) (hg : ∀ s H C cl fp, DG (Blk X scope s H C cl fp) tg g ns) (hn : ∀ j ∈ ns, j ∈ vs) (ht : ∀ s H C cl fp, DTs (Blk X scope s H C cl fp) E0' ifs mt) (he : ∀ s H C cl fp, DE (Blk X scope s H C cl fp) E0' elt me) :
    DF X EK e (mLcF vs mi g mt me) := fun B =>
  PE.weak (hp (hi B) (fun s H C cl fp => PG.exB (hg s H C cl fp)) (fun s H C cl fp => PTs.exB (ht s H C cl fp)) (fun s H C cl fp => PE.exB (he s H C cl fp))) fun σ H Q h => lc_w hn B h
end
end DL
namespace DL
open PySem L2 PySem.Spec
open PyProof.Rows hiding St
/-! ## calls of defs -/
inductive FOut where
  | bad
  | ok (d : PyData) (fr : Bool) (as : List Sl)
  | ex (c : Exc) (as : List Sl)
abbrev FnM := List Sl → FOut
def Sl.argK : Sl → Bool
  | .cl _ => true
  | .ow _ => true
  | .lw _ => true
  | _ => false
/-- b is no argument that the callee may change -/
def NotMut (vs : List V) (as : List Sl) (b : Addr) : Prop := ∀ (i : Nat) (d : PyData), as[i]? = some (.ow d) → vs[i]? ≠ some (.ref b)
structure ARG (K : Frag) (G H : Hp) (vs : List V) (as : List Sl) : Prop where
  len : vs.length = as.length
  gh : Same G H
  rl : ∀ (i : Nat) (s : Sl), as[i]? = some s → s.argK = true ∧ ∃ v, vs[i]? = some v ∧ SlR K G H (some v) s
  nd : ∀ (i j : Nat) (p : Addr) (s t : Sl), as[i]? = some s → as[j]? = some t → s.mut = true → t.isO = true → vs[i]? = some (.ref p) → vs[j]? = some (.ref p) → i = j
structure POST (K : Frag) (G H : Hp) (vs : List V) (as : List Sl) (G' H' : Hp) (as' : List Sl) : Prop where
  len : as'.length = as.length
  g : Same G G'
  gh : Same G' H'
  h : ∀ b o, H b = some o → NotMut vs as b → H' b = some o
  fr : ∀ b, G b = none → H b ≠ none → NotMut vs as b → G' b = none
  up : ∀ (i : Nat) (d : PyData), as[i]? = some (.ow d) → ∃ s' p, as'[i]? = some s' ∧ vs[i]? = some (.ref p) ∧ SlR K G' H' (some (.ref p)) s' ∧ H' p ≠ none ∧ ∃ d', s' = .ow d' ∨ s' = .cl d'
def RES (K : Frag) (H : Hp) (G' H' : Hp) (v : V) (d : PyData) : Bool → Prop
  | true => ∃ p, v = .ref p ∧ H p = none ∧ G' p = none ∧ Ow K G' H' p d
  | false => Rp K G' v d
/-- the promise of a def -/
def spD (K : Frag) (mg : Str → Option Value) (mf : FnM) : Sp := fun vs H Q E => ∃ G as, ARG K G H vs as ∧ match mf as with
  | .bad => False
  | .ok d fr as' => ∀ v G' H', POST K G H vs as G' H' as' → RES K H G' H' v d fr → Q v H'
  | .ex c as' => ∀ cls d G' H', POST K G H vs as G' H' as' → XR K mg G' c cls d H' → E cls d H'
/-! ### the callee's side -/
def ent : Sl → Sl
  | .ow d => .pw d
  | s => s
def entry (as : List Sl) (n : Nat) : DEnv := as.map ent ++ List.replicate (n - as.length) .un
def outS (s : Sl) (t : Option Sl) : Sl := match s with
  | .ow _ => (match t with
    | some (.pw d) => .ow d
    | some (.pc d) => .cl d
    | _ => .un)
  | s => s
def outs (as : List Sl) (r : DEnv) : List Sl := as.mapIdx fun i s => outS s r[i]?
def mDef (n : Nat) (body : DEnv → SOut) : FnM := fun as => match body (entry as n) with
  | .rt d fr r => .ok d fr (outs as r)
  | .nx r => .ok .none false (outs as r)
  | .ex c r => .ex c (outs as r)
  | _ => .bad
def pOf : Nat → List V → List Sl → List (Nat × Addr)
  | k, .ref p :: vs, .ow _ :: as => (k, p) :: pOf (k + 1) vs as
  | k, _ :: vs, _ :: as => pOf (k + 1) vs as
  | _, _, _ => []
theorem pOf_mem : ∀ (k : Nat) (vs : List V) (as : List Sl) (j : Nat) (p : Addr), (j, p) ∈ pOf k vs as ↔ ∃ i d, j = k + i ∧ vs[i]? = some (.ref p) ∧ as[i]? = some (.ow d)
  | k, [], as, j, p => by
    constructor
    · intro h; cases as <;> cases h
    · rintro ⟨i, d, _, h, _⟩; simp at h
  | k, v :: vs, [], j, p => by
    constructor
    · intro h; cases v <;> cases h
    · rintro ⟨i, d, _, _, h⟩; simp at h
  | k, v :: vs, a :: as, j, p => by
    have ih := pOf_mem (k + 1) vs as j p
    have shift : (∃ i d, j = k + 1 + i ∧ vs[i]? = some (.ref p) ∧ as[i]? = some (.ow d)) ↔ ∃ i d, j = k + (i + 1) ∧ (v :: vs)[i + 1]? = some (.ref p) ∧ (a :: as)[i + 1]? = some (Sl.ow d) := by
      constructor
      · rintro ⟨i, d, e, h1, h2⟩; exact ⟨i, d, by omega, by simpa using h1, by simpa using h2⟩
      · rintro ⟨i, d, e, h1, h2⟩; exact ⟨i, d, by omega, by simpa using h1, by simpa using h2⟩
    have other : (∀ q d, v = .ref q → a = .ow d → False) → (pOf k (v :: vs) (a :: as) = pOf (k + 1) vs as) := fun hno => by
      cases v <;> first | rfl | (cases a <;> first | rfl | exact (hno _ _ rfl rfl).elim)
    by_cases hc : ∃ q d, v = .ref q ∧ a = .ow d
    · obtain ⟨q, d0, rfl, rfl⟩ := hc
      show (j, p) ∈ (k, q) :: pOf (k + 1) vs as ↔ _
      rw [List.mem_cons, ih, shift]
      constructor
      · rintro (h | ⟨i, d, e, h1, h2⟩)
        · cases h; exact ⟨0, d0, rfl, rfl, rfl⟩
        · exact ⟨i + 1, d, e, h1, h2⟩
      · rintro ⟨i, d, e, h1, h2⟩
        cases i with
        | zero =>
          left
          have h1 : V.ref q = V.ref p := by simpa using h1
          cases h1
          rw [e]; rfl
        | succ i => exact .inr ⟨i, d, e, h1, h2⟩
    · rw [other fun q d h1 h2 => hc ⟨q, d, h1, h2⟩, ih, shift]
      constructor
      · rintro ⟨i, d, e, h1, h2⟩; exact ⟨i + 1, d, e, h1, h2⟩
      · rintro ⟨i, d, e, h1, h2⟩
        cases i with
        | zero =>
          have h1 : v = V.ref p := by simpa using h1
          have h2 : a = Sl.ow d := by simpa using h2
          exact (hc ⟨p, d, h1, h2⟩).elim
        | succ i => exact ⟨i, d, e, h1, h2⟩
section
variable {K : Frag} {mg : Str → Option Value} {G H G' H' : Hp} {vs : List V} {as as' : List Sl}
abbrev BsOf (G H : Hp) (vs : List V) (as : List Sl) : Bs := ⟨G, H, pOf 0 vs as, []⟩
theorem inP {j : Nat} {p : Addr} : (j, p) ∈ (BsOf G H vs as).P ↔ ∃ d, vs[j]? = some (.ref p) ∧ as[j]? = some (.ow d) := by
  show (j, p) ∈ pOf 0 vs as ↔ _
  rw [pOf_mem]
  constructor
  · rintro ⟨i, d, e, h1, h2⟩; have : j = i := by omega
    subst this; exact ⟨d, h1, h2⟩
  · rintro ⟨d, h1, h2⟩; exact ⟨j, d, by omega, h1, h2⟩
theorem entry_get {n i : Nat} {s : Sl} (h : (entry as n)[i]? = some s) : (∃ t, as[i]? = some t ∧ s = ent t) ∨ (as.length ≤ i ∧ s = .un) := by
  unfold entry at h
  by_cases hi : i < as.length
  · rw [List.getElem?_append_left (by simpa using hi), List.getElem?_map] at h
    cases q : as[i]? with
    | none => rw [q] at h; cases h
    | some t => rw [q] at h; cases h; exact .inl ⟨t, rfl, rfl⟩
  · rw [List.getElem?_append_right (by simpa using hi), List.getElem?_replicate] at h
    split at h
    · cases h; exact .inr ⟨by omega, rfl⟩
    · cases h
theorem start_get {N : List Str} {i : Nat} {v : V} (h : vs[i]? = some v) : (L2.start N vs)[i]? = some (some v) := by
  unfold L2.start
  have hi := (List.getElem?_eq_some_iff.mp h).1
  rw [List.getElem?_append_left (by simpa using hi), List.getElem?_map, h]; rfl
theorem start_back {N : List Str} {i : Nat} {v : V} (h : (L2.start N vs)[i]? = some (some v)) : vs[i]? = some v := by
  unfold L2.start at h
  by_cases hi : i < vs.length
  · rw [List.getElem?_append_left (by simpa using hi), List.getElem?_map] at h
    cases q : vs[i]? with
    | none => rw [q] at h; cases h
    | some w => rw [q] at h; cases h; rfl
  · rw [List.getElem?_append_right (by simpa using hi), List.getElem?_replicate] at h
    split at h <;> cases h
theorem ARG.inv (A : ARG K G H vs as) {N : List Str} (hl : vs.length ≤ N.length) : INV K (BsOf G H vs as) (entry as N.length) (L2.start N vs) G H := by
  have el : (entry as N.length).length = N.length := by unfold entry; rw [List.length_append, List.length_map, List.length_replicate, ← A.len]; omega
  have sl : (L2.start N vs).length = N.length := by unfold L2.start; rw [List.length_append, List.length_map, List.length_replicate]; omega
  refine ⟨by rw [el, sl], fun i s e => ?_, fun i j p s t e1 e2 m o s1 s2 => ?_, A.gh, Same.refl _, fun b o _ e => e, fun b h _ _ => h, fun i p d e s => ?_, fun i p d e s => ?_, fun i p d e s => ?_, fun j p h => ?_, fun q h => (nomatch h), List.nodup_nil, fun i j p hi hj => ?_⟩
  · rcases entry_get e with ⟨t, h1, rfl⟩ | ⟨h1, rfl⟩
    · obtain ⟨_, v, h2, h3⟩ := A.rl i t h1
      refine ⟨some v, start_get h2, ?_⟩
      cases t with
      | ow d => exact h3
      | _ => exact h3
    · have hi : i < (entry as N.length).length := (List.getElem?_eq_some_iff.mp e).1
      exact ⟨_, List.getElem?_eq_getElem (by rw [sl]; rw [el] at hi; exact hi), trivial⟩
  · rcases entry_get e1 with ⟨t1, h1, rfl⟩ | ⟨_, rfl⟩
    · rcases entry_get e2 with ⟨t2, h2, rfl⟩ | ⟨_, rfl⟩
      · refine A.nd i j p t1 t2 h1 h2 ?_ ?_ (start_back s1) (start_back s2)
        · cases t1 <;> first | rfl | cases m
        · cases t2 <;> first | rfl | cases o
      · cases o
    · cases m
  · rcases entry_get e with ⟨t, h1, h2⟩ | ⟨_, h2⟩
    · cases t <;> cases h2
    · cases h2
  · rcases entry_get e with ⟨t, h1, h2⟩ | ⟨_, h2⟩
    · obtain ⟨ka, _⟩ := A.rl i t h1
      cases t with
      | ow d' => exact inP.mpr ⟨d', start_back s, h1⟩
      | pw d' => cases ka
      | _ => cases h2
    · cases h2
  · rcases entry_get e with ⟨t, h1, h2⟩ | ⟨_, h2⟩
    · cases t with
      | lw d' =>
        cases h2
        obtain ⟨_, v, h3, h4⟩ := A.rl i _ h1
        obtain ⟨p', h5, h6, h7⟩ := h4
        have ev : v = .ref p := by
          have := start_back s
          rw [h3] at this; exact Option.some.inj this
        rw [ev] at h5
        cases h5
        refine ⟨h7.some, h6, fun j hj => ?_⟩
        obtain ⟨d2, q1, q2⟩ := inP.mp hj
        have := A.nd j i p _ _ q2 h1 rfl rfl q1 (start_back s)
        subst this
        rw [h1] at q2; cases q2
      | _ => cases h2
    · cases h2
  · obtain ⟨d, q1, q2⟩ := inP.mp h
    obtain ⟨_, v, h3, h4⟩ := A.rl j _ q2
    obtain ⟨p', h5, h6, h7⟩ := h4
    rw [q1] at h3; cases h3
    cases h5
    refine ⟨start_get q1, h7.some, d, .inl ?_⟩
    unfold entry
    have hj := (List.getElem?_eq_some_iff.mp q2).1
    rw [List.getElem?_append_left (by simpa using hj), List.getElem?_map, q2]; rfl
  · obtain ⟨d, q1, q2⟩ := inP.mp hi
    obtain ⟨d', q3, q4⟩ := inP.mp hj
    exact A.nd i j p _ _ q2 q4 rfl rfl q1 q3
theorem INV.post (A : ARG K G H vs as) {r : DEnv} {σ : St} (J : INV K (BsOf G H vs as) r σ G' H') : POST K G H vs as G' H' (outs as r) := by
  have np : ∀ {b}, NotMut vs as b → ∀ j, (j, b) ∉ (BsOf G H vs as).P := fun nm j hj => by
    obtain ⟨d, h1, h2⟩ := inP.mp hj
    exact nm j d h2 h1
  refine ⟨by unfold outs; rw [List.length_mapIdx], J.g0, J.gh, fun b o e nm => J.h0 b o (np nm) e, fun b h1 h2 nm => J.fr b h1 h2 (np nm), fun i d e => ?_⟩
  obtain ⟨_, v, h3, h4⟩ := A.rl i _ e
  obtain ⟨p, h5, _, _⟩ := h4
  cases h5
  obtain ⟨a1, a2, d', a3⟩ := J.pp i p (inP.mpr ⟨d, h3, e⟩)
  have eo : (outs as r)[i]? = some (outS (.ow d) r[i]?) := by unfold outs; rw [List.getElem?_mapIdx, e]; rfl
  rcases a3 with a3 | a3
  · obtain ⟨w, b1, q, b2, b3, b4⟩ := J.sl i _ a3
    rw [a1] at b1
    have b1 : some (V.ref p) = w := Option.some.inj b1
    rw [b2] at b1
    have b1 : p = q := V.ref.inj (Option.some.inj b1)
    subst b1
    exact ⟨.ow d', p, by rw [eo, a3]; rfl, h3, ⟨p, rfl, b3, b4⟩, a2, d', .inl rfl⟩
  · obtain ⟨w, b1, q, b2, b3⟩ := J.sl i _ a3
    rw [a1] at b1
    have b1 : some (V.ref p) = w := Option.some.inj b1
    rw [b2] at b1
    have b1 : V.ref p = q := Option.some.inj b1
    subst b1
    exact ⟨.cl d', p, by rw [eo, a3]; rfl, h3, ⟨_, rfl, b3⟩, a2, d', .inr rfl⟩
/-- a body that does m makes a def that does mDef -/
theorem body_red {N : List Str} {m : DEnv → SOut} {Q : VK} {E : XK} (hl : ∀ as : List Sl, vs.length = as.length → vs.length ≤ N.length) (h : spD K mg (mDef N.length m) vs H Q E) :
    ∃ B, tS K mg B E m { nx := fun _ H' => Q .non H', rt := Q } (L2.start N vs) H := by
  obtain ⟨G, as, A, h⟩ := h
  refine ⟨BsOf G H vs as, entry as N.length, G, A.inv (hl as A.len), ?_⟩
  unfold mDef at h
  cases q : m (entry as N.length) with
  | bad => rw [q] at h; exact h
  | bk r => rw [q] at h; exact h.elim
  | ct r => rw [q] at h; exact h.elim
  | nx r =>
    rw [q] at h
    exact fun σ' G' H' J S => h .non G' H' (J.post A) .non
  | rt d fr r =>
    rw [q] at h
    refine fun v σ' G' H' J S rr => h v G' H' (J.post A) ?_
    cases fr with
    | false => exact rr
    | true =>
      obtain ⟨p, e, f, o⟩ := rr
      exact ⟨p, e, f.b, f.g, o⟩
  | ex c r =>
    rw [q] at h
    exact fun cls d σ' G' H' J S x => h cls d G' H' (J.post A) x
end
end DL
namespace DL
open PySem L2 PySem.Spec
open PyProof.Rows hiding St
/-! ## the caller's side -/
def argS (env : DEnv) (mu : Bool) : EV → Option Sl
  | .val d => some (.cl d)
  | .slot i => match env[i]? with
    | some (.cl d) => some (.cl d)
    | some (.pc d) => some (.cl d)
    | some (.ow d) => some (if mu then .ow d else .lw d)
    | some (.pw d) => some (if mu then .ow d else .lw d)
    | some (.lw d) => if mu then none else some (.lw d)
    | _ => none
def argSs (env : DEnv) : List Bool → List EV → Option (List Sl)
  | _, [] => some []
  | ms, e :: es => match argS env (ms.headD false) e, argSs env ms.tail es with
    | some s, some r => some (s :: r)
    | _, _ => none
/-- no object is handed on twice, once to be changed -/
def apartE (e : EV) (s : Sl) (e' : EV) (s' : Sl) : Bool := match e, e' with
  | .slot i, .slot j => decide (i ≠ j) || !(s.mut && s'.isO || s'.mut && s.isO)
  | _, _ => true
def apart : List EV → List Sl → Bool
  | e :: es, s :: ss => ((es.zip ss).all fun x => apartE e s x.1 x.2) && apart es ss
  | _, _ => true
def conv : Sl → Sl → Sl
  | .ow _, .ow d => .ow d
  | .ow _, .cl d => .cl d
  | .pw _, .ow d => .pw d
  | .pw _, .cl d => .pc d
  | _, _ => .un
/-- what came back of the slot i -/
def backAt (i : Nat) : List EV → List Sl → List Sl → Option Sl
  | .slot j :: es, .ow _ :: as, s' :: as' => if j = i then some s' else backAt i es as as'
  | _ :: es, _ :: as, _ :: as' => backAt i es as as'
  | _, _, _ => none
def updE (env : DEnv) (es : List EV) (as as' : List Sl) : DEnv := env.mapIdx fun i s => match backAt i es as as' with
  | some s' => conv s s'
  | none => s
theorem backAt_some : ∀ {i : Nat} {es : List EV} {as as' : List Sl} {s' : Sl}, backAt i es as as' = some s' → ∃ (k : Nat) (d : PyData), es[k]? = some (.slot i) ∧ as[k]? = some (.ow d) ∧ as'[k]? = some s'
  | i, [], as, as', s', h => by cases as <;> cases h
  | i, e :: es, [], as', s', h => by cases e <;> cases h
  | i, e :: es, a :: as, [], s', h => by cases e <;> cases a <;> cases h
  | i, e :: es, a :: as, b :: as', s', h => by
    have rec' : backAt i es as as' = some s' → ∃ (k : Nat) (d : PyData), (e :: es)[k]? = some (.slot i) ∧ (a :: as)[k]? = some (.ow d) ∧ (b :: as')[k]? = some s' := fun h => by
      obtain ⟨k, d, h1, h2, h3⟩ := backAt_some h
      exact ⟨k + 1, d, by simpa using h1, by simpa using h2, by simpa using h3⟩
    cases e with
    | val d => exact rec' h
    | slot j =>
      cases a with
      | ow d =>
        have h : (if j = i then some b else backAt i es as as') = some s' := h
        by_cases e : j = i
        · rw [if_pos e] at h; cases h; subst e; exact ⟨0, d, rfl, rfl, rfl⟩
        · rw [if_neg e] at h; exact rec' h
      | _ => exact rec' h
theorem backAt_none : ∀ {i : Nat} {es : List EV} {as as' : List Sl}, backAt i es as as' = none → as.length ≤ as'.length → ∀ (k : Nat) (d : PyData), es[k]? = some (.slot i) → as[k]? ≠ some (.ow d)
  | i, [], as, as', h, hl, k, d, h1 => by simp at h1
  | i, e :: es, [], as', h, hl, k, d, h1 => by simp
  | i, e :: es, a :: as, [], h, hl, k, d, h1 => by simp at hl
  | i, e :: es, a :: as, b :: as', h, hl, k, d, h1 => by
    have hl' : as.length ≤ as'.length := by simpa using hl
    have rec' : backAt i es as as' = none → (∀ d, e = .slot i → a ≠ .ow d) → (a :: as)[k]? ≠ some (.ow d) := fun h hz => by
      cases k with
      | zero =>
        have h1 : e = .slot i := by simpa using h1
        intro z
        have z : a = .ow d := by simpa using z
        exact hz d h1 z
      | succ k =>
        have := backAt_none h hl' k d (by simpa using h1)
        simpa using this
    cases e with
    | val x => exact rec' h fun d z => (nomatch z)
    | slot j =>
      cases a with
      | ow x =>
        have h : (if j = i then some b else backAt i es as as') = none := h
        by_cases e : j = i
        · rw [if_pos e] at h; cases h
        · rw [if_neg e] at h; exact rec' h fun d z => absurd (EV.slot.inj z) e
      | _ => exact rec' h fun d _ z => (nomatch z)
theorem apart_get : ∀ {es : List EV} {ss : List Sl} {k l : Nat} {e e' : EV} {s s' : Sl}, apart es ss = true → es[k]? = some e → es[l]? = some e' → ss[k]? = some s → ss[l]? = some s' → k < l → apartE e s e' s' = true
  | e :: es, s :: ss, 0, l + 1, e0, e', s0, s', h, h1, h2, h3, h4, _ => by
    unfold apart at h
    rw [Bool.and_eq_true, List.all_eq_true] at h
    have h1 : e = e0 := by simpa using h1
    have h3 : s = s0 := by simpa using h3
    subst h1 h3
    exact h.1 (e', s') (List.mem_of_getElem? (i := l) (by rw [List.getElem?_zip_eq_some]; exact ⟨by simpa using h2, by simpa using h4⟩))
  | e :: es, s :: ss, k + 1, l + 1, _, _, _, _, h, h1, h2, h3, h4, hl => by
    unfold apart at h
    rw [Bool.and_eq_true] at h
    exact apart_get h.2 (by simpa using h1) (by simpa using h2) (by simpa using h3) (by simpa using h4) (by omega)
  | e :: es, s :: ss, k, 0, _, _, _, _, _, _, _, _, _, hl => by omega
  | [], _, _, _, _, _, _, _, _, h1, _, _, _, _ => by simp at h1
  | e :: es, [], _, _, _, _, _, _, _, _, _, h3, _, _ => by simp at h3
theorem apart_ne {es : List EV} {ss : List Sl} {k l i : Nat} {s s' : Sl} (h : apart es ss = true) (h1 : es[k]? = some (.slot i)) (h2 : es[l]? = some (.slot i)) (h3 : ss[k]? = some s) (h4 : ss[l]? = some s') (m : s.mut = true) (o : s'.isO = true) : k = l := by
  rcases Nat.lt_trichotomy k l with hl | hl | hl
  · have := apart_get h h1 h2 h3 h4 hl
    unfold apartE at this
    simp [m, o] at this
  · exact hl
  · have := apart_get h h2 h1 h4 h3 hl
    unfold apartE at this
    simp [m, o] at this
section
variable {K : Frag} {B : Bs} {env : DEnv} {σ : St} {G H G' H' : Hp} {vs : List V} {es : List EV} {as as' : List Sl}
theorem argSs_get : ∀ {ms : List Bool} {es : List EV} {as : List Sl} {i : Nat} {s : Sl}, argSs env ms es = some as → as[i]? = some s → ∃ (e : EV) (m : Bool), es[i]? = some e ∧ argS env m e = some s
  | ms, [], as, i, s, h, h1 => by
    have h : some [] = some as := by cases ms <;> exact h
    cases h; simp at h1
  | ms, e :: es, as, i, s, h, h1 => by
    unfold argSs at h
    split at h
    · rename_i a r h2 h3
      cases h
      cases i with
      | zero => have h1 : a = s := by simpa using h1
                subst h1; exact ⟨e, _, rfl, h2⟩
      | succ i =>
        obtain ⟨e', m, q1, q2⟩ := argSs_get h3 (by simpa using h1)
        exact ⟨e', m, by simpa using q1, q2⟩
    · cases h
theorem argSs_len : ∀ {ms : List Bool} {es : List EV} {as : List Sl}, argSs env ms es = some as → as.length = es.length
  | ms, [], as, h => by
    have h : some [] = some as := by cases ms <;> exact h
    cases h; rfl
  | ms, e :: es, as, h => by
    unfold argSs at h
    split at h
    · rename_i a r h2 h3
      cases h
      exact congrArg Nat.succ (argSs_len h3)
    · cases h
/-- an argument as it stands in its slot -/
theorem argS_own {m : Bool} {e : EV} {s : Sl} (h : argS env m e = some s) (o : s.isO = true) : ∃ (i : Nat) (t : Sl), e = .slot i ∧ env[i]? = some t ∧ t.isO = true ∧ (s.mut = true → t.mut = true) := by
  cases e with
  | val d => cases h; cases o
  | slot i =>
    unfold argS at h
    simp only at h
    cases q : env[i]? with
    | none => rw [q] at h; cases h
    | some t =>
      rw [q] at h
      refine ⟨i, t, rfl, q, ?_⟩
      cases t with
      | un => cases h
      | cl d => cases h; cases o
      | pc d => cases h; cases o
      | ow d => exact ⟨rfl, fun _ => rfl⟩
      | pw d => exact ⟨rfl, fun _ => rfl⟩
      | lw d =>
        refine ⟨rfl, fun z => ?_⟩
        cases m
        · cases h; cases z
        · cases h
theorem argS_rel (I : INV K B env σ G H) {m : Bool} {e : EV} {s : Sl} {v : V} (h : argS env m e = some s) (r : VR K G σ v e) : s.argK = true ∧ SlR K G H (some v) s := by
  cases e with
  | val d => cases h; exact ⟨rfl, v, rfl, r⟩
  | slot i =>
    have r : σ[i]? = some (some v) := r
    unfold argS at h
    simp only at h
    cases q : env[i]? with
    | none => rw [q] at h; cases h
    | some t =>
      rw [q] at h
      obtain ⟨w, h1, h2⟩ := I.sl i t q
      rw [r] at h1
      have h1 : some v = w := Option.some.inj h1
      subst h1
      cases t with
      | un => cases h
      | cl d => cases h; exact ⟨rfl, h2⟩
      | pc d => cases h; exact ⟨rfl, h2⟩
      | ow d =>
        cases m
        · cases h; obtain ⟨p, a, b, c⟩ := h2; exact ⟨rfl, p, a, b, c.toR⟩
        · cases h; exact ⟨rfl, h2⟩
      | pw d =>
        cases m
        · cases h; obtain ⟨p, a, b, c⟩ := h2; exact ⟨rfl, p, a, b, c.toR⟩
        · cases h; exact ⟨rfl, h2⟩
      | lw d =>
        cases m
        · cases h; exact ⟨rfl, h2⟩
        · cases h
theorem pair_get {vs : List V} {es : List EV} (r : Paired (fun v e => VR K G σ v e) vs es) {i : Nat} {e : EV} (h : es[i]? = some e) : ∃ v, vs[i]? = some v ∧ VR K G σ v e := by
  induction r generalizing i with
  | nil => simp at h
  | @cons a0 b0 l1 l2 a b ih =>
    cases i with
    | zero =>
      have h : b0 = e := by simpa using h
      subst h; exact ⟨a0, rfl, a⟩
    | succ i =>
      obtain ⟨v, h1, h2⟩ := ih (i := i) (by simpa using h)
      exact ⟨v, by simpa using h1, h2⟩
theorem INV.arg (I : INV K B env σ G H) {ms : List Bool} (h : argSs env ms es = some as) (hd : apart es as = true) (r : Paired (fun v e => VR K G σ v e) vs es) : ARG K G H vs as := by
  refine ⟨(Paired.length r).trans (argSs_len h).symm, I.gh, fun i s e => ?_, fun i j p s t e1 e2 m o s1 s2 => ?_⟩
  · obtain ⟨ev, mm, h1, h2⟩ := argSs_get h e
    obtain ⟨v, h3, h4⟩ := pair_get r h1
    obtain ⟨h5, h6⟩ := argS_rel I h2 h4
    exact ⟨h5, v, h3, h6⟩
  · obtain ⟨ev, mm, h1, h2⟩ := argSs_get h e1
    obtain ⟨ev', mm', h1', h2'⟩ := argSs_get h e2
    have os : s.isO = true := by cases s <;> first | rfl | cases m
    obtain ⟨a, t1, rfl, q1, o1, m1⟩ := argS_own h2 os
    obtain ⟨b, t2, rfl, q2, o2, m2⟩ := argS_own h2' o
    obtain ⟨v, h3, h4⟩ := pair_get r h1
    obtain ⟨v', h3', h4'⟩ := pair_get r h1'
    rw [s1] at h3; cases h3
    rw [s2] at h3'; cases h3'
    have ab : a = b := I.nd a b p t1 t2 q1 q2 (m1 m) o2 h4 h4'
    subst ab
    exact apart_ne hd h1 h1' e1 e2 m o
end
end DL
namespace DL
open PySem L2 PySem.Spec
open PyProof.Rows hiding St
section
variable {K : Frag} {B : Bs} {env : DEnv} {σ : St} {G H G' H' : Hp} {vs : List V} {es : List EV} {as as' : List Sl}
theorem updE_get {j : Nat} {s : Sl} (h : (updE env es as as')[j]? = some s) : ∃ t, env[j]? = some t ∧ ((backAt j es as as' = none ∧ s = t) ∨ ∃ s', backAt j es as as' = some s' ∧ s = conv t s') := by
  unfold updE at h
  rw [List.getElem?_mapIdx] at h
  cases q : env[j]? with
  | none => rw [q] at h; cases h
  | some t =>
    rw [q] at h
    refine ⟨t, rfl, ?_⟩
    cases q2 : backAt j es as as' with
    | none => simp only [q2, Option.map_some, Option.some.injEq] at h; exact .inl ⟨rfl, h.symm⟩
    | some s' => simp only [q2, Option.map_some, Option.some.injEq] at h; exact .inr ⟨s', rfl, h.symm⟩
theorem updE_put {j : Nat} {t : Sl} (h : env[j]? = some t) : (updE env es as as')[j]? = some (match backAt j es as as' with | some s' => conv t s' | none => t) := by
  unfold updE
  rw [List.getElem?_mapIdx, h]; rfl
/-- behind a call -/
theorem INV.callee (I : INV K B env σ G H) {ms : List Bool} (h : argSs env ms es = some as) (r : Paired (fun v e => VR K G σ v e) vs es) (P : POST K G H vs as G' H' as') : INV K B (updE env es as as') σ G' H' := by
  have passed : ∀ {i : Nat} {s' : Sl}, backAt i es as as' = some s' → ∃ t p, env[i]? = some t ∧ t.mut = true ∧ σ[i]? = some (some (.ref p)) ∧ SlR K G' H' (some (.ref p)) s' ∧ H' p ≠ none ∧ ∃ d', s' = .ow d' ∨ s' = .cl d' := fun {i s'} hb => by
    obtain ⟨k, d, h1, h2, h3⟩ := backAt_some hb
    obtain ⟨ev, m, h4, h5⟩ := argSs_get h h2
    rw [h1] at h4; cases h4
    obtain ⟨i', t, e1, h6, _, h7⟩ := argS_own h5 rfl
    cases e1
    obtain ⟨v, h8, h9⟩ := pair_get r h1
    obtain ⟨s2, p, u1, u2, u3, u4, u5⟩ := P.up k d h2
    rw [h3] at u1; cases u1
    rw [h8] at u2; cases u2
    exact ⟨t, p, h6, h7 rfl, h9, u3, u4, u5⟩
  have nm : ∀ {b : Addr}, (∀ (i : Nat) (t : Sl), env[i]? = some t → t.mut = true → σ[i]? = some (some (.ref b)) → False) → NotMut vs as b := fun {b} hb k d hk hv => by
    obtain ⟨ev, m, h4, h5⟩ := argSs_get h hk
    obtain ⟨i', t, rfl, h6, _, h7⟩ := argS_own h5 rfl
    obtain ⟨v, h8, h9⟩ := pair_get r h4
    rw [hv] at h8; cases h8
    exact hb i' t h6 (h7 rfl) h9
  -- an owned slot that was not handed on to be changed
  have kept : ∀ {i : Nat} {t : Sl} {p : Addr}, env[i]? = some t → t.isO = true → σ[i]? = some (some (.ref p)) → backAt i es as as' = none → NotMut vs as p := fun {i t p} h1 h2 h3 h4 k d hk hv => by
    obtain ⟨ev, m, h5, h6⟩ := argSs_get h hk
    obtain ⟨a, t', rfl, h7, _, h8⟩ := argS_own h6 rfl
    obtain ⟨v, h9, h10⟩ := pair_get r h5
    rw [hv] at h9; cases h9
    have e := I.nd a i p t' t h7 h1 (h8 rfl) h2 h10 h3
    subst e
    exact backAt_none h4 (Nat.le_of_eq P.len.symm) k d h5 hk
  have notP : ∀ {b : Addr}, (∀ j, (j, b) ∉ B.P) → B.H b ≠ none → NotMut vs as b := fun {b} h1 h2 => nm fun i t e m s => by
    cases t with
    | ow d => exact h2 (I.ow i b d e s).1
    | pw d => exact h1 i (I.pw i b d e s)
    | _ => cases m
  have stay : ∀ {b : Addr}, H b ≠ none → NotMut vs as b → H' b = H b := fun {b} h1 h2 => by
    cases q : H b with
    | none => exact absurd q h1
    | some o => exact P.h b o q h2
  have mutO : ∀ {t s' : Sl}, (conv t s').mut = true → t.mut = true := fun {t s'} m => by cases t <;> first | rfl | (cases s' <;> cases m)
  have conO : ∀ {t s' : Sl}, (conv t s').isO = true → t.isO = true := fun {t s'} m => by cases t <;> first | rfl | (cases s' <;> cases m)
  refine ⟨by rw [I.len]; unfold updE; rw [List.length_mapIdx], fun i s e => ?_, fun i j p s t e1 e2 m o s1 s2 => ?_, P.gh, I.g0.trans P.g, fun b o hb e => ?_, fun b h1 h2 h3 => ?_, fun i p d e s => ?_, fun i p d e s => ?_, fun i p d e s => ?_, fun j p hp => ?_, fun q hq => ?_, I.td⟩
  · obtain ⟨t, e1, ⟨hb, rfl⟩ | ⟨s', hb, rfl⟩⟩ := updE_get e
    · obtain ⟨v, h1, h2⟩ := I.sl i s e1
      refine ⟨v, h1, h2.up P.g fun p hv ho => ?_⟩
      obtain ⟨p', hp', g1, g2⟩ := h2.own ho
      rw [hv] at hp'
      have ep : p = p' := V.ref.inj (Option.some.inj hp')
      subst ep
      have nmp := kept e1 ho (by rw [h1, hv]) hb
      exact ⟨stay g2 nmp, P.fr p g1 g2 nmp⟩
    · obtain ⟨t', p, h1, h2, h3, h4, h5, d', h6⟩ := passed hb
      rw [e1] at h1; cases h1
      refine ⟨_, h3, ?_⟩
      rcases h6 with rfl | rfl
      · cases t <;> first | exact h4 | cases h2
      · cases t <;> first | exact h4 | cases h2
  · obtain ⟨t1, f1, g1⟩ := updE_get e1
    obtain ⟨t2, f2, g2⟩ := updE_get e2
    refine I.nd i j p t1 t2 f1 f2 ?_ ?_ s1 s2
    · rcases g1 with ⟨_, rfl⟩ | ⟨s', _, rfl⟩
      · exact m
      · exact mutO m
    · rcases g2 with ⟨_, rfl⟩ | ⟨s', _, rfl⟩
      · exact o
      · exact conO o
  · exact P.h b o (I.h0 b o hb e) (notP hb (by rw [e]; simp))
  · have hH : H b ≠ none := by
      cases q : B.H b with
      | none => exact absurd q h2
      | some o => rw [I.h0 b o h3 q]; simp
    exact P.fr b (I.fr b h1 h2 h3) hH (notP h3 h2)
  · obtain ⟨t, e1, ⟨hb, rfl⟩ | ⟨s', hb, e2⟩⟩ := updE_get e
    · exact I.ow i p d e1 s
    · cases t with
      | ow d0 => exact I.ow i p d0 e1 s
      | pw d0 => cases s' <;> cases e2
      | _ => cases s' <;> cases e2
  · obtain ⟨t, e1, ⟨hb, rfl⟩ | ⟨s', hb, e2⟩⟩ := updE_get e
    · exact I.pw i p d e1 s
    · cases t with
      | pw d0 => exact I.pw i p d0 e1 s
      | ow d0 => cases s' <;> cases e2
      | _ => cases s' <;> cases e2
  · obtain ⟨t, e1, ⟨hb, rfl⟩ | ⟨s', hb, e2⟩⟩ := updE_get e
    · exact I.lw i p d e1 s
    · cases t <;> cases s' <;> cases e2
  · obtain ⟨a1, a2, d, a3⟩ := I.pp j p hp
    cases hb : backAt j es as as' with
    | none =>
      have put : ∀ {t}, env[j]? = some t → (updE env es as as')[j]? = some t := fun {t} ht => by rw [updE_put ht, hb]
      refine ⟨a1, ?_, d, ?_⟩
      · have nmp : NotMut vs as p := fun k d hk hv => by
          obtain ⟨ev, m, h5, h6⟩ := argSs_get h hk
          obtain ⟨a, t', rfl, h7, _, h8⟩ := argS_own h6 rfl
          obtain ⟨v, h9, h10⟩ := pair_get r h5
          rw [hv] at h9; cases h9
          have m' := h8 rfl
          cases t' with
          | ow d0 => exact (I.ow a p d0 h7 h10).2 j hp
          | pw d0 =>
            have e := I.td.2 a j p (I.pw a p d0 h7 h10) hp
            subst e
            exact backAt_none hb (Nat.le_of_eq P.len.symm) k d h5 hk
          | _ => cases m'
        rw [stay a2 nmp]; exact a2
      · rcases a3 with a3 | a3
        · exact .inl (put a3)
        · exact .inr (put a3)
    | some s' =>
      obtain ⟨t, p', h1, h2, h3, h4, h5, d', h6⟩ := passed hb
      rw [a1] at h3; cases h3
      refine ⟨a1, h5, d', ?_⟩
      rw [updE_put h1, hb]
      rcases a3 with a3 | a3
      · rw [h1] at a3; cases a3
        rcases h6 with rfl | rfl
        · exact .inl rfl
        · exact .inr rfl
      · rw [h1] at a3; cases a3; cases h2
  · obtain ⟨a1, a2, a3, a4, a5⟩ := I.tp q hq
    have nmp : NotMut vs as q.1 := nm fun i t e m s => a5 i t e (by cases t <;> first | rfl | cases m) s
    refine ⟨P.fr _ a1 a2.some nmp, a2.up P.g (stay a2.some nmp), a3, a4, fun i s e o => ?_⟩
    obtain ⟨t, e1, ⟨hb, rfl⟩ | ⟨s', hb, rfl⟩⟩ := updE_get e
    · exact a5 i s e1 o
    · exact a5 i t e1 (conO o)
end
end DL
namespace DL
open PySem L2 PySem.Spec
open PyProof.Rows hiding St
/-! ## a def's promise, kept where no repr runs -/
structure FnG (P : Program) (w : World) (K : Frag) (mg : Str → Option Value) (base : Heap) (k : Nat) (f : Addr) (fd : FuncData) (ps : List Str) (sp : Sp) : Prop where
  len : ∀ vs H Q E, sp vs H Q E → vs.length = ps.length
  run : ∀ (A : Around) (outer : List Env) (s : Shared) (H : Hp) (args : Args) (us : List Value) (vs : List V) (Q : VK) (E : XK),
    A.guards = some [] → Room k A → Env0 P w K mg base A outer s H → BindsTo s fd args (ps.zip us) → Vals vs us → sp vs H Q E →
    codeAny (model P w) A (.call (.ref f) args) (CR (L2.CX P w) outer P w H s Q E) s
theorem FnG.mono {P : Program} {w : World} {K : Frag} {mg : Str → Option Value} {base : Heap} {j k : Nat} {f : Addr} {fd : FuncData} {ps : List Str} {sp : Sp} (F : FnG P w K mg base j f fd ps sp) (h : j ≤ k) : FnG P w K mg base k f fd ps sp :=
  ⟨F.len, fun A outer s H args us vs Q E hg hr => F.run A outer s H args us vs Q E hg (hr.mono h)⟩
section
variable {P : Program} {w : World} {K : Frag} {mg : Str → Option Value} {base : Heap}
/-- a def by its body -/
theorem fnG_of {x qual : Str} {st : Stmt} {f : Addr} {fd : FuncData} {N ps : List Str} {k : Nat} {sp : Sp} (F : Fun K x qual st f fd) (S : FnScope N ps (defScope st)) (len : ∀ vs H Q E, sp vs H Q E → vs.length = ps.length)
    (hbody : ∀ (cdv : Value) (A : Around) (outer : List Env) (s : Shared) (H : Hp) (vs : List V) (Q : VK) (E : XK), A.guards = some [] →
      Room k (A.deeper (envOfC qual (defScope st) s.heap.objs.size f cdv)) → sp vs H Q E →
      ∃ t, PSs (cxOf (L2.CX P w) P w K mg base N qual (defScope st) f cdv A outer s H E) (defBody st) t ∧ t { nx := fun _ H' => Q .non H', rt := Q } (L2.start N vs) H) :
    FnG P w K mg base (k + 1) f fd ps sp := by
  obtain ⟨oc, od, kV, doc, pm, an, cdv, ct, osl, rfl, lk, hcd⟩ := F.ex
  refine ⟨len, fun A outer s H args us vs Q E hg hr e0 hb r hsp => ?_⟩
  have KX : K.In s.heap := e0.mod.kin.keeps fun b o e => (e0.bs b o e).1
  have hlen := len vs H Q E hsp
  have hkind : ∀ y ∈ ps.zip us, (defScope st).names.lookup y.1 = some .local ∨
      ((defScope st).names.lookup y.1 = some .cell ∧ ((cellsFrom (s.heap.objs.size + 1) (defScope st).names []).lookup y.1).isSome = true) := fun ⟨n, v⟩ hy =>
    (S.par n (List.of_mem_zip hy).1).imp id fun q => ⟨q, PySem.W.cellsFrom_some _ _ _ (.inl q)⟩
  refine codeAny_call_function hr.depth (KX _ _ lk) rfl S.co S.gen rfl (PySem.W.codeRec_of KX hcd) (hb _ _ _ _ ?_)
  refine wpAny_newFunctionEnv_cells S.kind hkind fun env he s1 x => ?_
  subst he
  refine ⟨(e0.mod.nolimit.keeps fun b o e => (e0.bs b o e).1).keeps x.toInCall.keep, codeAny_func ?_⟩
  obtain ⟨t, ht, hq⟩ := hbody cdv A outer s H vs Q E hg (hr.deeper _) hsp
  have I := inv_start (CX := L2.CX P w) (P := P) (w := w) (E := E) S hr.hd e0 hlen r x
  refine wpAny_mono (ht.run [] s1 _ H _ I hq) (fun fl s' hs => ?_) fun e s' hs => hs
  cases fl with
  | ret u => obtain ⟨v, σ', H', J, rv, q⟩ := hs; exact ⟨v, H', J.os, J.bare, J.base, J.hok, rv, q⟩
  | next => obtain ⟨σ', H', J, q⟩ := hs; exact ⟨.non, H', J.os, J.bare, J.base, J.hok, rfl, q⟩
  | brk => obtain ⟨_, _, _, q⟩ := hs; exact q.elim
  | cont => obtain ⟨_, _, _, q⟩ := hs; exact q.elim
end
section
variable {X : Cx} {EK : XK} {k : Nat} {f : Addr} {fd : FuncData} {ps : List Str} {x : Str} {p pos : Pos} {e : Expr} {es : List Expr} {mf : FnM}
theorem run_fnG {sp : Sp} {pins : List (Addr × Obj)} {σ : St} {H : Hp} {s : Shared} {Q : VK} {us : List Value} {vs : List V} {E : XK} (F : FnG X.prog X.w X.K X.mg X.base k f fd ps sp) (hG : X.A.guards = some []) (hr : Room k X.A) (hb : Binds X.K fd ps [])
    (hx : Passes (L2.CX X.prog X.w) X E) (I : Inv X pins σ H s) (r : Vals vs us) (h : sp vs H Q E) : wpAny (model X.prog X.w) X.A (call (.ref f) us) (EP X pins σ Q) X.xe s := by
  have hl : us.length = ps.length := by rw [← r.length]; exact F.len _ _ _ _ h
  have hb2 : BindsTo s fd ⟨us, []⟩ (ps.zip us) := by
    have q := hb s us I.kIn (by rw [List.append_nil]; exact hl)
    rw [List.append_nil] at q; exact q
  refine wpAny_call (codeAny_mono (F.run X.A X.stack s H ⟨us, []⟩ us vs Q E hG hr I.env0 hb2 r h) fun r s' hq => ?_)
  match r, hq with
  | .error e, hq => exact hx pins σ H s e s' I hq
  | .ok (.ret u), hq => exact I.after hq
/-- f(..), f a def: what the reading asks -/
def tCallG (sp : Sp) (E : XK) (t : TA) : TE := fun σ H Q => t σ H fun vs H1 => sp vs H1 Q E
theorem pe_callG {sp : Sp} {E : XK} {t : TA} (F : FnG X.prog X.w X.K X.mg X.base k f fd ps sp) (hG : X.A.guards = some []) (hr : Room k X.A) (hm : X.mg x = some (.ref f)) (hk : PySem.W.keepIn X.K (.ref f) = true) (hb : Binds X.K fd ps [])
    (hx : Passes (L2.CX X.prog X.w) X E) (ha : PA X (e :: es) t) (hg : Gl X x := by rfl) (hdb : (x == ("__debug__" : Str)) = false := by decide) (he : starEach (e :: es) X.env = (false, eval e X.env) :: starEach es X.env := by rfl)
    (hpl : (backTo pos (starEach es X.env)).any (·.1) = false := by rfl) : PE X (.Call (.Name x p) (e :: es) [] pos) (tCallG sp E t) := ⟨fun pins s σ H Q I h =>
  wpAny_Call_Name_kw (ld_glob I hg hm (PySem.W.callWith_K (h₀ := X.base) I.ok.mod.kin hk (thn (ha.run pos pins s σ H _ I h) fun us s1 ⟨vs, H1, I1, r, q⟩ => ⟨I1.kIn, run_fnG F hG hr hb hx I1 r q⟩) he hpl) hdb)⟩
/-! ### the call's mirror -/
def callM (mf : FnM) (ms : List Bool) (xs : List EV) (r : DEnv) : Option (FOut × List Sl) := match argSs r ms xs with
  | some as => if apart xs as = true then some (mf as, as) else none
  | none => none
def mCall (mf : FnM) (ms : List Bool) (mr : DEnv → Out (List EV)) : DEnv → Out EV := fun env => (mr env).bind fun xs r => match callM mf ms xs r with
  | some (.ok d _ as', as) => .ok (.val d) (updE r xs as as')
  | some (.ex c as', as) => .ex c (updE r xs as as')
  | _ => .bad
def mCallF (mf : FnM) (ms : List Bool) (mr : DEnv → Out (List EV)) : DEnv → Out PyData := fun env => (mr env).bind fun xs r => match callM mf ms xs r with
  | some (.ok d true as', as) => .ok d (updE r xs as as')
  | some (.ex c as', as) => .ex c (updE r xs as as')
  | _ => .bad
theorem callM_some {xs : List EV} {r : DEnv} {ms : List Bool} {o : FOut} {as : List Sl} (h : callM mf ms xs r = some (o, as)) : argSs r ms xs = some as ∧ apart xs as = true ∧ o = mf as := by
  unfold callM at h
  split at h
  · rename_i a h1
    by_cases c : apart xs a = true
    · rw [if_pos c] at h; cases h; exact ⟨h1, c, rfl⟩
    · rw [if_neg c] at h; cases h
  · cases h
theorem res_fresh {K : Frag} {B : Bs} {env : DEnv} {σ : St} {G H G' H' : Hp} {p : Addr} (I : INV K B env σ G H) {env' : DEnv} (J : INV K B env' σ G' H') (n : H p = none) (g : G' p = none) (hs : ∀ (i : Nat) (s : Sl), env'[i]? = some s → s.isO = true → ∃ t, env[i]? = some t ∧ t.isO = true) : Fresh B env' σ G' H' p := by
  have f := I.fresh n
  refine ⟨g, fun i s e o => ?_, f.b, f.n, f.t⟩
  obtain ⟨t, e1, o1⟩ := hs i s e o
  exact f.s i t e1 o1
theorem updE_isO {env : DEnv} {es : List EV} {as as' : List Sl} (i : Nat) (s : Sl) (h : (updE env es as as')[i]? = some s) (o : s.isO = true) : ∃ t, env[i]? = some t ∧ t.isO = true := by
  obtain ⟨t, e1, ⟨hb, rfl⟩ | ⟨s', hb, rfl⟩⟩ := updE_get h
  · exact ⟨s, e1, o⟩
  · exact ⟨t, e1, by cases t <;> first | rfl | (cases s' <;> cases o)⟩
theorem de_call {ms : List Bool} {mr : DEnv → Out (List EV)} (hp : ∀ {t : TA}, PA X (e :: es) t → PE X (.Call (.Name x p) (e :: es) [] pos) (tCallG (spD X.K X.mg mf) EK t)) (ha : DA X EK (e :: es) mr) :
    DE X EK (.Call (.Name x p) (e :: es) [] pos) (mCall mf ms mr) := fun B =>
  PE.weak (pe_lkA (hp (ha B))) fun σ H Q ⟨env, G, I, h⟩ => ⟨env, G, I, (PD.bind h).imp fun vs H1 ⟨xs, env1, G1, I1, _, r1, h1⟩ => by
    cases q : callM mf ms xs env1 with
    | none => simp only [q] at h1; exact h1.elim
    | some oa =>
      obtain ⟨o, as⟩ := oa
      obtain ⟨c1, c2, c3⟩ := callM_some q
      refine ⟨G1, as, I1.arg c1 c2 r1, ?_⟩
      rw [← c3]
      cases o with
      | bad => simp only [q] at h1; exact h1
      | ex c as' =>
        simp only [q] at h1
        exact fun cls d G' H' P xr => h1 cls d G' H' (I1.callee c1 r1 P) P.g xr
      | ok d fr as' =>
        simp only [q] at h1
        intro v G' H' P rr
        have J := I1.callee c1 r1 P
        cases fr with
        | false => exact .inl (h1 v G' H' J P.g rr)
        | true =>
          obtain ⟨p', rfl, n, g, o⟩ := rr
          exact give (P := fun H => Q (.ref p') H) J (res_fresh I1 J n g updE_isO) o fun G2 H2 I2 S2 r2 => h1 _ G2 H2 I2 (P.g.trans S2) r2⟩
theorem df_call {ms : List Bool} {mr : DEnv → Out (List EV)} (hp : ∀ {t : TA}, PA X (e :: es) t → PE X (.Call (.Name x p) (e :: es) [] pos) (tCallG (spD X.K X.mg mf) EK t)) (ha : DA X EK (e :: es) mr) :
    DF X EK (.Call (.Name x p) (e :: es) [] pos) (mCallF mf ms mr) := fun B =>
  PE.weak (hp (ha B)) fun σ H Q ⟨env, G, I, h⟩ => ⟨env, G, I, (PD.bind h).imp fun vs H1 ⟨xs, env1, G1, I1, _, r1, h1⟩ => by
    cases q : callM mf ms xs env1 with
    | none => simp only [q] at h1; exact h1.elim
    | some oa =>
      obtain ⟨o, as⟩ := oa
      obtain ⟨c1, c2, c3⟩ := callM_some q
      refine ⟨G1, as, I1.arg c1 c2 r1, ?_⟩
      rw [← c3]
      cases o with
      | bad => simp only [q] at h1; exact h1
      | ex c as' =>
        simp only [q] at h1
        exact fun cls d G' H' P xr => h1 cls d G' H' (I1.callee c1 r1 P) P.g xr
      | ok d fr as' =>
        cases fr with
        | false => simp only [q] at h1; exact h1.elim
        | true =>
          simp only [q] at h1
          intro v G' H' P rr
          have J := I1.callee c1 r1 P
          obtain ⟨p', rfl, n, g, o⟩ := rr
          exact h1 _ G' H' J P.g ⟨p', rfl, res_fresh I1 J n g updE_isO, o⟩⟩
end
end DL
namespace DL
open PySem L2 PySem.Spec
open PyProof.Rows hiding St
/-! ## + -/
theorem add_lists0 {prog : Program} {w : World} {A : Around} {E : Value → Shared → Prop} {s : Shared} {l b : Addr} {vs ws : List Value} {Q : Value → Shared → Prop} (hl : PlainL s.heap l vs.toArray) (hb : PlainL s.heap b ws.toArray)
    (hsz : vs.length + ws.length ≤ sizeLine) (h : Q (.ref s.heap.objs.size) { s with heap := s.heap.push { cls := .type "list", data := .seq (vs ++ ws).toArray } }) : wpAny (model prog w) A (binaryOp .Add (.ref l) (.ref b)) Q E s := by
  obtain ⟨⟨cls, dd, data, sl⟩, n, ho, hc, _, hd⟩ := hl
  obtain ⟨⟨cls2, dd2, data2, sl2⟩, n2, ho2, hc2, _, hd2⟩ := hb
  simp only at hc hd hc2 hd2
  subst hc hd hc2 hd2
  have e : vs.toArray ++ ws.toArray = (vs ++ ws).toArray := by simp
  refine concat_meets ⟨_, ho, rfl⟩ ⟨_, ho2, rfl⟩ noFill_list_add seq_list_add F.slot_list_add F.entry_list_add (F.args_list_add_2 _ _)
    (list_addW l b vs.toArray ws.toArray n n2 dd dd2 sl sl2 (by simpa using hsz)) ⟨ho, ho2, ?_⟩
  rw [e]
  exact h
theorem add_tup0 {prog : Program} {w : World} {A : Around} {E : Value → Shared → Prop} {s : Shared} {t b : Addr} {vs ws : List Value} {Q : Value → Shared → Prop} (ht : IsTup s.heap t vs.toArray) (hb : IsTup s.heap b ws.toArray) (hv : vs = [])
    (h : Q (.ref b) s) : wpAny (model prog w) A (binaryOp .Add (.ref t) (.ref b)) Q E s := by
  obtain ⟨⟨cls, dd, data, sl⟩, ho, hc, n, hd⟩ := ht
  obtain ⟨⟨cls2, dd2, data2, sl2⟩, ho2, hc2, n2, hd2⟩ := hb
  simp only at hc hd hc2 hd2
  subst hc hd hc2 hd2
  exact concat_meets ⟨_, ho, rfl⟩ ⟨_, ho2, rfl⟩ noFill_tuple_add seq_tuple_add F.slot_tuple_add F.entry_tuple_add (F.args_tuple_add_2 _ _)
    (tuple_addW0 t b vs.toArray ws.toArray n n2 dd dd2 sl sl2 (by simp [hv])) ⟨ho, ho2, h⟩
def rCatL (K : Frag) : R2 := fun x y H Q => ∃ a b xs ys, x = .ref a ∧ y = .ref b ∧ SqL K H a xs ∧ SqL K H b ys ∧ xs.length + ys.length ≤ sizeLine ∧ ∀ p, H p = none → Q (.ref p) (upd H p (.lst (xs ++ ys)))
def rCatT0 (K : Frag) : R2 := fun x y H Q => ∃ a b ys, x = .ref a ∧ y = .ref b ∧ SqT K H a [] ∧ SqT K H b ys ∧ Q (.ref b) H
section
variable {X : Cx}
theorem op_catL : OpR X (binaryOp .Add) (rCatL X.K) := by
  intro pins s σ H x y v u Q I rx ry ⟨a, b, xs, ys, ex, ey, ha, hb, hz, q⟩
  subst ex ey
  cases rx
  cases ry
  obtain ⟨its, r1, p1, _⟩ := I.list ha
  obtain ⟨its2, r2, p2, _⟩ := I.list hb
  refine add_lists0 p1 p2 (by rw [← r1.length, ← r2.length]; exact hz) ⟨.ref _, _, I.lnew (t' := s.toks) (r1.append r2) (by rw [List.length_append]; exact hz), rfl, q _ I.fresh⟩
theorem op_catT0 : OpR X (binaryOp .Add) (rCatT0 X.K) := by
  intro pins s σ H x y v u Q I rx ry ⟨a, b, ys, ex, ey, ha, hb, q⟩
  subst ex ey
  cases rx
  cases ry
  obtain ⟨its, r1, p1, _⟩ := I.tuple ha
  obtain ⟨its2, r2, p2, _⟩ := I.tuple hb
  have e : its = [] := by cases r1; rfl
  exact add_tup0 p1 p2 e ⟨.ref b, H, I, rfl, q⟩
abbrev rStr2 : R2 := fun x y H Q => ∃ i j, x = .str i ∧ y = .str j ∧ i.length + j.length ≤ sizeLine ∧ Q (.str (i ++ j)) H
abbrev rAddD (K : Frag) : R2 := rOr (rI0 fun i j => .int (i + j)) (rOr rStr2 (rOr (rCatL K) (rOr (rCatT0 K) (rCatT K))))
theorem op_addD : OpR X (binaryOp .Add) (rAddD X.K) := op_or2 op_add (op_or2 op_add_str (op_or2 op_catL (op_or2 op_catT0 op_catT)))
end
def fAdd : PyData → PyData → Option PyData
  | .int i, .int j => some (.int (i + j))
  | .str x, .str y => if x.length + y.length ≤ 1000000 then some (.str (x ++ y)) else none
  | .list xs, .list ys => if xs.length + ys.length ≤ 1000000 then some (.list (xs ++ ys)) else none
  | .tuple xs, .tuple ys => if xs.length + ys.length ≤ 1000000 then some (.tuple (xs ++ ys)) else none
  | _, _ => none
theorem mil_line {n : Nat} (h : n ≤ 1000000) : n ≤ sizeLine := Nat.le_trans h (by decide)
theorem sb_add {K : Frag} : SB K (rAddD K) fAdd := by
  intro G H x y dx dy d Q S vx vy e q
  unfold fAdd at e
  split at e
  · cases e; exact .inl ⟨_, _, vx, vy, q _ G H .refl (.int _)⟩
  · split at e
    · rename_i hl
      cases e
      exact .inr (.inl ⟨_, _, vx, vy, mil_line hl, q _ G H .refl (.str _)⟩)
    · cases e
  · split at e
    · rename_i hl
      cases e
      obtain ⟨a, xs, rfl, h1, r1⟩ := vx
      obtain ⟨b, ys, rfl, h2, r2⟩ := vy
      refine .inr (.inr (.inl ⟨a, b, xs, ys, rfl, rfl, h1, h2, by rw [r1.len, r2.len]; exact mil_line hl, fun p n => ?_⟩))
      have nG : G p = none := by
        cases z : G p with
        | none => rfl
        | some o => have := S p o z; rw [n] at this; cases this
      exact q _ _ _ (.alloc n .refl) (.lst (.inl (.inl upd_same)) ((r1.append r2).up (same_upd nG)))
    · cases e
  · split at e
    · rename_i hl
      cases e
      obtain ⟨a, xs, rfl, h1, r1⟩ := vx
      obtain ⟨b, ys, rfl, h2, r2⟩ := vy
      cases xs with
      | nil =>
        cases r1
        exact .inr (.inr (.inr (.inl ⟨a, b, ys, rfl, rfl, sameT S h1, sameT S h2, q _ G H .refl (.tup h2 r2)⟩)))
      | cons z zs =>
        refine .inr (.inr (.inr (.inr ⟨a, b, _, ys, rfl, rfl, sameT S h1, sameT S h2, by simp, by rw [r1.len, r2.len]; exact mil_line hl, fun en => ?_, fun _ p n => ?_⟩)))
        · subst en
          cases r2
          rw [List.append_nil] at q
          exact q _ G H .refl (.tup h1 r1)
        · have nG : G p = none := by
            cases z : G p with
            | none => rfl
            | some o => have := S p o z; rw [n] at this; cases this
          exact q _ _ _ (.alloc n .refl) (.tup (.inl (.inl upd_same)) ((r1.append r2).up (same_upd nG)))
    · cases e
  · cases e
/-! ## subscripts -/
def fIx : PyData → PyData → Option PyData
  | .list xs, .int i => atI xs i
  | .tuple xs, .int i => atI xs i
  | .str z, .int i => if z.length ≤ 1000000 then (atI z.cps.toList i).map fun c => .str ⟨#[c]⟩ else none
  | _, _ => none
theorem atI_rp {K : Frag} {G : Hp} {xs : List V} {ds : List PyData} (r : RpA K G xs ds) {i : Int} {d : PyData} (h : atI ds i = some d) : ∃ v, atI xs i = some v ∧ Rp K G v d := by
  unfold atI at h ⊢
  rw [r.len]
  cases q : ixN ds.length i with
  | none => rw [q] at h; cases h
  | some j => rw [q] at h; exact r.getD h
theorem sb_ix {K : Frag} : SB K (rIx K) fIx := by
  intro G H x y dx dy d Q S vx vy e q
  unfold fIx at e
  split at e
  · obtain ⟨a, xs, rfl, h1, r1⟩ := vx
    obtain ⟨v, h2, h3⟩ := atI_rp r1 e
    exact .inl ⟨a, xs, _, v, rfl, vy, h1, h2, q v G H .refl h3⟩
  · obtain ⟨a, xs, rfl, h1, r1⟩ := vx
    obtain ⟨v, h2, h3⟩ := atI_rp r1 e
    exact .inr (.inl ⟨a, xs, _, v, rfl, vy, sameT S h1, h2, q v G H .refl h3⟩)
  · split at e
    · rename_i z i hl
      cases h2 : atI z.cps.toList i with
      | none => rw [h2] at e; cases e
      | some c =>
        rw [h2] at e; cases e
        exact .inr (.inr ⟨z, i, c, vx, vy, mil_line hl, h2, q _ G H .refl (.str _)⟩)
    · cases e
  · cases e
section
variable {X : Cx} {EK : XK} {a b c e : Expr} {pos : Pos} {ma mb mc : DEnv → Out EV}
theorem de_add (ha : DE X EK a ma) (hb : DE X EK b mb) : DE X EK (.BinOp a .Add b pos) (mBin fAdd ma mb) := de_bin op_addD sb_add ha hb
theorem de_ix (ha : DE X EK a ma) (hb : DE X EK b mb) (hs : PlainIx b := by exact fun _ _ => rfl) : DE X EK (.Subscript a b pos) (mBin fIx ma mb) := fun B =>
  PE.weak (pe_ix ix_seq (ha B) (hb B) hs) fun _ _ _ h => bin_red sb_ix h
end
end DL
namespace DL
open PySem L2 PySem.Spec
open PyProof.Rows hiding St
/-! ## methods that change a list -/
def SM (K : Frag) (r : V → List V → Hp → VK → Prop) (f : List PyData → List PyData → Option (List PyData × PyData)) : Prop := ∀ (G H : Hp) (p : Addr) (xs : List V) (ds : List PyData) (vs : List V) (as : List PyData) (ds' : List PyData) (d : PyData) (Q : VK),
  Same G H → H p = some (.lst xs) → RpA K G xs ds → RpA K G vs as → f ds as = some (ds', d) → (∀ v xs', RpA K G xs' ds' → Rp K G v d → Q v (upd H p (.lst xs'))) → r (.ref p) vs H Q
def fAppend : List PyData → List PyData → Option (List PyData × PyData)
  | ds, [x] => if ds.length < 1000000 then some (ds ++ [x], .none) else none
  | _, _ => none
def fClear : List PyData → List PyData → Option (List PyData × PyData)
  | _, [] => some ([], .none)
  | _, _ => none
def fPop : List PyData → List PyData → Option (List PyData × PyData)
  | ds, [] => (ds[ds.length - 1]?).map fun d => (ds.dropLast, d)
  | _, _ => none
def fPopAt : List PyData → List PyData → Option (List PyData × PyData)
  | ds, [.int i] => if -(2 ^ 63) ≤ i ∧ i < 2 ^ 63 then (match ixN ds.length i with
    | some k => (ds[k]?).map fun d => (ds.eraseIdx k, d)
    | none => none) else none
  | _, _ => none
section
variable {K : Frag} {G : Hp}
theorem RpA.dropLast : ∀ {xs : List V} {ds : List PyData}, RpA K G xs ds → RpA K G xs.dropLast ds.dropLast
  | _, _, .nil => .nil
  | _, _, .cons r .nil => .nil
  | _, _, .cons r (.cons r' t) => .cons r (RpA.dropLast (.cons r' t))
theorem RpA.eraseIdx : ∀ {xs : List V} {ds : List PyData} (i : Nat), RpA K G xs ds → RpA K G (xs.eraseIdx i) (ds.eraseIdx i)
  | _, _, _, .nil => .nil
  | _, _, 0, .cons r t => t
  | _, _, i + 1, .cons r t => .cons r (RpA.eraseIdx i t)
theorem RpA.set {v : V} {d : PyData} (h : Rp K G v d) : ∀ {xs : List V} {ds : List PyData} (i : Nat), RpA K G xs ds → RpA K G (xs.set i v) (ds.set i d)
  | _, _, _, .nil => .nil
  | _, _, 0, .cons r t => .cons h t
  | _, _, i + 1, .cons r t => .cons r (RpA.set h i t)
theorem RpA.take : ∀ {xs : List V} {ds : List PyData} (i : Nat), RpA K G xs ds → RpA K G (xs.take i) (ds.take i)
  | _, _, 0, _ => .nil
  | _, _, _ + 1, .nil => .nil
  | _, _, i + 1, .cons r t => .cons r (RpA.take i t)
theorem RpA.drop : ∀ {xs : List V} {ds : List PyData} (i : Nat), RpA K G xs ds → RpA K G (xs.drop i) (ds.drop i)
  | _, _, 0, r => r
  | _, _, _ + 1, .nil => .nil
  | _, _, i + 1, .cons r t => RpA.drop i t
theorem RpA.reverse : ∀ {xs : List V} {ds : List PyData}, RpA K G xs ds → RpA K G xs.reverse ds.reverse
  | _, _, .nil => .nil
  | _, _, .cons r t => by
    rw [List.reverse_cons, List.reverse_cons]
    exact (RpA.reverse t).append (.cons r .nil)
theorem one_of {vs : List V} {a : PyData} (r : RpA K G vs [a]) : ∃ v, vs = [v] ∧ Rp K G v a := by
  cases r with
  | cons h t => cases t; exact ⟨_, rfl, h⟩
theorem two_of {vs : List V} {a b : PyData} (r : RpA K G vs [a, b]) : ∃ v w, vs = [v, w] ∧ Rp K G v a ∧ Rp K G w b := by
  cases r with
  | cons h t => obtain ⟨w, rfl, h2⟩ := one_of t; exact ⟨_, w, rfl, h, h2⟩
theorem zero_of {vs : List V} (r : RpA K G vs []) : vs = [] := by cases r; rfl
theorem sm_append : SM K rAppend fAppend := by
  intro G H p xs ds vs as ds' d Q S hp r ra e q
  unfold fAppend at e
  split at e
  · split at e
    · rename_i hl
      cases e
      obtain ⟨v, rfl, rv⟩ := one_of ra
      exact ⟨p, xs, v, rfl, rfl, hp, by rw [r.len]; exact Nat.lt_of_lt_of_le hl (by decide), q _ _ (r.append (.cons rv .nil)) .non⟩
    · cases e
  · cases e
theorem sm_clear : SM K rClear fClear := by
  intro G H p xs ds vs as ds' d Q S hp r ra e q
  unfold fClear at e
  split at e
  · cases e
    cases zero_of ra
    exact ⟨p, xs, rfl, rfl, hp, q _ _ .nil .non⟩
  · cases e
theorem sm_pop : SM K rPop fPop := by
  intro G H p xs ds vs as ds' d Q S hp r ra e q
  unfold fPop at e
  split at e
  · cases zero_of ra
    cases h : ds[ds.length - 1]? with
    | none => rw [h] at e; cases e
    | some y =>
      rw [h] at e; cases e
      obtain ⟨v, h1, h2⟩ := r.getD h
      exact ⟨p, xs, v, rfl, rfl, hp, by rw [r.len]; exact h1, q _ _ r.dropLast h2⟩
  · cases e
theorem sm_popAt : SM K rPopAt fPopAt := by
  intro G H p xs ds vs as ds' d Q S hp r ra e q
  unfold fPopAt at e
  split at e
  · rename_i i
    obtain ⟨v, rfl, rv⟩ := one_of ra
    cases rv
    split at e
    · rename_i hb
      cases h : ixN ds.length i with
      | none => simp only [h] at e; cases e
      | some k =>
        simp only [h] at e
        cases h2 : ds[k]? with
        | none => rw [h2] at e; cases e
        | some y =>
          rw [h2] at e; cases e
          obtain ⟨v, h3, h4⟩ := r.getD h2
          exact ⟨p, xs, i, k, v, rfl, rfl, hp, hb.1, hb.2, by rw [r.len]; exact (ixN_seq h).1, h3, q _ _ (r.eraseIdx k) h4⟩
    · cases e
  · cases e
end
/-! ### extend by a list or a tuple -/
theorem ext_any {T : String} (hT : T = "list" ∨ T = "tuple") (l : Addr) (items : Array Value) (n : Nat) (b : Addr) (items2 : Array Value) (n2 : Nat) (d2 : Option Addr) (s2 : Array (Option Value))
    (h1 : ¬(!items.isEmpty && Builtin.List.listTooLong (items.size + items2.size)) = true) (h2 : items.size ≤ sizeLine) (h3 : items.size + items2.size ≤ sizeLine + 1) :
    Meets (Builtin.«list.extend» ⟨[.ref l, .ref b], []⟩) (fun _ R s =>
      s.heap.get? l = some { cls := .type "list", data := .seq items n } ∧ s.heap.get? b = some ⟨.type T, d2, .seq items2 n2, s2⟩ ∧
      R (.ok (.ret Value.none)) { s with heap := s.heap.update l (Obj.mapSeq fun x => x ++ items2), toks := s.toks }) := by
  refine .of_wp fun prog w A R s h => ?_
  obtain ⟨hp, g, d, tk, os⟩ := s
  obtain ⟨hl, hb, h⟩ := h
  have f1 := AutoSeq1.idx_int
  have f2 := AutoSeq1.sub_tuple_tuple
  have f3 := AutoSeq1.sub_list_list
  have f4 := AutoSeq1.sub_tuple_list
  have f5 := AutoSeq1.sub_list_tuple
  have hz' : (items ++ items2).size ≤ sizeLine + 1 := by rw [Array.size_append]; exact h3
  rcases hT with rfl | rfl
  · wp_walk using (wpAny_updateSeq hl rfl (hz := h2) (_hz' := hz')), wpAny_loadPart' hl, wpAny_loadPart' hb
    exact ⟨_, rfl, h⟩
  · wp_walk using (wpAny_updateSeq hl rfl (hz := h2) (_hz' := hz')), wpAny_loadPart' hl, wpAny_loadPart' hb
    exact ⟨_, rfl, h⟩
def rExtD (K : Frag) : V → List V → Hp → VK → Prop := fun x vs H Q => ∃ l b xs zs, x = .ref l ∧ vs = [.ref b] ∧ H l = some (.lst xs) ∧ (SqL K H b zs ∨ SqT K H b zs) ∧ xs.length + zs.length ≤ sizeLine ∧ Q .non (upd H l (.lst (xs ++ zs)))
theorem mt_extD {X : Cx} : MtR X "list.extend" (rExtD X.K) := by
  intro pins s σ H x vs v us Q I rx rv ⟨l, b, xs, zs, ex, ev, hH, hB, hz, q⟩
  subst ex ev
  cases rx
  obtain ⟨u, rfl, ru⟩ := rv.one
  cases ru
  obtain ⟨z, its, n, r, hl, e⟩ := I.lstM hH
  have core : ∀ {T : String} {its2 : List Value} {n2 : Nat} {d2 : Option Addr} {s2 : Array (Option Value)}, T = "list" ∨ T = "tuple" → Vals zs its2 → s.heap.get? b = some ⟨.type T, d2, .seq its2.toArray n2, s2⟩ →
      wpAny (model X.prog X.w) X.A (call (.builtin "list.extend") [.ref l, .ref b]) (EP X pins σ Q) X.xe s := fun {T its2 n2 d2 s2} hT r2 e2 => by
    have l2 := r2.length
    have hsz : its.toArray.size + its2.toArray.size ≤ sizeLine := by rw [List.size_toArray, List.size_toArray]; omega
    refine call_meets F.slot_list_extend ⟨_, e, rfl⟩ F.entry_list_extend (F.args_list_extend_2 _ _) (ext_any hT l its.toArray n b its2.toArray n2 d2 s2 (by rw [notLongL hsz, Bool.and_false]; exact Bool.false_ne_true) (by rw [List.size_toArray]; omega) (by omega)) ⟨e, e2, ?_⟩
    exact ⟨.non, _, I.lset (its' := its ++ its2) hH e (by simp) (r.append r2) (by rw [List.length_append]; exact hz), rfl, q⟩
  rcases hB with hB | hB
  · obtain ⟨its2, r2, ⟨⟨c2, d2, dt2, s2⟩, n2, e2, hc, hd, hdt⟩, _⟩ := I.list hB
    simp only at hc hdt
    subst hc hdt
    exact core (.inl rfl) r2 e2
  · obtain ⟨its2, r2, ⟨⟨c2, d2, dt2, s2⟩, e2, hc, n2, hdt⟩, _⟩ := I.tuple hB
    simp only at hc hdt
    subst hc hdt
    exact core (.inr rfl) r2 e2
def fExtend : List PyData → List PyData → Option (List PyData × PyData)
  | ds, [.list es] => if ds.length + es.length ≤ 1000000 then some (ds ++ es, .none) else none
  | ds, [.tuple es] => if ds.length + es.length ≤ 1000000 then some (ds ++ es, .none) else none
  | _, _ => none
theorem sm_extend {K : Frag} : SM K (rExtD K) fExtend := by
  intro G H p xs ds vs as ds' d Q S hp r ra e q
  unfold fExtend at e
  split at e
  · split at e
    · rename_i hl
      cases e
      obtain ⟨v, rfl, rv⟩ := one_of ra
      cases rv with
      | lst h1 h2 => exact ⟨p, _, xs, _, rfl, rfl, hp, .inl (S.seq h1), by rw [r.len, h2.len]; exact mil_line hl, q _ _ (r.append h2) .non⟩
    · cases e
  · split at e
    · rename_i hl
      cases e
      obtain ⟨v, rfl, rv⟩ := one_of ra
      cases rv with
      | tup h1 h2 => exact ⟨p, _, xs, _, rfl, rfl, hp, .inr (sameT S h1), by rw [r.len, h2.len]; exact mil_line hl, q _ _ (r.append h2) .non⟩
    · cases e
  · cases e
section
variable {X : Cx} {EK : XK} {a b c e o : Expr} {es : List Expr} {pos apos cpos : Pos} {name : Str} {mr : DEnv → Out (List EV)}
/-- o.m(..): o the owned slot i -/
def mMeth (i : Nat) (f : List PyData → List PyData → Option (List PyData × PyData)) (mr : DEnv → Out (List EV)) : DEnv → Out EV := fun env => (mr env).bind fun xs r => match clns r xs with
  | some as => (match r[i]? with
    | some s => (match s.dat with
      | some (.list ds) => (match f ds as with
        | some (ds', d) => (match s.put (.list ds') with
          | some s' => .ok (.val d) (r.set i s')
          | none => .bad)
        | none => .bad)
      | _ => .bad)
    | none => .bad)
  | none => .bad
def slotOwn (env : DEnv) (i : Nat) : Bool := match env[i]? with
  | some (.ow (.list _)) => true
  | some (.pw (.list _)) => true
  | _ => false
def mMethG (i : Nat) (f : List PyData → List PyData → Option (List PyData × PyData)) (mr : DEnv → Out (List EV)) : DEnv → Out EV := fun env => if slotOwn env i = true then mMeth i f mr env else .bad
theorem put_own {K : Frag} {B : Bs} {env : DEnv} {σ : St} {G H : Hp} (I : INV K B env σ G H) {i : Nat} {s s' : Sl} {d d' : PyData} (e : env[i]? = some s) (hd : s.dat = some d) (hp : s.put d' = some s') : ∃ p, σ[i]? = some (some (.ref p)) ∧ Ow K G H p d := by
  obtain ⟨w, h1, h2⟩ := I.sl i s e
  cases s with
  | ow x => cases hd; obtain ⟨p, rfl, _, o⟩ := h2; exact ⟨p, h1, o⟩
  | pw x => cases hd; obtain ⟨p, rfl, _, o⟩ := h2; exact ⟨p, h1, o⟩
  | _ => cases hp
theorem slotOwn_ref {K : Frag} {B : Bs} {env : DEnv} {σ : St} {G H : Hp} (I : INV K B env σ G H) {i : Nat} (h : slotOwn env i = true) : ∃ p xs, σ[i]? = some (some (.ref p)) ∧ H p = some (.lst xs) := by
  unfold slotOwn at h
  cases q : env[i]? with
  | none => rw [q] at h; cases h
  | some s =>
    rw [q] at h
    obtain ⟨w, h1, h2⟩ := I.sl i s q
    cases s with
    | ow x =>
      cases x with
      | list ds => obtain ⟨p, rfl, _, xs, o, _⟩ := h2; exact ⟨p, xs, h1, o⟩
      | _ => cases h
    | pw x =>
      cases x with
      | list ds => obtain ⟨p, rfl, _, xs, o, _⟩ := h2; exact ⟨p, xs, h1, o⟩
      | _ => cases h
    | _ => cases h
theorem meth_fin {K : Frag} {mg : Str → Option Value} {B : Bs} {r : V → List V → Hp → VK → Prop} {f : List PyData → List PyData → Option (List PyData × PyData)} (sm : SM K r f) {σ : St} {i : Nat} {p : Addr} (hp : σ[i]? = some (some (.ref p))) {env : DEnv} {G H : Hp} {Q : VK} (I : INV K B env σ G H)
    {vs : List V} {xs : List EV} (rv : Paired (fun v e => VR K G σ v e) vs xs)
    (h : PD K mg B EK (rV K σ) σ (match clns env xs with
      | some as => (match env[i]? with
        | some s => (match s.dat with
          | some (.list ds) => (match f ds as with
            | some (ds', d) => (match s.put (.list ds') with
              | some s' => .ok (.val d) (env.set i s')
              | none => .bad)
            | none => .bad)
          | _ => .bad)
        | none => .bad)
      | none => .bad) G Q) : r (.ref p) vs H Q := by
  cases q1 : clns env xs with
  | none => simp only [q1] at h; exact h.elim
  | some as =>
    cases q2 : env[i]? with
    | none => simp only [q1, q2] at h; exact h.elim
    | some s =>
      simp only [q1, q2] at h
      split at h
      · rename_i ds q3
        cases q4 : f ds as with
        | none => simp only [q4] at h; exact h.elim
        | some dd =>
          obtain ⟨ds', d⟩ := dd
          simp only [q4] at h
          cases q5 : s.put (.list ds') with
          | none => simp only [q5] at h; exact h.elim
          | some s' =>
            simp only [q5] at h
            obtain ⟨p', h1, zs, h2, h3⟩ := put_own I q2 q3 q5
            rw [hp] at h1
            cases h1
            refine sm G H p zs ds vs as ds' d Q I.gh h2 h3 (I.clns rv q1) q4 fun v xs' rx rd => ?_
            exact h v G _ (I.write q2 q5 hp ⟨xs', upd_same, rx⟩) (Same.refl _) rd
      · exact h.elim
theorem de_meth {i : Nat} {x : Str} {p : Pos} {r : V → List V → Hp → VK → Prop} {f : List PyData → List PyData → Option (List PyData × PyData)} (sm : SM X.K r f) (ho : PE X (.Name x p) (tVar i))
    (hp : ∀ {to : TE} {t : TA}, PE X (.Name x p) to → PA X es t → PE X e (tBM X.K "list" r to t)) (ha : DA X EK es mr) : DE X EK e (mMethG i f mr) := fun B =>
  PE.weak (hp ho (ha B)) fun σ H Q ⟨env, G, I, h⟩ => by
    unfold mMethG at h
    by_cases c : slotOwn env i = true
    · rw [if_pos c] at h
      obtain ⟨q, xs, h1, h2⟩ := slotOwn_ref I c
      exact ⟨.ref q, h1, .inl ⟨rfl, xs, .inl (.inl h2)⟩, env, G, I, (PD.bind h).imp fun vs H1 ⟨es', env1, G1, I1, _, r1, h3⟩ => meth_fin sm h1 I1 r1 h3⟩
    · rw [if_neg c] at h; exact h.elim
theorem de_meth0 {i : Nat} {x : Str} {p : Pos} {r : V → List V → Hp → VK → Prop} {f : List PyData → List PyData → Option (List PyData × PyData)} (sm : SM X.K r f) (ho : PE X (.Name x p) (tVar i))
    (hp : ∀ {to : TE}, PE X (.Name x p) to → PE X e (tBM0 X.K "list" r to)) : DE X EK e (mMethG i f mNil) := fun B =>
  PE.weak (hp ho) fun σ H Q ⟨env, G, I, h⟩ => by
    unfold mMethG at h
    by_cases c : slotOwn env i = true
    · rw [if_pos c] at h
      obtain ⟨q, xs, h1, h2⟩ := slotOwn_ref I c
      exact ⟨.ref q, h1, .inl ⟨rfl, xs, .inl (.inl h2)⟩, meth_fin sm h1 I .nil h⟩
    · rw [if_neg c] at h; exact h.elim
/-! ### x[k] = v, x the owned list in the slot i -/
def mSetIx (i : Nat) (me mk : DEnv → Out EV) : DEnv → SOut := fun env => (me env).bindS fun x r => if slotOwn r i = true then (mk r).bindS fun k r' => (match cln r' x, dat r' k, r'[i]? with
  | some d, some (.int j), some s => (match s.dat with
    | some (.list ds) => (match ixN ds.length j with
      | some n => (match s.put (.list (ds.set n d)) with
        | some s' => .nx (r'.set i s')
        | none => .bad)
      | none => .bad)
    | _ => .bad)
  | _, _, _ => .bad) else .bad
theorem ds_setix {i : Nat} {x : Str} {p spos : Pos} {me mk : DEnv → Out EV} (ho : PE X (.Name x p) (tVar i)) (he : DE X EK e me) (hk : DE X EK a mk)
    (hp : ∀ {te to ti : TE}, PE X e te → PE X (.Name x p) to → PE X a ti → PS X (.Assign [.Subscript (.Name x p) a pos] e spos) (tAsg te (gSub to ti rSetL))) : DS X EK (.Assign [.Subscript (.Name x p) a pos] e spos) (mSetIx i me mk) := fun B =>
  PS.weak (hp (he B) ho (hk B)) fun D σ H ⟨env, G, I, h⟩ => ⟨env, G, I, (PD.bindS h).imp fun v H1 ⟨xv, env1, G1, I1, _, r1, h1⟩ => by
    by_cases c : slotOwn env1 i = true
    case neg => rw [if_neg c] at h1; exact h1.elim
    rw [if_pos c] at h1
    obtain ⟨q, xs, h2, h3⟩ := slotOwn_ref I1 c
    refine ⟨.ref q, h2, env1, G1, I1, (PD.bindS h1).imp fun kv H2 ⟨k, env2, G2, I2, S2, r2, h4⟩ => ?_⟩
    split at h4
    · rename_i d j s q1 q2 q3
      split at h4
      · rename_i ds q4
        split at h4
        · rename_i n q5
          split at h4
          · rename_i s' q6
            obtain ⟨q', g1, zs, g2, g3⟩ := put_own I2 q3 q4 q6
            rw [h2] at g1
            cases g1
            have vk : kv = .int j := I2.view r2 q2
            subst vk
            refine ⟨q, zs, j, n, rfl, rfl, g2, by rw [g3.len]; exact q5, ?_⟩
            exact h4 σ G2 _ (I2.write q3 q6 h2 ⟨zs.set n v, upd_same, g3.set (I2.cln (VR.up r1 S2) q1) n⟩) (Same.refl _)
          · exact h4.elim
        · exact h4.elim
      · exact h4.elim
    · exact h4.elim⟩
/-! ### slices -/
def oInt (env : DEnv) : EV → Option Int
  | e => match dat env e with
    | some (.int i) => some i
    | _ => none
end
end DL
namespace DL
open PySem L2 PySem.Spec PySem.W
open PyProof.Rows hiding St
/-! ## slices of tuples: the whole one, and backwards -/
section
variable {prog : Program} {w : World} {A : Around} {E : Value → Shared → Prop} {s : Shared}
theorem tup_slice {t sl : Addr} {items : Array Value} {lo st : Int} {k : Nat} {Q : Value → Shared → Prop} (ht : IsTup s.heap t items) (hTs : s.TypeIs (.ref sl) "slice")
    (hsl : ∀ (A' : Around) (Q' : Int × Int × Nat → Shared → Prop), Q' (lo, st, k) s → wpAny (model prog w) A' (Builtin.Slice.sliceApplied (.ref sl) (pure (items.size : Int))) Q' E s)
    (h1 : (lo == 0 && st == 1 && k == items.size) = true → Q (.ref t) s)
    (h2 : (lo == 0 && st == 1 && k == items.size) = false → Q (.ref s.heap.objs.size) { s with heap := s.heap.push { cls := .type "tuple", data := .seq ((List.range k).filterMap fun (m : Nat) => items[(lo + (m : Int) * st).toNat]?).toArray } })
    (hsz : k ≤ sizeLine) : wpAny (model prog w) A (getItem (.ref t) (.ref sl)) Q E s := by
  have hok : sizeOk (.seq ((List.range k).filterMap fun (m : Nat) => items[(lo + (m : Int) * st).toNat]?).toArray) := by
    show ((List.range k).filterMap _).toArray.size ≤ sizeLine
    rw [List.size_toArray]
    exact Nat.le_trans (List.length_filterMap_le _ _) (by rw [List.length_range]; exact hsz)
  unfold getItem
  try with_reducible refine wpAny_holding ?_
  first | refine wpAny_bind (wpAny_pure ?_) | skip
  refine wpAny_bind (wpAny_sequenceKey ht.typeIs (by decide) ?_)
  refine wpAny_bind (wpAny_callSpecial?_slot (name := Str.ofString "__getitem__") ht.typeIs slot_tuple_getitem (wpAny_call_entry slot_tuple_getitem ht.typeIs entry_tuple_getitem ?_ (args_tuple_getitem _ _)))
  show wpAny _ _ (Builtin.Tuple.tupleItemsOf (.ref t) >>= _) _ _ s
  refine wpAny_bind (tupleItemsOf_ ht (wpAny_bind (wpAny_typeOf hTs ?_)))
  rw [if_pos (by decide)]
  refine wpAny_bind (hsl _ _ ?_)
  show wpAny _ _ (if (lo == 0 && st == 1 && k == items.size) = true then _ else _) _ _ s
  cases hc : (lo == 0 && st == 1 && k == items.size) with
  | true =>
    rw [if_pos rfl]
    refine wpAny_bind (m := Builtin.Tuple.tupleIsExact _) (wpAny_bind (m := typeOf _) (wpAny_typeOf ht.typeIs (wpAny_pure ?_)))
    rw [if_pos (by decide)]
    exact wpAny_bind (wpAny_rule (wpAny_pure ⟨_, rfl, wpAny_pure (h1 hc)⟩))
  | false =>
    rw [if_neg Bool.false_ne_true]
    first
      | exact wpAny_bind (m := Builtin.Tuple.tupleExact _) (wpAny_newObj_type (wpAny_pure ⟨_, rfl, wpAny_pure (h2 hc)⟩) hok)
      | exact wpAny_bind (m := Builtin.Tuple.tupleExact _) (wpAny_newObj_type (wpAny_bind (wpAny_pure (wpAny_pure ⟨_, rfl, wpAny_pure (h2 hc)⟩))) hok)
      | exact wpAny_bind (wpAny_bind (m := Builtin.Tuple.tupleExact _) (wpAny_newObj_type (wpAny_pure (wpAny_pure ⟨_, rfl, wpAny_pure (h2 hc)⟩)) hok))
      | exact wpAny_bind (wpAny_bind (m := Builtin.Tuple.tupleExact _) (wpAny_newObj_type (wpAny_pure ⟨_, rfl, wpAny_pure (h2 hc)⟩) hok))
theorem back_applied {sl : Addr} {n : Nat} {u : Tok} {Q : Int × Int × Nat → Shared → Prop} (hs : s.heap.IsSliceOf sl .none .none (.int (-1) u)) (h : Q ((n : Int) - 1, -1, n) s) :
    wpAny (model prog w) A (Builtin.Slice.sliceApplied (.ref sl) (pure (n : Int))) Q E s := by
  obtain ⟨os, hos, hcs, hds⟩ := id hs
  unfold Builtin.Slice.sliceApplied Builtin.Slice.sliceFields
  refine wpAny_bind (wpAny_bind (wpAny_field hos hds (x := .none) rfl (wpAny_bind (wpAny_field hos hds (x := .none) rfl (wpAny_bind (wpAny_field hos hds (x := .int (-1) u) rfl (wpAny_pure ?_)))))))
  refine wpAny_bind (slicePart_int ?_)
  show wpAny _ _ (if ((-1 : Int) == 0) = true then _ else _) _ _ s
  rw [if_neg (by decide)]
  refine wpAny_bind (slicePart_none (wpAny_bind (slicePart_none (wpAny_bind (wpAny_pure ?_)))))
  have e1 : Builtin.Slice.sliceAdjust none none (-1) (n : Int) = ((n : Int) - 1, -1) := by
    unfold Builtin.Slice.sliceAdjust
    simp
  show wpAny _ _ (match Builtin.Slice.sliceAdjust none none (-1) (n : Int) with | (lo, hi) => pure (lo, (-1 : Int), Builtin.Slice.slicePlaces lo hi (-1))) _ _ s
  rw [e1]
  have e2 : Builtin.Slice.slicePlaces ((n : Int) - 1) (-1) (-1) = n := by
    unfold Builtin.Slice.slicePlaces
    simp
    omega
  show wpAny _ _ (pure ((n : Int) - 1, (-1 : Int), Builtin.Slice.slicePlaces ((n : Int) - 1) (-1) (-1))) _ _ s
  rw [e2]
  exact wpAny_pure h
theorem fm_congr {α β : Type} {f g : α → Option β} : ∀ {l : List α}, (∀ x ∈ l, f x = g x) → l.filterMap f = l.filterMap g
  | [], _ => rfl
  | x :: l, h => by
    rw [List.filterMap_cons, List.filterMap_cons, h x List.mem_cons_self, fm_congr fun y hy => h y (List.mem_cons_of_mem _ hy)]
theorem back_pick (xs : Array Value) : (List.range xs.size).filterMap (fun (m : Nat) => xs[(((xs.size : Int) - 1) + (m : Int) * (-1)).toNat]?) = xs.toList.reverse := by
  have e1 : (List.range xs.size).filterMap (fun (m : Nat) => xs[(((xs.size : Int) - 1) + (m : Int) * (-1)).toNat]?) = ((List.range xs.size).map fun k => xs.size - 1 - k).filterMap (xs[·]?) := by
    rw [List.filterMap_map]
    refine fm_congr fun m hm => ?_
    have h := List.mem_range.mp hm
    have e : (((xs.size : Int) - 1) + (m : Int) * (-1)).toNat = xs.size - 1 - m := by omega
    rw [e]; rfl
  rw [e1, krv_range, List.filterMap_reverse, krv_all]
end
/-- t[lo:hi], the whole of it too (that is t itself) -/
def rSlTW (K : Frag) : V → Option Int → Option Int → Hp → VK → Prop := fun x lo hi H Q => ∃ a xs, x = .ref a ∧ SqT K H a xs ∧ HT.sIx xs.length 0 lo = 0 ∧ HT.sIx xs.length xs.length hi = xs.length ∧ Q (.ref a) H
section
variable {X : Cx}
theorem sl_tupW : L2.SlR X (rSlTW X.K) := by
  intro pins s σ H x v vl vu lo hi sl Q I rx hs pl pu ⟨a, xs, ex, hx, h0, h1, q⟩
  subst ex
  cases rx
  obtain ⟨its, r, ht, hz⟩ := I.tuple hx
  have hlen : its.toArray.size = xs.length := by rw [List.size_toArray]; exact r.length.symm
  refine ⟨"tuple", _, slot_tuple_getitem.lookup, ht.typeIs, ?_⟩
  obtain ⟨os, hos, hcs, hds⟩ := id hs
  refine tup_slice (lo := ((HT.sIx its.toArray.size 0 lo : Nat) : Int)) (st := 1) (k := HT.sIx its.toArray.size its.toArray.size hi - HT.sIx its.toArray.size 0 lo) ht ⟨os, hos, hcs⟩ (fun A' Q' hq => HT.sliceApplied_gen hs pl pu hq) (fun _ => ⟨.ref a, H, I, rfl, q⟩) (fun hc => ?_) (by rw [hlen, h0, h1]; omega)
  rw [hlen, h0, h1] at hc
  simp at hc
abbrev rSlD (K : Frag) : V → Option Int → Option Int → Hp → VK → Prop := fun x lo hi H Q => rSlL K x lo hi H Q ∨ (fun x lo hi H Q => rSlT K x lo hi H Q ∨ (fun x lo hi H Q => rSlTW K x lo hi H Q ∨ rSlS x lo hi H Q) x lo hi H Q) x lo hi H Q
theorem sl_D : L2.SlR X (rSlD X.K) := sl_list.or (sl_tup.or (sl_tupW.or sl_str))
/-- x[::-1] -/
def tRevD (K : Frag) (te : TE) : TE := fun σ H Q => te σ H fun x H1 => ∃ a xs, x = .ref a ∧ ((SqL K H1 a xs ∧ ∀ p, H1 p = none → Q (.ref p) (upd H1 p (.lst xs.reverse))) ∨ (SqT K H1 a xs ∧ ∀ p, H1 p = none → Q (.ref p) (upd H1 p (.tup xs.reverse))))
theorem pe_revD {e : Expr} {te : TE} {k : Nat} {p1 p2 p3 pos : Pos} (he : PE X e te) : PE X (.Subscript e (.Slice none none (some (.UnaryOp .USub (.Constant (.int 1) k p1) p2)) p3) pos) (tRevD X.K te) := ⟨fun pins s σ H Q I h => by
  refine Subscript_ (thn (he.run pins s σ H _ I h) fun v s1 ⟨x, H1, I1, r1, a, xs, ex, hq⟩ => ?_)
  subst ex
  cases r1
  have hst : PO X (some (.UnaryOp .USub (.Constant (.int 1) k p1) p2)) (tPart (tUn (rU fun i => .int (-i)) (tC (.int 1)))) := po_some (pe_un un_neg pe_int)
  refine wpAny_Slice (thn (po_none.run pins s1 σ H1 (fun o H2 => o = none ∧ H2 = H1) I1 ⟨rfl, rfl⟩) fun vl s2 ⟨l, H2, I2, pl, el, e2⟩ => ?_)
  subst el e2
  refine thn (po_none.run pins s2 σ H2 (fun o H3 => o = none ∧ H3 = H2) I2 ⟨rfl, rfl⟩) fun vu s3 ⟨u, H3, I3, pu, eu, e3⟩ => ?_
  subst eu e3
  refine thn (hst.run pins s3 σ H3 (fun o H4 => o = some (-1) ∧ H4 = H3) I3 ⟨1, rfl, -1, rfl, rfl, rfl⟩) fun vs s4 ⟨o, H4, I4, ps, eo, e4⟩ => ?_
  subst eo e4
  have I5 : Inv X pins σ H4 { s4 with heap := s4.heap.push { cls := .type "slice", data := .fields #[vl, vu, vs] } } := I4.kept (t' := s4.toks) fun b ob q => Heap.get?_push_of_some _ q
  have hS := Heap.IsSliceOf.new s4.heap vl vu vs
  show wpAny (model X.prog X.w) X.A (subscriptTail e (.Slice none none (some (.UnaryOp .USub (.Constant (.int 1) k p1) p2)) p3) (.ref a) (.ref s4.heap.objs.size)) (EP X pins σ Q) X.xe _
  rcases hq with ⟨hx, q⟩ | ⟨hx, q⟩
  · obtain ⟨its, r, ht, hz⟩ := I5.list hx
    have hlen := r.length
    refine tail_any (ops := [.ref a, .ref s4.heap.objs.size]) ht.isList.typeIs (slot_list_getitem.lookup) ?_ (by with_unfolding_all rfl)
    refine wpAny_getItem_list_slice ht.isList hS pl pu ps (by decide) ?_ (by rw [List.size_toArray]; omega)
    rw [krv_pick]
    exact ⟨.ref _, _, I5.laid (t' := s4.toks) (o := .lst xs.reverse) (fun b ob q => Heap.get?_push_of_some _ q) (Nat.le_refl _) ⟨by rw [List.length_reverse]; exact hz, _, 0, r.reverse, Heap.get?_push_size _ rfl⟩, rfl, q _ (I5.hok.fresh (Nat.le_refl _))⟩
  · obtain ⟨its, r, ht, hz⟩ := I5.tuple hx
    have hlen := r.length
    cases pl
    cases pu
    cases ps with
    | int i t =>
      refine tail_any (ops := [.ref a, .ref s4.heap.objs.size]) ht.typeIs (slot_tuple_getitem.lookup) ?_ (by with_unfolding_all rfl)
      obtain ⟨os, hos, hcs, hds⟩ := id hS
      refine tup_slice (lo := (its.toArray.size : Int) - 1) (st := -1) (k := its.toArray.size) ht ⟨os, hos, hcs⟩ (fun A' Q' hq => back_applied hS hq) (fun hc => by simp at hc) (fun _ => ?_) (by rw [List.size_toArray]; omega)
      rw [back_pick]
      exact ⟨.ref _, _, I5.laid (t' := s4.toks) (o := .tup xs.reverse) (fun b ob q => Heap.get?_push_of_some _ q) (Nat.le_refl _) ⟨by rw [List.length_reverse]; exact hz, _, r.reverse, IsTup.new _ _⟩, rfl, q _ (I5.hok.fresh (Nat.le_refl _))⟩⟩
end
end DL
namespace DL
open PySem L2 PySem.Spec
open PyProof.Rows hiding St
def cutD (ds : List PyData) (lo hi : Option Int) : List PyData := (ds.drop (HT.sIx ds.length 0 lo)).take (HT.sIx ds.length ds.length hi - HT.sIx ds.length 0 lo)
def fSl : PyData → Option Int → Option Int → Option PyData
  | .list ds, lo, hi => some (.list (cutD ds lo hi))
  | .tuple ds, lo, hi => some (.tuple (cutD ds lo hi))
  | .str z, lo, hi => if z.length ≤ 1000000 then some (.str (cutS z lo hi)) else none
  | _, _, _ => none
theorem nilG {G H : Hp} (S : Same G H) {p : Addr} (n : H p = none) : G p = none := by
  cases z : G p with
  | none => rfl
  | some o => have := S p o z; rw [n] at this; cases this
theorem RpA.cut {K : Frag} {G : Hp} {xs : List V} {ds : List PyData} (r : RpA K G xs ds) (lo hi : Option Int) : RpA K G (cutV xs lo hi) (cutD ds lo hi) := by
  unfold cutV cutD
  rw [r.len]
  exact (r.drop _).take _
theorem cut_whole {ds : List PyData} {lo hi : Option Int} (h0 : HT.sIx ds.length 0 lo = 0) (h1 : HT.sIx ds.length ds.length hi = ds.length) : cutD ds lo hi = ds := by
  unfold cutD
  rw [h0, h1, List.drop_zero, Nat.sub_zero, List.take_length]
theorem ss_D {K : Frag} {G H : Hp} {x : V} {d d' : PyData} {lo hi : Option Int} {Q : VK} (S : Same G H) (vx : View K G H x d) (e : fSl d lo hi = some d') (q : ∀ v G' H', Stp G H G' H' → Rp K G' v d' → Q v H') : rSlD K x lo hi H Q := by
  cases d with
  | list ds =>
    cases e
    obtain ⟨a, xs, rfl, h1, r1⟩ := vx
    exact .inl ⟨a, xs, rfl, h1, fun p n => q _ _ _ (.alloc n .refl) (.lst (.inl (.inl upd_same)) ((r1.cut lo hi).up (same_upd (nilG S n))))⟩
  | tuple ds =>
    cases e
    obtain ⟨a, xs, rfl, h1, r1⟩ := vx
    by_cases hw : HT.sIx xs.length 0 lo = 0 ∧ HT.sIx xs.length xs.length hi = xs.length
    · refine .inr (.inr (.inl ⟨a, xs, rfl, sameT S h1, hw.1, hw.2, q _ G H .refl ?_⟩))
      rw [r1.len] at hw
      rw [cut_whole hw.1 hw.2]
      exact .tup h1 r1
    · exact .inr (.inl ⟨a, xs, rfl, sameT S h1, hw, fun p n => q _ _ _ (.alloc n .refl) (.tup (.inl (.inl upd_same)) ((r1.cut lo hi).up (same_upd (nilG S n))))⟩)
  | str z =>
    have e : (if z.length ≤ 1000000 then some (PyData.str (cutS z lo hi)) else none) = some d' := e
    split at e
    · rename_i hl
      cases e
      exact .inr (.inr (.inr ⟨z, vx, mil_line hl, q _ G H .refl (.str _)⟩))
    · cases e
  | _ => cases e
abbrev rOI : Rel (Option Int) (Option Int) := fun _ _ _ o o' => o = o'
abbrev DP (X : Cx) (EK : XK) (e : Option Expr) (m : DEnv → Out (Option Int)) : Prop := ∀ B : Bs, PO X e (tG X.K X.mg B EK (fun _ => rOI) m)
theorem PO.weak {X : Cx} {e : Option Expr} {t t' : TO} (h : PO X e t) (w : ∀ σ H Q, t' σ H Q → t σ H Q) : PO X e t' := ⟨fun pins s σ H Q I q => h.run pins s σ H Q I (w σ H Q q)⟩
def mNoPart : DEnv → Out (Option Int) := fun env => .ok none env
def mPart (m : DEnv → Out EV) : DEnv → Out (Option Int) := fun env => (m env).bind fun x r => match dat r x with
  | some (.int i) => .ok (some i) r
  | _ => .bad
def mSl (ma : DEnv → Out EV) (ml mh : DEnv → Out (Option Int)) : DEnv → Out EV := fun env => (ma env).bind fun x r => (ml r).bind fun lo r1 => (mh r1).bind fun hi r2 => match dat r2 x with
  | some d => (match fSl d lo hi with
    | some d' => .ok (.val d') r2
    | none => .bad)
  | none => .bad
section
variable {X : Cx} {EK : XK} {a b c e : Expr} {es : List Expr} {pos p2 : Pos} {ma mb mc : DEnv → Out EV} {lo hi : Option Expr} {ml mh : DEnv → Out (Option Int)} {mr : DEnv → Out (List EV)}
theorem dp_none : DP X EK none mNoPart := fun B => PO.weak po_none fun σ H Q ⟨env, G, I, h⟩ => h none G H I (Same.refl _) rfl
theorem dp_some (h : DE X EK a ma) : DP X EK (some a) (mPart ma) := fun B => PO.weak (po_some (h B)) fun σ H Q ⟨env, G, I, h⟩ => ⟨env, G, I, (PD.bind h).imp fun v H1 ⟨x, env1, G1, I1, _, r1, h1⟩ => by
  split at h1
  · rename_i i q
    have vi : v = .int i := I1.view r1 q
    exact ⟨i, vi, h1 (some i) G1 H1 I1 (Same.refl _) rfl⟩
  · exact h1.elim⟩
theorem de_slice (ha : DE X EK a ma) (hl : DP X EK lo ml) (hh : DP X EK hi mh) : DE X EK (.Subscript a (.Slice lo hi none p2) pos) (mSl ma ml mh) := fun B =>
  PE.weak (pe_slice sl_D (ha B) (hl B) (hh B)) fun σ H Q ⟨env, G, I, h⟩ => ⟨env, G, I, (PD.bind h).imp fun v H1 ⟨x, env1, G1, I1, _, r1, h1⟩ =>
    ⟨env1, G1, I1, (PD.bind h1).imp fun o H2 ⟨l, env2, G2, I2, S2, el, h2⟩ => ⟨env2, G2, I2, (PD.bind h2).imp fun o' H3 ⟨u, env3, G3, I3, S3, eu, h3⟩ => by
      have el : o = l := el
      have eu : o' = u := eu
      subst el eu
      cases q : dat env3 x with
      | none => simp only [q] at h3; exact h3.elim
      | some d =>
        simp only [q] at h3
        cases q2 : fSl d o o' with
        | none => simp only [q2] at h3; exact h3.elim
        | some d' =>
          simp only [q2] at h3
          exact ss_D I3.gh (I3.view ((VR.up r1 S2).up S3) q) q2 fun w G' H' st rw => h3 w G' H' (INV.stp st I3).1 (INV.stp st I3).2 rw⟩⟩⟩
def fRev : PyData → Option PyData
  | .list ds => some (.list ds.reverse)
  | .tuple ds => some (.tuple ds.reverse)
  | _ => none
def mRev (ma : DEnv → Out EV) : DEnv → Out EV := fun env => (ma env).bind fun x r => match dat r x with
  | some d => (match fRev d with
    | some d' => .ok (.val d') r
    | none => .bad)
  | none => .bad
theorem de_rev {k : Nat} {p1 p3 p4 : Pos} (ha : DE X EK a ma) : DE X EK (.Subscript a (.Slice none none (some (.UnaryOp .USub (.Constant (.int 1) k p1) p3)) p4) pos) (mRev ma) := fun B =>
  PE.weak (pe_revD (ha B)) fun σ H Q ⟨env, G, I, h⟩ => ⟨env, G, I, (PD.bind h).imp fun v H1 ⟨x, env1, G1, I1, _, r1, h1⟩ => by
    cases q : dat env1 x with
    | none => simp only [q] at h1; exact h1.elim
    | some d =>
      simp only [q] at h1
      have vw := I1.view r1 q
      cases d with
      | list ds =>
        obtain ⟨p, xs, rfl, g1, r2⟩ := vw
        refine ⟨p, xs, rfl, .inl ⟨g1, fun p' n => ?_⟩⟩
        have S := same_upd (o := .lst xs.reverse) (I1.fresh n).g
        exact h1 _ _ _ (I1.alloc n) S (.lst (.inl (.inl upd_same)) (r2.reverse.up S))
      | tuple ds =>
        obtain ⟨p, xs, rfl, g1, r2⟩ := vw
        refine ⟨p, xs, rfl, .inr ⟨sameT I1.gh g1, fun p' n => ?_⟩⟩
        have S := same_upd (o := .tup xs.reverse) (I1.fresh n).g
        exact h1 _ _ _ (I1.alloc n) S (.tup (.inl (.inl upd_same)) (r2.reverse.up S))
      | _ => exact h1.elim⟩
/-! ## built-in functions by values -/
def SC (K : Frag) (r : List V → Hp → VK → Prop) (f : List PyData → Option PyData) : Prop := ∀ (G H : Hp) (vs : List V) (ds : List PyData) (d : PyData) (Q : VK), Same G H → Views K G H vs ds → f ds = some d →
  (∀ v G' H', Stp G H G' H' → Rp K G' v d → Q v H') → r vs H Q
/-- .. that make a new list -/
def SCF (K : Frag) (r : List V → Hp → VK → Prop) (f : List PyData → Option PyData) : Prop := ∀ (G H : Hp) (vs : List V) (ds : List PyData) (d : PyData) (Q : VK), Same G H → Views K G H vs ds → f ds = some d →
  (∀ p o, H p = none → Ow K G (upd H p o) p d → Q (.ref p) (upd H p o)) → r vs H Q
def mCb (f : List PyData → Option PyData) (mr : DEnv → Out (List EV)) : DEnv → Out EV := fun env => (mr env).bind fun xs r => match dats r xs with
  | some ds => (match f ds with
    | some d => .ok (.val d) r
    | none => .bad)
  | none => .bad
def mCbF (f : List PyData → Option PyData) (mr : DEnv → Out (List EV)) : DEnv → Out PyData := fun env => (mr env).bind fun xs r => match dats r xs with
  | some ds => (match f ds with
    | some d => .ok d r
    | none => .bad)
  | none => .bad
theorem de_cb {r : List V → Hp → VK → Prop} {f : List PyData → Option PyData} (s : SC X.K r f) (hp : ∀ {t : TA}, PA X es t → PE X e (tCB r t)) (ha : DA X EK es mr) : DE X EK e (mCb f mr) := fun B =>
  PE.weak (hp (ha B)) fun σ H Q ⟨env, G, I, h⟩ => ⟨env, G, I, (PD.bind h).imp fun vs H1 ⟨xs, env1, G1, I1, _, r1, h1⟩ => by
    cases q : dats env1 xs with
    | none => simp only [q] at h1; exact h1.elim
    | some ds =>
      simp only [q] at h1
      cases q2 : f ds with
      | none => simp only [q2] at h1; exact h1.elim
      | some d =>
        simp only [q2] at h1
        exact s G1 H1 vs ds d Q I1.gh (I1.views r1 q) q2 fun v G' H' st rv => h1 v G' H' (INV.stp st I1).1 (INV.stp st I1).2 rv⟩
theorem df_cb {r : List V → Hp → VK → Prop} {f : List PyData → Option PyData} (s : SCF X.K r f) (hp : ∀ {t : TA}, PA X es t → PE X e (tCB r t)) (ha : DA X EK es mr) : DF X EK e (mCbF f mr) := fun B =>
  PE.weak (hp (ha B)) fun σ H Q ⟨env, G, I, h⟩ => ⟨env, G, I, (PD.bind h).imp fun vs H1 ⟨xs, env1, G1, I1, _, r1, h1⟩ => by
    cases q : dats env1 xs with
    | none => simp only [q] at h1; exact h1.elim
    | some ds =>
      simp only [q] at h1
      cases q2 : f ds with
      | none => simp only [q2] at h1; exact h1.elim
      | some d =>
        simp only [q2] at h1
        exact s G1 H1 vs ds d Q I1.gh (I1.views r1 q) q2 fun p o n ow => h1 _ G1 _ (I1.tmp n) (Same.refl _) ⟨p, rfl, (I1.fresh n).any, ow⟩⟩
end
/-! ### len, list, tuple, int, sorted -/
section
variable {K : Frag}
def fLen : List PyData → Option PyData
  | [.list ds] => some (.int ds.length)
  | [.tuple ds] => some (.int ds.length)
  | _ => none
theorem sc_len : SC K (fun xs H Q => ∃ p ys, xs = [.ref p] ∧ (SqL K H p ys ∨ SqT K H p ys) ∧ Q (.int ys.length) H) fLen := by
  intro G H vs ds d Q S vw e q
  unfold fLen at e
  split at e
  · cases e
    obtain ⟨v, rfl, a, xs, rfl, h1, r1⟩ := views1 vw
    refine ⟨a, xs, rfl, .inl h1, ?_⟩
    rw [r1.len]
    exact q _ G H .refl (.int _)
  · cases e
    obtain ⟨v, rfl, a, xs, rfl, h1, r1⟩ := views1 vw
    refine ⟨a, xs, rfl, .inr (sameT S h1), ?_⟩
    rw [r1.len]
    exact q _ G H .refl (.int _)
  · cases e
def fList : List PyData → Option PyData
  | [.list ds] => some (.list ds)
  | [.tuple ds] => some (.list ds)
  | _ => none
theorem sc_list : SCF K (fun xs H Q => ∃ p ys, xs = [.ref p] ∧ (SqL K H p ys ∨ SqT K H p ys) ∧ ∀ l, H l = none → Q (.ref l) (upd H l (.lst ys))) fList := by
  intro G H vs ds d Q S vw e q
  unfold fList at e
  split at e
  · cases e
    obtain ⟨v, rfl, a, xs, rfl, h1, r1⟩ := views1 vw
    exact ⟨a, xs, rfl, .inl h1, fun l n => q l _ n ⟨xs, upd_same, r1⟩⟩
  · cases e
    obtain ⟨v, rfl, a, xs, rfl, h1, r1⟩ := views1 vw
    exact ⟨a, xs, rfl, .inr (sameT S h1), fun l n => q l _ n ⟨xs, upd_same, r1⟩⟩
  · cases e
def fTuple : List PyData → Option PyData
  | [.list ds] => some (.tuple ds)
  | [.tuple ds] => some (.tuple ds)
  | _ => none
theorem sc_tuple : SC K (fun xs H Q => ∃ p ys, xs = [.ref p] ∧ ((SqL K H p ys ∧ ∀ l, H l = none → Q (.ref l) (upd H l (.tup ys))) ∨ (SqT K H p ys ∧ Q (.ref p) H))) fTuple := by
  intro G H vs ds d Q S vw e q
  unfold fTuple at e
  split at e
  · cases e
    obtain ⟨v, rfl, a, xs, rfl, h1, r1⟩ := views1 vw
    exact ⟨a, xs, rfl, .inl ⟨h1, fun l n => q _ _ _ (.alloc n .refl) (.tup (.inl (.inl upd_same)) (r1.up (same_upd (nilG S n))))⟩⟩
  · cases e
    obtain ⟨v, rfl, a, xs, rfl, h1, r1⟩ := views1 vw
    exact ⟨a, xs, rfl, .inr ⟨sameT S h1, q _ G H .refl (.tup h1 r1)⟩⟩
  · cases e
def fInt : List PyData → Option PyData
  | [.int i] => some (.int i)
  | [.bool k] => some (.int (if k then 1 else 0))
  | _ => none
theorem sc_int : SC K (fun xs H Q => (∃ i, xs = [.int i] ∧ Q (.int i) H) ∨ ∃ k, xs = [.bl k] ∧ Q (.int (if k then 1 else 0)) H) fInt := by
  intro G H vs ds d Q S vw e q
  unfold fInt at e
  split at e
  · cases e
    obtain ⟨v, rfl, h1⟩ := views1 vw
    have h1 : v = .int _ := h1
    subst h1
    exact .inl ⟨_, rfl, q _ G H .refl (.int _)⟩
  · cases e
    obtain ⟨v, rfl, h1⟩ := views1 vw
    have h1 : v = .bl _ := h1
    subst h1
    exact .inr ⟨_, rfl, q _ G H .refl (.int _)⟩
  · cases e
end
end DL
namespace DL
open PySem L2 PySem.Spec
open PyProof.Rows hiding St
/-! ## isinstance of built-in types -/
inductive BT where
  | int | bool | str | tuple | list | dict
def BT.nm : BT → String
  | .int => "int"
  | .bool => "bool"
  | .str => "str"
  | .tuple => "tuple"
  | .list => "list"
  | .dict => "dict"
def BT.is : BT → PyData → Bool
  | .int, .int _ => true
  | .int, .bool _ => true
  | .bool, .bool _ => true
  | .str, .str _ => true
  | .tuple, .tuple _ => true
  | .list, .list _ => true
  | .dict, .dict _ => true
  | _, _ => false
def tyNm : PyData → String
  | .none => "NoneType"
  | .bool _ => "bool"
  | .int _ => "int"
  | .str _ => "str"
  | .tuple _ => "tuple"
  | .list _ => "list"
  | .dict _ => "dict"
theorem kit_bt (t : BT) (d : PyData) : kitB (tyNm d) t.nm = some (t.is d) := by
  cases t <;> cases d <;> (dsimp only [tyNm, BT.nm, BT.is]; decide +kernel)
section
variable {X : Cx} {pins : List (Addr × Obj)} {σ : St} {H G : Hp} {s : Shared}
theorem kit_view {x : V} {u : Value} {d : PyData} (S : Same G H) (I : Inv X pins σ H s) (rx : RelV x u) (vw : View X.K G H x d) : ∃ P : Heap → Prop, PySem.W.KitX X.K u (.type (tyNm d)) P ∧ P s.heap ∧ u ≠ .builtin "__main__.__loader__#opaque" := by
  cases d with
  | none => cases vw; cases (show u = Value.none from rx); exact ⟨_, PySem.W.kitx_none, True.intro, fun z => nomatch z⟩
  | bool b => cases vw; cases (show u = Value.bool b from rx); exact ⟨_, PySem.W.kitx_bool, True.intro, fun z => nomatch z⟩
  | int i => cases vw; obtain ⟨t, q⟩ := (show ∃ t, u = Value.int i t from rx); cases q; exact ⟨_, PySem.W.kitx_int, True.intro, fun z => nomatch z⟩
  | str i => cases vw; obtain ⟨t, q⟩ := (show ∃ t, u = Value.str i t from rx); cases q; exact ⟨_, PySem.W.kitx_str, True.intro, fun z => nomatch z⟩
  | list ds =>
    obtain ⟨a, xs, rfl, h, _⟩ := vw
    cases (show u = Value.ref a from rx)
    obtain ⟨its, _, ⟨o, n, ho, hc, _⟩, _⟩ := I.list h
    exact ⟨_, PySem.W.kitx_list, ⟨o, ho, hc⟩, fun z => nomatch z⟩
  | tuple ds =>
    obtain ⟨a, xs, rfl, h, r⟩ := vw
    cases (show u = Value.ref a from rx)
    obtain ⟨its, _, ⟨o, ho, hc, _⟩, _⟩ := I.tuple (sameT S h)
    exact ⟨_, PySem.W.kitx_tuple, ⟨o, ho, hc⟩, fun z => nomatch z⟩
  | dict kvs =>
    obtain ⟨a, rfl, ⟨ks, h, _⟩ | ⟨ks, h, _, _⟩⟩ := vw
    · cases (show u = Value.ref a from rx)
      obtain ⟨_, _, vs, _, o, es, ep, h1, h2, _⟩ := (show ObjOk X.prog X.w H s.heap a (.dK ks) from h.ok I.hok)
      exact ⟨_, PySem.W.kitx_dict, ⟨o, h1, h2.1⟩, fun z => nomatch z⟩
    · cases (show u = Value.ref a from rx)
      obtain ⟨_, _, xs, _, o, es, ep, h1, h2, _⟩ := (show ObjOk X.prog X.w H s.heap a (.dT ks) from h.ok I.hok)
      exact ⟨_, PySem.W.kitx_dict, ⟨o, h1, h2.1⟩, fun z => nomatch z⟩
end
/-- isinstance(x, T) -/
def rIs (K : Frag) (T : String) : List V → Hp → VK → Prop := fun xs H Q => ∃ (x : V) (G : Hp) (d : PyData) (b : Bool), xs = [x, .ty T] ∧ Same G H ∧ View K G H x d ∧ kitB (tyNm d) T = some b ∧ Q (.bl b) H
/-- isinstance(x, (T, ..)) -/
def rIsM (K : Frag) (ts : List BT) : List V → Hp → VK → Prop := fun xs H Q => ∃ (x : V) (tp : Addr) (G : Hp) (d : PyData), xs = [x, .ref tp] ∧ H tp = some (.tup (ts.map fun t => .ty t.nm)) ∧ Same G H ∧ View K G H x d ∧ Q (.bl (ts.any fun t => t.is d)) H
theorem kitAny_bt {K : Frag} {d : PyData} : ∀ ts : List BT, PySem.W.kitAny K (.type (tyNm d)) (ts.map fun t => .type t.nm) = some (ts.any fun t => t.is d)
  | [] => kitAny_nil
  | t :: ts => by
    refine kitAny_cons (b := t.is d) (kit_ty (kit_bt t d)) (fun e => ?_) fun e => ?_
    · rw [List.any_cons, e, Bool.false_or]; exact kitAny_bt ts
    · rw [List.any_cons, e, Bool.true_or]
theorem clsV_bt : ∀ ts : List BT, Paired ClsV (ts.map fun t => V.ty t.nm) (ts.map fun t => Value.type t.nm)
  | [] => .nil
  | t :: ts => .cons (.ty _) (clsV_bt ts)
section
variable {X : Cx}
theorem call_is {T : String} : CallR X (.builtin "isinstance") (rIs X.K T) := by
  intro pins s σ H xs us Q I r h
  obtain ⟨x, G, d, b, rfl, S, vw, e, q⟩ := h
  obtain ⟨u1, u2, rfl, r1, r2⟩ := vals2 r
  have e2 := (ClsV.ty T).eq r2
  subst e2
  obtain ⟨P, Z, p, hx⟩ := kit_view S I r1 vw
  exact PySem.W.kia_one Z I.kIn p (kit_ty e) hx fun tk => ⟨.bl b, H, I.tok tk, rfl, q⟩
theorem call_isM {ts : List BT} : CallR X (.builtin "isinstance") (rIsM X.K ts) := by
  intro pins s σ H xs us Q I r h
  obtain ⟨x, tp, G, d, rfl, hT, S, vw, q⟩ := h
  obtain ⟨u1, u2, rfl, r1, r2⟩ := vals2 r
  cases (show u2 = Value.ref tp from r2)
  obtain ⟨P, Z, p, hx⟩ := kit_view S I r1 vw
  obtain ⟨_, its, rv, o, h1, h2, n, h3⟩ := (show ObjOk X.prog X.w H s.heap tp (.tup _) from I.hok tp _ hT)
  have e3 := ClsV.all (clsV_bt ts) rv
  subst e3
  obtain ⟨oc, od, dt, sl⟩ := o
  simp only at h2 h3
  subst h2 h3
  exact PySem.W.kia_tup Z I.kIn p h1 (kitAny_bt ts) hx fun tk => ⟨.bl _, H, I.tok tk, rfl, q⟩
variable {EK : XK} {e a b : Expr} {es : List Expr} {p pos p2 : Pos} {ma mb : DEnv → Out EV} {k : Nat}
def mIs (t : BT) (ma : DEnv → Out EV) : DEnv → Out EV := fun env => (ma env).bind fun x r => match dat r x with
  | some d => .ok (.val (.bool (t.is d))) r
  | none => .bad
def mIsM (ts : List BT) (ma : DEnv → Out EV) : DEnv → Out EV := fun env => (ma env).bind fun x r => match dat r x with
  | some d => .ok (.val (.bool (ts.any fun t => t.is d))) r
  | none => .bad
/-- hp: pe_callB call_is .. -/
theorem de_is (t : BT) {x : Str} {px : Pos} (hp : ∀ {t' : TA}, PA X [a, .Name x px] t' → PE X e (tCB (rIs X.K t.nm) t')) (hT : PE X (.Name x px) (tC (.ty t.nm))) (ha : DE X EK a ma)
    (hs1 : starEach [a, .Name x px] X.env = (false, eval a X.env) :: starEach [.Name x px] X.env := by rfl) (hs2 : starEach [.Name x px] X.env = (false, eval (.Name x px) X.env) :: starEach [] X.env := by rfl) : DE X EK e (mIs t ma) := fun B =>
  PE.weak (hp (pa_cons (ha B) (pa_cons hT pa_nil hs2) hs1)) fun σ H Q ⟨env, G, I, h⟩ => ⟨env, G, I, (PD.bind h).imp fun v H1 ⟨y, env1, G1, I1, _, r1, h1⟩ => by
    cases q : dat env1 y with
    | none => simp only [q] at h1; exact h1.elim
    | some d =>
      simp only [q] at h1
      exact ⟨v, G1, d, _, rfl, I1.gh, I1.view r1 q, kit_bt t d, h1 _ G1 H1 I1 (Same.refl _) (.bl _)⟩⟩
theorem de_isM (ts : List BT) {j : Nat} {px : Pos} (hp : ∀ {t' : TA}, PA X [a, .Tuple es j px] t' → PE X e (tCB (rIsM X.K ts) t')) (hT : PA X es (fun _ H Q => Q (ts.map fun t => .ty t.nm) H)) (hl : ts.length ≤ sizeLine) (ha : DE X EK a ma)
    (hs1 : starEach [a, .Tuple es j px] X.env = (false, eval a X.env) :: starEach [.Tuple es j px] X.env := by rfl) (hs2 : starEach [.Tuple es j px] X.env = (false, eval (.Tuple es j px) X.env) :: starEach [] X.env := by rfl) : DE X EK e (mIsM ts ma) := fun B =>
  PE.weak (hp (pa_cons (ha B) (pa_cons (pe_tup hT) pa_nil hs2) hs1)) fun σ H Q ⟨env, G, I, h⟩ => ⟨env, G, I, (PD.bind h).imp fun v H1 ⟨y, env1, G1, I1, _, r1, h1⟩ => by
    cases q : dat env1 y with
    | none => simp only [q] at h1; exact h1.elim
    | some d =>
      simp only [q] at h1
      refine ⟨by simpa using hl, fun p n => ?_⟩
      have I2 := I1.tmp (o := .tup (ts.map fun t => .ty t.nm)) n
      exact ⟨v, p, G1, d, rfl, upd_same, I2.gh, I2.view r1 q, h1 _ G1 _ I2 (Same.refl _) (.bl _)⟩⟩
end
/-! ## sorted of ints -/
def intsOf : List PyData → Option (List Int)
  | [] => some []
  | .int i :: ds => (intsOf ds).map (i :: ·)
  | _ => none
def sortI (ns : List Int) : List Int := ns.mergeSort fun a b => decide (a ≤ b)
def fSorted : List PyData → Option PyData
  | [.list ds] => (intsOf ds).map fun ns => .list ((sortI ns).map .int)
  | _ => none
section
variable {K : Frag}
theorem intsOf_rp {G : Hp} : ∀ {ds : List PyData} {xs : List V} {ns : List Int}, RpA K G xs ds → intsOf ds = some ns → xs = ns.map V.int ∧ ds = ns.map PyData.int
  | [], _, ns, .nil, e => by cases e; exact ⟨rfl, rfl⟩
  | .int i :: ds, _, ns, .cons r rs, e => by
    have e : (intsOf ds).map (i :: ·) = some ns := e
    cases q : intsOf ds with
    | none => rw [q] at e; cases e
    | some ms =>
      rw [q] at e
      cases e
      cases r
      obtain ⟨h1, h2⟩ := intsOf_rp rs q
      exact ⟨by rw [h1]; rfl, by rw [h2]; rfl⟩
theorem rpA_ints {G : Hp} : ∀ ns : List Int, RpA K G (ns.map V.int) (ns.map PyData.int)
  | [] => .nil
  | n :: ns => .cons (.int n) (rpA_ints ns)
theorem sortI_perm (ns : List Int) : (sortI ns).Perm ns := List.mergeSort_perm _ _
theorem sortI_le (ns : List Int) : (sortI ns).Pairwise (· ≤ ·) := by
  have h := List.pairwise_mergeSort (le := fun a b : Int => decide (a ≤ b)) (fun a b c h1 h2 => by simp only [decide_eq_true_eq] at *; omega) (fun a b => by simp only [Bool.or_eq_true, decide_eq_true_eq]; omega) ns
  exact h.imp fun {a b} h => of_decide_eq_true h
theorem sortI_uniq {ns ms : List Int} (h1 : ms.Perm ns) (h2 : ms.Pairwise (· ≤ ·)) : ms = sortI ns :=
  List.Perm.eq_of_pairwise (fun a b _ _ h1 h2 => Int.le_antisymm h1 h2) h2 (sortI_le ns) (h1.trans (sortI_perm ns).symm)
theorem sc_sorted : SCF K (rSortedI K) fSorted := by
  intro G H vs ds d Q S vw e q
  unfold fSorted at e
  split at e
  · rename_i ds'
    obtain ⟨v, rfl, a, xs, rfl, h1, r1⟩ := views1 vw
    cases q2 : intsOf ds' with
    | none => rw [q2] at e; cases e
    | some ns =>
      rw [q2] at e
      cases e
      obtain ⟨e1, e2⟩ := intsOf_rp r1 q2
      subst e1
      refine ⟨a, ns, rfl, h1, fun ms p hp hs n => ?_⟩
      rw [sortI_uniq hp hs]
      exact q p _ n ⟨_, upd_same, rpA_ints _⟩
  · cases e
/-! ## ==, != -/
def isStr2 : PyData → PyData → Option Bool
  | .str a, .str b => some (decide (a = b))
  | _, _ => none
def isEmp : PyData → PyData → Option Bool
  | .tuple ds, .tuple [] => some ds.isEmpty
  | .list ds, .list [] => some ds.isEmpty
  | _, _ => none
def fStrEq : PyData → PyData → Option PyData
  | .str a, .str b => some (.bool (decide (a = b)))
  | _, _ => none
def fStrNe : PyData → PyData → Option PyData
  | .str a, .str b => some (.bool (!decide (a = b)))
  | _, _ => none
def fEmpEq (x y : PyData) : Option PyData := (isEmp x y).map .bool
def fEmpNe (x y : PyData) : Option PyData := (isEmp x y).map fun b => .bool (!b)
theorem sb_streq : SB K rEq fStrEq := by
  intro G H x y dx dy d Q S vx vy e q
  unfold fStrEq at e
  split at e
  · cases e
    cases vx; cases vy
    refine ⟨rfl, ?_⟩
    rw [dec_str, show ∀ a b : Str, (a == b) = decide (a = b) from fun a b => by rw [Bool.eq_iff_iff]; simp]
    exact q _ G H .refl (.bl _)
  · cases e
theorem sb_strne : SB K rNe fStrNe := by
  intro G H x y dx dy d Q S vx vy e q
  unfold fStrNe at e
  split at e
  · cases e
    cases vx; cases vy
    refine ⟨rfl, ?_⟩
    rw [dec_str, show ∀ a b : Str, (a == b) = decide (a = b) from fun a b => by rw [Bool.eq_iff_iff]; simp]
    exact q _ G H .refl (.bl _)
  · cases e
theorem sb_or {r r' : R2} {f f' : PyData → PyData → Option PyData} (h : SB K r f) (h' : SB K r' f') : SB K (rOr r r') (fun x y => (f x y).or (f' x y)) := by
  intro G H x y dx dy d Q S vx vy e q
  have e : (f dx dy).or (f' dx dy) = some d := e
  cases z : f dx dy with
  | some d' => rw [z] at e; cases e; exact .inl (h G H x y dx dy _ Q S vx vy z q)
  | none => rw [z] at e; exact .inr (h' G H x y dx dy d Q S vx vy e q)
/-- a list or tuple against an empty one -/
def rEmp (K : Frag) (n : Bool) : R2 := fun x y H Q => ∃ a b xs, x = .ref a ∧ y = .ref b ∧ ((SqL K H a xs ∧ SqL K H b []) ∨ (SqT K H a xs ∧ SqT K H b [])) ∧ Q (.bl (xor n xs.isEmpty)) H
theorem emp_RpA {G : Hp} {xs : List V} {ds : List PyData} (r : RpA K G xs ds) : xs.isEmpty = ds.isEmpty := by cases r <;> rfl
theorem sb_emp {n : Bool} : SB K (rEmp K n) (fun x y => (isEmp x y).map fun b => .bool (xor n b)) := by
  intro G H x y dx dy d Q S vx vy e q
  dsimp only [isEmp] at e
  revert e
  split <;> intro e
  · cases e
    obtain ⟨a, xs, rfl, h1, r1⟩ := vx
    obtain ⟨b, ys, rfl, h2, r2⟩ := vy
    cases r2
    refine ⟨a, b, xs, rfl, rfl, .inr ⟨sameT S h1, sameT S h2⟩, ?_⟩
    rw [emp_RpA r1]
    exact q _ G H .refl (.bl _)
  · cases e
    obtain ⟨a, xs, rfl, h1, r1⟩ := vx
    obtain ⟨b, ys, rfl, h2, r2⟩ := vy
    cases r2
    refine ⟨a, b, xs, rfl, rfl, .inl ⟨h1, h2⟩, ?_⟩
    rw [emp_RpA r1]
    exact q _ G H .refl (.bl _)
  · cases e
end
section
variable {X : Cx}
theorem op_emp_eq (hu : X.A.units + 64 < cLine) : OpR X (compareOp .Eq) (rEmp X.K false) := by
  intro pins s σ H x y v u Q I rx ry h
  obtain ⟨a, b, xs, rfl, rfl, h, q⟩ := h
  cases (show v = Value.ref a from rx)
  cases (show u = Value.ref b from ry)
  rw [Bool.false_xor] at q
  rcases h with ⟨h1, h2⟩ | ⟨h1, h2⟩
  · obtain ⟨us, r1, p1, _⟩ := I.list h1
    obtain ⟨ws, r2, p2, _⟩ := I.list h2
    cases r2
    cases r1 with
    | nil => exact SeqAt.eq_listAt (e := fun _ => true) p1.isList p2.isList rfl (by omega) (fun j h => absurd h (Nat.not_lt_zero j)) ⟨.bl _, H, I, rfl, q⟩
    | cons r rs => exact SeqAt.eq_list_lengthsAt p1.isList p2.isList (by simp) (by omega) ⟨.bl _, H, I, rfl, q⟩
  · obtain ⟨us, r1, p1, _⟩ := I.tuple h1
    obtain ⟨ws, r2, p2, _⟩ := I.tuple h2
    cases r2
    refine SeqAt.eq_tupleAt (e := fun _ => true) p1 p2 (by omega) (fun j h h' => absurd h' (Nat.not_lt_zero j)) ?_
    cases r1 with
    | nil => exact ⟨.bl _, H, I, by show Value.bool _ = Value.bool _; simp, q⟩
    | cons r rs => exact ⟨.bl _, H, I, by show Value.bool _ = Value.bool _; simp, q⟩
theorem op_emp_ne (hu : X.A.units + 64 < cLine) : OpR X (compareOp .NotEq) (rEmp X.K true) := by
  intro pins s σ H x y v u Q I rx ry h
  obtain ⟨a, b, xs, rfl, rfl, h, q⟩ := h
  cases (show v = Value.ref a from rx)
  cases (show u = Value.ref b from ry)
  rw [Bool.true_xor] at q
  rcases h with ⟨h1, h2⟩ | ⟨h1, h2⟩
  · obtain ⟨us, r1, p1, _⟩ := I.list h1
    obtain ⟨ws, r2, p2, _⟩ := I.list h2
    cases r2
    cases r1 with
    | nil => exact (SeqAt.RcNeAt.lists (e := fun _ => true) p1.isList p2.isList rfl (by omega) (fun j h => absurd h (Nat.not_lt_zero j))) _ _ _ _ ⟨.bl _, H, I, by show Value.bool _ = Value.bool _; simp, q⟩
    | cons r rs => exact (SeqAt.RcNeAt.lists_lengths p1.isList p2.isList (by simp) (by omega)) _ _ _ _ ⟨.bl _, H, I, rfl, q⟩
  · obtain ⟨us, r1, p1, _⟩ := I.tuple h1
    obtain ⟨ws, r2, p2, _⟩ := I.tuple h2
    cases r2
    refine (SeqAt.RcNeAt.tuples (e := fun _ => true) p1 p2 (by omega) (fun j h h' => absurd h' (Nat.not_lt_zero j))) _ _ _ _ ?_
    cases r1 with
    | nil => exact ⟨.bl _, H, I, by show Value.bool _ = Value.bool _; simp, q⟩
    | cons r rs => exact ⟨.bl _, H, I, by show Value.bool _ = Value.bool _; simp, q⟩
end
def fEqA (x y : PyData) : Option PyData := (fStrEq x y).or (((isEmp x y).map fun b => .bool (xor false b)).or (fEq x y))
def fNeA (x y : PyData) : Option PyData := (fStrNe x y).or (((isEmp x y).map fun b => .bool (xor true b)).or (fNe x y))
abbrev rEqA (K : Frag) : R2 := rOr rEq (rOr (rEmp K false) (rEqD K))
abbrev rNeA (K : Frag) : R2 := rOr rNe (rOr (rEmp K true) (rNeD K))
theorem sb_eqA {K : Frag} : SB K (rEqA K) fEqA := sb_or sb_streq (sb_or sb_emp sb_eq)
theorem sb_neA {K : Frag} : SB K (rNeA K) fNeA := sb_or sb_strne (sb_or sb_emp sb_ne)
theorem op_eqA {X : Cx} (hu : X.A.units + 64 < cLine) : OpR X (compareOp .Eq) (rEqA X.K) := op_or2 op_eq (op_or2 (op_emp_eq hu) (op_eqD hu))
theorem op_neA {X : Cx} (hu : X.A.units + 64 < cLine) : OpR X (compareOp .NotEq) (rNeA X.K) := op_or2 op_ne (op_or2 (op_emp_ne hu) (op_neD hu))
/-! ## in, not in -/
def flatD : PyData → Bool
  | .none => true
  | .bool _ => true
  | .int _ => true
  | .str _ => true
  | _ => false
def itsOf : PyData → Option (List PyData)
  | .list ds => some ds
  | .tuple ds => some ds
  | _ => none
def anyEq (x : PyData) (ds : List PyData) : Bool := ds.any fun z => PyData.eqv z x
def fIn (n : Bool) (x y : PyData) : Option PyData := match itsOf y with
  | some ds => if flatD x = true ∧ ds.all flatD = true then some (.bool (xor n (anyEq x ds))) else none
  | none => none
theorem flat_view {K : Frag} {G H : Hp} {v : V} {d : PyData} (h : View K G H v d) (f : flatD d = true) : flatV v = true := by
  cases d <;> first | (cases h; rfl) | cases f
theorem flat_rp {K : Frag} {G : Hp} {v : V} {d : PyData} (h : Rp K G v d) (f : flatD d = true) : flatV v = true := by
  cases d <;> first | (cases h; rfl) | cases f
theorem flatD_dp {K : Frag} {G H : Hp} {v : V} {d : PyData} (h : View K G H v d) (f : flatD d = true) : Rp K G v d := by
  cases d with
  | none => cases h; exact .non
  | bool b => cases h; exact .bl _
  | int b => cases h; exact .int _
  | str b => cases h; exact .str _
  | _ => cases f
theorem eqV_eqv {K : Frag} {G : Hp} {v u : V} {d e : PyData} (h : Rp K G v d) (h' : Rp K G u e) (f : flatD d = true) (f' : flatD e = true) : eqV v u = PyData.eqv d e := by
  cases d <;> first | exact absurd (show false = true from f) Bool.false_ne_true | (cases e <;> first | exact absurd (show false = true from f') Bool.false_ne_true | (cases h; cases h'; simp [eqV, PyData.eqv]))
theorem inV_any {K : Frag} {G : Hp} {v : V} {d : PyData} (h : Rp K G v d) (f : flatD d = true) : ∀ {xs : List V} {ds : List PyData}, RpA K G xs ds → ds.all flatD = true → xs.all flatV = true ∧ inV v xs = anyEq d ds
  | _, _, .nil, _ => ⟨rfl, rfl⟩
  | _, _, .cons r rs, a => by
    rw [List.all_cons, Bool.and_eq_true] at a
    obtain ⟨h1, h2⟩ := inV_any h f rs a.2
    refine ⟨by rw [List.all_cons, flat_rp r a.1, h1]; rfl, ?_⟩
    unfold inV anyEq at h2 ⊢
    rw [List.any_cons, List.any_cons, h2, eqV_eqv r h a.1 f]
theorem sb_in {K : Frag} {n : Bool} : SB K (rIn K n) (fIn n) := by
  intro G H x y dx dy d Q S vx vy e q
  unfold fIn at e
  cases z : itsOf dy with
  | none => simp only [z] at e; cases e
  | some ds =>
    simp only [z] at e
    split at e
    · rename_i c
      cases e
      have hs : ∃ p xs, y = .ref p ∧ (SqL K H p xs ∨ SqT K H p xs) ∧ RpA K G xs ds := by
        cases dy with
        | list es => cases z; obtain ⟨a, xs, h1, h2, h3⟩ := vy; exact ⟨a, xs, h1, .inl h2, h3⟩
        | tuple es => cases z; obtain ⟨a, xs, h1, h2, h3⟩ := vy; exact ⟨a, xs, h1, .inr (sameT S h2), h3⟩
        | _ => cases z
      obtain ⟨p, xs, h1, h2, h3⟩ := hs
      obtain ⟨k1, k2⟩ := inV_any (flatD_dp vx c.1) c.1 h3 c.2
      refine ⟨p, xs, h1, h2, flat_view vx c.1, k1, ?_⟩
      rw [k2]
      have k : (if n = true then !anyEq dx ds else anyEq dx ds) = xor n (anyEq dx ds) := by cases n <;> simp
      rw [k]
      exact q _ G H .refl (.bl _)
    · cases e
end DL
namespace DL
open PySem L2 PySem.Spec
open PyProof.Rows hiding St
/-! ## repr -/
mutual
def shw : PyData → Bool
  | .int i => decide (i.natAbs.log2 < 12900)
  | .list ds => shwA ds
  | .tuple ds => shwA ds
  | .dict kvs => shwK kvs
  | .none => true
  | .bool _ => true
  | .str _ => true
def shwA : List PyData → Bool
  | [] => true
  | d :: ds => shw d && shwA ds
def shwK : List (PyData × PyData) → Bool
  | [] => true
  | (k, v) :: kvs => shw k && shw v && shwK kvs
end
theorem shwK_split : ∀ {kvs : List (PyData × PyData)}, shwK kvs = true → shwA (kvs.map (·.1)) = true ∧ shwA (kvs.map (·.2)) = true
  | [], _ => ⟨rfl, rfl⟩
  | (k, v) :: kvs, h => by
    have h : (shw k && shw v && shwK kvs) = true := by simpa only [shwK] using h
    rw [Bool.and_eq_true, Bool.and_eq_true] at h
    obtain ⟨a, b⟩ := shwK_split h.2
    exact ⟨by simp only [List.map_cons, shwA, h.1.1, a, Bool.and_self], by simp only [List.map_cons, shwA, h.1.2, b, Bool.and_self]⟩
theorem int_reprX {P : Program} {w : World} {A : Around} {E : Value → Shared → Prop} {s : Shared} {a : Int} {t : Tok} {Q : Value → Shared → Prop} (hn : s.heap.NoDigits) (ha : a.natAbs.log2 < 12900) (h : Q (.str (toString a) s.toks) { s with toks := s.toks + 1 }) :
    wpAny (model P w) A (call (.builtin "int.__repr__") [.int a t]) Q E s := by
  have hlt : a.natAbs < 10 ^ 4300 := Nat.lt_of_lt_of_le (lt_of_log2 ha) pow_lo
  refine wpAny_call_entry F.slot_int_repr (typeIs_int s a t) F.entry_int_repr ?_ (F.args_int_repr_1 _)
  unfold Builtin.«int.__repr__»
  show wpAny _ _ (do let r ← Builtin.overDigitLimit? a; _) _ _ s
  refine wpAny_bind (overDigitLimit_any hn (fun _ => ?_) (fun hge => absurd hge (Nat.not_le.mpr hlt)))
  exact wpAny_bind (wpAny_mkStr (wpAny_pure ⟨_, rfl, h⟩) (int_text_fits10 hlt))
theorem repr_intX {P : Program} {w : World} {A : Around} {E : Value → Shared → Prop} {s : Shared} {a : Int} {t : Tok} {Q : Value → Shared → Prop} (hn : s.heap.NoDigits) (ha : a.natAbs.log2 < 12900) (h : Q (.str (toString a) s.toks) { s with toks := s.toks + 1 }) :
    wpAny (model P w) A (call (.builtin "repr") [.int a t]) Q E s := by
  refine Calls.call_function_entry F.kind_repr F.plain_repr F.entry_repr (F.args_repr1 _) ?_
  unfold Builtin.«repr»
  refine wpAny_bind (m := oneArg "repr" _) (wpAny_pure ?_)
  have hv : [Value.int a t].any Value.onHeap = false := rfl
  simp only [cRoomFor, hv, Bool.false_eq_true, if_false, pure_bind]
  refine wpAny_bind (wpAny_specialOf (name := Str.ofString "__repr__") (typeIs_int s a t) F.slot_int_repr.lookup ?_)
  refine wpAny_bind (m := callSpecialIfBound? (.int a t) (Str.ofString "__repr__")) (wpAny_callSpecialIfBound?_slot (name := Str.ofString "__repr__") (typeIs_int s a t) F.slot_int_repr (int_reprX hn ha ?_))
  refine wpAny_bind (wpAny_isInstance (T := "str") (b := true) rfl isSubtype_str_str ?_)
  exact wpAny_pure ⟨_, rfl, h⟩
theorem pyReprObj_intX {P : Program} {w : World} {A : Around} {E : Value → Shared → Prop} {s : Shared} {a : Int} {t : Tok} {Q : Value → Shared → Prop} (hn : s.heap.NoDigits) (ha : a.natAbs.log2 < 12900) (h : Q (.str (toString a) s.toks) { s with toks := s.toks + 1 }) :
    wpAny (model P w) A (pyReprObj (.int a t)) Q E s := by
  unfold pyReprObj
  have hv : [Value.int a t].any Value.onHeap = false := rfl
  simp only [cRoomFor, hv, Bool.false_eq_true, if_false, pure_bind]
  refine wpAny_bind (wpAny_specialOf (name := Str.ofString "__repr__") (typeIs_int s a t) F.slot_int_repr.lookup ?_)
  refine wpAny_bind (m := callSpecialIfBound? (.int a t) (Str.ofString "__repr__")) (wpAny_callSpecialIfBound?_slot (name := Str.ofString "__repr__") (typeIs_int s a t) F.slot_int_repr (int_reprX hn ha ?_))
  exact wpAny_bind (wpAny_isInstance (T := "str") (b := true) rfl isSubtype_str_str (wpAny_pure h))
theorem reprK_int {P : Program} {w : World} {h : Heap} {as : List Addr} {d : Nat} {a : Int} {t : Tok} (hn : h.NoDigits) (ha : a.natAbs.log2 < 12900) : ReprK P w as h d (.int a t) (toString a) := by
  intro base hb A g E s Q _ _ _ hk hQ
  rw [pyReprUnder_leaf (v := .int a t) (by omega) (fun _ e => nomatch e)]
  unfold pyRepr
  exact wpAny_bind (pyReprObj_intX (hn.keeps hk) ha (wpAny_pure (hQ s.heap _ fun _ _ e => e)))
/-- the value u of the heap h reads as d, and is shown so -/
def Sh (P : Program) (w : World) (h : Heap) (u : Value) (d : PyData) : Prop := (∃ as, Reads h u d as) ∧ ∃ bs, ReadAtMost h d.depth bs ∧ ReprK P w bs h d.depth u d.shown
section
variable {P : Program} {w : World} {h : Heap}
theorem Sh.all : ∀ {us : List Value} {ds : List PyData}, Paired (Sh P w h) us ds → (∃ as, ReadsAll h us ds as) ∧ ∃ bs, ReadAtMost h (PyData.depthAll ds) bs ∧ ReprAllK P w bs h (PyData.depthAll ds) us (PyData.shownAll ds)
  | _, _, .nil => ⟨⟨_, .nil⟩, [], (fun _ hb => nomatch hb), by simp only [PyData.shownAll]; exact .nil⟩
  | _, _, .cons ⟨⟨as, r⟩, bs, hb, k⟩ t => by
    obtain ⟨⟨as', r'⟩, bs', hb', k'⟩ := Sh.all t
    refine ⟨⟨_, .cons r r'⟩, bs ++ bs', ?_, ?_⟩
    · simp only [PyData.depthAll]
      exact (hb.mono (Nat.le_max_left _ _)).append (hb'.mono (Nat.le_max_right _ _))
    · simp only [PyData.depthAll, PyData.shownAll]
      exact .cons ((k.more fun b m => List.mem_append_left _ m).level_le (Nat.le_max_left _ _)) (k'.more_le (fun b m => List.mem_append_right _ m) (Nat.le_max_right _ _))
theorem sh_non : Sh P w h .none .none := ⟨⟨_, .none⟩, [], fun _ hb => (nomatch hb), by simp only [PyData.shown]; exact .of_is .none _ _ _⟩
theorem sh_bl {b : Bool} : Sh P w h (.bool b) (.bool b) := ⟨⟨_, .bool b⟩, [], fun _ hb => (nomatch hb), by simp only [PyData.shown]; exact .of_is (.bool b) _ _ _⟩
theorem sh_int {i : Int} {t : Tok} (hN : h.NoDigits) (e : shw (.int i) = true) : Sh P w h (.int i t) (.int i) := ⟨⟨_, .int i t⟩, [], fun _ hb => (nomatch hb), by simp only [PyData.shown]; exact reprK_int hN (by simpa [shw] using e)⟩
theorem sh_str {x : Str} {t : Tok} (e : (PyData.shown (.str x)).length ≤ sizeLine) : Sh P w h (.str x t) (.str x) := ⟨⟨_, .str x t⟩, [], fun _ hb => (nomatch hb), by simp only [PyData.shown] at e ⊢; exact .of_is (.str x t e) _ _ _⟩
theorem sh_lst {a : Addr} {o : Obj} {us : List Value} {n : Nat} {ds : List PyData} (h1 : h.get? a = some o) (h2 : o.cls = .type "list") (h3 : o.data = .seq us.toArray n) (p : Paired (Sh P w h) us ds) : Sh P w h (.ref a) (.list ds) := by
  obtain ⟨⟨as, r⟩, bs, hb, k⟩ := Sh.all p
  have rr : Reads h (.ref a) (.list ds) _ := .list h1 h2 h3 (by simpa using r)
  have hd : PyData.depthAll ds < PyData.depth (.list ds) := by simp only [PyData.depth]; omega
  have hn := not_mem_of_deeper rr hd hb
  refine ⟨⟨_, rr⟩, a :: bs, ReadAtMost.cons rr (Nat.le_of_lt hd) hb, ?_⟩
  simp only [PyData.depth, PyData.shown]
  cases us with
  | nil =>
    cases p
    simp only [PyData.shownAll, listText_nil]
    exact ReprK.listEmpty h1 h2 h3
  | cons u us => exact ReprK.list h1 h2 h3 hn (by rw [k.length_eq]; simp) fun i y e => k.item i y (by simpa using e)
theorem sh_tup {a : Addr} {o : Obj} {us : List Value} {n : Nat} {ds : List PyData} (h1 : h.get? a = some o) (h2 : o.cls = .type "tuple") (h3 : o.data = .seq us.toArray n) (p : Paired (Sh P w h) us ds) : Sh P w h (.ref a) (.tuple ds) := by
  obtain ⟨⟨as, r⟩, bs, hb, k⟩ := Sh.all p
  have rr : Reads h (.ref a) (.tuple ds) _ := .tuple h1 h2 h3 (by simpa using r)
  have hd : PyData.depthAll ds < PyData.depth (.tuple ds) := by simp only [PyData.depth]; omega
  have hn := not_mem_of_deeper rr hd hb
  refine ⟨⟨_, rr⟩, a :: bs, ReadAtMost.cons rr (Nat.le_of_lt hd) hb, ?_⟩
  simp only [PyData.depth, PyData.shown]
  exact ReprK.tuple h1 h2 h3 hn (by simpa using k)
theorem sh_dict {a : Addr} {o : Obj} {es : Array DictEntry} {n : Nat} {kvs : List (PyData × PyData)} (h1 : h.get? a = some o) (h2 : o.cls = .type "dict") (h3 : o.data = .dict es n) (hs : (a == sysModules) = false)
    (p : Paired (Sh P w h) (es.toList.map (·.key)) (kvs.map (·.1))) (q : Paired (Sh P w h) (es.toList.map (·.val)) (kvs.map (·.2))) : Sh P w h (.ref a) (.dict kvs) := by
  obtain ⟨⟨as, r⟩, bs, hb, k⟩ := Sh.all p
  obtain ⟨⟨as', r'⟩, bs', hb', k'⟩ := Sh.all q
  have rr : Reads h (.ref a) (.dict kvs) _ := .dict h1 h2 h3 r r'
  have hd : PyData.depthKv kvs < PyData.depth (.dict kvs) := by simp only [PyData.depth]; omega
  have hbb := (hb.mono (PyData.depthAll_keys_le kvs)).append (hb'.mono (PyData.depthAll_vals_le kvs))
  have hn := not_mem_of_deeper rr hd hbb
  refine ⟨⟨_, rr⟩, a :: (bs ++ bs'), ReadAtMost.cons rr (Nat.le_of_lt hd) hbb, ?_⟩
  simp only [PyData.depth, PyData.shown, PyData.shownKv_eq]
  exact ReprK.dict h1 h2 h3 hs hn (ReprEntriesK.of_two _ _ _ (k.more_le (fun b m => List.mem_append_left _ m) (PyData.depthAll_keys_le kvs)) (k'.more_le (fun b m => List.mem_append_right _ m) (PyData.depthAll_vals_le kvs)))
end
theorem pairs_vals {P : Program} {w : World} : ∀ {es : List DictEntry} {vs : List (Key × Value)} {ks : List (Key × V)}, Pairs (mixKind P w) es vs → KV ks vs → Vals (ks.map (·.2)) (es.map (·.val)) ∧ Paired (fun k (u : Value) => keyIs k u = true) (ks.map (·.1)) (es.map (·.key))
  | _, _, _, .nil, .nil => ⟨.nil, .nil⟩
  | _, _, _, .cons h1 h2 t, .cons ⟨e, r⟩ s => by
    obtain ⟨a, b⟩ := pairs_vals t s
    exact ⟨.cons (by dsimp only; rw [h2]; exact r) a, .cons (by dsimp only; rw [e]; exact h1) b⟩
section
variable {X : Cx} {pins : List (Addr × Obj)} {σ : St} {H G : Hp} {s : Shared}
theorem keys_rp {K : Frag} : ∀ ks : List Key, RpA K G (ks.map kV) (ks.map kD)
  | [] => .nil
  | .inl i :: ks => .cons (.int i) (keys_rp ks)
  | .inr i :: ks => .cons (.str i) (keys_rp ks)
theorem sh_key {h : Heap} (hN : h.NoDigits) {k : Key} {u : Value} (e : keyIs k u = true) (s1 : shw (kD k) = true) (s2 : (kD k).shown.length ≤ sizeLine) : Sh X.prog X.w h u (kD k) := by
  rcases keyIs_shape e with ⟨i, t, rfl, rfl⟩ | ⟨i, t, rfl, rfl⟩
  · exact sh_int hN s1
  · exact sh_str s2
def okSh (ds : List PyData) : Prop := shwA ds = true ∧ ∀ t ∈ PyData.shownAll ds, t.length ≤ sizeLine
theorem okSh.cons {d : PyData} {ds : List PyData} (h : okSh (d :: ds)) : shw d = true ∧ d.shown.length ≤ sizeLine ∧ okSh ds := by
  obtain ⟨h1, h2⟩ := h
  have h1 : (shw d && shwA ds) = true := by simpa only [shwA] using h1
  rw [Bool.and_eq_true] at h1
  simp only [PyData.shownAll, List.mem_cons] at h2
  exact ⟨h1.1, h2 _ (.inl rfl), h1.2, fun t m => h2 t (.inr m)⟩
theorem ok_list {ds : List PyData} (s1 : shw (.list ds) = true) (s2 : (PyData.shown (.list ds)).length ≤ sizeLine) : okSh ds :=
  ⟨by simpa only [shw] using s1, fun t m => Nat.le_trans (listText_mem_le m) (by simpa only [PyData.shown] using s2)⟩
theorem ok_tup {ds : List PyData} (s1 : shw (.tuple ds) = true) (s2 : (PyData.shown (.tuple ds)).length ≤ sizeLine) : okSh ds :=
  ⟨by simpa only [shw] using s1, fun t m => Nat.le_trans (tupleText_mem_le m) (by simpa only [PyData.shown] using s2)⟩
theorem ok_dict {kvs : List (PyData × PyData)} (s1 : shw (.dict kvs) = true) (s2 : (PyData.shown (.dict kvs)).length ≤ sizeLine) : okSh (kvs.map (·.1)) ∧ okSh (kvs.map (·.2)) := by
  obtain ⟨a, b⟩ := shwK_split (by simpa only [shw] using s1)
  have s3 : (dictText (PyData.shownKv kvs)).length ≤ sizeLine := by simpa only [PyData.shown] using s2
  refine ⟨⟨a, fun t m => ?_⟩, b, fun t m => ?_⟩
  · obtain ⟨p, hp, hl⟩ := PyData.shownKv_key_le kvs t m
    exact Nat.le_trans hl (Nat.le_trans (dictText_mem_le hp) s3)
  · obtain ⟨p, hp, hl⟩ := PyData.shownKv_val_le kvs t m
    exact Nat.le_trans hl (Nat.le_trans (dictText_mem_le hp) s3)
theorem sh_keys {h : Heap} (hN : h.NoDigits) : ∀ {ks : List Key} {us : List Value}, Paired (fun k (u : Value) => keyIs k u = true) ks us → okSh (ks.map kD) → Paired (Sh X.prog X.w h) us (ks.map kD)
  | _, _, .nil, _ => .nil
  | _, _, .cons e t, o => by
    obtain ⟨a, b, c⟩ := okSh.cons o
    exact .cons (sh_key hN e a b) (sh_keys hN t c)
/-- keys that are tuples, where each reads -/
theorem kt_parts {xs : List (List Key × Addr × Value)} {ks : List (List Key × V)} (r : Paired (fun (p : List Key × V) (q : List Key × Addr × Value) => p.1 = q.1 ∧ H q.2.1 = some (.tup (p.1.map kV)) ∧ RelV p.2 q.2.2) ks xs) :
    Vals (ks.map (·.2)) (xs.map fun x => x.2.2) ∧ Paired (fun (p : List Key) (u : Value) => ∃ a, u = .ref a ∧ H a = some (.tup (p.map kV))) (ks.map (·.1)) (xs.map fun x => Value.ref x.2.1) := by
  induction r with
  | nil => exact ⟨.nil, .nil⟩
  | cons h t ih => exact ⟨.cons h.2.2 ih.1, .cons ⟨_, rfl, h.2.1⟩ ih.2⟩
theorem rpK_ds {K : Frag} : ∀ {ks : List (Key × V)} {kvs : List (PyData × PyData)}, RpK K G ks kvs → kvs.map (·.1) = (ks.map (·.1)).map kD
  | _, _, .nil => rfl
  | _, _, .cons _ t => congrArg _ (rpK_ds t)
theorem rpT_ds {K : Frag} : ∀ {ks : List (List Key × V)} {kvs : List (PyData × PyData)}, RpT K G ks kvs → kvs.map (·.1) = (ks.map (·.1)).map ktD
  | _, _, .nil => rfl
  | _, _, .cons _ t => congrArg _ (rpT_ds t)
theorem sh_ks {h : Heap} (hN : h.NoDigits) : ∀ {ks : List Key} {us : List Value}, Vals (ks.map kV) us → okSh (ks.map kD) → Paired (Sh X.prog X.w h) us (ks.map kD)
  | [], _, .nil, _ => .nil
  | .inl i :: ks, _, .cons ⟨t, e⟩ r, o => by subst e; exact .cons (sh_int hN o.cons.1) (sh_ks hN r o.cons.2.2)
  | .inr i :: ks, _, .cons ⟨t, e⟩ r, o => by subst e; exact .cons (sh_str o.cons.2.1) (sh_ks hN r o.cons.2.2)
theorem sh_tkeys (I : Inv X pins σ H s) (hN : s.heap.NoDigits) : ∀ {ks : List (List Key)} {us : List Value}, Paired (fun (p : List Key) (u : Value) => ∃ a, u = .ref a ∧ H a = some (.tup (p.map kV))) ks us → okSh (ks.map ktD) → Paired (Sh X.prog X.w s.heap) us (ks.map ktD)
  | _, _, .nil, _ => .nil
  | k :: _, _, .cons ⟨a, e, h⟩ t, o => by
    subst e
    obtain ⟨s1, s2, o2⟩ := okSh.cons o
    obtain ⟨_, its, rv, o3, ho, hc, n, hd⟩ := (show ObjOk X.prog X.w H s.heap a (.tup (k.map kV)) from I.hok _ _ h)
    exact .cons (sh_tup ho hc hd (sh_ks hN rv (ok_tup s1 s2))) (sh_tkeys I hN t o2)
mutual
theorem sh_rp (I : Inv X pins σ H s) (hN : s.heap.NoDigits) (S : Same G H) : ∀ (d : PyData) (v : V) (u : Value), Rp X.K G v d → RelV v u → shw d = true → d.shown.length ≤ sizeLine → Sh X.prog X.w s.heap u d
  | .none, _, _, .non, r, _, _ => by cases (show _ = Value.none from r); exact sh_non
  | .bool b, _, _, .bl _, r, _, _ => by cases (show _ = Value.bool b from r); exact sh_bl
  | .int i, _, _, .int _, r, s1, _ => by obtain ⟨t, rfl⟩ := r; exact sh_int hN s1
  | .str i, _, _, .str _, r, _, s2 => by obtain ⟨t, rfl⟩ := r; exact sh_str s2
  | .list ds, _, _, .lst h a, r, s1, s2 => by
    cases (show _ = Value.ref _ from r)
    obtain ⟨its, rv, ⟨o, n, ho, hc, _, hd⟩, _⟩ := I.list (S.seq h)
    exact sh_lst ho hc hd (sh_rpA I hN S ds _ its a rv (ok_list s1 s2))
  | .tuple ds, _, _, .tup h a, r, s1, s2 => by
    cases (show _ = Value.ref _ from r)
    obtain ⟨its, rv, ⟨o, ho, hc, n, hd⟩, _⟩ := I.tuple (sameT S h)
    exact sh_tup ho hc hd (sh_rpA I hN S ds _ its a rv (ok_tup s1 s2))
  | .dict kvs, _, _, .dK (ks := ks) (od := od) (a := a) h q, r, s1, s2 => by
    cases (show _ = Value.ref _ from r)
    obtain ⟨_, _, hsm, vs, kv, o, es, ep, h1, h2, h3, _, h5, _⟩ := (show ObjOk X.prog X.w H s.heap a (.frz od (.dK ks)) from I.hok _ _ (S _ _ h))
    obtain ⟨c1, c2⟩ := pairs_vals h5 kv
    obtain ⟨k1, k2⟩ := ok_dict s1 s2
    exact sh_dict h1 h2.1 h3 hsm (by rw [rpK_ds q] at k1 ⊢; exact sh_keys hN c2 k1) (sh_rpK I hN S kvs ks _ q c1 k2)
  | .dict kvs, _, _, .dT (ks := ks) (od := od) (a := a) h q _, r, s1, s2 => by
    cases (show _ = Value.ref _ from r)
    obtain ⟨_, _, hsm, xs, kt, o, es, ep, h1, h2, h3, h4, _⟩ := (show ObjOk X.prog X.w H s.heap a (.frz od (.dT ks)) from I.hok _ _ (S _ _ h))
    obtain ⟨c1, c2⟩ := kt_parts kt
    obtain ⟨k1, k2⟩ := ok_dict s1 s2
    have e1 : es.toList.map (·.key) = xs.map fun x => Value.ref x.2.1 := by rw [h4, List.map_map]; rfl
    have e2 : es.toList.map (·.val) = xs.map fun x => x.2.2 := by rw [h4, List.map_map]; rfl
    refine sh_dict h1 h2.1 h3 hsm ?_ (by rw [e2]; exact sh_rpT I hN S kvs ks _ q c1 k2)
    rw [rpT_ds q] at k1 ⊢
    rw [e1]
    exact sh_tkeys I hN c2 k1
theorem sh_rpA (I : Inv X pins σ H s) (hN : s.heap.NoDigits) (S : Same G H) : ∀ (ds : List PyData) (vs : List V) (us : List Value), RpA X.K G vs ds → Vals vs us → okSh ds → Paired (Sh X.prog X.w s.heap) us ds
  | [], _, _, .nil, .nil, _ => .nil
  | d :: ds, _, _, .cons r rs, .cons v vs, o => .cons (sh_rp I hN S d _ _ r v o.cons.1 o.cons.2.1) (sh_rpA I hN S ds _ _ rs vs o.cons.2.2)
theorem sh_rpK (I : Inv X pins σ H s) (hN : s.heap.NoDigits) (S : Same G H) : ∀ (kvs : List (PyData × PyData)) (ks : List (Key × V)) (us : List Value), RpK X.K G ks kvs → Vals (ks.map (·.2)) us → okSh (kvs.map (·.2)) → Paired (Sh X.prog X.w s.heap) us (kvs.map (·.2))
  | [], _, _, .nil, .nil, _ => .nil
  | (_, d) :: kvs, _, _, .cons r rs, .cons v vs, o => .cons (sh_rp I hN S d _ _ r v o.cons.1 o.cons.2.1) (sh_rpK I hN S kvs _ _ rs vs o.cons.2.2)
theorem sh_rpT (I : Inv X pins σ H s) (hN : s.heap.NoDigits) (S : Same G H) : ∀ (kvs : List (PyData × PyData)) (ks : List (List Key × V)) (us : List Value), RpT X.K G ks kvs → Vals (ks.map (·.2)) us → okSh (kvs.map (·.2)) → Paired (Sh X.prog X.w s.heap) us (kvs.map (·.2))
  | [], _, _, .nil, .nil, _ => .nil
  | (_, d) :: kvs, _, _, .cons r rs, .cons v vs, o => .cons (sh_rp I hN S d _ _ r v o.cons.1 o.cons.2.1) (sh_rpT I hN S kvs _ _ rs vs o.cons.2.2)
end
theorem shown_list {xs : List PyData} : (PyData.list xs).shown = listText (PyData.shownAll xs) := by simp only [PyData.shown]
theorem repr_sh {A : Around} {E : Value → Shared → Prop} {P : Program} {w : World} {a : Addr} {d : PyData} {Q : Value → Shared → Prop} {s : Shared} (h : Sh P w s.heap (.ref a) d) (hz : d.shown.length ≤ sizeLine) (hg : A.guards = some []) (hu : A.units + (d.depth + 1) < cLine)
    (hT : ∃ T idr, s.TypeIs (.ref a) T ∧ SlotG T "__repr__" idr ∧ wpAny (model P w) A.in1 (call (.builtin idr) [.ref a]) (fun r s₁ => ∃ x t, r = .str x t ∧ Q r s₁) E s) : wpAny (model P w) A (call (.builtin "repr") [.ref a]) Q E s := by
  obtain ⟨T, idr, ht, sl, hc⟩ := hT
  exact call_repr_slot (by omega) ht sl hc
/-- repr(x) of a ref: list, tuple, dict -/
theorem repr_ref {A : Around} {E : Value → Shared → Prop} {P : Program} {w : World} {a : Addr} {d : PyData} {Q : Value → Shared → Prop} {s : Shared} (hg : A.guards = some []) (hu : A.units + (d.depth + 1) < cLine) (hz : d.shown.length ≤ sizeLine)
    (h : (∃ o us n ds, d = .list ds ∧ s.heap.get? a = some o ∧ o.cls = .type "list" ∧ o.data = .seq (List.toArray us) n ∧ Paired (Sh P w s.heap) us ds) ∨ (∃ o us n ds, d = .tuple ds ∧ s.heap.get? a = some o ∧ o.cls = .type "tuple" ∧ o.data = .seq (List.toArray us) n ∧ Paired (Sh P w s.heap) us ds) ∨
      ∃ o es n kvs, d = .dict kvs ∧ s.heap.get? a = some o ∧ o.cls = .type "dict" ∧ o.data = .dict es n ∧ (a == sysModules) = false ∧ Paired (Sh P w s.heap) (es.toList.map (·.key)) (kvs.map (·.1)) ∧ Paired (Sh P w s.heap) (es.toList.map (·.val)) (kvs.map (·.2)))
    (q : ∀ h' u tk, (∀ b o, s.heap.get? b = some o → h'.get? b = some o) → Q (.str d.shown u) { s with heap := h', toks := tk }) : wpAny (model P w) A (call (.builtin "repr") [.ref a]) Q E s := by
  have hA : A.in1.guards = some [] := hg
  rcases h with ⟨o, us, n, ds, rfl, h1, h2, h3, p⟩ | ⟨o, us, n, ds, rfl, h1, h2, h3, p⟩ | ⟨o, es, n, kvs, rfl, h1, h2, h3, hs, p, p'⟩
  · obtain ⟨⟨as, r⟩, bs, hb, k⟩ := Sh.all p
    have rr : Reads s.heap (.ref a) (.list ds) _ := .list h1 h2 h3 (by simpa using r)
    have hd : PyData.depthAll ds < PyData.depth (.list ds) := by simp only [PyData.depth]; omega
    have hn := not_mem_of_deeper rr hd hb
    simp only [PyData.depth] at hu
    simp only [PyData.shown] at q hz
    refine call_repr_slot (by omega) ⟨o, h1, h2⟩ F.slot_list_repr.toG ?_
    cases us with
    | nil =>
      cases p
      simp only [PyData.shownAll, listText_nil] at q
      exact call_list_repr_empty ⟨o, h1, h2⟩ h1 h3 ⟨_, _, rfl, q s.heap _ _ fun _ _ e => e⟩
    | cons u us =>
      refine call_list_reprK (as := bs) (d := PyData.depthAll ds) (g := []) h1 h2 h3 hn (by rw [k.length_eq]; simp) (fun i y e => k.item i y (by simpa using e)) hA (fun b _ => Clear.nil b) (by show A.units + 1 + _ < cLine; omega) (fun _ _ e => e) (fun h' u tk hk => ⟨_, _, rfl, q h' u tk hk⟩) hz
  · obtain ⟨⟨as, r⟩, bs, hb, k⟩ := Sh.all p
    have rr : Reads s.heap (.ref a) (.tuple ds) _ := .tuple h1 h2 h3 (by simpa using r)
    have hd : PyData.depthAll ds < PyData.depth (.tuple ds) := by simp only [PyData.depth]; omega
    have hn := not_mem_of_deeper rr hd hb
    simp only [PyData.depth] at hu
    simp only [PyData.shown] at q hz
    refine call_repr_slot (by omega) ⟨o, h1, h2⟩ F.slot_tuple_repr ?_
    exact call_tuple_reprK (as := bs) (d := PyData.depthAll ds) (g := []) h1 h2 h3 hn (by simpa using k) hA (fun b _ => Clear.nil b) (by show A.units + 1 + _ < cLine; omega) (fun _ _ e => e) (fun h' u tk hk => ⟨_, _, rfl, q h' u tk hk⟩) hz
  · obtain ⟨⟨as, r⟩, bs, hb, k⟩ := Sh.all p
    obtain ⟨⟨as', r'⟩, bs', hb', k'⟩ := Sh.all p'
    have rr : Reads s.heap (.ref a) (.dict kvs) _ := .dict h1 h2 h3 r r'
    have hd : PyData.depthKv kvs < PyData.depth (.dict kvs) := by simp only [PyData.depth]; omega
    have hbb := (hb.mono (PyData.depthAll_keys_le kvs)).append (hb'.mono (PyData.depthAll_vals_le kvs))
    have hn := not_mem_of_deeper rr hd hbb
    simp only [PyData.depth] at hu
    simp only [PyData.shown] at q hz
    refine call_repr_slot (by omega) ⟨o, h1, h2⟩ F.slot_dict_repr ?_
    refine call_dict_reprK (as := bs ++ bs') (d := PyData.depthKv kvs) (g := []) h1 h2 h3 hs hn ?_ hA (fun b _ => Clear.nil b) (by show A.units + 1 + _ < cLine; omega) (fun _ _ e => e) (fun h' u tk hk => ⟨_, _, rfl, q h' u tk hk⟩) hz
    rw [PyData.shownKv_eq]
    exact ReprEntriesK.of_two _ _ _ (k.more_le (fun b m => List.mem_append_left _ m) (PyData.depthAll_keys_le kvs)) (k'.more_le (fun b m => List.mem_append_right _ m) (PyData.depthAll_vals_le kvs))
def fRepr : List PyData → Option PyData
  | [d] => if shw d = true ∧ d.shown.length ≤ 16777216 ∧ d.depth ≤ 64 then some (.str d.shown) else none
  | _ => none
/-- repr(x) -/
def rRepr (K : Frag) : List V → Hp → VK → Prop := fun xs H Q => ∃ (x : V) (G : Hp) (d : PyData), xs = [x] ∧ Same G H ∧ View K G H x d ∧ shw d = true ∧ d.shown.length ≤ 16777216 ∧ d.depth ≤ 64 ∧ Q (.str d.shown) H
theorem call_repr (hD : X.base.NoDigits) (hg : X.A.guards = some []) (hu : X.A.units + 66 < cLine) : CallR X (.builtin "repr") (rRepr X.K) := by
  intro pins s σ H xs us Q I r h
  obtain ⟨x, G, d, rfl, S, vw, s1, s2, s3, q⟩ := h
  have hN : s.heap.NoDigits := hD.keeps I.bk
  obtain ⟨u, rfl, rx⟩ := vals1 r
  have hz : d.shown.length ≤ sizeLine := by rw [sizeLine_eq]; exact s2
  have fin : ∀ h' t tk, (∀ b o, s.heap.get? b = some o → h'.get? b = some o) → EP X pins σ Q (.str d.shown t) { s with heap := h', toks := tk } := fun h' t tk hk => ⟨.str _, H, I.kept hk, ⟨_, rfl⟩, q⟩
  cases d with
  | none =>
    cases vw; cases (show u = Value.none from rx)
    simp only [PyData.shown] at q
    exact PySem.P.repr_of_none ⟨.str _, H, I.tok _, ⟨_, rfl⟩, q⟩
  | bool b =>
    cases vw; cases (show u = Value.bool b from rx)
    simp only [PyData.shown] at q
    exact PySem.P.repr_of_bool ⟨.str _, H, I.tok _, ⟨_, rfl⟩, q⟩
  | int i =>
    cases vw; obtain ⟨t, rfl⟩ := rx
    simp only [PyData.shown] at q
    exact repr_intX hN (by simpa [shw] using s1) ⟨.str _, H, I.tok _, ⟨_, rfl⟩, q⟩
  | str i =>
    cases vw; obtain ⟨t, rfl⟩ := rx
    simp only [PyData.shown] at q hz
    exact PySem.P.repr_of_str ⟨.str _, H, I.tok _, ⟨_, rfl⟩, q⟩ hz
  | list ds =>
    obtain ⟨a, xs, rfl, h, ra⟩ := vw
    cases (show u = Value.ref a from rx)
    obtain ⟨its, rv, ⟨o, n, ho, hc, _, hd⟩, _⟩ := I.list h
    exact repr_ref hg (by omega) hz (.inl ⟨o, its, n, ds, rfl, ho, hc, hd, sh_rpA I hN S ds _ its ra rv (ok_list s1 hz)⟩) fin
  | tuple ds =>
    obtain ⟨a, xs, rfl, h, ra⟩ := vw
    cases (show u = Value.ref a from rx)
    obtain ⟨its, rv, ⟨o, ho, hc, n, hd⟩, _⟩ := I.tuple (sameT S h)
    exact repr_ref hg (by omega) hz (.inr (.inl ⟨o, its, n, ds, rfl, ho, hc, hd, sh_rpA I hN S ds _ its ra rv (ok_tup s1 hz)⟩)) fin
  | dict kvs =>
    obtain ⟨a, rfl, ⟨ks, h, ra⟩ | ⟨ks, h, ra, _⟩⟩ := vw
    · cases (show u = Value.ref a from rx)
      obtain ⟨_, hsm, vs, kv, o, es, ep, h1, h2, h3, _, h5, _⟩ := (show ObjOk X.prog X.w H s.heap a (.dK ks) from h.ok I.hok)
      obtain ⟨c1, c2⟩ := pairs_vals h5 kv
      obtain ⟨k1, k2⟩ := ok_dict s1 hz
      exact repr_ref hg (by omega) hz (.inr (.inr ⟨o, es, ep, kvs, rfl, h1, h2.1, h3, hsm, by rw [rpK_ds ra] at k1 ⊢; exact sh_keys hN c2 k1, sh_rpK I hN S kvs ks _ ra c1 k2⟩)) fin
    · cases (show u = Value.ref a from rx)
      obtain ⟨_, hsm, xs, kt, o, es, ep, h1, h2, h3, h4, _⟩ := (show ObjOk X.prog X.w H s.heap a (.dT ks) from h.ok I.hok)
      obtain ⟨c1, c2⟩ := kt_parts kt
      obtain ⟨k1, k2⟩ := ok_dict s1 hz
      have e1 : es.toList.map (·.key) = xs.map fun x => Value.ref x.2.1 := by rw [h4, List.map_map]; rfl
      have e2 : es.toList.map (·.val) = xs.map fun x => x.2.2 := by rw [h4, List.map_map]; rfl
      refine repr_ref hg (by omega) hz (.inr (.inr ⟨o, es, ep, kvs, rfl, h1, h2.1, h3, hsm, ?_, by rw [e2]; exact sh_rpT I hN S kvs ks _ ra c1 k2⟩)) fin
      rw [rpT_ds ra] at k1 ⊢
      rw [e1]
      exact sh_tkeys I hN c2 k1
theorem sc_repr {K : Frag} : SC K (rRepr K) fRepr := by
  intro G H vs ds d Q S vw e q
  unfold fRepr at e
  split at e
  · split at e
    · rename_i c
      cases e
      obtain ⟨v, rfl, h1⟩ := views1 vw
      exact ⟨v, G, _, rfl, S, h1, c.1, c.2.1, c.2.2, q _ G H .refl (.str _)⟩
    · cases e
  · cases e
end
end DL
namespace DL
open PySem L2 PySem.Spec
open PyProof.Rows hiding St
/-! ## the law's end -/
section
variable {P : Program} {w : World} {K : Frag} {mg mB : Str → Option Value} {k : Nat} {fA aS : Addr} {fD : FuncData} {xN : Str} {sp : Sp} {sA : Shared} {its : List Value} {zs : List Int}
def Fin (sA : Shared) (r : Result) (s' : Shared) : Prop := r = .ok (.ret (.bool true)) ∧ OldK sA.heap s'.heap ∧ s'.os = sA.os ∧ AllBare s'.gens
theorem law_from {H : Hp} (KX : K.In sA.heap) (nG : sA.heap.Ns mainGlobals mg) (nB : sA.heap.Ns builtinsNs mB) (bB : ∀ y : Str, y ≠ "__name__" → mB y = bootBuiltins y) (lim : sA.heap.NoLimit) (dig : sA.heap.NoDigits) (gn : sA.gens = #[])
    (obj : sA.heap.get? aS = some { cls := .type "list", data := .seq its.toArray }) (room : Room k callerA)
    (F : ∀ base : Heap, K.In base → base.Ns mainGlobals mg → base.NoDigits → FnG P w K mg base k fA fD [xN] sp) (bnd : ∀ (s : Shared) (u : Value), BindsTo s fD ⟨[u], []⟩ [(xN, u)])
    (only : Only H) (spH : sp [.ref aS] H (fun v _ => v = .bl true) fun _ _ _ => False) (hk : HOk P w H sA.heap) (at1 : ∀ b, H b ≠ none → b = aS) (atK : H aS ≠ none → K.lookup aS = none) :
    codeAny (model P w) callerA (.call (.ref fA) ⟨[.ref aS], []⟩) (Fin sA) sA := by
  have get' : ∀ {b : Addr} {o : Obj}, sA.heap.get? b = some o → H b = none → (hidT sA.heap H).get? b = some o := fun e n => hidT_get e n
  have dict0 : ∀ {b : Addr} {o : Obj} {es : Array DictEntry} {n : Nat}, sA.heap.get? b = some o → o.data = .dict es n → H b = none := fun {b o es n} e d => by
    cases z : H b with
    | none => rfl
    | some u =>
      obtain rfl : b = aS := at1 b (by rw [z]; nofun)
      rw [obj] at e; cases e
      cases (show Data.seq its.toArray _ = Data.dict es n from d)
  have ns' : ∀ {b : Addr} {m : Str → Option Value}, sA.heap.Ns b m → (hidT sA.heap H).Ns b m := fun {b m} ⟨o, es, n, e, d, r⟩ => ⟨o, es, n, get' e (dict0 e d), d, r⟩
  have kin : K.In (hidT sA.heap H) := fun b o e => get' (KX b o e) (by
    cases z : H b with
    | none => rfl
    | some u =>
      obtain rfl : b = aS := at1 b (by rw [z]; nofun)
      rw [atK (by rw [z]; nofun)] at e; cases e)
  have md : Mod K mg (hidT sA.heap H) := ⟨kin, ns' nG, ⟨mB, ns' nB, bB⟩, by obtain ⟨mc, a, b⟩ := lim; exact ⟨mc, ns' a, b⟩⟩
  have ee : Env0 P w K mg (hidT sA.heap H) callerA [] sA H :=
    { frames := rfl, mod := md, bs := fun b o e => of_hidT e, bsz := Nat.le_of_eq (hidT_size _ _), funs := trivial, frf := fun b z => (nomatch (show b ∈ ([] : List Addr) from z)), hok := hk, bare := .of_eq gn }
  refine codeAny_mono ((F _ kin (ns' nG) (by obtain ⟨mc, a, b⟩ := dig; exact ⟨mc, ns' a, b⟩)).run callerA [] sA H ⟨[.ref aS], []⟩ [.ref aS] [.ref aS] _ _ rfl room ee (bnd sA (.ref aS)) (.cons rfl .nil) spH) fun r t hr => ?_
  have all : ∀ (r : Result), L2.CR (L2.CX P w) [] P w H sA (fun v _ => v = .bl true) (fun _ _ _ => False) r t → ∃ u, r = .ok (.ret u) ∧ L2.CE [] P w H sA (fun v _ => v = .bl true) u t := by
    intro r z
    cases r with
    | error e => obtain ⟨_, _, _, _, _, _, _, _, _, _, _, _, z⟩ := z; exact z.elim
    | ok fl =>
      cases fl with
      | ret u => exact ⟨u, rfl, z⟩
      | _ => exact False.elim z
  obtain ⟨u, rfl, hr⟩ := all r hr
  · obtain ⟨v, H2, c1, c2, c3, c4, c5, c6⟩ := hr
    obtain rfl : v = .bl true := c6
    obtain rfl : u = Value.bool true := c5
    refine ⟨rfl, OldK.of_keep fun b o e => ?_, c1, c2⟩
    cases z : H b with
    | none => exact c3.keep b o e z (fun m => nomatch (show b ∈ ([] : List Addr) from m)) fun m => nomatch m
    | some u =>
      rcases only b with y | ⟨ob, xs, y⟩
      · rw [z] at y; cases y
      · obtain ⟨e1, _⟩ := hk b _ y
        obtain ⟨e2, _⟩ := c4 b _ (c3.frzs b ob _ y)
        exact (e.symm.trans e1) ▸ e2
/-- the law, called with its script -/
theorem law_callG (KX : K.In sA.heap) (nG : sA.heap.Ns mainGlobals mg) (nB : sA.heap.Ns builtinsNs mB) (bB : ∀ y : Str, y ≠ "__name__" → mB y = bootBuiltins y) (lim : sA.heap.NoLimit) (dig : sA.heap.NoDigits) (gn : sA.gens = #[])
    (obj : sA.heap.get? aS = some { cls := .type "list", data := .seq its.toArray }) (ia : IntsAre its zs) (lz : zs.length ≤ sizeLine) (room : Room k callerA)
    (F : ∀ base : Heap, K.In base → base.Ns mainGlobals mg → base.NoDigits → FnG P w K mg base k fA fD [xN] sp) (bnd : ∀ (s : Shared) (u : Value), BindsTo s fD ⟨[u], []⟩ [(xN, u)])
    (spA : ∀ H : Hp, SqL K H aS (zs.map V.int) → sp [.ref aS] H (fun v _ => v = .bl true) fun _ _ _ => False) : codeAny (model P w) callerA (.call (.ref fA) ⟨[.ref aS], []⟩) (Fin sA) sA := by
  have go := fun (H : Hp) (only : Only H) (sq : SqL K H aS (zs.map V.int)) => law_from (H := H) KX nG nB bB lim dig gn obj room F bnd only (spA H sq)
  cases inK : K.lookup aS with
  | some o =>
    have e := KX aS o inK
    rw [obj] at e; cases e
    have sq : SqL K (fun _ => none) aS (zs.map V.int) := .inr ⟨_, its.toArray, _, inK, rfl, rfl, rfl, by simpa [ia.length] using lz, by simpa using vals_ints ia⟩
    exact go (fun _ => none) (fun _ => .inl rfl) sq (fun _ _ z => nomatch z) (fun _ z => absurd rfl z) fun z => absurd rfl z
  | none =>
    let H : Hp := upd (fun _ => none) aS (.frz { cls := .type "list", data := .seq its.toArray } (.lst (zs.map V.int)))
    have hH : H aS = some (.frz { cls := .type "list", data := .seq its.toArray } (.lst (zs.map V.int))) := upd_same
    have hN : ∀ b, b ≠ aS → H b = none := fun b ne => upd_ne ne
    refine go H (fun b => ?_) (.inl (.inr ⟨_, hH⟩)) (fun b o z => ?_) (fun b z => ?_) fun _ => inK
    · by_cases hb : b = aS
      · subst hb; exact .inr ⟨_, _, hH⟩
      · exact .inl (hN b hb)
    · by_cases hb : b = aS
      · subst hb
        rw [hH] at z; cases z
        exact ⟨obj, by rw [List.length_map]; exact lz, its, _, vals_ints ia, obj⟩
      · rw [hN b hb] at z; cases z
    · by_cases hb : b = aS
      · exact hb
      · exact absurd (hN b hb) z
end
theorem walkG {l : PySem.W.OpenLaw} {n k : Nat} {q : Program} {loose : List Str} {XP : (Str → Option Value) → Heap → Prop} {YP : World → Heap → Prop} {d : DefRec} {K : Params → Frag} {xN : Str} {ml : FnM}
    (hn : l.most = some n) (hn2 : n ≤ sizeLine) (hdf : d.params.defaults = []) (room : Room k callerA) (hY : ∀ (w : World) (h : Heap), YP w h → (K w.params).In h)
    (F : ∀ (w : World) (mg : Str → Option Value) (fA : Addr) (h : Heap), (K w.params).In h → h.Ns mainGlobals mg → mg d.name = some (.ref fA) →
      ∃ fD : FuncData, (∀ (s : Shared) (u : Value), BindsTo s fD ⟨[u], []⟩ [(xN, u)]) ∧ ∀ base : Heap, (K w.params).In base → base.Ns mainGlobals mg → base.NoDigits → FnG l.prog w (K w.params) mg base k fA fD [xN] (spD (K w.params) mg ml))
    (law : ∀ zs : List Int, zs.length ≤ n → (∀ z ∈ zs, Builtin.Int.intBits z ≤ 1048576) → ∃ fr as, ml [.cl (.list (zs.map .int))] = .ok (.bool true) fr as) :
    PySem.W.WalkO q loose XP YP l.row.toRowW d [] (fun f vs => PySem.call f vs) := by
  refine Att.attach_callB hn hdf fun w s₀ sA mg mB fA o pm cd doc aS its zs G Y ho hd hcd hmg obj ia len bits gn => ?_
  have KX := hY w _ Y
  obtain ⟨fD, bnd, hF⟩ := F w mg fA _ KX G.T.g hmg
  refine law_callG KX G.T.g G.T.b G.T.builtins G.T.nolimit G.T.nodigits gn obj ia (Nat.le_trans len hn2) room hF bnd fun H sq => ?_
  obtain ⟨fr, as', hm⟩ := law zs len bits
  refine ⟨H, [.cl (.list (zs.map .int))], ⟨rfl, Same.refl _, fun i s e => ?_, fun i j p s t e _ m _ _ _ => ?_⟩, ?_⟩
  · cases i with
    | zero => cases e; exact ⟨rfl, _, rfl, _, rfl, .lst sq (rpA_ints zs)⟩
    | succ i => simp at e
  · cases i with
    | zero => cases e; cases m
    | succ i => simp at e
  · rw [hm]
    intro v G' H' _ r
    cases fr with
    | true => obtain ⟨p, _, _, _, o⟩ := r; exact o.elim
    | false => cases r; rfl
end DL
namespace DL
open PySem L2 PySem.Spec
open PyProof.Rows hiding St
/-! ## lending: owned lists read as data while an expression runs that changes nothing here -/
def lwS : Sl → Sl
  | .ow d => .lw d
  | .pw d => .lw d
  | .pc d => .cl d
  | s => s
def lendS (b : Bool) : Sl → Sl
  | .ow (.list ds) => if b then .cl (.list ds) else .lw (.list ds)
  | .pw (.list ds) => if b then .cl (.list ds) else .lw (.list ds)
  | s => lwS s
def lendE (is : List Nat) (env : DEnv) : DEnv := env.mapIdx fun i s => lendS (is.contains i) s
def mLendT (is : List Nat) (m : DEnv → Out Bool) : DEnv → Out Bool := fun env => match m (lendE is env) with
  | .ok b _ => .ok b env
  | _ => .bad
def mLend (is : List Nat) (m : DEnv → Out EV) : DEnv → Out EV := fun env => match m (lendE is env) with
  | .ok (.val d) _ => if flatD d = true then .ok (.val d) env else .bad
  | _ => .bad
section
variable {K : Frag} {B : Bs} {env : DEnv} {σ : St} {G H H' : Hp}
theorem INV.grow (I : INV K B env σ G H) (S : Same H H') : INV K B env σ G H' := by
  have keep : ∀ {p : Addr}, H p ≠ none → H' p = H p := fun {p} h => by
    cases z : H p with
    | none => exact absurd z h
    | some o => exact S p o z
  refine ⟨I.len, fun i s e => ?_, I.nd, I.gh.trans S, I.g0, fun b o h e => S b o (I.h0 b o h e), I.fr, I.ow, I.pw, I.lw, fun j q h => ?_, fun q hq => ?_, I.td⟩
  · obtain ⟨v, h1, h2⟩ := I.sl i s e
    refine ⟨v, h1, h2.up (Same.refl _) fun q hq ho => ?_⟩
    obtain ⟨q', hq', g1, g2⟩ := h2.own ho
    have e1 : q = q' := by rw [hq] at hq'; exact V.ref.inj (Option.some.inj hq')
    subst e1
    exact ⟨keep g2, g1⟩
  · obtain ⟨a1, a2, a3⟩ := I.pp j q h
    exact ⟨a1, by rw [keep a2]; exact a2, a3⟩
  · obtain ⟨a1, a2, a3, a4, a5⟩ := I.tp q hq
    exact ⟨a1, a2.up (Same.refl _) (keep a2.some), a3, a4, a5⟩
open Classical in
/-- the lent lists told as data -/
noncomputable def lendG (is : List Nat) (env : DEnv) (σ : St) (G H : Hp) : Hp := fun b => if ∃ i s ds, i ∈ is ∧ env[i]? = some s ∧ (s = .ow (.list ds) ∨ s = .pw (.list ds)) ∧ σ[i]? = some (some (.ref b)) then H b else G b
theorem lendG_yes {is : List Nat} {b : Addr} (h : ∃ i s ds, i ∈ is ∧ env[i]? = some s ∧ (s = .ow (.list ds) ∨ s = .pw (.list ds)) ∧ σ[i]? = some (some (.ref b))) : lendG is env σ G H b = H b := if_pos h
theorem lendG_no {is : List Nat} {b : Addr} (h : ¬∃ i s ds, i ∈ is ∧ env[i]? = some s ∧ (s = .ow (.list ds) ∨ s = .pw (.list ds)) ∧ σ[i]? = some (some (.ref b))) : lendG is env σ G H b = G b := if_neg h
theorem lend_same {is : List Nat} (S : Same G H) : Same G (lendG is env σ G H) ∧ Same (lendG is env σ G H) H := by
  refine ⟨fun b o e => ?_, fun b o e => ?_⟩
  · by_cases h : ∃ i s ds, i ∈ is ∧ env[i]? = some s ∧ (s = .ow (.list ds) ∨ s = .pw (.list ds)) ∧ σ[i]? = some (some (.ref b))
    · rw [lendG_yes h]; exact S b o e
    · rw [lendG_no h]; exact e
  · by_cases h : ∃ i s ds, i ∈ is ∧ env[i]? = some s ∧ (s = .ow (.list ds) ∨ s = .pw (.list ds)) ∧ σ[i]? = some (some (.ref b))
    · rw [lendG_yes h] at e; exact e
    · rw [lendG_no h] at e; exact S b o e
theorem lendE_get {is : List Nat} {i : Nat} {t : Sl} (h : (lendE is env)[i]? = some t) : ∃ s, env[i]? = some s ∧ t = lendS (is.contains i) s := by
  unfold lendE at h
  rw [List.getElem?_mapIdx] at h
  cases q : env[i]? with
  | none => rw [q] at h; cases h
  | some s => rw [q] at h; exact ⟨s, rfl, (Option.some.inj h).symm⟩
theorem INV.lend (I : INV K B env σ G H) (is : List Nat) : INV K ⟨lendG is env σ G H, H, [], []⟩ (lendE is env) σ (lendG is env σ G H) H := by
  obtain ⟨S1, S2⟩ := lend_same (env := env) (σ := σ) (is := is) I.gh
  have nolw : ∀ {i : Nat} {t : Sl}, (lendE is env)[i]? = some t → t.mut = false := fun {i t} e => by
    obtain ⟨s, _, rfl⟩ := lendE_get e
    cases s with
    | ow d => cases d <;> first | rfl | (show (Sl.mut (if _ then _ else _)) = false; split <;> rfl)
    | pw d => cases d <;> first | rfl | (show (Sl.mut (if _ then _ else _)) = false; split <;> rfl)
    | _ => rfl
  have hSl : ∀ (i : Nat) (t : Sl), (lendE is env)[i]? = some t → ∃ v, σ[i]? = some v ∧ SlR K (lendG is env σ G H) H v t := fun i t e => by
    obtain ⟨s, es, rfl⟩ := lendE_get e
    obtain ⟨v, h1, h2⟩ := I.sl i s es
    refine ⟨v, h1, ?_⟩
    -- an owned slot that is not lent
    have own : ∀ p d, v = some (.ref p) → s.isO = true → (¬∃ i s ds, i ∈ is ∧ env[i]? = some s ∧ (s = .ow (.list ds) ∨ s = .pw (.list ds)) ∧ σ[i]? = some (some (.ref p))) → G p = none → OwR K G H p d → SlR K (lendG is env σ G H) H v (.lw d) := fun p d ev ho hn g o =>
      ⟨p, ev, by rw [lendG_no hn]; exact g, o.up S1 rfl⟩
    have other : ∀ p, v = some (.ref p) → s.isO = true → (s.mut = true → ¬(i ∈ is ∧ ∃ ds, s = .ow (.list ds) ∨ s = .pw (.list ds))) → ¬∃ i s ds, i ∈ is ∧ env[i]? = some s ∧ (s = .ow (.list ds) ∨ s = .pw (.list ds)) ∧ σ[i]? = some (some (.ref p)) := fun p ev ho hm ⟨j, t, ds, hj, et, ht, hp⟩ => by
      have tm : t.mut = true := by rcases ht with rfl | rfl <;> rfl
      have eq : j = i := I.nd j i p t s et es tm ho hp (by rw [h1, ev])
      subst eq
      rw [es] at et
      cases et
      exact hm tm ⟨hj, ds, ht⟩
    have mutcase : ∀ d, (s = .ow d ∨ s = .pw d) → SlR K (lendG is env σ G H) H v (lendS (is.contains i) s) := fun d hd => by
      obtain ⟨p, ev, g, o⟩ : ∃ p, v = some (.ref p) ∧ G p = none ∧ Ow K G H p d := by rcases hd with rfl | rfl <;> exact h2
      have ho : s.isO = true := by rcases hd with rfl | rfl <;> rfl
      cases d with
      | list ds =>
        by_cases c : is.contains i = true
        · have e1 : lendS (is.contains i) s = .cl (.list ds) := by rcases hd with rfl | rfl <;> (show (if _ then _ else _) = _; rw [if_pos c])
          rw [e1]
          obtain ⟨xs, hx, rx⟩ := o
          have hy : ∃ i s ds, i ∈ is ∧ env[i]? = some s ∧ (s = .ow (.list ds) ∨ s = .pw (.list ds)) ∧ σ[i]? = some (some (.ref p)) := ⟨i, s, ds, by simpa using c, es, hd, by rw [h1, ev]⟩
          exact ⟨_, ev, .lst (.inl (.inl (by rw [lendG_yes hy]; exact hx))) (rx.up S1)⟩
        · have e1 : lendS (is.contains i) s = .lw (.list ds) := by rcases hd with rfl | rfl <;> (show (if _ then _ else _) = _; rw [if_neg c])
          rw [e1]
          exact own p _ ev ho (other p ev ho fun _ z => c (by simpa using z.1)) g o.toR
      | dict kvs =>
        have e1 : lendS (is.contains i) s = .lw (.dict kvs) := by rcases hd with rfl | rfl <;> rfl
        rw [e1]
        exact own p _ ev ho (other p ev ho fun _ z => by
          obtain ⟨_, ds, z | z⟩ := z <;> (subst z; rcases hd with z | z <;> cases z)) g o.toR
      | _ => exact o.elim
    cases s with
    | un => trivial
    | cl d => obtain ⟨y, h, r⟩ := h2; exact ⟨y, h, r.up S1⟩
    | pc d => obtain ⟨y, h, r⟩ := h2; exact ⟨y, h, r.up S1⟩
    | ow d => exact mutcase d (.inl rfl)
    | pw d => exact mutcase d (.inr rfl)
    | lw d =>
      obtain ⟨p, ev, g, o⟩ := h2
      exact own p d ev rfl (other p ev rfl fun z => nomatch z) g o
  refine ⟨?_, hSl, fun i j p s t e _ m _ _ _ => ?_, S2, Same.refl _, fun b o _ e => e, fun b h _ _ => h, fun i p d e _ => ?_, fun i p d e _ => ?_, fun i p d e q => ?_, fun j p h => (nomatch h), fun q h => (nomatch h), ⟨.nil, fun i j p h => (nomatch h)⟩⟩
  · unfold lendE; rw [List.length_mapIdx]; exact I.len
  · rw [nolw e] at m; cases m
  · have := nolw e; cases this
  · have := nolw e; cases this
  · obtain ⟨v, h1, p', ev, g, o⟩ := hSl i _ e
    rw [h1, ev] at q
    have e1 : p' = p := V.ref.inj (Option.some.inj (Option.some.inj q))
    subst e1
    exact ⟨o.some, g, fun j z => (nomatch z)⟩
theorem flat_up {G' : Hp} {v : V} {d : PyData} (r : Rp K G v d) (f : flatD d = true) : Rp K G' v d := by
  cases d with
  | none => cases r; exact .non
  | bool b => cases r; exact .bl _
  | int b => cases r; exact .int _
  | str b => cases r; exact .str _
  | _ => cases f
end
section
variable {X : Cx} {EK : XK} {e : Expr}
theorem dt_lend (is : List Nat) {m : DEnv → Out Bool} (h : DT X EK e m) : DT X EK e (mLendT is m) := fun B =>
  ⟨fun pins s σ H Q I0 ⟨env, G, I, q⟩ => by
    unfold mLendT at q
    cases z : m (lendE is env) with
    | bad => rw [z] at q; exact q.elim
    | ex c r => rw [z] at q; exact q.elim
    | ok b r =>
      rw [z] at q
      refine (h ⟨lendG is env σ G H, H, [], []⟩).run pins s σ H Q I0 ⟨lendE is env, _, I.lend is, ?_⟩
      rw [z]
      intro w G' H' J S hw
      have SH : Same H H' := fun b o e => J.h0 b o (fun j z => nomatch z) e
      exact q w G H' (I.grow SH) (Same.refl _) hw⟩
theorem de_lend (is : List Nat) {m : DEnv → Out EV} (h : DE X EK e m) : DE X EK e (mLend is m) := fun B =>
  ⟨fun pins s σ H Q I0 ⟨env, G, I, q⟩ => by
    unfold mLend at q
    cases z : m (lendE is env) with
    | bad => rw [z] at q; exact q.elim
    | ex c r => rw [z] at q; exact q.elim
    | ok b r =>
      rw [z] at q
      cases b with
      | slot i => exact q.elim
      | val d =>
        by_cases f : flatD d = true
        case neg => simp only [f] at q; exact q.elim
        simp only [f] at q
        refine (h ⟨lendG is env σ G H, H, [], []⟩).run pins s σ H Q I0 ⟨lendE is env, _, I.lend is, ?_⟩
        rw [z]
        intro w G' H' J S hw
        have SH : Same H H' := fun b o e => J.h0 b o (fun j z => nomatch z) e
        exact q w G H' (I.grow SH) (Same.refl _) (flat_up hw f)⟩
end
/-! ## a def by its name -/
def Cal (P : Program) (w : World) (K : Frag) (mg : Str → Option Value) (base : Heap) (k : Nat) (x : Str) (ps : List Str) (m : FnM) : Prop := ∃ f fd, mg x = some (.ref f) ∧ PySem.W.keepIn K (.ref f) = true ∧ Binds K fd ps [] ∧ FnG P w K mg base k f fd ps (spD K mg m)
section
variable {X : Cx} {EK : XK} {e : Expr} {es : List Expr} {k : Nat} {x : Str} {ps : List Str} {m : FnM} {p pos : Pos} {mr : DEnv → Out (List EV)}
theorem de_cal (ms : List Bool) (c : Cal X.prog X.w X.K X.mg X.base k x ps m) (hG : X.A.guards = some []) (hr : Room k X.A) (hx : Passes (L2.CX X.prog X.w) X EK) (ha : DA X EK (e :: es) mr) (hg : Gl X x := by rfl) (hdb : (x == ("__debug__" : Str)) = false := by decide)
    (he : starEach (e :: es) X.env = (false, eval e X.env) :: starEach es X.env := by rfl) (hpl : (backTo pos (starEach es X.env)).any (·.1) = false := by rfl) : DE X EK (.Call (.Name x p) (e :: es) [] pos) (mCall m ms mr) := by
  obtain ⟨f, fd, h1, h2, h3, h4⟩ := c
  exact de_call (fun h => pe_callG h4 hG hr h1 h2 h3 hx h hg hdb he hpl) ha
theorem df_cal (ms : List Bool) (c : Cal X.prog X.w X.K X.mg X.base k x ps m) (hG : X.A.guards = some []) (hr : Room k X.A) (hx : Passes (L2.CX X.prog X.w) X EK) (ha : DA X EK (e :: es) mr) (hg : Gl X x := by rfl) (hdb : (x == ("__debug__" : Str)) = false := by decide)
    (he : starEach (e :: es) X.env = (false, eval e X.env) :: starEach es X.env := by rfl) (hpl : (backTo pos (starEach es X.env)).any (·.1) = false := by rfl) : DF X EK (.Call (.Name x p) (e :: es) [] pos) (mCallF m ms mr) := by
  obtain ⟨f, fd, h1, h2, h3, h4⟩ := c
  exact df_call (fun h => pe_callG h4 hG hr h1 h2 h3 hx h hg hdb he hpl) ha
end
theorem Cal.mono {P : Program} {w : World} {K : Frag} {mg : Str → Option Value} {base : Heap} {j k : Nat} {x : Str} {ps : List Str} {m : FnM} (c : Cal P w K mg base j x ps m) (h : j ≤ k) : Cal P w K mg base k x ps m := by
  obtain ⟨f, fd, h1, h2, h3, h4⟩ := c
  exact ⟨f, fd, h1, h2, h3, h4.mono h⟩
theorem passes0 {P : Program} {w : World} {X : Cx} : Passes (L2.CX P w) X E0' := fun _ _ _ _ _ _ _ z => by
  obtain ⟨_, _, _, _, _, _, _, _, _, _, _, _, z⟩ := z
  exact z.elim
end DL
namespace DL
open PySem L2 PySem.Spec
open PyProof.Rows hiding St
/-! ## while; y = [e for ..] -/
def whileM (t : DEnv → Out Bool) (m : DEnv → SOut) : Nat → DEnv → SOut
  | 0, _ => .bad
  | n + 1, env => (t env).bindS fun k r => if k = true then (match m r with
      | .nx r2 => whileM t m n r2
      | .ct r2 => whileM t m n r2
      | .bk r2 => .nx r2
      | .rt x fr r2 => .rt x fr r2
      | .ex c r2 => .ex c r2
      | .bad => .bad) else .nx r
def mSetL (i : Nat) (m : DEnv → Out PyData) : DEnv → SOut := fun env => (m env).bindS fun d r => match d with
  | .list ds => if asgOk r i = true then .nx (r.set i (.cl (.list ds))) else .bad
  | _ => .bad
section
variable {X : Cx} {EK : XK} {c e tg iter elt : Expr} {ifs : List Expr} {pos spos : Pos} {t : DEnv → Out Bool} {m : DEnv → SOut} {sts : List Stmt}
theorem ds_while (n : Nat) (ht : DT X EK c t) (hb : DSs X EK sts m) (hp : PassesOwn (model X.prog X.w) X.A X.env X.xe) : DS X EK (.While c sts [] pos) (whileM t m n) := fun B =>
  PS.weak (ps_while hp (ht B) (hb B)) fun D σ H ⟨env, G, I, h⟩ => by
    refine ⟨fun k σ H => ∃ env G', INV X.K B env σ G' H ∧ Same G G' ∧ PDS X.K X.mg B EK (whileM t m k env) G' D, ⟨n, env, G, I, Same.refl _, h⟩, ?_⟩
    rintro k σ1 H1 ⟨env1, G1, I1, S1, h1⟩
    cases k with
    | zero => exact h1.elim
    | succ k =>
      refine ⟨env1, G1, I1, (PD.bindS h1).imp fun b H2 ⟨b', env2, G2, I2, S2, eb, h2⟩ => ?_⟩
      have eb : b = b' := eb
      subst eb
      cases b with
      | false => rw [if_neg Bool.false_ne_true] at h2; exact iteF (h2 σ1 G2 H2 I2 (Same.refl _))
      | true =>
        rw [if_pos rfl] at h2
        refine iteT ⟨fun σ' H' => ∃ env' G', INV X.K B env' σ' G' H' ∧ Same G G' ∧ PDS X.K X.mg B EK (whileM t m k env') G' D, fun σ' H' z => ⟨k, Nat.lt_succ_self k, z⟩, env2, G2, I2, ?_⟩
        have S12 := S1.trans S2
        cases q : m env2 with
        | bad => simp only [q] at h2; exact h2
        | nx r2 => simp only [q] at h2; exact fun σ4 G4 H4 I4 S4 => ⟨r2, G4, I4, S12.trans S4, PDS.up h2 S4⟩
        | ct r2 => simp only [q] at h2; exact fun σ4 G4 H4 I4 S4 => ⟨r2, G4, I4, S12.trans S4, PDS.up h2 S4⟩
        | bk r2 => simp only [q] at h2; exact fun σ4 G4 H4 I4 S4 => h2 σ4 G4 H4 I4 S4
        | rt x fr r2 => simp only [q] at h2; exact fun v σ4 G4 H4 I4 S4 x => h2 v σ4 G4 H4 I4 S4 x
        | ex c r2 => simp only [q] at h2; exact fun cls dd σ4 G4 H4 I4 S4 x => h2 cls dd σ4 G4 H4 I4 S4 x
theorem setF_w {i : Nat} {mf : DEnv → Out PyData} {B : Bs} {D : Ends} {σ : St} {H : Hp} (h : tS X.K X.mg B EK (mSetF i mf) D σ H) : tF X.K X.mg B EK mf σ H fun x H1 => gName i x σ H1 D.nx := by
  obtain ⟨env, G, I, h⟩ := h
  refine ⟨env, G, I, (PD.bindS h).imp fun v H1 ⟨d, env1, G1, I1, _, r1, h1⟩ => ?_⟩
  obtain ⟨p, rfl, f, x⟩ := r1
  by_cases ha : asgOk env1 i = true
  · simp only [if_pos ha] at h1; exact h1 _ _ _ (I1.setOw ha f x) (Same.refl _)
  · simp only [if_neg ha] at h1; exact h1.elim
theorem setL_w {i : Nat} {mf : DEnv → Out PyData} {B : Bs} {D : Ends} {σ : St} {H : Hp} (h : tS X.K X.mg B EK (mSetL i mf) D σ H) : tF X.K X.mg B EK mf σ H fun x H1 => gName i x σ H1 D.nx := by
  obtain ⟨env, G, I, h⟩ := h
  refine ⟨env, G, I, (PD.bindS h).imp fun v H1 ⟨d, env1, G1, I1, _, r1, h1⟩ => ?_⟩
  obtain ⟨p, rfl, f, x⟩ := r1
  cases d with
  | list ds =>
    by_cases ha : asgOk env1 i = true
    · simp only [if_pos ha] at h1
      obtain ⟨xs, hx, rx⟩ := x
      have S : Same G1 (upd G1 p (.lst xs)) := same_upd f.g
      exact h1 _ _ _ ((I1.absorb f hx).setCl ha (.lst (.inl (.inl upd_same)) (rx.up S))) S
    · simp only [if_neg ha] at h1; exact h1.elim
  | _ => exact h1.elim
theorem ds_lcF {i : Nat} {y : Str} {py : Pos} {scope : Scope} {vs ns : List Nat} {mi : DEnv → Out (List PyData)} {g : GM} {mt : DEnv → Out Bool} {me : DEnv → Out EV} {st : Stmt}
    (hp : ∀ {wi : TI} {g' : TG} {tt : TT} {te : TE}, PI X tg iter wi → (∀ s H C cl fp, PG (Blk X scope s H C cl fp) tg g') → (∀ s H C cl fp, PTs (Blk X scope s H C cl fp) ifs tt) → (∀ s H C cl fp, PE (Blk X scope s H C cl fp) elt te) → PS X st (tAsg (tLc wi g' tt te vs) (gName i)))
    (hi : DI X EK tg iter mi) (hg : ∀ s H C cl fp, DG (Blk X scope s H C cl fp) tg g ns) (hn : ∀ j ∈ ns, j ∈ vs) (ht : ∀ s H C cl fp, DTs (Blk X scope s H C cl fp) E0' ifs mt) (he : ∀ s H C cl fp, DE (Blk X scope s H C cl fp) E0' elt me) :
    DS X EK st (mSetF i (mLcF vs mi g mt me)) := fun B =>
  PS.weak (hp (hi B) (fun s H C cl fp => PG.exB (hg s H C cl fp)) (fun s H C cl fp => PTs.exB (ht s H C cl fp)) (fun s H C cl fp => PE.exB (he s H C cl fp))) fun D σ H h => lc_w hn B (setF_w h)
theorem ds_lc {i : Nat} {y : Str} {py : Pos} {scope : Scope} {vs ns : List Nat} {mi : DEnv → Out (List PyData)} {g : GM} {mt : DEnv → Out Bool} {me : DEnv → Out EV} {st : Stmt}
    (hp : ∀ {wi : TI} {g' : TG} {tt : TT} {te : TE}, PI X tg iter wi → (∀ s H C cl fp, PG (Blk X scope s H C cl fp) tg g') → (∀ s H C cl fp, PTs (Blk X scope s H C cl fp) ifs tt) → (∀ s H C cl fp, PE (Blk X scope s H C cl fp) elt te) → PS X st (tAsg (tLc wi g' tt te vs) (gName i)))
    (hi : DI X EK tg iter mi) (hg : ∀ s H C cl fp, DG (Blk X scope s H C cl fp) tg g ns) (hn : ∀ j ∈ ns, j ∈ vs) (ht : ∀ s H C cl fp, DTs (Blk X scope s H C cl fp) E0' ifs mt) (he : ∀ s H C cl fp, DE (Blk X scope s H C cl fp) E0' elt me) :
    DS X EK st (mSetL i (mLcF vs mi g mt me)) := fun B =>
  PS.weak (hp (hi B) (fun s H C cl fp => PG.exB (hg s H C cl fp)) (fun s H C cl fp => PTs.exB (ht s H C cl fp)) (fun s H C cl fp => PE.exB (he s H C cl fp))) fun D σ H h => lc_w hn B (setL_w h)
end
def mFn (np n : Nat) (m : DEnv → SOut) : FnM := fun as => if as.length = np then mDef n m as else .bad
/-- a def, by its body's derivation -/
theorem fnD_of {P : Program} {w : World} {K : Frag} {mg : Str → Option Value} {base : Heap} {x : Str} {st : Stmt} {f : Addr} {fd : FuncData} {N ps : List Str} {k : Nat} {m : DEnv → SOut} (F : Fun K x x st f fd) (S : FnScope N ps (defScope st)) (hl : ps.length ≤ N.length)
    (body : ∀ (cdv : Value) (A : Around) (outer : List Env) (s : Shared) (H : Hp) (E : XK), A.guards = some [] → Room k (A.deeper (envOfC x (defScope st) s.heap.objs.size f cdv)) →
      DSs (cxOf (L2.CX P w) P w K mg base N x (defScope st) f cdv A outer s H E) E (defBody st) m) : FnG P w K mg base (k + 1) f fd ps (spD K mg (mFn ps.length N.length m)) := by
  refine fnG_of F S (fun vs H Q E h => ?_) fun cdv A outer s H vs Q E hg hr hsp => ?_
  · obtain ⟨G, as, A, h⟩ := h
    by_cases c : as.length = ps.length
    · rw [A.len]; exact c
    · rw [show mFn ps.length N.length m as = .bad from if_neg c] at h; exact h.elim
  · obtain ⟨G, as, A', h⟩ := hsp
    by_cases c : as.length = ps.length
    · rw [show mFn ps.length N.length m as = mDef N.length m as from if_pos c] at h
      obtain ⟨B, hB⟩ := body_red (m := m) (vs := vs) (N := N) (fun _ _ => by rw [A'.len, c]; exact hl) ⟨G, as, A', h⟩
      exact ⟨_, body cdv A outer s H E hg hr B, hB⟩
    · rw [show mFn ps.length N.length m as = .bad from if_neg c] at h; exact h.elim
theorem cal_of {P : Program} {w : World} {K : Frag} {mg : Str → Option Value} {base : Heap} {x : Str} {st : Stmt} {f : Addr} {fd : FuncData} {N ps : List Str} {k : Nat} {m : DEnv → SOut} (F : Fun K x x st f fd) (hmg : mg x = some (.ref f)) (hk : PySem.W.keepIn K (.ref f) = true) (hb : Binds K fd ps [])
    (S : FnScope N ps (defScope st)) (hl : ps.length ≤ N.length)
    (body : ∀ (cdv : Value) (A : Around) (outer : List Env) (s : Shared) (H : Hp) (E : XK), A.guards = some [] → Room k (A.deeper (envOfC x (defScope st) s.heap.objs.size f cdv)) →
      DSs (cxOf (L2.CX P w) P w K mg base N x (defScope st) f cdv A outer s H E) E (defBody st) m) : Cal P w K mg base (k + 1) x ps (mFn ps.length N.length m) := ⟨f, fd, hmg, hk, hb, fnD_of F S hl body⟩
end DL
namespace DL
open PySem L2 PySem.Spec
open PyProof.Rows hiding St
/-! ## list(range(..)) -/
def mLRg1 (ma : DEnv → Out EV) : DEnv → Out PyData := fun env => (ma env).bind fun x r => match dat r x with
  | some (.int j) => if 0 ≤ j ∧ j ≤ 16777216 then .ok (.list (rangeD 0 j.toNat)) r else .bad
  | _ => .bad
def mLRg2 (ma mb : DEnv → Out EV) : DEnv → Out PyData := fun env => (ma env).bind fun x r => (mb r).bind fun y r2 => match dat r2 x, dat r2 y with
  | some (.int i), some (.int j) => if 0 ≤ i ∧ i ≤ 16777216 ∧ 0 ≤ j ∧ j ≤ 16777216 then .ok (.list (rangeD i (j - i).toNat)) r2 else .bad
  | _, _ => .bad
theorem rg_rp {K : Frag} {G : Hp} (lo hi : Int) : RpA K G (rgV lo hi) (rangeD lo (hi - lo).toNat) := by
  unfold rgV rangeD
  generalize (hi - lo).toNat = n
  have go : ∀ l : List Nat, RpA K G (l.map fun i => V.int (lo + (i : Nat))) (l.map fun i => PyData.int (lo + (i : Nat))) := fun l => by
    induction l with
    | nil => exact .nil
    | cons a l ih => exact .cons (.int _) ih
  exact go _
section
variable {X : Cx} {EK : XK} {a b : Expr} {ma mb : DEnv → Out EV} {p p2 pos pos2 : Pos}
theorem df_lrg1 (hc : X.calm = true) (hl : X.mg "list" = none) (hr : X.mg "range" = none) (ha : DE X EK a ma) (gl : Gl X "list" := by rfl) (gr : Gl X "range" := by rfl)
    (n1 : starEach [a] X.env = (false, eval a X.env) :: starEach [] X.env := by rfl) (n2 : starEach [Expr.Call (.Name "range" p2) [a] [] pos2] X.env = (false, eval (.Call (.Name "range" p2) [a] [] pos2) X.env) :: starEach [] X.env := by rfl) :
    DF X EK (.Call (.Name "list" p) [.Call (.Name "range" p2) [a] [] pos2] [] pos) (mLRg1 ma) := fun B =>
  PE.weak (pe_listRg hc gl hl (prg_1 gr hr (ha B) n1) n2) fun σ H Q ⟨env, G, I, h⟩ => ⟨env, G, I, (PD.bind h).imp fun v H1 ⟨x, env1, G1, I1, _, r1, h1⟩ => by
    split at h1
    · rename_i j q
      have vj : v = .int j := I1.view r1 q
      subst vj
      split at h1
      · rename_i c
        refine ⟨j, rfl, RgOk.of_le (Int.le_refl 0) c.2 (by decide) c.1, fun p n => h1 _ G1 _ (I1.tmp n) (Same.refl _) ⟨p, rfl, (I1.fresh n).any, _, upd_same, ?_⟩⟩
        have := rg_rp (K := X.K) (G := G1) 0 j
        rwa [Int.sub_zero] at this
      · exact h1.elim
    · exact h1.elim⟩
theorem df_lrg2 (hc : X.calm = true) (hl : X.mg "list" = none) (hr : X.mg "range" = none) (ha : DE X EK a ma) (hb : DE X EK b mb) (gl : Gl X "list" := by rfl) (gr : Gl X "range" := by rfl)
    (n1 : starEach [a, b] X.env = (false, eval a X.env) :: starEach [b] X.env := by rfl) (n3 : starEach [b] X.env = (false, eval b X.env) :: starEach [] X.env := by rfl) (hp : (backTo pos2 (starEach [b] X.env)).any (·.1) = false := by rfl)
    (n2 : starEach [Expr.Call (.Name "range" p2) [a, b] [] pos2] X.env = (false, eval (.Call (.Name "range" p2) [a, b] [] pos2) X.env) :: starEach [] X.env := by rfl) :
    DF X EK (.Call (.Name "list" p) [.Call (.Name "range" p2) [a, b] [] pos2] [] pos) (mLRg2 ma mb) := fun B =>
  PE.weak (pe_listRg hc gl hl (prg_2 gr hr (ha B) (hb B) n1 n3 hp) n2) fun σ H Q ⟨env, G, I, h⟩ => ⟨env, G, I, (PD.bind h).imp fun v H1 ⟨x, env1, G1, I1, _, r1, h1⟩ =>
    ⟨env1, G1, I1, (PD.bind h1).imp fun u H2 ⟨y, env2, G2, I2, S2, r2, h2⟩ => by
    split at h2
    · rename_i i j q q'
      have vj : v = .int i := I2.view (VR.up r1 S2) q
      have uj : u = .int j := I2.view r2 q'
      subst vj uj
      split at h2
      · rename_i c
        exact ⟨i, j, rfl, rfl, RgOk.of_le c.1 c.2.2.2 c.2.1 c.2.2.1, fun p n => h2 _ G2 _ (I2.tmp n) (Same.refl _) ⟨p, rfl, (I2.fresh n).any, _, upd_same, rg_rp i j⟩⟩
      · exact h2.elim
    · exact h2.elim⟩⟩
end
/-! ## dict displays -/
def eraseG (G : Hp) (p : Addr) : Hp := fun b => if b = p then none else G b
section
variable {K : Frag} {B : Bs} {env : DEnv} {σ : St} {G H : Hp} {p : Addr}
theorem eraseG_ne {b : Addr} (h : b ≠ p) : eraseG G p b = G b := if_neg h
theorem eraseG_self : eraseG G p p = none := if_pos rfl
section
variable {ks : List (Key × V)} (hp : G p = some (.dK ks))
include hp
theorem ne_of_kind {a : Addr} {o : HO} (h : G a = some o) (hk : ∀ ks, o ≠ .dK ks) : a ≠ p := fun z => by
  subst z; rw [hp] at h; cases h; exact hk _ rfl
mutual
theorem rp_erase : ∀ (d : PyData) (v : V), Rp K G v d → Rp K (eraseG G p) v d
  | .none, _, .non => .non
  | .bool _, _, .bl b => .bl b
  | .int _, _, .int i => .int i
  | .str _, _, .str x => .str x
  | .list ds, _, .lst h r => .lst (by
      rcases h with (h | ⟨o, h⟩) | h
      · exact .inl (.inl (by rw [eraseG_ne (ne_of_kind hp h (fun _ z => nomatch z))]; exact h))
      · exact .inl (.inr ⟨o, by rw [eraseG_ne (ne_of_kind hp h (fun _ z => nomatch z))]; exact h⟩)
      · exact .inr h) (rpA_erase ds _ r)
  | .tuple ds, _, .tup h r => .tup (by
      rcases h with (h | ⟨o, h⟩) | h
      · exact .inl (.inl (by rw [eraseG_ne (ne_of_kind hp h (fun _ z => nomatch z))]; exact h))
      · exact .inl (.inr ⟨o, by rw [eraseG_ne (ne_of_kind hp h (fun _ z => nomatch z))]; exact h⟩)
      · exact .inr h) (rpA_erase ds _ r)
  | .dict kvs, _, .dK h r => .dK (by rw [eraseG_ne (ne_of_kind hp h (fun _ z => nomatch z))]; exact h) (rpK_erase kvs _ r)
  | .dict kvs, _, .dT h r n => .dT (by rw [eraseG_ne (ne_of_kind hp h (fun _ z => nomatch z))]; exact h) (rpT_erase kvs _ r) n
theorem rpA_erase : ∀ (ds : List PyData) (vs : List V), RpA K G vs ds → RpA K (eraseG G p) vs ds
  | [], _, .nil => .nil
  | d :: ds, _, .cons r rs => .cons (rp_erase d _ r) (rpA_erase ds _ rs)
theorem rpK_erase : ∀ (kvs : List (PyData × PyData)) (vs : List (Key × V)), RpK K G vs kvs → RpK K (eraseG G p) vs kvs
  | [], _, .nil => .nil
  | (_, d) :: ds, _, .cons r rs => .cons (rp_erase d _ r) (rpK_erase ds _ rs)
theorem rpT_erase : ∀ (kvs : List (PyData × PyData)) (vs : List (List Key × V)), RpT K G vs kvs → RpT K (eraseG G p) vs kvs
  | [], _, .nil => .nil
  | (_, d) :: ds, _, .cons r rs => .cons (rp_erase d _ r) (rpT_erase ds _ rs)
end
theorem ow_erase {q : Addr} {d : PyData} (x : Ow K G H q d) : Ow K (eraseG G p) H q d := by
  cases d with
  | list ds => obtain ⟨xs, h, r⟩ := x; exact ⟨xs, h, rpA_erase hp ds _ r⟩
  | dict kvs =>
    rcases x with ⟨ks, h, r⟩ | ⟨ks, h, r, n⟩
    · exact .inl ⟨ks, h, rpK_erase hp kvs _ r⟩
    · exact .inr ⟨ks, h, rpT_erase hp kvs _ r, n⟩
  | _ => exact x.elim
theorem owR_erase {q : Addr} {d : PyData} (x : OwR K G H q d) : OwR K (eraseG G p) H q d := by
  cases d with
  | list ds => obtain ⟨xs, h, r⟩ := x; exact ⟨xs, h, rpA_erase hp ds _ r⟩
  | dict kvs =>
    rcases x with ⟨ks, h, r⟩ | ⟨ks, h, r, n⟩
    · exact .inl ⟨ks, h, rpK_erase hp kvs _ r⟩
    · exact .inr ⟨ks, h, rpT_erase hp kvs _ r, n⟩
  | _ => exact x.elim
/-- an unread dict leaves the data again -/
theorem INV.unG (I : INV K B env σ G H) (bG : B.G p = none) (bH : B.H p = none) (hP : ∀ j, (j, p) ∉ B.P) : INV K B env σ (eraseG G p) H ∧ Fresh B env σ (eraseG G p) H p := by
  have no : ∀ q, G q = none → eraseG G p q = none := fun q h => by
    by_cases z : q = p
    · subst z; exact eraseG_self
    · rw [eraseG_ne z]; exact h
  refine ⟨⟨I.len, fun i s e => ?_, I.nd, fun b o h => ?_, fun b o h => ?_, I.h0, fun b h1 h2 h3 => no b (I.fr b h1 h2 h3), I.ow, I.pw, I.lw, I.pp, fun q hq => ?_, I.td⟩, ?_⟩
  · obtain ⟨v, h1, h2⟩ := I.sl i s e
    refine ⟨v, h1, ?_⟩
    cases s with
    | un => trivial
    | cl d => obtain ⟨y, h, r⟩ := h2; exact ⟨y, h, rp_erase hp d _ r⟩
    | pc d => obtain ⟨y, h, r⟩ := h2; exact ⟨y, h, rp_erase hp d _ r⟩
    | ow d => obtain ⟨q, h, g, r⟩ := h2; exact ⟨q, h, no q g, ow_erase hp r⟩
    | pw d => obtain ⟨q, h, g, r⟩ := h2; exact ⟨q, h, no q g, ow_erase hp r⟩
    | lw d => obtain ⟨q, h, g, r⟩ := h2; exact ⟨q, h, no q g, owR_erase hp r⟩
  · by_cases z : b = p
    · subst z; rw [eraseG_self] at h; cases h
    · rw [eraseG_ne z] at h; exact I.gh b o h
  · by_cases z : b = p
    · subst z; rw [bG] at h; cases h
    · rw [eraseG_ne z]; exact I.g0 b o h
  · obtain ⟨a1, a2, a3⟩ := I.tp q hq
    exact ⟨no _ a1, ow_erase hp a2, a3⟩
  · refine ⟨eraseG_self, fun i s e ho z => ?_, bH, hP, fun q hq z => ?_⟩
    · obtain ⟨v, h1, h2⟩ := I.sl i s e
      obtain ⟨q, e1, g, _⟩ := h2.own ho
      rw [h1, e1] at z
      have : q = p := V.ref.inj (Option.some.inj (Option.some.inj z))
      subst this; rw [hp] at g; cases g
    · have := (I.tp q hq).1
      rw [z, hp] at this; cases this
end
end
def keyOf : PyData → Option Key
  | .int i => some (.inl i)
  | .str x => some (.inr x)
  | _ => none
theorem keyOf_view {K : Frag} {G H : Hp} {v : V} {d : PyData} {k : Key} (h : View K G H v d) (e : keyOf d = some k) : v = kV k ∧ d = kD k := by
  cases d with
  | int i => cases e; cases h; exact ⟨rfl, rfl⟩
  | str i => cases e; cases h; exact ⟨rfl, rfl⟩
  | _ => cases e
abbrev KVs := List (Key × PyData)
abbrev rPs (K : Frag) : Rel KVs (List (V × V)) := fun _ G _ ps kvs => Paired (fun (p : V × V) (q : Key × PyData) => p.1 = kV q.1 ∧ Rp K G p.2 q.2) ps kvs
def DPs (X : Cx) (EK : XK) (pos : Pos) (keys : List (Option Expr)) (vals : List Expr) (m : DEnv → Out KVs) : Prop := ∀ B : Bs, ∃ trs, PPs X pos keys vals trs ∧ trs.length = keys.length ∧ ∀ σ H Q, tG X.K X.mg B EK (fun _ => rPs X.K) m σ H Q → tPairs trs σ H Q
def mPnil : DEnv → Out KVs := fun env => .ok [] env
def mPcons (mk mv : DEnv → Out EV) (mr : DEnv → Out KVs) : DEnv → Out KVs := fun env => (mk env).bind fun x r => (mv r).bind fun y r1 => match (dat r1 x).bind keyOf, cln r1 y with
  | some k, some d => (mr r1).bind fun kvs r2 => .ok ((k, d) :: kvs) r2
  | _, _ => .bad
def mDisp (m : DEnv → Out KVs) : DEnv → Out PyData := fun env => (m env).bind fun kvs r => if (kvs.map (·.1)).Nodup ∧ kvs.length ≤ 15 then .ok (.dict (kvs.map fun p => (kD p.1, p.2))) r else .bad
theorem mergeK_new : ∀ (kvs acc : List (Key × V)), (kvs.map (·.1)).Nodup → (∀ k ∈ kvs.map (·.1), k ∉ acc.map (·.1)) → mergeK acc kvs = acc ++ kvs
  | [], acc, _, _ => by rw [List.append_nil]; rfl
  | p :: kvs, acc, n, h => by
    rw [List.map_cons, List.nodup_cons] at n
    have hp : putK acc p.1 p.2 = acc ++ [p] := by
      unfold putK
      rw [if_neg]
      intro z
      obtain ⟨q, hq, e⟩ := List.any_eq_true.mp z
      exact h p.1 (by simp) (List.mem_map.mpr ⟨q, hq, of_decide_eq_true e⟩)
    show mergeK (putK acc p.1 p.2) kvs = _
    rw [hp, mergeK_new kvs (acc ++ [p]) n.2 fun k hk => ?_]
    · simp
    · rw [List.map_append, List.mem_append]
      rintro (z | z)
      · exact h k (by rw [List.map_cons]; exact List.mem_cons_of_mem _ hk) z
      · have : k = p.1 := by simpa using z
        exact n.1 (this ▸ hk)
theorem ps_split {K : Frag} {G : Hp} : ∀ {ps : List (V × V)} {kvs : KVs}, Paired (fun (p : V × V) (q : Key × PyData) => p.1 = kV q.1 ∧ Rp K G p.2 q.2) ps kvs → ∃ vs : List (Key × V), ps = vs.map (fun kv => (kV kv.1, kv.2)) ∧ vs.map (·.1) = kvs.map (·.1) ∧ RpK K G vs (kvs.map fun p => (kD p.1, p.2))
  | _, _, .nil => ⟨[], rfl, rfl, .nil⟩
  | p :: _, q :: _, .cons h t => by
    obtain ⟨vs, e1, e2, r⟩ := ps_split t
    refine ⟨(q.1, p.2) :: vs, ?_, ?_, .cons h.2 r⟩
    · rw [List.map_cons, ← e1, ← h.1]
    · rw [List.map_cons, List.map_cons, e2]
section
variable {X : Cx} {EK : XK} {a b : Expr} {ma mb : DEnv → Out EV} {mr : DEnv → Out KVs} {pos : Pos} {keys : List (Option Expr)} {vals : List Expr}
theorem PD.bindAt {α β W W' : Type} {K : Frag} {mg : Str → Option Value} {B : Bs} {σ : St} {relA : Rel α W} {relB : Rel β W'} {o : Out α} {f : α → DEnv → Out β} {G Gn : Hp} {Q : W' → Hp → Prop} (S0 : Same G Gn) (h : PD K mg B EK relB σ (o.bind f) G Q) :
    PD K mg B EK relA σ o Gn fun w H1 => ∃ a env1 G1, INV K B env1 σ G1 H1 ∧ Same Gn G1 ∧ relA env1 G1 H1 w a ∧ PD K mg B EK relB σ (f a env1) G Q := by
  cases o with
  | bad => exact h
  | ok a r => exact fun w G' H' I' S x => ⟨a, r, G', I', S, x, h⟩
  | ex c r => exact fun cls d G' H' I' S x => h cls d G' H' I' (S0.trans S) x
theorem dps_nil : DPs X EK pos [] [] mPnil := fun B => ⟨[], pps_nil, rfl, fun σ H Q ⟨env, G, I, h⟩ => h [] G H I (Same.refl _) .nil⟩
theorem dps_cons (ha : DE X EK a ma) (hb : DE X EK b mb) (hr : DPs X EK pos keys vals mr) : DPs X EK pos (some a :: keys) (b :: vals) (mPcons ma mb mr) := fun B => by
  obtain ⟨trs, h1, h2, h3⟩ := hr B
  refine ⟨(_, _) :: trs, pps_cons (ha B) (hb B) h1, congrArg Nat.succ h2, fun σ H Q ⟨env, G, I, h⟩ => ?_⟩
  refine ⟨env, G, I, (PD.bind h).imp fun v H1 ⟨x, env1, G1, I1, _, r1, h1⟩ => ⟨env1, G1, I1, (PD.bind h1).imp fun u H2 ⟨y, env2, G2, I2, S2, r2, h2⟩ => ?_⟩⟩
  cases q : (dat env2 x).bind keyOf with
  | none => simp only [q] at h2; exact h2.elim
  | some k =>
    cases q2 : cln env2 y with
    | none => simp only [q, q2] at h2; exact h2.elim
    | some d =>
      simp only [q, q2] at h2
      obtain ⟨dx, e1, e2⟩ := Option.bind_eq_some_iff.mp q
      obtain ⟨ev, _⟩ := keyOf_view (I2.view (VR.up r1 S2) e1) e2
      refine h3 σ H2 _ ⟨env2, G2, I2, (PD.bind h2).imp fun ps H3 ⟨kvs, env3, G3, I3, S3, r3, h4⟩ => ?_⟩
      exact h4 ((v, u) :: ps) G3 H3 I3 (Same.refl _) (.cons ⟨ev, (I2.cln r2 q2).up S3⟩ r3)
theorem df_dict0 : DF X EK (.Dict [] [] pos) (fun env => .ok (.dict []) env) := fun B => PE.weak pe_dnewK fun σ H Q ⟨env, G, I, h⟩ p n => h _ G _ (I.tmp n) (Same.refl _) ⟨p, rfl, (I.fresh n).any, .inl ⟨[], upd_same, .nil⟩⟩
theorem df_disp (h : DPs X EK pos keys vals mr) (hall : keys.all (·.isSome) = true := by rfl) (hl : keys.length = vals.length := by rfl) (h0 : keys ≠ [] := by nofun) (h15 : keys.length ≤ 15 := by decide) : DF X EK (.Dict keys vals pos) (mDisp mr) := fun B => by
  obtain ⟨trs, h1, ht, h2⟩ := h B
  refine PE.weak (pe_disp h1 hall hl h0 h15) fun σ H Q ⟨env, G, I, h⟩ p n => ?_
  have nb := I.newB n
  have bG : B.G p = none := by
    cases z : B.G p with
    | none => rfl
    | some o => have := I.gh p o (I.g0 p o z); rw [n] at this; cases this
  have S0 : Same G (upd G p (.dK [])) := same_upd (I.fresh n).g
  refine h2 σ _ _ ⟨env, upd G p (.dK []), I.alloc n, (PD.bindAt S0 h).imp fun ps H2 ⟨kvs, env2, G2, I2, S2, r2, h3⟩ => ?_⟩
  have gp : G2 p = some (.dK []) := S2 _ _ upd_same
  refine ⟨I2.gh _ _ gp, ?_⟩
  by_cases c : (kvs.map (·.1)).Nodup ∧ kvs.length ≤ 15
  case neg => simp only [if_neg c] at h3; exact h3.elim
  simp only [if_pos c] at h3
  obtain ⟨vs, e1, e2, r⟩ := ps_split r2
  obtain ⟨J, f⟩ := I2.unG gp bG nb.1 nb.2
  have hl : vs.length = kvs.length := by have := congrArg List.length e2; simpa using this
  have SG : Same G (eraseG G2 p) := fun b o e => by
    rw [eraseG_ne (ne_of_none e (I.fresh n).g)]
    exact S2 _ _ (S0 _ _ e)
  refine ⟨vs, e1, by rw [hl]; exact c.2, ?_⟩
  rw [mergeK_new vs [] (by rw [e2]; exact c.1) (fun _ _ z => nomatch z), List.nil_append]
  exact h3 _ _ _ (J.touch f) SG ⟨p, rfl, f.any, .inl ⟨vs, upd_same, rpK_erase gp _ _ r⟩⟩
end
end DL
namespace DL
open PySem L2 PySem.Spec
open PyProof.Rows hiding St
/-! ## the rules with their texts told -/
theorem q_isinstance : bootBuiltins "isinstance" = some (.builtin "isinstance") := by decide +kernel
theorem q_len : bootBuiltins "len" = some (.builtin "len") := by decide +kernel
theorem q_repr : bootBuiltins "repr" = some (.builtin "repr") := by decide +kernel
theorem q_sorted : bootBuiltins "sorted" = some (.builtin "sorted") := by decide +kernel
theorem q_int : bootBuiltins "int" = some (.type "int") := by decide +kernel
theorem q_bool : bootBuiltins "bool" = some (.type "bool") := by decide +kernel
theorem q_str : bootBuiltins "str" = some (.type "str") := by decide +kernel
theorem q_tuple : bootBuiltins "tuple" = some (.type "tuple") := by decide +kernel
theorem q_list : bootBuiltins "list" = some (.type "list") := by decide +kernel
theorem q_dict : bootBuiltins "dict" = some (.type "dict") := by decide +kernel
section
variable {X : Cx} {EK : XK} {a b c e tg iter elt : Expr} {es ifs : List Expr} {x m : Str} {p pos p2 pos2 apos cpos spos : Pos} {ma mb : DEnv → Out EV} {mr : DEnv → Out (List EV)} {id : String} {sts : List Stmt} {mi : DEnv → Out (List PyData)} {g : GM} {ns vs : List Nat} {ms : DEnv → SOut}
  {r : List V → Hp → VK → Prop} {f : List PyData → Option PyData} {fa fb : DEnv → Out PyData} {mt : DEnv → Out Bool} {scope : Scope}
theorem de_cbB (s : SC X.K r f) (hc : CallR X (.builtin id) r) (hm : X.mg x = none) (hv : bootBuiltins x = some (.builtin id)) (ha : DA X EK (e :: es) mr) (hg : Gl X x := by rfl) (hn : x ≠ "__name__" := by decide) (hdb : (x == ("__debug__" : Str)) = false := by decide)
    (he : starEach (e :: es) X.env = (false, eval e X.env) :: starEach es X.env := by rfl) (hpl : (backTo pos (starEach es X.env)).any (·.1) = false := by rfl) : DE X EK (.Call (.Name x p) (e :: es) [] pos) (mCb f mr) :=
  de_cb s (fun h => pe_callB hc hg hm hv h hn hdb he hpl) ha
theorem de_cbT (s : SC X.K r f) (hc : CallR X (.type id) r) (hm : X.mg x = none) (hv : bootBuiltins x = some (.type id)) (ha : DA X EK (e :: es) mr) (hg : Gl X x := by rfl) (hn : x ≠ "__name__" := by decide) (hdb : (x == ("__debug__" : Str)) = false := by decide)
    (he : starEach (e :: es) X.env = (false, eval e X.env) :: starEach es X.env := by rfl) (hpl : (backTo pos (starEach es X.env)).any (·.1) = false := by rfl) : DE X EK (.Call (.Name x p) (e :: es) [] pos) (mCb f mr) :=
  de_cb s (fun h => pe_callTy hc hg hm hv h hn hdb he hpl) ha
theorem df_cbB (s : SCF X.K r f) (hc : CallR X (.builtin id) r) (hm : X.mg x = none) (hv : bootBuiltins x = some (.builtin id)) (ha : DA X EK (e :: es) mr) (hg : Gl X x := by rfl) (hn : x ≠ "__name__" := by decide) (hdb : (x == ("__debug__" : Str)) = false := by decide)
    (he : starEach (e :: es) X.env = (false, eval e X.env) :: starEach es X.env := by rfl) (hpl : (backTo pos (starEach es X.env)).any (·.1) = false := by rfl) : DF X EK (.Call (.Name x p) (e :: es) [] pos) (mCbF f mr) :=
  df_cb s (fun h => pe_callB hc hg hm hv h hn hdb he hpl) ha
theorem df_cbT (s : SCF X.K r f) (hc : CallR X (.type id) r) (hm : X.mg x = none) (hv : bootBuiltins x = some (.type id)) (ha : DA X EK (e :: es) mr) (hg : Gl X x := by rfl) (hn : x ≠ "__name__" := by decide) (hdb : (x == ("__debug__" : Str)) = false := by decide)
    (he : starEach (e :: es) X.env = (false, eval e X.env) :: starEach es X.env := by rfl) (hpl : (backTo pos (starEach es X.env)).any (·.1) = false := by rfl) : DF X EK (.Call (.Name x p) (e :: es) [] pos) (mCbF f mr) :=
  df_cb s (fun h => pe_callTy hc hg hm hv h hn hdb he hpl) ha
/-- isinstance(a, T) -/
theorem de_isT (t : BT) {y : Str} (hm : X.mg "isinstance" = none) (hy : X.mg y = none) (hq : bootBuiltins y = some (.type t.nm)) (ha : DE X EK a ma) (hg : Gl X "isinstance" := by rfl) (gy : Gl X y := by rfl) (ny : y ≠ "__name__" := by decide) (dy : (y == ("__debug__" : Str)) = false := by decide)
    (hs1 : starEach [a, .Name y p2] X.env = (false, eval a X.env) :: starEach [.Name y p2] X.env := by rfl) (hs2 : starEach [.Name y p2] X.env = (false, eval (.Name y p2) X.env) :: starEach [] X.env := by rfl) (hpl : (backTo pos (starEach [.Name y p2] X.env)).any (·.1) = false := by rfl) :
    DE X EK (.Call (.Name "isinstance" p) [a, .Name y p2] [] pos) (mIs t ma) :=
  de_is t (fun h => pe_callB call_is hg hm q_isinstance h (by decide) (by decide) hs1 hpl) (pe_bltn gy hy hq rfl ny dy) ha hs1 hs2
/-- isinstance(a, (T, ..)) -/
theorem de_isTs (ts : List BT) {j : Nat} (hm : X.mg "isinstance" = none) (hT : PA X es (fun _ H Q => Q (ts.map fun t => .ty t.nm) H)) (ha : DE X EK a ma) (hl : ts.length ≤ sizeLine := by decide) (hg : Gl X "isinstance" := by rfl)
    (hs1 : starEach [a, .Tuple es j p2] X.env = (false, eval a X.env) :: starEach [.Tuple es j p2] X.env := by rfl) (hs2 : starEach [.Tuple es j p2] X.env = (false, eval (.Tuple es j p2) X.env) :: starEach [] X.env := by rfl) (hpl : (backTo pos (starEach [.Tuple es j p2] X.env)).any (·.1) = false := by rfl) :
    DE X EK (.Call (.Name "isinstance" p) [a, .Tuple es j p2] [] pos) (mIsM ts ma) :=
  de_isM ts (fun h => pe_callB call_isM hg hm q_isinstance h (by decide) (by decide) hs1 hpl) hT hl ha hs1 hs2
/-- methods of a list that is owned -/
theorem de_mth {i : Nat} {rm : V → List V → Hp → VK → Prop} {fm : List PyData → List PyData → Option (List PyData × PyData)} (sm : SM X.K rm fm) (slot : Slot "list" m id) (hty : typeOf (.builtin id) = pure (.type "method_descriptor")) (hm : MtR X id rm) (ho : PE X (.Name x p) (tVar i)) (ha : DA X EK (e :: es) mr)
    (hbase : attributeBase (.Name x p) m X.env (eval (.Name x p) X.env) = eval (.Name x p) X.env := by rfl)
    (hfew : ((backTo cpos (starEach (e :: es) X.env)).all (fun x => !x.1) && (backToKw cpos (keywordEach [] X.env)).all (fun x => x.1.isSome) && decide ((e :: es).length + ([] : List Keyword).length + (if ([] : List Keyword).isEmpty then 0 else 1) < 30)) = true := by rfl)
    (hline : (apos.endLine == cpos.line) = true := by rfl) (hs : starEach (e :: es) X.env = (false, eval e X.env) :: starEach es X.env := by rfl) (hpl : (backTo cpos (starEach es X.env)).any (·.1) = false := by rfl) :
    DE X EK (.Call (.Attribute (.Name x p) m apos) (e :: es) [] cpos) (mMethG i fm mr) := de_meth sm ho (fun h h2 => pe_bm PySem.F.plainAttrs_list slot hty hm h h2 hbase hfew hline hs hpl) ha
theorem de_mth0 {i : Nat} {rm : V → List V → Hp → VK → Prop} {fm : List PyData → List PyData → Option (List PyData × PyData)} (sm : SM X.K rm fm) (slot : Slot "list" m id) (hty : typeOf (.builtin id) = pure (.type "method_descriptor")) (hm : MtR X id rm) (ho : PE X (.Name x p) (tVar i))
    (hbase : attributeBase (.Name x p) m X.env (eval (.Name x p) X.env) = eval (.Name x p) X.env := by rfl) (hline : (apos.endLine == cpos.line) = true := by rfl) :
    DE X EK (.Call (.Attribute (.Name x p) m apos) [] [] cpos) (mMethG i fm mNil) := de_meth0 sm ho (fun h => pe_bm0 PySem.F.plainAttrs_list slot hty hm h hbase hline)
/-- for -/
theorem ds_forT (po : PassesOwn (model X.prog X.w) X.A X.env X.xe) (hi : DI X EK tg iter mi) (hg : DG X tg g ns) (hb : DSs X EK sts ms) (hc : X.calm = true := by rfl) (hs : ∀ x, foldedSetIterable iter X.env x = pure x := by intro _; rfl) : DS X EK (.For tg iter sts [] pos) (mFor mi g ms) :=
  ds_for hi hg hb (fun h h2 h3 => ps_for po hc h h2 h3 hs)
/-- [e for ..] -/
theorem df_comp {own : List (Str × Nat)} {me : DEnv → Out EV} (nd : X.N.Nodup) (ok : BlkOk X.N X.env.scope scope own) (hi : DI X EK tg iter mi) (hg : ∀ s H C cl fp, DG (Blk X scope s H C cl fp) tg g ns) (hn : ∀ j ∈ ns, j ∈ own.map (·.2))
    (ht : ∀ s H C cl fp, DTs (Blk X scope s H C cl fp) E0' ifs mt) (he : ∀ s H C cl fp, DE (Blk X scope s H C cl fp) E0' elt me) (hc : X.calm = true := by rfl) (hs : ∀ x, foldedSetIterable iter X.env x = pure x := by intro _; rfl) :
    DF X EK (.ListComp elt [⟨tg, iter, ifs, 0⟩] scope pos) (mLcF (own.map (·.2)) mi g mt me) := df_lc (fun h1 h2 h3 h4 => pe_lc hc nd h1 ok h2 h3 h4 hs) hi hg hn ht he
theorem ds_compF {i : Nat} {y : Str} {py : Pos} {own : List (Str × Nat)} {me : DEnv → Out EV} (nd : X.N.Nodup) (hy : X.N[i]? = some y) (hyl : X.env.scope.names.lookup y = some .local) (hsw : swapsWith (.ListComp elt [⟨tg, iter, ifs, 0⟩] scope pos) (some (.Name y py)) spos.line X.env = pure true)
    (ok : BlkOk X.N X.env.scope scope own) (hi : DI X EK tg iter mi) (hg : ∀ s H C cl fp, DG (Blk X scope s H C cl fp) tg g ns) (hn : ∀ j ∈ ns, j ∈ own.map (·.2))
    (ht : ∀ s H C cl fp, DTs (Blk X scope s H C cl fp) E0' ifs mt) (he : ∀ s H C cl fp, DE (Blk X scope s H C cl fp) E0' elt me) (hc : X.calm = true := by rfl) (hs : ∀ x, foldedSetIterable iter X.env x = pure x := by intro _; rfl) :
    DS X EK (.Assign [.Name y py] (.ListComp elt [⟨tg, iter, ifs, 0⟩] scope pos) spos) (mSetF i (mLcF (own.map (·.2)) mi g mt me)) := ds_lcF (y := y) (py := py) (fun h1 h2 h3 h4 => ps_setLc hc nd hy hyl hsw h1 ok h2 h3 h4 hs) hi hg hn ht he
theorem ds_comp {i : Nat} {y : Str} {py : Pos} {own : List (Str × Nat)} {me : DEnv → Out EV} (nd : X.N.Nodup) (hy : X.N[i]? = some y) (hyl : X.env.scope.names.lookup y = some .local) (hsw : swapsWith (.ListComp elt [⟨tg, iter, ifs, 0⟩] scope pos) (some (.Name y py)) spos.line X.env = pure true)
    (ok : BlkOk X.N X.env.scope scope own) (hi : DI X EK tg iter mi) (hg : ∀ s H C cl fp, DG (Blk X scope s H C cl fp) tg g ns) (hn : ∀ j ∈ ns, j ∈ own.map (·.2))
    (ht : ∀ s H C cl fp, DTs (Blk X scope s H C cl fp) E0' ifs mt) (he : ∀ s H C cl fp, DE (Blk X scope s H C cl fp) E0' elt me) (hc : X.calm = true := by rfl) (hs : ∀ x, foldedSetIterable iter X.env x = pure x := by intro _; rfl) :
    DS X EK (.Assign [.Name y py] (.ListComp elt [⟨tg, iter, ifs, 0⟩] scope pos) spos) (mSetL i (mLcF (own.map (·.2)) mi g mt me)) := ds_lc (y := y) (py := py) (fun h1 h2 h3 h4 => ps_setLc hc nd hy hyl hsw h1 ok h2 h3 h4 hs) hi hg hn ht he
/-- x, y = a, b -/
structure Par2 (X : Cx) (i j : Nat) (x y : Str) (px py pt : Pos) (kt : Nat) (a b : Expr) (k2 : Nat) (pt2 pos : Pos) : Prop where
  hc : X.calm = true := by rfl
  hi : X.N[i]? = some x := by rfl
  hj : X.N[j]? = some y := by rfl
  ne : i ≠ j := by decide
  hx : X.env.scope.names.lookup x = some .local := by rfl
  hy : X.env.scope.names.lookup y = some .local := by rfl
  hw : swappedStores [.Tuple [.Name x px, .Name y py] kt pt] (.Tuple [a, b] k2 pt2) X.env = pure (some [x, y]) := by rfl
  hs : swapsWithSole [.Tuple [.Name x px, .Name y py] kt pt] (.Tuple [a, b] k2 pt2) pos.line X.env = pure false := by rfl
  h1 : starEach [a, b] X.env = (false, eval a X.env) :: starEach [b] X.env := by rfl
  h2 : starEach [b] X.env = (false, eval b X.env) :: starEach [] X.env := by rfl
variable {i j : Nat} {y : Str} {px py pt pt2 : Pos} {kt k2 : Nat}
theorem Par2.ok (h : Par2 X i j x y px py pt kt a b k2 pt2 pos) (nd : X.N.Nodup) : ParOk X i j a b (.Assign [.Tuple [.Name x px, .Name y py] kt pt] (.Tuple [a, b] k2 pt2) pos) := fun h1 h2 =>
  ps_par h.hc nd h.hi h.hj h.ne h.hx h.hy (pa_cons h1 (pa_cons h2 pa_nil h.h2) h.h1) h.hw h.hs
theorem ds_par2 (nd : X.N.Nodup) (ha : DE X EK a ma) (hb : DE X EK b mb) (h : Par2 X i j x y px py pt kt a b k2 pt2 pos := by exact {}) : DS X EK (.Assign [.Tuple [.Name x px, .Name y py] kt pt] (.Tuple [a, b] k2 pt2) pos) (mPar i j ma mb) := ds_par ha hb (h.ok nd)
theorem ds_par2FF (nd : X.N.Nodup) (ha : DF X EK a fa) (hb : DF X EK b fb) (h : Par2 X i j x y px py pt kt a b k2 pt2 pos := by exact {}) : DS X EK (.Assign [.Tuple [.Name x px, .Name y py] kt pt] (.Tuple [a, b] k2 pt2) pos) (mParFF i j fa fb) := ds_parFF ha hb (h.ok nd)
theorem ds_par2FV (nd : X.N.Nodup) (ha : DF X EK a fa) (hb : DE X EK b mb) (h : Par2 X i j x y px py pt kt a b k2 pt2 pos := by exact {}) : DS X EK (.Assign [.Tuple [.Name x px, .Name y py] kt pt] (.Tuple [a, b] k2 pt2) pos) (mParFV i j fa mb) := ds_parFV ha hb (h.ok nd)
theorem ds_par2VF (nd : X.N.Nodup) (ha : DE X EK a ma) (hb : DF X EK b fb) (h : Par2 X i j x y px py pt kt a b k2 pt2 pos := by exact {}) : DS X EK (.Assign [.Tuple [.Name x px, .Name y py] kt pt] (.Tuple [a, b] k2 pt2) pos) (mParVF i j ma fb) := ds_parVF ha hb (h.ok nd)
theorem look_map {f : Str × NameKind → Str × NameKind} (hf : ∀ p, (f p).1 = p.1) (y : Str) : ∀ l : List (Str × NameKind), (l.map f).lookup y = (l.lookup y).bind fun k => some (f (y, k)).2
  | [] => rfl
  | (n, k) :: l => by
    rw [List.map_cons]
    have e : f (n, k) = (n, (f (n, k)).2) := Prod.ext (hf (n, k)) rfl
    rw [e]
    by_cases h : y = n
    · subst h; simp
    · have hb : (y == n) = false := by simpa using h
      rw [List.lookup_cons, List.lookup_cons, hb]
      exact look_map hf y l
theorem look_rel {env : Env} {y : Str} {k : NameKind} (h : scope.names.lookup y = some k) : (relabel scope env).names.lookup y = some k ∨ (k = .free ∧ (relabel scope env).names.lookup y = some .cell) := by
  unfold relabel
  rw [look_map (fun p => by obtain ⟨n, k⟩ := p; dsimp only; split <;> rfl), h]
  dsimp only [Option.bind]
  split
  · rename_i c
    simp only [Bool.and_eq_true, beq_iff_eq] at c
    exact .inr ⟨c.1.1, rfl⟩
  · exact .inl rfl
theorem vis_free {s : Shared} {H : Hp} {C : Addr} {cl : List (Str × Addr)} {fp : List Addr} (h : scope.names.lookup x = some .free) : Vis (Blk X scope s H C cl fp).env.scope x := by
  rcases look_rel (env := X.env) h with h | ⟨_, h⟩
  · exact .inr (.inr h)
  · exact .inr (.inl h)
theorem vis_own {s : Shared} {H : Hp} {C : Addr} {cl : List (Str × Addr)} {fp : List Addr} (h : scope.names.lookup x = some .local) : Vis (Blk X scope s H C cl fp).env.scope x := .inl (lookup_relabel_local h)
/-- a module's own whole number -/
theorem de_gi {n : Int} {t : Tok} (hm : X.mg x = some (.int n t)) (hg : Gl X x := by rfl) (hd : (x == ("__debug__" : Str)) = false := by decide) : DE X EK (.Name x pos) (mC (.int n)) := de_c (pe_glob (v := .int n) hg hm ⟨t, rfl⟩ hd) fun _ => .int _
end
end DL
namespace DL
open PySem L2 PySem.Spec
open PyProof.Rows hiding St
/-! ## operators of great ints; lists and tuples times an int -/
def CDivB (i j : Int) : Prop := j ≠ 0 ∧ j.natAbs.log2 < 9000
def CPowB (i j : Int) : Prop := 0 ≤ j ∧ ((i.natAbs.log2 : Int) + 1) * j ≤ 100000
def rRepL (K : Frag) : R2 := fun x y H Q => ∃ l k xs, x = .ref l ∧ y = .int k ∧ SqL K H l xs ∧ 0 ≤ k ∧ k ≤ 1000 ∧ xs.length ≤ 1000 ∧ ∀ p, H p = none → Q (.ref p) (upd H p (.lst (List.replicate k.toNat xs).flatten))
section
variable {X : Cx}
theorem op_fdivB : OpR X (binaryOp .FloorDiv) (L2.rI CDivB fun i j => .int (i.fdiv j)) := opI fun i j _ _ _ _ _ hc q => floordiv_int hc.1 q (.inl (PyProof.noPylong_of_log2 hc.2))
theorem op_powB : OpR X (binaryOp .Pow) (L2.rI CPowB fun i j => .int (i ^ j.toNat)) := opI fun i j _ _ _ _ _ hc q => by
  obtain ⟨h1, h2⟩ := hc
  refine pow_int h1 ?_ q
  have b : Builtin.Int.intBits i ≤ i.natAbs.log2 + 1 := by
    unfold Builtin.Int.intBits
    split <;> omega
  have : (Builtin.Int.intBits i : Int) * j ≤ ((i.natAbs.log2 : Int) + 1) * j := Int.mul_le_mul_of_nonneg_right (by omega) h1
  omega
theorem op_repL : OpR X (binaryOp .Mult) (rRepL X.K) := by
  intro pins s σ H x y v u Q I rx ry h
  obtain ⟨a, k, xs, rfl, rfl, hs, h1, h2, hz, q⟩ := h
  obtain rfl : v = Value.ref a := rx
  obtain ⟨t, rfl⟩ := ry
  obtain ⟨its, rv, ⟨⟨cls, dd, data, sl⟩, n, ho, hc, hdn, hd⟩, hlen⟩ := I.list hs
  have hc1 : cls = Value.type "list" := hc
  have hd1 : data = Data.seq its.toArray n := hd
  subst hc1 hd1
  have hsl := sizeLine_eq
  have hm : its.toArray.size * k.toNat ≤ 1000 * 1000 := by
    rw [List.size_toArray, ← rv.length]
    exact Nat.mul_le_mul hz (by omega)
  have hcap : ¬ its.toArray.size * k.toNat > (2 ^ 63 - 1) / 8 := by omega
  have hfit : ¬ (!Builtin.List.listFitsIndex k) = true := by
    rw [fitsIndex_both (by omega) (by omega)]
    exact Bool.false_ne_true
  have hlong : ¬ Builtin.List.listTooLong (its.toArray.size * k.toNat) = true := by
    simp only [Builtin.List.listTooLong, decide_eq_true_eq]; omega
  have hnew : List.foldl (fun x1 x2 => x1 ++ x2) #[] (List.replicate (if its.toArray.isEmpty = true then 0 else k.toNat) its.toArray) = (List.replicate k.toNat its).flatten.toArray := by
    have f0 : ∀ m : Nat, List.foldl (fun x1 x2 => x1 ++ x2) #[] (List.replicate m its.toArray) = (List.replicate m its).flatten.toArray := fun m => by
      have := foldl_rep its m []
      rw [List.nil_append] at this
      exact this
    rw [f0]
    cases its with
    | nil => simp
    | cons a r' => rw [if_neg (by simp)]
  refine wpAny_binaryOp_repeat_ref (T := "list") (U := "int") (by decide) ⟨_, ho, rfl⟩ (fun s' => typeIs_int s' k t) noFill_list_mul F.fills_int_mul F.slot_int_rmul repeat_list F.slot_int_index.lookup
    (call_meets F.slot_int_rmul (typeIs_int s k t) F.entry_int_rmul (F.args_int_rmul_2 _ _) (lm_int_rmul_list_any k t a its.toArray n dd sl)
      ⟨ho, rfl, ⟨_, ho, rfl⟩, call_meets F.slot_list_mul ⟨_, ho, rfl⟩ F.entry_list_mul (F.args_list_mul_2 _ _) (lm_list_mul_any a its.toArray n dd sl k t hfit hcap hlong) ⟨ho, ?_⟩⟩)
  rw [hnew]
  refine ⟨.ref _, _, I.lnew (t' := s.toks) (rv.rep k.toNat) ?_, rfl, q _ I.fresh⟩
  rw [PyProof.Rows.lm_len_rep_flat, Nat.mul_comm]
  rw [List.size_toArray, ← rv.length] at hm
  omega
abbrev rMulA (K : Frag) : R2 := rOr (L2.rI CMulW fun i j => .int (i * j)) (rOr (rRepL K) (rRepT K))
theorem op_mulA : OpR X (binaryOp .Mult) (rMulA X.K) := op_or2 op_mulW (op_or2 op_repL op_repT)
end
def fMulA : PyData → PyData → Option PyData
  | .int i, .int j => if i.natAbs.log2 + j.natAbs.log2 < 1000000 then some (.int (i * j)) else none
  | .list xs, .int k => if 0 ≤ k ∧ k ≤ 1000 ∧ xs.length ≤ 1000 then some (.list (List.replicate k.toNat xs).flatten) else none
  | .tuple xs, .int k => if xs ≠ [] ∧ 2 ≤ k ∧ k ≤ 1000 ∧ xs.length ≤ 1000 then some (.tuple (List.replicate k.toNat xs).flatten) else none
  | _, _ => none
abbrev fDivB := fI (fun _ j => decide (j ≠ 0) && decide (j.natAbs.log2 < 9000)) fun i j => .int (i.fdiv j)
abbrev fPowB := fI (fun i j => decide (0 ≤ j) && decide (((i.natAbs.log2 : Int) + 1) * j ≤ 100000)) fun i j => .int (i ^ j.toNat)
theorem sb_divB {K : Frag} : SB K (L2.rI CDivB fun i j => .int (i.fdiv j)) fDivB := sb_I (fun i j h => by simpa [CDivB] using h) fun _ _ _ => .int _
theorem sb_powB {K : Frag} : SB K (L2.rI CPowB fun i j => .int (i ^ j.toNat)) fPowB := sb_I (fun i j h => by simpa [CPowB] using h) fun _ _ _ => .int _
theorem rpA_rep {K : Frag} {G : Hp} {vs : List V} {ds : List PyData} (r : RpA K G vs ds) : ∀ n : Nat, RpA K G (List.replicate n vs).flatten (List.replicate n ds).flatten
  | 0 => .nil
  | n + 1 => by
    rw [List.replicate_succ, List.replicate_succ, List.flatten_cons, List.flatten_cons]
    exact r.append (rpA_rep r n)
theorem sb_mulA {K : Frag} : SB K (rMulA K) fMulA := by
  intro G H x y dx dy d Q S vx vy e q
  unfold fMulA at e
  split at e
  · split at e
    · rename_i c
      cases e; exact .inl ⟨_, _, vx, vy, c, q _ G H .refl (.int _)⟩
    · cases e
  · split at e
    · rename_i c
      cases e
      obtain ⟨a, vs, rfl, h1, r1⟩ := vx
      refine .inr (.inl ⟨a, _, vs, rfl, vy, h1, c.1, c.2.1, by rw [r1.len]; exact c.2.2, fun p n => ?_⟩)
      have nG : G p = none := by
        cases z : G p with
        | none => rfl
        | some o => have := S p o z; rw [n] at this; cases this
      exact q _ _ _ (.alloc n .refl) (.lst (.inl (.inl upd_same)) ((rpA_rep r1 _).up (same_upd nG)))
    · cases e
  · split at e
    · rename_i c
      cases e
      obtain ⟨a, vs, rfl, h1, r1⟩ := vx
      refine .inr (.inr ⟨a, _, vs, rfl, vy, sameT S h1, ?_, c.2.1, c.2.2.1, by rw [r1.len]; exact c.2.2.2, fun p n => ?_⟩)
      · intro z
        subst z
        have := r1.len
        exact c.1 (List.eq_nil_of_length_eq_zero this.symm)
      · have nG : G p = none := by
          cases z : G p with
          | none => rfl
          | some o => have := S p o z; rw [n] at this; cases this
        exact q _ _ _ (.alloc n .refl) (.tup (.inl (.inl upd_same)) ((rpA_rep r1 _).up (same_upd nG)))
    · cases e
  · cases e
/-! ## is True -/
def fIsB : PyData → PyData → Option PyData
  | .bool a, .bool b => some (.bool (decide (a = b)))
  | _, _ => none
def fNotB : PyData → PyData → Option PyData
  | .bool a, .bool b => some (.bool (!decide (a = b)))
  | _, _ => none
theorem sb_isB {K : Frag} : SB K rIsB fIsB := by
  intro G H x y dx dy d Q S vx vy e q
  unfold fIsB at e
  split at e
  · cases e; exact ⟨_, _, vx, vy, q _ G H .refl (.bl _)⟩
  · cases e
theorem sb_notB {K : Frag} : SB K rNotB fNotB := by
  intro G H x y dx dy d Q S vx vy e q
  unfold fNotB at e
  split at e
  · cases e; exact ⟨_, _, vx, vy, q _ G H .refl (.bl _)⟩
  · cases e
/-! ## abs -/
def fAbs : List PyData → Option PyData
  | [.int i] => some (.int (if i < 0 then -i else i))
  | _ => none
theorem sc_abs {K : Frag} : SC K (fun xs H Q => ∃ i, xs = [.int i] ∧ Q (.int (if i < 0 then -i else i)) H) fAbs := by
  intro G H vs ds d Q S vw e q
  unfold fAbs at e
  split at e
  · cases e
    obtain ⟨v, rfl, h1⟩ := views1 vw
    have h1 : v = .int _ := h1
    subst h1
    exact ⟨_, rfl, q _ G H .refl (.int _)⟩
  · cases e
theorem q_abs : bootBuiltins "abs" = some (.builtin "abs") := by decide +kernel
section
variable {X : Cx} {EK : XK} {a b : Expr} {pos : Pos} {ma mb : DEnv → Out EV} {x : Str}
theorem de_mulA (ha : DE X EK a ma) (hb : DE X EK b mb) : DE X EK (.BinOp a .Mult b pos) (mBin fMulA ma mb) := de_bin op_mulA sb_mulA ha hb
theorem de_divB (ha : DE X EK a ma) (hb : DE X EK b mb) : DE X EK (.BinOp a .FloorDiv b pos) (mBin fDivB ma mb) := de_bin op_fdivB sb_divB ha hb
theorem de_powB (ha : DE X EK a ma) (hb : DE X EK b mb) : DE X EK (.BinOp a .Pow b pos) (mBin fPowB ma mb) := de_bin op_powB sb_powB ha hb
/-- a module's own value that nobody changes -/
theorem de_gd {d : PyData} {p : Addr} (hm : X.mg x = some (.ref p)) (hr : ∀ G, Rp X.K G (.ref p) d) (hg : Gl X x := by rfl) (hd : (x == ("__debug__" : Str)) = false := by decide) : DE X EK (.Name x pos) (mC d) := de_c (pe_glob (v := .ref p) hg hm rfl hd) hr
theorem rp_k2 {K : Frag} {p : Addr} {od : Option Addr} {i j : Int} {ti tj : Tok} {n : Nat} {sl : Array (Option Value)} (h : K.lookup p = some ⟨.type "tuple", od, .seq #[.int i ti, .int j tj] n, sl⟩) (G : Hp) : Rp K G (.ref p) (.tuple [.int i, .int j]) :=
  .tup (xs := [.int i, .int j]) (.inr ⟨_, _, _, h, rfl, rfl, by show 2 ≤ sizeLine; decide, .cons ⟨_, rfl⟩ (.cons ⟨_, rfl⟩ .nil)⟩) (.cons (.int _) (.cons (.int _) .nil))
end
end DL
/-! zip of two or more lists and tuples, strict or not: at the library's level -/
namespace DZ
open PySem PySem.Spec PyProof.Rows L2
structure SI where
  k : Bool
  it : Addr
  l : Addr
def SI.At (t : SI) (h : Heap) (i : Nat) : Prop := if t.k = true then h.IsListIter t.it t.l i else h.IsTupleIter t.it t.l i
def SI.Sq (t : SI) (h : Heap) (xs : Array Value) : Prop := if t.k = true then h.IsList t.l xs else h.IsTuple t.l xs
abbrev IsZipS (h : Heap) (z TI TO : Addr) (f0 : Value) (b : Bool) : Prop :=
  h.get? z = some { cls := .type "zip", dict := none, data := .fields #[f0, .bool false, .bool b, .ref TI, .ref TO], slots := #[] }
abbrev IsTupO (h : Heap) (T : Addr) (vs : Array Value) : Prop := h.get? T = some { cls := .type "tuple", data := .seq vs }
theorem SI.At.at {t : SI} {h h' : Heap} {i : Nat} (x : t.At h i) (e : ∀ o, h.get? t.it = some o → h'.get? t.it = some o) : t.At h' i := by
  unfold SI.At at *
  split at x
  · rw [if_pos (by assumption)]; exact x.at e
  · rw [if_neg (by assumption)]; exact x.at e
theorem SI.Sq.at {t : SI} {h h' : Heap} {xs : Array Value} (x : t.Sq h xs) (e : ∀ o, h.get? t.l = some o → h'.get? t.l = some o) : t.Sq h' xs := by
  unfold SI.Sq at *
  split at x
  · rw [if_pos (by assumption)]; exact x.at e
  · rw [if_neg (by assumption)]; exact x.at e
theorem SI.At.obj {t : SI} {h : Heap} {i : Nat} (x : t.At h i) : ∃ o, h.get? t.it = some o ∧ ∃ vs, o.data = .fields vs := by
  unfold SI.At at x
  split at x
  · obtain ⟨o, e, _, d⟩ := x; exact ⟨o, e, _, d⟩
  · obtain ⟨o, e, _, d⟩ := x; exact ⟨o, e, _, d⟩
theorem SI.At.lt {t : SI} {h : Heap} {i : Nat} (x : t.At h i) : t.it < h.objs.size := by
  obtain ⟨o, e, _⟩ := x.obj; exact Heap.lt_size e
section
variable {prog : Program} {w : World} {A : Around} {E : Value → Shared → Prop} {s : Shared}
theorem SI.next_item {t : SI} {i : Nat} {xs : Array Value} {x : Value} {Q : Value → Shared → Prop} (hA : t.At s.heap i) (hS : t.Sq s.heap xs) (hx : xs[i]? = some x)
    (hQ : ∀ h', t.At h' (i + 1) → Heap.SameBut t.it s.heap h' → Q x { s with heap := h' }) : wpAny (model prog w) A (Builtin.SmallTypes.nextOf (.ref t.it)) Q E s := by
  unfold SI.At at *
  unfold SI.Sq at hS
  by_cases hk : t.k = true
  · rw [if_pos hk] at hA hS
    exact wpAny_nextOf_list_item hA hS hx fun h' a b => hQ h' (by rw [if_pos hk]; exact a) b
  · rw [if_neg hk] at hA hS
    exact RZ.nextOf_tuple_item hA hS hx fun h' a b => hQ h' (by rw [if_neg hk]; exact a) b
theorem SI.next_end {t : SI} {i : Nat} {xs : Array Value} {Q : Value → Shared → Prop} (hh : A.handled = none) (hA : t.At s.heap i) (hS : t.Sq s.heap xs) (hx : xs[i]? = none)
    (hE : ∀ h' e, Heap.ExtBut t.it s.heap h' → (∃ o, h'.get? e = some o ∧ o.cls = .type "StopIteration") → E (.ref e) { s with heap := h' }) : wpAny (model prog w) A (Builtin.SmallTypes.nextOf (.ref t.it)) Q E s := by
  unfold SI.At at hA
  unfold SI.Sq at hS
  by_cases hk : t.k = true
  · rw [if_pos hk] at hA hS
    exact wpAny_nextOf_list_end hh hA hS hx hE
  · rw [if_neg hk] at hA hS
    exact RZ.nextOf_tuple_end hh hA hS hx hE
/-- what zip draws -/
abbrev draw (b : Bool) (it : Value) : Sem (Option Value) := if b = true then Builtin.SmallTypes.nextOrEnd it else (do return some (← Builtin.SmallTypes.nextOf it))
theorem draw_item {t : SI} {b : Bool} {i : Nat} {xs : Array Value} {x : Value} {Q : Option Value → Shared → Prop} (hA : t.At s.heap i) (hS : t.Sq s.heap xs) (hx : xs[i]? = some x)
    (hQ : ∀ h', t.At h' (i + 1) → Heap.SameBut t.it s.heap h' → Q (some x) { s with heap := h' }) : wpAny (model prog w) A (draw b (.ref t.it)) Q E s := by
  unfold draw
  split
  · unfold Builtin.SmallTypes.nextOrEnd
    exact wpAny_bind (wpAny_attempt (SI.next_item hA hS hx fun h' a b => wpAny_pure (hQ h' a b)))
  · exact wpAny_bind (SI.next_item hA hS hx fun h' a b => wpAny_pure (hQ h' a b))
theorem end_draw {t : SI} {i : Nat} {xs : Array Value} {Q : Option Value → Shared → Prop} (hh : A.handled = none) (hA : t.At s.heap i) (hS : t.Sq s.heap xs) (hx : xs[i]? = none)
    (hQ : ∀ h', Heap.ExtBut t.it s.heap h' → Q none { s with heap := h' }) : wpAny (model prog w) A (Builtin.SmallTypes.nextOrEnd (.ref t.it)) Q E s := by
  unfold Builtin.SmallTypes.nextOrEnd
  refine wpAny_bind (wpAny_attempt (SI.next_end hh hA hS hx fun h' e a ⟨o, ho, hc⟩ => ?_))
  refine wpAny_bind (wpAny_isInstance (T := "StopIteration") (b := true) ⟨o, ho, hc⟩ isSubtype_stop ?_)
  exact wpAny_pure (hQ h' a)
structure ZA (z TI TO : Addr) (its : List SI) : Prop where
  TIz : TI ≠ z
  TOz : TO ≠ z
  TITO : TI ≠ TO
  iz : ∀ t ∈ its, t.it ≠ z ∧ t.it ≠ TI ∧ t.it ≠ TO
  nd : (its.map (·.it)).Nodup
  lz : ∀ t ∈ its, t.l ≠ z ∧ t.l ≠ TO
  li : ∀ t ∈ its, ∀ u ∈ its, t.l ≠ u.it
def refs (its : List SI) : List Value := its.map fun t => .ref t.it
theorem ZA.inj {z TI TO : Addr} {its : List SI} (D : ZA z TI TO its) {i j : Nat} {t u : SI} (h : its[i]? = some t) (h' : its[j]? = some u) (e : t.it = u.it) : i = j := by
  have h1 : (its.map (·.it))[i]? = some t.it := by rw [List.getElem?_map, h]; rfl
  have h2 : (its.map (·.it))[j]? = some t.it := by rw [List.getElem?_map, h', e]; rfl
  exact (List.getElem?_inj (List.getElem?_eq_some_iff.mp h1).1 D.nd).mp (h1.trans h2.symm)
/-- the heap amid a turn: j iterators are drawn -/
structure Mid (h0 h : Heap) (z TI TO : Addr) (b : Bool) (its : List SI) (i j : Nat) (vs : List Value) : Prop where
  sz : h.objs.size = h0.objs.size
  zip : IsZipS h z TI TO .ellipsis b
  tup : IsTupO h TO vs.toArray
  at_ : ∀ (k : Nat) (t : SI), its[k]? = some t → t.At h (if k < j then i + 1 else i)
  fr : ∀ c o, c ≠ z → c ≠ TO → (∀ t ∈ its, c ≠ t.it) → h0.get? c = some o → h.get? c = some o
theorem setIn_take {xs old : List Value} {j : Nat} {x : Value} (hx : xs[j]? = some x) (hl : old.length = xs.length) : (xs.take j ++ old.drop j).set j x = xs.take (j + 1) ++ old.drop (j + 1) := by
  have hj : j < xs.length := (List.getElem?_eq_some_iff.mp hx).1
  have e : xs.take (j + 1) = xs.take j ++ [x] := by rw [List.take_add_one, hx]; rfl
  rw [e, List.append_assoc]
  have l : (xs.take j).length = j := by rw [List.length_take]; omega
  rw [List.set_append_right _ _ (by omega), l, Nat.sub_self, List.drop_eq_getElem_cons (by omega : j < old.length)]
  rfl
theorem next_item {z TI TO : Addr} {its : List SI} {b : Bool} {i : Nat} {old xs : List Value} {Q : Value → Shared → Prop} (D : ZA z TI TO its) (hz : IsZipS s.heap z TI TO .none b) (hTI : IsTupO s.heap TI (refs its).toArray) (hTO : IsTupO s.heap TO old.toArray)
    (hl : old.length = its.length) (hne : its ≠ []) (hA : ∀ t ∈ its, t.At s.heap i) (hlx : xs.length = its.length) (hS : ∀ (k : Nat) (t : SI) (x : Value), its[k]? = some t → xs[k]? = some x → ∃ ys, t.Sq s.heap ys ∧ ys[i]? = some x) (hsm : its.length ≤ 1000)
    (hQ : ∀ h', IsZipS h' z TI TO (rawInt s.heap.objs.size) b → IsTupO h' TO xs.toArray → (∀ t ∈ its, t.At h' (i + 1)) → IsTupO h' s.heap.objs.size xs.toArray → h'.objs.size = s.heap.objs.size + 1 →
      (∀ c o, c ≠ z → c ≠ TO → (∀ t ∈ its, c ≠ t.it) → s.heap.get? c = some o → h'.get? c = some o) → Q (.ref s.heap.objs.size) { s with heap := h' }) :
    wpAny (model prog w) A (Builtin.«zip.__next__» ⟨[.ref z], []⟩) (fun fin s' => ∃ v, fin = .done (.ret v) ∧ Q v s') E s := by
  show wpAny _ _ (field (.ref z) 2 >>= _) _ _ _
  refine wpAny_bind (wpAny_field hz rfl (x := .bool b) rfl ?_)
  show wpAny _ _ (field (.ref z) 3 >>= _) _ _ _
  refine wpAny_bind (wpAny_field hz rfl (x := .ref TI) rfl ?_)
  refine wpAny_bind (wpAny_seqItems hTI rfl ?_)
  have hem : (refs its).toArray.isEmpty = false := by
    cases its with
    | nil => exact absurd rfl hne
    | cons t ts => rfl
  simp only [hem, Bool.false_eq_true, if_false]
  show wpAny _ _ (Builtin.SmallTypes.ownedTupleIsFree (.ref z) >>= _) _ _ _
  refine wpAny_bind ?_
  unfold Builtin.SmallTypes.ownedTupleIsFree
  refine wpAny_bind (wpAny_field hz rfl (x := .none) rfl (wpAny_pure ?_))
  simp only [if_true]
  refine wpAny_bind (wpAny_rule ?_)
  refine wpAny_bind (wpAny_field hz rfl (x := .ref TO) rfl ?_)
  refine wpAny_bind (wpAny_setField_rec hz (by simp) fun h₁ hz₁ hs₁ => ?_)
  replace hz₁ : IsZipS h₁ z TI TO .ellipsis b := hz₁
  have hbt : (Value.bool b == Value.bool true) = b := by cases b <;> rfl
  refine wpAny_bind ?_
  refine wpAny_forIn_list _ (fun rest r s' => r = (none, ()) ∧ ∃ j h', s' = { s with heap := h' } ∧ rest = ((refs its).zipIdx).drop j ∧ j ≤ its.length ∧ Mid s.heap h' z TI TO b its i j (xs.take j ++ old.drop j)) _ ?_ ?_ _ _
    ⟨rfl, 0, h₁, rfl, rfl, Nat.zero_le _, ⟨hs₁.1, hz₁, hs₁.extBut _ _ D.TOz hTO, fun k t ht => ?_, fun c o c1 c2 c3 e => hs₁.extBut _ _ c1 e⟩⟩
  · rintro ⟨x, k⟩ rest r s' ⟨rfl, j, h', rfl, hr, hj, M⟩
    have hlt : j < its.length := by
      rcases Nat.lt_or_ge j its.length with q | q
      · exact q
      · rw [List.drop_eq_nil_of_le (by rw [List.length_zipIdx]; simpa [refs] using q)] at hr; cases hr
    have hlz : j < ((refs its).zipIdx).length := by rw [List.length_zipIdx]; simpa [refs] using hlt
    rw [List.drop_eq_getElem_cons hlz] at hr
    obtain ⟨hxk, hr2⟩ := List.cons.inj hr
    have ht : its[j]? = some its[j] := List.getElem?_eq_getElem hlt
    generalize its[j] = t at ht
    have htm : t ∈ its := List.mem_of_getElem? ht
    have e0 : ((refs its).zipIdx)[j]? = some (.ref t.it, j) := by
      rw [List.getElem?_zipIdx]
      show (its.map fun t => Value.ref t.it)[j]?.map _ = _
      rw [List.getElem?_map, ht]
      simp
    have e1 : (x, k) = (Value.ref t.it, j) := by
      have := List.getElem?_eq_getElem hlz
      rw [e0] at this
      exact hxk.trans (Option.some.inj this).symm
    obtain ⟨ex, ek⟩ := Prod.mk.inj e1
    subst ex
    have ek := ek.symm
    subst ek
    obtain ⟨y, hy⟩ : ∃ y, xs[j]? = some y := ⟨xs[j]'(by omega), List.getElem?_eq_getElem _⟩
    obtain ⟨ys, hSq, hyi⟩ := hS j t y ht hy
    have hAt : t.At h' i := by have := M.at_ j t ht; rwa [if_neg (Nat.lt_irrefl j)] at this
    have hSq' : t.Sq h' ys := hSq.at fun o e => M.fr _ o (D.lz t htm).1 (D.lz t htm).2 (fun u hu => D.li t htm u hu) e
    refine wpAny_bind (wpAny_onRaise ?_)
    show wpAny _ _ (draw (Value.bool b == Value.bool true) (.ref t.it)) _ _ _
    rw [hbt]
    refine draw_item (s := { s with heap := h' }) hAt hSq' hyi fun h₂ hA₂ hs₂ => ?_
    have hTO₂ : IsTupO h₂ TO (xs.take j ++ old.drop j).toArray := hs₂.extBut _ _ (D.iz t htm).2.2.symm M.tup
    have hls : (xs.take j ++ old.drop j).length = its.length := by rw [List.length_append, List.length_take, List.length_drop]; omega
    refine wpAny_bind (wpAny_seqItems (s := { s with heap := h₂ }) hTO₂ rfl ?_)
    refine wpAny_bind (wpAny_updateSeq (s := { s with heap := h₂ }) hTO₂ rfl ?_ (by rw [List.size_toArray, hls]; exact Nat.le_trans hsm (by decide)) (by rw [Array.size_setIfInBounds, List.size_toArray, hls]; exact Nat.le_succ_of_le (Nat.le_trans hsm (by decide))))
    have hTO₃ : IsTupO (h₂.update TO (Obj.mapSeq (·.setIfInBounds j y))) TO (xs.take (j + 1) ++ old.drop (j + 1)).toArray := by
      show Heap.get? _ _ = _
      rw [Heap.get?_update_self _ hTO₂ rfl, ← setIn_take hy (by omega)]
      simp [Obj.mapSeq]
    have hs₃ : Heap.SameBut TO h₂ (h₂.update TO (Obj.mapSeq (·.setIfInBounds j y))) := Heap.SameBut.update ..
    generalize h₂.update TO (Obj.mapSeq (·.setIfInBounds j y)) = h₃ at hTO₃ hs₃
    refine wpAny_bind (wpAny_letGo (wpAny_pure ?_))
    refine ⟨rfl, j + 1, h₃, rfl, hr2, hlt, ?_⟩
    refine ⟨hs₃.1.trans (hs₂.1.trans M.sz), hs₃.extBut _ _ D.TOz.symm (hs₂.extBut _ _ (D.iz t htm).1.symm M.zip), hTO₃, fun k u hu => ?_, fun c o c1 c2 c3 e => hs₃.extBut _ _ c2 (hs₂.extBut _ _ (c3 t htm) (M.fr c o c1 c2 c3 e))⟩
    have hum : u ∈ its := List.mem_of_getElem? hu
    by_cases hk : k = j
    · subst hk
      rw [ht] at hu; cases hu
      rw [if_pos (Nat.lt_succ_self _)]
      exact hA₂.at fun o e => hs₃.extBut _ _ (D.iz t htm).2.2 e
    · have hne : u.it ≠ t.it := fun e => hk (D.inj hu ht e)
      have := M.at_ k u hu
      have e2 : (if k < j + 1 then i + 1 else i) = if k < j then i + 1 else i := by
        by_cases q : k < j
        · rw [if_pos q, if_pos (by omega)]
        · rw [if_neg q, if_neg (by omega)]
      rw [e2]
      exact this.at fun o e => hs₃.extBut _ _ (D.iz u hum).2.2 (hs₂.extBut _ _ hne e)
  · rintro r s' ⟨rfl, j, h₅, rfl, hr, hj, M⟩
    have hj' : j = its.length := by
      have := congrArg List.length hr
      rw [List.length_drop, List.length_zipIdx] at this
      have l : (refs its).length = its.length := by simp [refs]
      rw [l] at this
      simp at this
      omega
    subst hj'
    rw [List.take_of_length_le (by omega), List.drop_of_length_le (by omega), List.append_nil] at M
    refine wpAny_bind (wpAny_seqItems (s := { s with heap := h₅ }) M.tup rfl ?_)
    refine wpAny_bind (wpAny_newTuple ?_ (by simp; exact Nat.le_trans (by omega) (show (1000 : Nat) ≤ sizeLine by decide)))
    show wpAny _ _ (Builtin.SmallTypes.ownedTupleHandOut (.ref z) (.ref h₅.objs.size) >>= _) _ _ _
    refine wpAny_bind ?_
    unfold Builtin.SmallTypes.ownedTupleHandOut
    have ea : ({ cls := .type "tuple", data := .seq xs.toArray.toList.toArray } : Obj) = { cls := .type "tuple", data := .seq xs.toArray } := by simp
    show wpAny _ _ _ _ _ { s with heap := h₅.push { cls := .type "tuple", data := .seq xs.toArray.toList.toArray } }
    rw [ea]
    have hz₆ : IsZipS (h₅.push { cls := .type "tuple", data := .seq xs.toArray }) z TI TO .ellipsis b := Heap.get?_push_of_some _ M.zip
    refine wpAny_bind (wpAny_setField_rec (s := { s with heap := h₅.push { cls := .type "tuple", data := .seq xs.toArray } }) hz₆ (by simp) fun h₇ hz₇ hs₇ => ?_)
    replace hz₇ : IsZipS h₇ z TI TO (rawInt h₅.objs.size) b := hz₇
    refine wpAny_setField_rec hz₇ (by simp) fun h₈ hz₈ hs₈ => ?_
    replace hz₈ : IsZipS h₈ z TI TO (rawInt h₅.objs.size) b := hz₈
    have up : ∀ c o, c ≠ z → h₅.get? c = some o → h₈.get? c = some o := fun c o c1 e => hs₈.extBut _ _ c1 (hs₇.extBut _ _ c1 (Heap.get?_push_of_some _ e))
    have hzlt : z < h₅.objs.size := Heap.lt_size M.zip
    have hT₈ : IsTupO h₈ h₅.objs.size xs.toArray := hs₈.extBut _ _ (Nat.ne_of_gt hzlt) (hs₇.extBut _ _ (Nat.ne_of_gt hzlt) (Heap.get?_push_size _ rfl))
    have hz8 : h₈.objs.size = h₅.objs.size + 1 := by rw [hs₈.1, hs₇.1, Heap.size_push]
    have hsz := M.sz
    rw [hsz] at hz₈ hT₈ hz8
    refine wpAny_pure ⟨_, rfl, ?_⟩
    show Q (.ref h₅.objs.size) _
    rw [hsz]
    refine hQ h₈ hz₈ (up _ _ D.TOz M.tup) (fun t ht => ?_) hT₈ hz8 fun c o c1 c2 c3 e => up c o c1 (M.fr c o c1 c2 c3 e)
    obtain ⟨k, hk⟩ := List.getElem?_of_mem ht
    have := M.at_ k t hk
    rw [if_pos (List.getElem?_eq_some_iff.mp hk).1] at this
    exact this.at fun o e => up _ o (D.iz t ht).1 e
  · rw [if_neg (Nat.not_lt_zero _)]
    exact (hA t (List.mem_of_getElem? ht)).at fun o e => hs₁.extBut _ _ (D.iz t (List.mem_of_getElem? ht)).1 e
end
end DZ
namespace DZ
open PySem PySem.Spec PyProof.Rows L2
section
variable {prog : Program} {w : World} {A : Around} {E : Value → Shared → Prop} {s : Shared}
theorem raise_stop {α : Type} {Q : α → Shared → Prop} (hh : A.handled = none)
    (hE : ∀ h' e, (∀ c o, s.heap.get? c = some o → h'.get? c = some o) → (∃ o, h'.get? e = some o ∧ o.cls = .type "StopIteration") → E (.ref e) { s with heap := h' }) : wpAny (model prog w) A (Builtin.SmallTypes.stopIteration : Sem α) Q E s := by
  unfold Builtin.SmallTypes.stopIteration
  refine wpAny_bind ?_
  simp only [newExc, newTuple]
  refine wpAny_bind (wpAny_newObj_type ?_ (by size_fits))
  refine wpAny_bind (m := firstArgMember _ _) (wpAny_of_eq (a := Value.none) (by first | rfl | (simp only [firstArgMember]; rfl)) ?_)
  refine wpAny_newObj_type ?_ (by size_fits)
  simp only [raiseNew]
  refine wpAny_bind (wpAny_handled ?_)
  first | rw [show A.in1.handled = none from hh] | rw [hh]
  refine wpAny_bind (wpAny_pure (wpAny_throw ?_))
  exact hE _ _ (fun c o e => Heap.get?_push_of_some _ (Heap.get?_push_of_some _ e)) ⟨_, Heap.get?_push_size _ rfl, rfl⟩
/-- not strict: one has ended -/
theorem next_end {z TI TO : Addr} {its : List SI} {i : Nat} {old : List Value} {Q : Fin → Shared → Prop} (hh : A.handled = none) (D : ZA z TI TO its) (hz : IsZipS s.heap z TI TO .none false) (hTI : IsTupO s.heap TI (refs its).toArray) (hTO : IsTupO s.heap TO old.toArray)
    (hl : old.length = its.length) (hA : ∀ t ∈ its, t.At s.heap i) (hS : ∀ t ∈ its, ∃ ys, t.Sq s.heap ys) (hend : ∃ t ∈ its, ∀ ys, t.Sq s.heap ys → ys[i]? = none) (hsm : its.length ≤ 1000)
    (hE : ∀ h' e, (∀ c o, c ≠ z → c ≠ TO → (∀ t ∈ its, c ≠ t.it) → s.heap.get? c = some o → h'.get? c = some o) → (∃ o, h'.get? e = some o ∧ o.cls = .type "StopIteration") → E (.ref e) { s with heap := h' }) :
    wpAny (model prog w) A (Builtin.«zip.__next__» ⟨[.ref z], []⟩) Q E s := by
  show wpAny _ _ (field (.ref z) 2 >>= _) _ _ _
  refine wpAny_bind (wpAny_field hz rfl (x := .bool false) rfl ?_)
  show wpAny _ _ (field (.ref z) 3 >>= _) _ _ _
  refine wpAny_bind (wpAny_field hz rfl (x := .ref TI) rfl ?_)
  refine wpAny_bind (wpAny_seqItems hTI rfl ?_)
  have hem : (refs its).toArray.isEmpty = false := by
    obtain ⟨t, ht, _⟩ := hend
    cases its with
    | nil => exact nomatch ht
    | cons t ts => rfl
  simp only [hem, Bool.false_eq_true, if_false]
  show wpAny _ _ (Builtin.SmallTypes.ownedTupleIsFree (.ref z) >>= _) _ _ _
  refine wpAny_bind ?_
  unfold Builtin.SmallTypes.ownedTupleIsFree
  refine wpAny_bind (wpAny_field hz rfl (x := .none) rfl (wpAny_pure ?_))
  simp only [if_true]
  refine wpAny_bind (wpAny_rule ?_)
  refine wpAny_bind (wpAny_field hz rfl (x := .ref TO) rfl ?_)
  refine wpAny_bind (wpAny_setField_rec hz (by simp) fun h₁ hz₁ hs₁ => ?_)
  replace hz₁ : IsZipS h₁ z TI TO .ellipsis false := hz₁
  refine wpAny_bind ?_
  refine wpAny_forIn_list _ (fun rest r s' => r = (none, ()) ∧ ∃ j h' vs, s' = { s with heap := h' } ∧ rest = ((refs its).zipIdx).drop j ∧ j ≤ its.length ∧ vs.length = its.length ∧ Mid s.heap h' z TI TO false its i j vs ∧
      ∀ (k : Nat) (t : SI), k < j → its[k]? = some t → ∃ ys, t.Sq s.heap ys ∧ ys[i]? ≠ none) _ ?_ ?_ _ _
    ⟨rfl, 0, h₁, old, rfl, rfl, Nat.zero_le _, hl, ⟨hs₁.1, hz₁, hs₁.extBut _ _ D.TOz hTO, fun k t ht => ?_, fun c o c1 c2 c3 e => hs₁.extBut _ _ c1 e⟩, fun k t hk _ => absurd hk (Nat.not_lt_zero _)⟩
  · rintro ⟨x, k⟩ rest r s' ⟨rfl, j, h', vs, rfl, hr, hj, hv, M, hno⟩
    have hlt : j < its.length := by
      rcases Nat.lt_or_ge j its.length with q | q
      · exact q
      · rw [List.drop_eq_nil_of_le (by rw [List.length_zipIdx]; simpa [refs] using q)] at hr; cases hr
    have hlz : j < ((refs its).zipIdx).length := by rw [List.length_zipIdx]; simpa [refs] using hlt
    rw [List.drop_eq_getElem_cons hlz] at hr
    obtain ⟨hxk, hr2⟩ := List.cons.inj hr
    have ht : its[j]? = some its[j] := List.getElem?_eq_getElem hlt
    generalize its[j] = t at ht
    have htm : t ∈ its := List.mem_of_getElem? ht
    have e0 : ((refs its).zipIdx)[j]? = some (.ref t.it, j) := by
      rw [List.getElem?_zipIdx]
      show (its.map fun t => Value.ref t.it)[j]?.map _ = _
      rw [List.getElem?_map, ht]
      simp
    have e1 : (x, k) = (Value.ref t.it, j) := by
      have := List.getElem?_eq_getElem hlz
      rw [e0] at this
      exact hxk.trans (Option.some.inj this).symm
    obtain ⟨ex, ek⟩ := Prod.mk.inj e1
    subst ex
    have ek := ek.symm
    subst ek
    obtain ⟨ys, hSq⟩ := hS t htm
    have hAt : t.At h' i := by have := M.at_ j t ht; rwa [if_neg (Nat.lt_irrefl j)] at this
    have hSq' : t.Sq h' ys := hSq.at fun o e => M.fr _ o (D.lz t htm).1 (D.lz t htm).2 (fun u hu => D.li t htm u hu) e
    refine wpAny_bind (wpAny_onRaise ?_)
    show wpAny _ _ (do return some (← Builtin.SmallTypes.nextOf (Value.ref t.it))) _ _ _
    cases hyi : ys[i]? with
    | none =>
      refine wpAny_bind (SI.next_end (s := { s with heap := h' }) hh hAt hSq' hyi fun h₂ e hs₂ he => ?_)
      obtain ⟨oe, hoe, hce⟩ := he
      have hz₂ : IsZipS h₂ z TI TO .ellipsis false := hs₂ _ _ (D.iz t htm).1.symm M.zip
      have hez : e ≠ z := fun x => by subst x; rw [hz₂] at hoe; cases hoe; simp at hce
      exact wpAny_setField_rec hz₂ (by simp) fun h₃ _ hs₃ => hE h₃ e (fun c o c1 c2 c3 x => hs₃.extBut _ _ c1 (hs₂ _ _ (c3 t htm) (M.fr c o c1 c2 c3 x))) ⟨oe, hs₃.extBut _ _ hez hoe, hce⟩
    | some y =>
      refine wpAny_bind (SI.next_item (s := { s with heap := h' }) hAt hSq' hyi fun h₂ hA₂ hs₂ => wpAny_pure ?_)
      have hTO₂ : IsTupO h₂ TO vs.toArray := hs₂.extBut _ _ (D.iz t htm).2.2.symm M.tup
      refine wpAny_bind (wpAny_seqItems (s := { s with heap := h₂ }) hTO₂ rfl ?_)
      refine wpAny_bind (wpAny_updateSeq (s := { s with heap := h₂ }) hTO₂ rfl ?_ (by rw [List.size_toArray, hv]; exact Nat.le_trans hsm (by decide)) (by rw [Array.size_setIfInBounds, List.size_toArray, hv]; exact Nat.le_succ_of_le (Nat.le_trans hsm (by decide))))
      have hTO₃ : IsTupO (h₂.update TO (Obj.mapSeq (·.setIfInBounds j y))) TO (vs.set j y).toArray := by
        show Heap.get? _ _ = _
        rw [Heap.get?_update_self _ hTO₂ rfl]
        simp [Obj.mapSeq]
      have hs₃ : Heap.SameBut TO h₂ (h₂.update TO (Obj.mapSeq (·.setIfInBounds j y))) := Heap.SameBut.update ..
      generalize h₂.update TO (Obj.mapSeq (·.setIfInBounds j y)) = h₃ at hTO₃ hs₃
      refine wpAny_bind (wpAny_letGo (wpAny_pure ?_))
      refine ⟨rfl, j + 1, h₃, vs.set j y, rfl, hr2, hlt, by rw [List.length_set]; exact hv, ?_, fun k u hk hu => ?_⟩
      · refine ⟨hs₃.1.trans (hs₂.1.trans M.sz), hs₃.extBut _ _ D.TOz.symm (hs₂.extBut _ _ (D.iz t htm).1.symm M.zip), hTO₃, fun k u hu => ?_, fun c o c1 c2 c3 e => hs₃.extBut _ _ c2 (hs₂.extBut _ _ (c3 t htm) (M.fr c o c1 c2 c3 e))⟩
        have hum : u ∈ its := List.mem_of_getElem? hu
        by_cases hk : k = j
        · subst hk
          rw [ht] at hu; cases hu
          rw [if_pos (Nat.lt_succ_self _)]
          exact hA₂.at fun o e => hs₃.extBut _ _ (D.iz t htm).2.2 e
        · have hne : u.it ≠ t.it := fun e => hk (D.inj hu ht e)
          have := M.at_ k u hu
          have e2 : (if k < j + 1 then i + 1 else i) = if k < j then i + 1 else i := by
            by_cases q : k < j
            · rw [if_pos q, if_pos (by omega)]
            · rw [if_neg q, if_neg (by omega)]
          rw [e2]
          exact this.at fun o e => hs₃.extBut _ _ (D.iz u hum).2.2 (hs₂.extBut _ _ hne e)
      · by_cases hkj : k = j
        · subst hkj
          rw [ht] at hu; cases hu
          exact ⟨ys, hSq, by rw [hyi]; simp⟩
        · exact hno k u (by omega) hu
  · rintro r s' ⟨rfl, j, h₅, vs, rfl, hr, hj, hv, M, hno⟩
    have hj' : j = its.length := by
      have := congrArg List.length hr
      rw [List.length_drop, List.length_zipIdx] at this
      have l : (refs its).length = its.length := by simp [refs]
      rw [l] at this
      simp at this
      omega
    subst hj'
    obtain ⟨t, ht, hn⟩ := hend
    obtain ⟨k, hk⟩ := List.getElem?_of_mem ht
    obtain ⟨ys, h1, h2⟩ := hno k t (List.getElem?_eq_some_iff.mp hk).1 hk
    exact absurd (hn ys h1) h2
  · rw [if_neg (Nat.not_lt_zero _)]
    exact (hA t (List.mem_of_getElem? ht)).at fun o e => hs₁.extBut _ _ (D.iz t (List.mem_of_getElem? ht)).1 e
/-- strict: all have ended -/
theorem next_endS {z TI TO : Addr} {its : List SI} {i : Nat} {old : List Value} {Q : Fin → Shared → Prop} (hh : A.handled = none) (D : ZA z TI TO its) (hz : IsZipS s.heap z TI TO .none true) (hTI : IsTupO s.heap TI (refs its).toArray) (hTO : IsTupO s.heap TO old.toArray)
    (hne : its ≠ []) (hA : ∀ t ∈ its, t.At s.heap i) (hS : ∀ t ∈ its, ∃ ys, t.Sq s.heap ys ∧ ys[i]? = none)
    (hE : ∀ h' e, (∀ c o, c ≠ z → c ≠ TO → (∀ t ∈ its, c ≠ t.it) → s.heap.get? c = some o → h'.get? c = some o) → (∃ o, h'.get? e = some o ∧ o.cls = .type "StopIteration") → E (.ref e) { s with heap := h' }) :
    wpAny (model prog w) A (Builtin.«zip.__next__» ⟨[.ref z], []⟩) Q E s := by
  cases its with
  | nil => exact absurd rfl hne
  | cons t ts =>
  show wpAny _ _ (field (.ref z) 2 >>= _) _ _ _
  refine wpAny_bind (wpAny_field hz rfl (x := .bool true) rfl ?_)
  show wpAny _ _ (field (.ref z) 3 >>= _) _ _ _
  refine wpAny_bind (wpAny_field hz rfl (x := .ref TI) rfl ?_)
  refine wpAny_bind (wpAny_seqItems hTI rfl ?_)
  have hem : (refs (t :: ts)).toArray.isEmpty = false := rfl
  simp only [hem, Bool.false_eq_true, if_false]
  show wpAny _ _ (Builtin.SmallTypes.ownedTupleIsFree (.ref z) >>= _) _ _ _
  refine wpAny_bind ?_
  unfold Builtin.SmallTypes.ownedTupleIsFree
  refine wpAny_bind (wpAny_field hz rfl (x := .none) rfl (wpAny_pure ?_))
  simp only [if_true]
  refine wpAny_bind (wpAny_rule ?_)
  refine wpAny_bind (wpAny_field hz rfl (x := .ref TO) rfl ?_)
  refine wpAny_bind (wpAny_setField_rec hz (by simp) fun h₁ hz₁ hs₁ => ?_)
  replace hz₁ : IsZipS h₁ z TI TO .ellipsis true := hz₁
  refine wpAny_bind ?_
  have htm : t ∈ t :: ts := List.mem_cons_self
  obtain ⟨ys, hSq, hyi⟩ := hS t htm
  have hzi : (refs (t :: ts)).zipIdx = (.ref t.it, 0) :: (refs ts).zipIdx 1 := rfl
  simp only [hzi, List.forIn_cons]
  refine wpAny_bind (wpAny_bind (wpAny_onRaise ?_))
  show wpAny _ _ (Builtin.SmallTypes.nextOrEnd (.ref t.it)) _ _ _
  refine end_draw (s := { s with heap := h₁ }) hh ((hA t htm).at fun o e => hs₁.extBut _ _ (D.iz t htm).1 e) (hSq.at fun o e => hs₁.extBut _ _ (D.lz t htm).1 e) hyi fun h₂ hs₂ => ?_
  have hz₂ : IsZipS h₂ z TI TO .ellipsis true := hs₂ _ _ (D.iz t htm).1.symm hz₁
  refine wpAny_bind (wpAny_setField_rec (s := { s with heap := h₂ }) hz₂ (by simp) fun h₃ _ hs₃ => ?_)
  refine wpAny_bind ?_
  show wpAny _ _ (forIn ((refs ts).zipIdx 1) _ _ >>= _) _ _ _
  refine wpAny_bind ?_
  refine wpAny_forIn_list _ (fun rest _ s' => ∃ j h', s' = { s with heap := h' } ∧ rest = ((refs ts).zipIdx 1).drop j ∧ j ≤ ts.length ∧ (∀ (k : Nat) (u : SI), j ≤ k → ts[k]? = some u → u.At h' i) ∧
      ∀ c o, c ≠ z → c ≠ TO → (∀ t' ∈ t :: ts, c ≠ t'.it) → s.heap.get? c = some o → h'.get? c = some o) _ ?_ ?_ _ _
    ⟨0, h₃, rfl, rfl, Nat.zero_le _, fun k u _ hu => ?_, fun c o c1 c2 c3 e => hs₃.extBut _ _ c1 (hs₂ _ _ (c3 t htm) (hs₁.extBut _ _ c1 e))⟩
  · rintro ⟨x, k⟩ rest r s' ⟨j, h', rfl, hr, hj, hAt, hfr⟩
    have hlt : j < ts.length := by
      rcases Nat.lt_or_ge j ts.length with q | q
      · exact q
      · rw [List.drop_eq_nil_of_le (by rw [List.length_zipIdx]; simpa [refs] using q)] at hr; cases hr
    have hlz : j < ((refs ts).zipIdx 1).length := by rw [List.length_zipIdx]; simpa [refs] using hlt
    rw [List.drop_eq_getElem_cons hlz] at hr
    obtain ⟨hxk, hr2⟩ := List.cons.inj hr
    have hu : ts[j]? = some ts[j] := List.getElem?_eq_getElem hlt
    generalize ts[j] = u at hu
    have hum : u ∈ t :: ts := List.mem_cons_of_mem _ (List.mem_of_getElem? hu)
    have e0 : ((refs ts).zipIdx 1)[j]? = some (.ref u.it, 1 + j) := by
      rw [List.getElem?_zipIdx]
      show (ts.map fun t => Value.ref t.it)[j]?.map _ = _
      rw [List.getElem?_map, hu]
      simp
    have e1 : (x, k) = (Value.ref u.it, 1 + j) := by
      have := List.getElem?_eq_getElem hlz
      rw [e0] at this
      exact hxk.trans (Option.some.inj this).symm
    obtain ⟨ex, ek⟩ := Prod.mk.inj e1
    subst ex
    obtain ⟨zs, hSu, hzi⟩ := hS u hum
    refine wpAny_bind (end_draw (s := { s with heap := h' }) hh (hAt j u (Nat.le_refl _) hu) (hSu.at fun o e => hfr _ o (D.lz u hum).1 (D.lz u hum).2 (fun v hv => D.li u hum v hv) e) hzi fun h₄ hs₄ => ?_)
    simp only [Option.isSome_none, Bool.false_eq_true, if_false]
    refine wpAny_pure ⟨j + 1, h₄, rfl, hr2, hlt, fun k' v hk hv => ?_, fun c o c1 c2 c3 e => hs₄ _ _ (c3 u hum) (hfr c o c1 c2 c3 e)⟩
    have hne2 : v.it ≠ u.it := fun e => by
      have := D.inj (i := k' + 1) (j := j + 1) (t := v) (u := u) (by simpa using hv) (by simpa using hu) e
      omega
    exact (hAt k' v (by omega) hv).at fun o e => hs₄ _ _ hne2 e
  · rintro r s' ⟨j, h₅, rfl, hr, hj, hAt, hfr⟩
    refine wpAny_bind (wpAny_rule ?_)
    exact raise_stop (s := { s with heap := h₅ }) hh fun h' e hk he => hE h' e (fun c o c1 c2 c3 x => hk c o (hfr c o c1 c2 c3 x)) he
  · have hum : u ∈ t :: ts := List.mem_cons_of_mem _ (List.mem_of_getElem? hu)
    have hne2 : u.it ≠ t.it := fun e => by
      have := D.inj (i := k + 1) (j := 0) (t := u) (u := t) (by simpa using hu) rfl e
      omega
    exact (hA u hum).at fun o e => hs₃.extBut _ _ (D.iz u hum).1 (hs₂ _ _ hne2 (hs₁.extBut _ _ (D.iz u hum).1 e))
theorem pyNext_item {z TI TO : Addr} {its : List SI} {b : Bool} {i : Nat} {old xs : List Value} {Q : Option Value → Shared → Prop} (D : ZA z TI TO its) (hz : IsZipS s.heap z TI TO .none b) (hTI : IsTupO s.heap TI (refs its).toArray) (hTO : IsTupO s.heap TO old.toArray)
    (hl : old.length = its.length) (hne : its ≠ []) (hA : ∀ t ∈ its, t.At s.heap i) (hlx : xs.length = its.length) (hS : ∀ (k : Nat) (t : SI) (x : Value), its[k]? = some t → xs[k]? = some x → ∃ ys, t.Sq s.heap ys ∧ ys[i]? = some x) (hsm : its.length ≤ 1000)
    (hQ : ∀ h', IsZipS h' z TI TO (rawInt s.heap.objs.size) b → IsTupO h' TO xs.toArray → (∀ t ∈ its, t.At h' (i + 1)) → IsTupO h' s.heap.objs.size xs.toArray → h'.objs.size = s.heap.objs.size + 1 →
      (∀ c o, c ≠ z → c ≠ TO → (∀ t ∈ its, c ≠ t.it) → s.heap.get? c = some o → h'.get? c = some o) → Q (some (.ref s.heap.objs.size)) { s with heap := h' }) : wpAny (model prog w) A (pyNext (.ref z)) Q E s := by
  have hT : s.TypeIs (.ref z) "zip" := ⟨_, hz, rfl⟩
  unfold pyNext
  exact wpAny_bind (wpAny_attempt (wpAny_callSpecial?_slot (name := Str.ofString "__next__") hT F.slot_zip_next
    (wpAny_call_entry F.slot_zip_next hT F.entry_zip_next
      (next_item D hz hTI hTO hl hne hA hlx hS hsm fun h' a1 a2 a3 a4 a5 a6 => wpAny_pure (hQ h' a1 a2 a3 a4 a5 a6)) (F.args_zip_next_1 _))))
theorem pyNext_end {z TI TO : Addr} {its : List SI} {b : Bool} {i : Nat} {old : List Value} {Q : Option Value → Shared → Prop} (hh : A.handled = none) (D : ZA z TI TO its) (hz : IsZipS s.heap z TI TO .none b) (hTI : IsTupO s.heap TI (refs its).toArray) (hTO : IsTupO s.heap TO old.toArray)
    (hl : old.length = its.length) (hne : its ≠ []) (hA : ∀ t ∈ its, t.At s.heap i) (hS : ∀ t ∈ its, ∃ ys, t.Sq s.heap ys ∧ (b = true → ys[i]? = none)) (hend : b = false → ∃ t ∈ its, ∀ ys, t.Sq s.heap ys → ys[i]? = none) (hsm : its.length ≤ 1000)
    (hQ : ∀ h', (∀ c o, c ≠ z → c ≠ TO → (∀ t ∈ its, c ≠ t.it) → s.heap.get? c = some o → h'.get? c = some o) → Q none { s with heap := h' }) : wpAny (model prog w) A (pyNext (.ref z)) Q E s := by
  have hT : s.TypeIs (.ref z) "zip" := ⟨_, hz, rfl⟩
  unfold pyNext
  refine wpAny_bind (wpAny_attempt (wpAny_callSpecial?_slot (name := Str.ofString "__next__") hT F.slot_zip_next
    (wpAny_call_entry F.slot_zip_next hT F.entry_zip_next (?_) (F.args_zip_next_1 _))))
  have fin : ∀ h' e, (∀ c o, c ≠ z → c ≠ TO → (∀ t ∈ its, c ≠ t.it) → s.heap.get? c = some o → h'.get? c = some o) → (∃ o, h'.get? e = some o ∧ o.cls = .type "StopIteration") → wpAny (model prog w) A (do if ← isInstance (.ref e) (.type "StopIteration") then return none else throw (.ref e)) Q E { s with heap := h' } := fun h' e hk he => by
    obtain ⟨o, ho, hc⟩ := he
    refine wpAny_bind (wpAny_isInstance (T := "StopIteration") (b := true) ⟨o, ho, hc⟩ isSubtype_stop ?_)
    exact wpAny_pure (hQ _ hk)
  cases b with
  | false => exact next_end hh D hz hTI hTO hl hA (fun t ht => let ⟨ys, h, _⟩ := hS t ht; ⟨ys, h⟩) (hend rfl) hsm fun h' e hk he => fin h' e hk he
  | true => exact next_endS hh D hz hTI hTO hne hA (fun t ht => let ⟨ys, h, q⟩ := hS t ht; ⟨ys, h, q rfl⟩) fun h' e hk he => fin h' e hk he
theorem letGo_zip {elts : List Expr} {x1} {pos : Pos} {z TI TO T : Addr} {b : Bool} {Q : Unit → Shared → Prop} (hz : IsZipS s.heap z TI TO (rawInt T) b)
    (hQ : ∀ h', IsZipS h' z TI TO .none b → Heap.SameBut z s.heap h' → Q () { s with heap := h' }) :
    wpAny (model prog w) A (letOwnedTupleGo (.Tuple elts x1 pos) (.ref z) (.ref T)) Q E s := by
  unfold letOwnedTupleGo
  refine wpAny_bind (wpAny_load hz ?_)
  show wpAny _ _ (if (["enumerate", "zip", "dict_itemiterator", "dict_reverseitemiterator", "odict_iterator", "itertools.zip_longest", "itertools.pairwise"].contains "zip" &&
      (#[rawInt T, .bool false, .bool b, .ref TI, .ref TO] : Array Value)[0]? == some (rawInt T)) = true then _ else _) Q E s
  rw [if_pos (by simp)]
  refine wpAny_bind (wpAny_rule ?_)
  show wpAny _ _ (setField (.ref z) 0 .none) Q E s
  exact wpAny_setField_rec hz (by simp) fun h' hz' hs' => hQ h' hz' hs'
theorem pyIter_zip {z TI TO : Addr} {f0 : Value} {b : Bool} {Q : Value → Shared → Prop} (hz : IsZipS s.heap z TI TO f0 b) (h : Q (.ref z) s) : wpAny (model prog w) A (pyIter (.ref z)) Q E s := by
  have hT : s.TypeIs (.ref z) "zip" := ⟨_, hz, rfl⟩
  refine wpAny_pyIter_slot hT F.slot_zip_iter (wpAny_call_entry F.slot_zip_iter hT F.entry_zip_iter ?_ (F.args_zip_iter_1 _))
  show wpAny _ _ (ret (.ref z)) _ _ s
  exact wpAny_pure ⟨_, rfl, "zip", _, hT, F.slot_zip_next.lookup, h⟩
end
def itO (k : Bool) (l : Addr) : Obj := { cls := .type (if k = true then "list_iterator" else "tuple_iterator"), data := .fields #[.ref l, .int 0 0] }
def SqO (k : Bool) (l : Addr) (h : Heap) (xs : Array Value) : Prop := (⟨k, 0, l⟩ : SI).Sq h xs
theorem SqO.push {k : Bool} {l : Addr} {h : Heap} {xs : Array Value} (x : SqO k l h xs) (o : Obj) : SqO k l (h.push o) xs := SI.Sq.at x fun _ e => Heap.get?_push_of_some _ e
theorem pyIter_sq {prog : Program} {w : World} {A : Around} {E : Value → Shared → Prop} {s : Shared} {k : Bool} {l : Addr} {xs : Array Value} {Q : Value → Shared → Prop} (hS : SqO k l s.heap xs) (h : Q (.ref s.heap.objs.size) { s with heap := s.heap.push (itO k l) }) : wpAny (model prog w) A (pyIter (.ref l)) Q E s := by
  unfold SqO SI.Sq at hS
  cases k with
  | true => exact wpAny_pyIter_list hS h
  | false => exact wpAny_pyIter_tuple hS h
end DZ
namespace DZ
open PySem PySem.Spec PyProof.Rows L2
theorem len_itO (h : Heap) (k : Bool) (l : Addr) : (h.push (itO k l)).objs.size = h.objs.size + 1 := Heap.size_push ..
abbrev zh2 (h : Heap) (k1 : Bool) (l1 : Addr) (k2 : Bool) (l2 : Addr) (b : Bool) : Heap :=
  (((((h.push (itO k1 l1)).push (itO k2 l2)).push { cls := .type "tuple", data := .seq #[.ref h.objs.size, .ref (h.push (itO k1 l1)).objs.size] }).push { cls := .type "tuple", data := .seq #[.none, .none] }).push
    { cls := .type "zip", data := .fields #[.none, .bool false, .bool b, .ref ((h.push (itO k1 l1)).push (itO k2 l2)).objs.size, .ref (((h.push (itO k1 l1)).push (itO k2 l2)).push { cls := .type "tuple", data := .seq #[.ref h.objs.size, .ref (h.push (itO k1 l1)).objs.size] }).objs.size] })
abbrev zp2 (h : Heap) (k1 : Bool) (l1 : Addr) (k2 : Bool) (l2 : Addr) : Addr := ((((h.push (itO k1 l1)).push (itO k2 l2)).push { cls := .type "tuple", data := .seq #[.ref h.objs.size, .ref (h.push (itO k1 l1)).objs.size] }).push { cls := .type "tuple", data := .seq #[.none, .none] }).objs.size
theorem meets_new2 (k1 : Bool) (l1 : Addr) (k2 : Bool) (l2 : Addr) (xs ys : Array Value) :
    Meets (Builtin.«zip.__new__» ⟨[.type "zip", .ref l1, .ref l2], []⟩) (fun _ R s => SqO k1 l1 s.heap xs ∧ SqO k2 l2 s.heap ys ∧ R (.ok (.ret (.ref (zp2 s.heap k1 l1 k2 l2)))) { s with heap := zh2 s.heap k1 l1 k2 l2 false }) :=
  .of_wp fun prog w A R s h => by
    obtain ⟨hp, g, d, tk, os⟩ := s; obtain ⟨hl1, hl2, h⟩ := h
    have hsub := sub_zip
    have hL1 : SqO k1 l1 (Shared.heap ⟨hp, g, d, tk, os⟩) xs := hl1
    have hL2 : SqO k2 l2 (Shared.heap ⟨hp.push (itO k1 l1), g, d, tk, os⟩) ys := hl2.push _
    wp_walk using pyIter_sq hL1, pyIter_sq hL2
    exact ⟨_, rfl, h⟩
theorem meets_new2S (k1 : Bool) (l1 : Addr) (k2 : Bool) (l2 : Addr) (xs ys : Array Value) :
    Meets (Builtin.«zip.__new__» ⟨[.type "zip", .ref l1, .ref l2], [(Str.ofString "strict", .bool true)]⟩) (fun _ R s => SqO k1 l1 s.heap xs ∧ SqO k2 l2 s.heap ys ∧ R (.ok (.ret (.ref (zp2 s.heap k1 l1 k2 l2)))) { s with heap := zh2 s.heap k1 l1 k2 l2 true }) :=
  .of_wp fun prog w A R s h => by
    obtain ⟨hp, g, d, tk, os⟩ := s; obtain ⟨hl1, hl2, h⟩ := h
    have hsub := sub_zip
    have hL1 : SqO k1 l1 (Shared.heap ⟨hp, g, d, tk, os⟩) xs := hl1
    have hL2 : SqO k2 l2 (Shared.heap ⟨hp.push (itO k1 l1), g, d, tk, os⟩) ys := hl2.push _
    have e2 : (Str.ofString "strict" != ("strict" : Str)) = false := by decide +kernel
    wp_walk using pyIter_sq hL1, pyIter_sq hL2
    exact ⟨_, rfl, h⟩

abbrev zi3 (h : Heap) (k1 : Bool) (l1 : Addr) (k2 : Bool) (l2 : Addr) (k3 : Bool) (l3 : Addr) : Heap := ((h.push (itO k1 l1)).push (itO k2 l2)).push (itO k3 l3)
abbrev zt3 (h : Heap) (k1 : Bool) (l1 : Addr) (k2 : Bool) (l2 : Addr) (k3 : Bool) (l3 : Addr) : Heap := (zi3 h k1 l1 k2 l2 k3 l3).push { cls := .type "tuple", data := .seq #[.ref h.objs.size, .ref (h.push (itO k1 l1)).objs.size, .ref ((h.push (itO k1 l1)).push (itO k2 l2)).objs.size] }
abbrev zo3 (h : Heap) (k1 : Bool) (l1 : Addr) (k2 : Bool) (l2 : Addr) (k3 : Bool) (l3 : Addr) : Heap := (zt3 h k1 l1 k2 l2 k3 l3).push { cls := .type "tuple", data := .seq #[.none, .none, .none] }
abbrev zh3 (h : Heap) (k1 : Bool) (l1 : Addr) (k2 : Bool) (l2 : Addr) (k3 : Bool) (l3 : Addr) (b : Bool) : Heap := (zo3 h k1 l1 k2 l2 k3 l3).push
    { cls := .type "zip", data := .fields #[.none, .bool false, .bool b, .ref (zi3 h k1 l1 k2 l2 k3 l3).objs.size, .ref (zt3 h k1 l1 k2 l2 k3 l3).objs.size] }
theorem meets_new3 (k1 : Bool) (l1 : Addr) (k2 : Bool) (l2 : Addr) (k3 : Bool) (l3 : Addr) (xs ys zs : Array Value) :
    Meets (Builtin.«zip.__new__» ⟨[.type "zip", .ref l1, .ref l2, .ref l3], []⟩) (fun _ R s => SqO k1 l1 s.heap xs ∧ SqO k2 l2 s.heap ys ∧ SqO k3 l3 s.heap zs ∧ R (.ok (.ret (.ref (zo3 s.heap k1 l1 k2 l2 k3 l3).objs.size))) { s with heap := zh3 s.heap k1 l1 k2 l2 k3 l3 false }) :=
  .of_wp fun prog w A R s h => by
    obtain ⟨hp, g, d, tk, os⟩ := s; obtain ⟨hl1, hl2, hl3, h⟩ := h
    have hsub := sub_zip
    have hL1 : SqO k1 l1 (Shared.heap ⟨hp, g, d, tk, os⟩) xs := hl1
    have hL2 : SqO k2 l2 (Shared.heap ⟨hp.push (itO k1 l1), g, d, tk, os⟩) ys := hl2.push _
    have hL3 : SqO k3 l3 (Shared.heap ⟨(hp.push (itO k1 l1)).push (itO k2 l2), g, d, tk, os⟩) zs := (hl3.push _).push _
    wp_walk using pyIter_sq hL1, pyIter_sq hL2, pyIter_sq hL3
    exact ⟨_, rfl, h⟩
theorem meets_new3S (k1 : Bool) (l1 : Addr) (k2 : Bool) (l2 : Addr) (k3 : Bool) (l3 : Addr) (xs ys zs : Array Value) :
    Meets (Builtin.«zip.__new__» ⟨[.type "zip", .ref l1, .ref l2, .ref l3], [(Str.ofString "strict", .bool true)]⟩) (fun _ R s => SqO k1 l1 s.heap xs ∧ SqO k2 l2 s.heap ys ∧ SqO k3 l3 s.heap zs ∧ R (.ok (.ret (.ref (zo3 s.heap k1 l1 k2 l2 k3 l3).objs.size))) { s with heap := zh3 s.heap k1 l1 k2 l2 k3 l3 true }) :=
  .of_wp fun prog w A R s h => by
    obtain ⟨hp, g, d, tk, os⟩ := s; obtain ⟨hl1, hl2, hl3, h⟩ := h
    have hsub := sub_zip
    have hL1 : SqO k1 l1 (Shared.heap ⟨hp, g, d, tk, os⟩) xs := hl1
    have hL2 : SqO k2 l2 (Shared.heap ⟨hp.push (itO k1 l1), g, d, tk, os⟩) ys := hl2.push _
    have hL3 : SqO k3 l3 (Shared.heap ⟨(hp.push (itO k1 l1)).push (itO k2 l2), g, d, tk, os⟩) zs := (hl3.push _).push _
    have e2 : (Str.ofString "strict" != ("strict" : Str)) = false := by decide +kernel
    wp_walk using pyIter_sq hL1, pyIter_sq hL2, pyIter_sq hL3
    exact ⟨_, rfl, h⟩
theorem typeCall_2S (a b c : Value) : checkTypeCall "zip" ⟨[a, b], [(Str.ofString "strict", c)]⟩ = pure () := by kernel_rfl
theorem newCall_2S (a b c : Value) : checkBuiltinCall "zip.__new__" ⟨[.type "zip", a, b], [(Str.ofString "strict", c)]⟩ = pure () := by kernel_rfl
theorem init_2S (obj a b c : Value) : argsOk "object.__init__" ⟨[obj, a, b], [(Str.ofString "strict", c)]⟩ := by unfold argsOk; kernel_rfl
theorem typeCall_3 (a b d : Value) : checkTypeCall "zip" ⟨[a, b, d], []⟩ = pure () := by kernel_rfl
theorem newCall_3 (a b d : Value) : checkBuiltinCall "zip.__new__" ⟨[.type "zip", a, b, d], []⟩ = pure () := by kernel_rfl
theorem init_3 (obj a b d : Value) : argsOk "object.__init__" ⟨[obj, a, b, d], []⟩ := by unfold argsOk; kernel_rfl
theorem typeCall_3S (a b d c : Value) : checkTypeCall "zip" ⟨[a, b, d], [(Str.ofString "strict", c)]⟩ = pure () := by kernel_rfl
theorem newCall_3S (a b d c : Value) : checkBuiltinCall "zip.__new__" ⟨[.type "zip", a, b, d], [(Str.ofString "strict", c)]⟩ = pure () := by kernel_rfl
theorem init_3S (obj a b d c : Value) : argsOk "object.__init__" ⟨[obj, a, b, d], [(Str.ofString "strict", c)]⟩ := by unfold argsOk; kernel_rfl
section
variable {prog : Program} {w : World} {A : Around} {E : Value → Shared → Prop} {s : Shared}
def kwS (b : Bool) : List (Str × Value) := if b = true then [(Str.ofString "strict", .bool true)] else []
def SIs (n : Nat) (ls : List (Bool × Addr)) : List SI := ls.zipIdx.map fun p => ⟨p.1.1, n + p.2, p.1.2⟩
/-- the zip object is new, over iterators that begin -/
def Made (ls : List (Bool × Addr)) (b : Bool) (h h' : Heap) : Prop :=
  IsZipS h' (h.objs.size + ls.length + 2) (h.objs.size + ls.length) (h.objs.size + ls.length + 1) .none b ∧ IsTupO h' (h.objs.size + ls.length) (refs (SIs h.objs.size ls)).toArray ∧
  (∃ old : List Value, IsTupO h' (h.objs.size + ls.length + 1) old.toArray ∧ old.length = ls.length) ∧ (∀ t ∈ SIs h.objs.size ls, t.At h' 0) ∧ (∀ c o, h.get? c = some o → h'.get? c = some o)
theorem it_at {h : Heap} {k : Bool} {l a : Addr} (e : h.get? a = some (itO k l)) : (⟨k, a, l⟩ : SI).At h 0 := by
  unfold SI.At
  cases k with
  | true => exact ⟨_, e, rfl, rfl⟩
  | false => exact ⟨_, e, rfl, rfl⟩
theorem call_zip2 {k1 k2 : Bool} {l1 l2 : Addr} {xs ys : Array Value} {b : Bool} {Q : Value → Shared → Prop} (h1 : SqO k1 l1 s.heap xs) (h2 : SqO k2 l2 s.heap ys)
    (h : ∀ h', Made [(k1, l1), (k2, l2)] b s.heap h' → Q (.ref (s.heap.objs.size + 4)) { s with heap := h' }) : wpAny (model prog w) A (call (.type "zip") [.ref l1, .ref l2] (kwS b)) Q E s := by
  have z1 : (s.heap.push (itO k1 l1)).objs.size = s.heap.objs.size + 1 := Heap.size_push ..
  have z2 : ((s.heap.push (itO k1 l1)).push (itO k2 l2)).objs.size = s.heap.objs.size + 2 := by rw [Heap.size_push, z1]
  have z3 : (((s.heap.push (itO k1 l1)).push (itO k2 l2)).push { cls := .type "tuple", data := .seq #[.ref s.heap.objs.size, .ref (s.heap.push (itO k1 l1)).objs.size] }).objs.size = s.heap.objs.size + 3 := by rw [Heap.size_push, z2]
  have z4 : zp2 s.heap k1 l1 k2 l2 = s.heap.objs.size + 4 := by unfold zp2; rw [Heap.size_push, z3]
  have g5 : (zh2 s.heap k1 l1 k2 l2 b).get? (zp2 s.heap k1 l1 k2 l2) = some _ := Heap.get?_push_size _ rfl
  have g4 : (zh2 s.heap k1 l1 k2 l2 b).get? (((s.heap.push (itO k1 l1)).push (itO k2 l2)).push { cls := .type "tuple", data := .seq #[.ref s.heap.objs.size, .ref (s.heap.push (itO k1 l1)).objs.size] }).objs.size = some _ := Heap.get?_push_of_some _ (Heap.get?_push_size _ rfl)
  have g3 : (zh2 s.heap k1 l1 k2 l2 b).get? ((s.heap.push (itO k1 l1)).push (itO k2 l2)).objs.size = some _ := Heap.get?_push_of_some _ (Heap.get?_push_of_some _ (Heap.get?_push_size _ rfl))
  have g2 : (zh2 s.heap k1 l1 k2 l2 b).get? (s.heap.push (itO k1 l1)).objs.size = some (itO k2 l2) := Heap.get?_push_of_some _ (Heap.get?_push_of_some _ (Heap.get?_push_of_some _ (Heap.get?_push_size _ rfl)))
  have g1 : (zh2 s.heap k1 l1 k2 l2 b).get? s.heap.objs.size = some (itO k1 l1) := Heap.get?_push_of_some _ (Heap.get?_push_of_some _ (Heap.get?_push_of_some _ (Heap.get?_push_of_some _ (Heap.get?_push_size _ rfl))))
  have kp : ∀ c o, s.heap.get? c = some o → (zh2 s.heap k1 l1 k2 l2 b).get? c = some o := fun c o x => Heap.get?_push_of_some _ (Heap.get?_push_of_some _ (Heap.get?_push_of_some _ (Heap.get?_push_of_some _ (Heap.get?_push_of_some _ x))))
  have hz : ({ s with heap := zh2 s.heap k1 l1 k2 l2 b } : Shared).TypeIs (.ref (zp2 s.heap k1 l1 k2 l2)) "zip" := ⟨_, g5, rfl⟩
  have fin : Q (.ref (zp2 s.heap k1 l1 k2 l2)) { s with heap := zh2 s.heap k1 l1 k2 l2 b } := by
    rw [z4]
    refine h _ ⟨?_, ?_, ⟨[.none, .none], ?_, rfl⟩, fun t ht => ?_, kp⟩
    · rw [z2, z3, z4] at g5; exact g5
    · rw [z1, z2] at g3; exact g3
    · rw [z3] at g4; exact g4
    · have : t = ⟨k1, s.heap.objs.size, l1⟩ ∨ t = ⟨k2, s.heap.objs.size + 1, l2⟩ := by simpa [SIs] using ht
      rcases this with rfl | rfl
      · exact it_at g1
      · rw [z1] at g2; exact it_at g2
  cases b with
  | false => exact callType_new F.called_zip (by decide) (F.typeCall_zip_2 _ _) (F.newCall_zip_2 _ _) (fun obj => F.args_object_init_3 obj _ _) F.entry_zip_new (meets_new2 k1 l1 k2 l2 xs ys) ⟨h1, h2, hz, fin⟩
  | true => exact callType_newKw F.called_zip (by decide) (typeCall_2S _ _ _) (newCall_2S _ _ _) (fun obj => init_2S obj _ _ _) F.entry_zip_new (meets_new2S k1 l1 k2 l2 xs ys) ⟨h1, h2, hz, fin⟩
theorem call_zip3 {k1 k2 k3 : Bool} {l1 l2 l3 : Addr} {xs ys zs : Array Value} {b : Bool} {Q : Value → Shared → Prop} (h1 : SqO k1 l1 s.heap xs) (h2 : SqO k2 l2 s.heap ys) (h3 : SqO k3 l3 s.heap zs)
    (h : ∀ h', Made [(k1, l1), (k2, l2), (k3, l3)] b s.heap h' → Q (.ref (s.heap.objs.size + 5)) { s with heap := h' }) : wpAny (model prog w) A (call (.type "zip") [.ref l1, .ref l2, .ref l3] (kwS b)) Q E s := by
  have z1 : (s.heap.push (itO k1 l1)).objs.size = s.heap.objs.size + 1 := Heap.size_push ..
  have z2 : ((s.heap.push (itO k1 l1)).push (itO k2 l2)).objs.size = s.heap.objs.size + 2 := by rw [Heap.size_push, z1]
  have z3 : (zi3 s.heap k1 l1 k2 l2 k3 l3).objs.size = s.heap.objs.size + 3 := by rw [Heap.size_push, z2]
  have z4 : (zt3 s.heap k1 l1 k2 l2 k3 l3).objs.size = s.heap.objs.size + 4 := by rw [Heap.size_push, z3]
  have z5 : (zo3 s.heap k1 l1 k2 l2 k3 l3).objs.size = s.heap.objs.size + 5 := by rw [Heap.size_push, z4]
  have g5 : (zh3 s.heap k1 l1 k2 l2 k3 l3 b).get? (zo3 s.heap k1 l1 k2 l2 k3 l3).objs.size = some _ := Heap.get?_push_size _ rfl
  have g4 : (zh3 s.heap k1 l1 k2 l2 k3 l3 b).get? (zt3 s.heap k1 l1 k2 l2 k3 l3).objs.size = some _ := Heap.get?_push_of_some _ (Heap.get?_push_size _ rfl)
  have g3 : (zh3 s.heap k1 l1 k2 l2 k3 l3 b).get? (zi3 s.heap k1 l1 k2 l2 k3 l3).objs.size = some _ := Heap.get?_push_of_some _ (Heap.get?_push_of_some _ (Heap.get?_push_size _ rfl))
  have g2' : (zh3 s.heap k1 l1 k2 l2 k3 l3 b).get? ((s.heap.push (itO k1 l1)).push (itO k2 l2)).objs.size = some (itO k3 l3) := Heap.get?_push_of_some _ (Heap.get?_push_of_some _ (Heap.get?_push_of_some _ (Heap.get?_push_size _ rfl)))
  have g2 : (zh3 s.heap k1 l1 k2 l2 k3 l3 b).get? (s.heap.push (itO k1 l1)).objs.size = some (itO k2 l2) := Heap.get?_push_of_some _ (Heap.get?_push_of_some _ (Heap.get?_push_of_some _ (Heap.get?_push_of_some _ (Heap.get?_push_size _ rfl))))
  have g1 : (zh3 s.heap k1 l1 k2 l2 k3 l3 b).get? s.heap.objs.size = some (itO k1 l1) := Heap.get?_push_of_some _ (Heap.get?_push_of_some _ (Heap.get?_push_of_some _ (Heap.get?_push_of_some _ (Heap.get?_push_of_some _ (Heap.get?_push_size _ rfl)))))
  have kp : ∀ c o, s.heap.get? c = some o → (zh3 s.heap k1 l1 k2 l2 k3 l3 b).get? c = some o := fun c o x => Heap.get?_push_of_some _ (Heap.get?_push_of_some _ (Heap.get?_push_of_some _ (Heap.get?_push_of_some _ (Heap.get?_push_of_some _ (Heap.get?_push_of_some _ x)))))
  have hz : ({ s with heap := zh3 s.heap k1 l1 k2 l2 k3 l3 b } : Shared).TypeIs (.ref (zo3 s.heap k1 l1 k2 l2 k3 l3).objs.size) "zip" := ⟨_, g5, rfl⟩
  have fin : Q (.ref (zo3 s.heap k1 l1 k2 l2 k3 l3).objs.size) { s with heap := zh3 s.heap k1 l1 k2 l2 k3 l3 b } := by
    rw [z5]
    refine h _ ⟨?_, ?_, ⟨[.none, .none, .none], ?_, rfl⟩, fun t ht => ?_, kp⟩
    · rw [z3, z4, z5] at g5; exact g5
    · rw [z1, z2, z3] at g3; exact g3
    · rw [z4] at g4; exact g4
    · have : t = ⟨k1, s.heap.objs.size, l1⟩ ∨ t = ⟨k2, s.heap.objs.size + 1, l2⟩ ∨ t = ⟨k3, s.heap.objs.size + 2, l3⟩ := by simpa [SIs] using ht
      rcases this with rfl | rfl | rfl
      · exact it_at g1
      · rw [z1] at g2; exact it_at g2
      · rw [z2] at g2'; exact it_at g2'
  cases b with
  | false => exact callType_new F.called_zip (by decide) (typeCall_3 _ _ _) (newCall_3 _ _ _) (fun obj => init_3 obj _ _ _) F.entry_zip_new (meets_new3 k1 l1 k2 l2 k3 l3 xs ys zs) ⟨h1, h2, h3, hz, fin⟩
  | true => exact callType_newKw F.called_zip (by decide) (typeCall_3S _ _ _ _) (newCall_3S _ _ _ _) (fun obj => init_3S obj _ _ _ _) F.entry_zip_new (meets_new3S k1 l1 k2 l2 k3 l3 xs ys zs) ⟨h1, h2, h3, hz, fin⟩
end
end DZ
namespace DZ
open PySem PySem.Spec PyProof.Rows L2
def SqX (K : PySem.W.Frag) (H : Hp) (p : Bool × Addr) (xs : List V) : Prop := if p.1 = true then SqL K H p.2 xs else SqT K H p.2 xs
theorem exists_vals : ∀ (xs : List V) (P : Nat → Value → Prop), (∀ (k : Nat) (x : V), xs[k]? = some x → ∃ u, RelV x u ∧ P k u) → ∃ us : List Value, Vals xs us ∧ ∀ (k : Nat) (u : Value), us[k]? = some u → P k u
  | [], P, _ => ⟨[], .nil, fun k u h => by simp at h⟩
  | x :: xs, P, h => by
    obtain ⟨u, r, hp⟩ := h 0 x rfl
    obtain ⟨us, rs, hps⟩ := exists_vals xs (fun k => P (k + 1)) fun k x e => h (k + 1) x (by simpa using e)
    refine ⟨u :: us, .cons r rs, fun k v e => ?_⟩
    cases k with
    | zero => simp at e; subst e; exact hp
    | succ k => exact hps k v (by simpa using e)
section
variable {X : Cx} {pins : List (Addr × Obj)} {σ : L2.St} {H : Hp} {s : Shared}
theorem sqx_at (I : Inv X pins σ H s) {p : Bool × Addr} {xs : List V} (h : SqX X.K H p xs) : ∃ us : List Value, Vals xs us ∧ SqO p.1 p.2 s.heap us.toArray := by
  unfold SqX at h
  unfold SqO SI.Sq
  obtain ⟨k, a⟩ := p
  cases k with
  | true =>
    obtain ⟨us, r, q, _⟩ := I.list (show SqL X.K H a xs from h)
    exact ⟨us, r, q.isList⟩
  | false =>
    obtain ⟨us, r, q, _⟩ := I.tuple (show SqT X.K H a xs from h)
    exact ⟨us, r, q⟩
theorem sqx_inj (I : Inv X pins σ H s) {p : Bool × Addr} {xs ys : List V} (h : SqX X.K H p xs) (h' : SqX X.K H p ys) : xs = ys := by
  unfold SqX at *
  split at h
  · rw [if_pos (by assumption)] at h'; exact I.list_inj h h'
  · rw [if_neg (by assumption)] at h'; exact I.tuple_inj h h'
theorem sqo_inj {k : Bool} {l : Addr} {h : Heap} {xs ys : Array Value} (a : SqO k l h xs) (b : SqO k l h ys) : xs = ys := by
  unfold SqO SI.Sq at *
  cases k with
  | true =>
    obtain ⟨o, e, _, n, d⟩ := (show h.IsList l xs from a)
    obtain ⟨o', e', _, n', d'⟩ := (show h.IsList l ys from b)
    rw [e] at e'; cases e'
    rw [d] at d'
    exact (Data.seq.inj d').1
  | false =>
    obtain ⟨o, e, _, n, d⟩ := (show h.IsTuple l xs from a)
    obtain ⟨o', e', _, n', d'⟩ := (show h.IsTuple l ys from b)
    rw [e] at e'; cases e'
    rw [d] at d'
    exact (Data.seq.inj d').1
end
/-- zip over the lists and tuples as they stand at each turn -/
def ItzN (K : PySem.W.Frag) (ls : List (Bool × Addr)) (b : Bool) : It :=
  ⟨fun i H => ∃ xs : List V, xs.length = ls.length ∧ ∀ (k : Nat) (p : Bool × Addr) (x : V), ls[k]? = some p → xs[k]? = some x → ∃ ys, SqX K H p ys ∧ ys[i]? = some x,
    fun i H v H' => ∃ T xs, v = .ref T ∧ H T = none ∧ H' = upd H T (.tup xs) ∧ xs.length = ls.length ∧ ∀ (k : Nat) (p : Bool × Addr) (x : V), ls[k]? = some p → xs[k]? = some x → ∀ ys, SqX K H p ys → ys[i]? = some x,
    fun i H => (∀ p ∈ ls, ∃ ys : List V, SqX K H p ys ∧ (b = true → ys.length ≤ i)) ∧ (b = false → ∃ p ∈ ls, ∃ ys : List V, SqX K H p ys ∧ ys.length ≤ i)⟩
def fpZ (z TI TO : Addr) (its : List SI) : List Addr := z :: TI :: TO :: its.map (·.it)
theorem turn_zipN {P : Program} {w : World} {K : PySem.W.Frag} {elts : List Expr} {kk : Nat} {tpos : Pos} {z TI TO : Addr} {its : List SI} {ls : List (Bool × Addr)} {b : Bool} (D : ZA z TI TO its) (hls : its.map (fun t => (t.k, t.l)) = ls) (hne : its ≠ []) (hsm : its.length ≤ 1000) :
    Turn P w K (.Tuple elts kk tpos) (ItzN K ls b) (fpZ z TI TO its) z (fun i h => IsZipS h z TI TO .none b ∧ IsTupO h TI (refs its).toArray ∧ (∃ old : List Value, IsTupO h TO old.toArray ∧ old.length = its.length) ∧ ∀ t ∈ its, t.At h i) where
  mem := by simp [fpZ]
  obj := fun i h st c hc => by
    obtain ⟨hz, hTI, ⟨old, hTO, _⟩, hA⟩ := st
    have e' : c = z ∨ c = TI ∨ c = TO ∨ ∃ t ∈ its, t.it = c := by simpa [fpZ] using hc
    rcases e' with q | q | q | ⟨t, ht, q⟩
    · rw [q]; exact ⟨_, hz, fun v q => nomatch q⟩
    · rw [q]; exact ⟨_, hTI, fun v q => nomatch q⟩
    · rw [q]; exact ⟨_, hTO, fun v q => nomatch q⟩
    · obtain ⟨o, e, vs, d⟩ := (hA t ht).obj
      rw [← q]; exact ⟨o, e, fun v q => by rw [d] at q; cases q⟩
  keep := fun i h h' st k => by
    obtain ⟨hz, hTI, ⟨old, hTO, hl⟩, hA⟩ := st
    exact ⟨k z (by simp [fpZ]) _ hz, k TI (by simp [fpZ]) _ hTI, ⟨old, k TO (by simp [fpZ]) _ hTO, hl⟩, fun t ht => (hA t ht).at fun o e => k t.it (by simp [fpZ]; exact .inr (.inr (.inr ⟨t, ht, rfl⟩))) o e⟩
  item := by
    intro X hP hw hK hc i pins s σ H E I hf st hg
    subst hP hw hK
    obtain ⟨hz, hTI, ⟨old, hTO, hl⟩, hA⟩ := st
    obtain ⟨xs, hlx, hx⟩ := hg
    subst hls
    rw [List.length_map] at hlx
    obtain ⟨us, rus, hus⟩ := exists_vals xs (fun k u => ∀ t : SI, its[k]? = some t → ∃ ys, t.Sq s.heap ys ∧ ys[i]? = some u) fun k x e => by
      have hk : k < its.length := by have := (List.getElem?_eq_some_iff.mp e).1; omega
      have ht : its[k]? = some its[k] := List.getElem?_eq_getElem hk
      obtain ⟨ys, h1, h2⟩ := hx k (its[k].k, its[k].l) x (by rw [List.getElem?_map, ht]; rfl) e
      obtain ⟨vs, r1, r2⟩ := sqx_at I h1
      obtain ⟨u, hu, ru⟩ := r1.get h2
      refine ⟨u, ru, fun t q => ?_⟩
      rw [ht] at q; cases q
      exact ⟨_, r2, by simpa using hu⟩
    have hlu : us.length = its.length := rus.length.symm.trans hlx
    have hzl : z < s.heap.objs.size := Heap.lt_size hz
    refine pyNext_item (xs := us) D hz hTI hTO hl hne hA hlu (fun k t u ht hu => hus k u hu t ht) hsm fun h' z' TO' hA' hT hsz hk => ?_
    refine ⟨_, rfl, letGo_zip (s := { s with heap := h' }) z' fun h'' z'' sb => ?_⟩
    have hT2 : IsTupO h'' s.heap.objs.size us.toArray := (sb.2 _ (Nat.ne_of_gt hzl)).trans hT
    have new : ObjOk X.prog X.w (upd H s.heap.objs.size (.tup xs)) h'' s.heap.objs.size (.tup xs) :=
      ⟨by rw [hlx]; exact Nat.le_trans hsm (by decide), us, rus, ⟨_, hT2, rfl, _, rfl⟩⟩
    have nf : ∀ c, c ∉ fpZ z TI TO its → c ≠ z ∧ c ≠ TO ∧ ∀ t ∈ its, c ≠ t.it := fun c hc => by
      simp [fpZ] at hc
      exact ⟨hc.1, hc.2.2.1, fun t ht q => hc.2.2.2 t ht q.symm⟩
    have I1 : Inv X pins σ (upd H s.heap.objs.size (.tup xs)) { s with heap := h'' } :=
      I.turnedNew (t' := s.toks) (ch := fpZ z TI TO its) (fun c o hb q => by
        obtain ⟨c1, c2, c3⟩ := nf c hb
        exact (sb.2 c c1).trans (hk c o c1 c2 c3 q)) hf (Nat.le_refl _) new
    refine ⟨.ref s.heap.objs.size, _, I1, rfl, ⟨_, xs, rfl, I.hok.fresh (Nat.le_refl _), rfl, by rw [List.length_map]; exact hlx, fun k p x hp hxk ys hys => ?_⟩, ⟨z'', ?_, ⟨us, ?_, hlu⟩, fun t ht => ?_⟩, fun c hcm => ?_⟩
    · obtain ⟨ys', h1, h2⟩ := hx k p x hp hxk
      rw [sqx_inj I hys h1]; exact h2
    · exact (sb.2 _ D.TIz).trans (hk _ _ D.TIz D.TITO (fun t ht => ((D.iz t ht).2.1).symm) hTI)
    · exact (sb.2 _ D.TOz).trans TO'
    · exact (hA' t ht).at fun o q => (sb.2 _ (D.iz t ht).1).trans q
    · have hlt : c < s.heap.objs.size := by
        have e' : c = z ∨ c = TI ∨ c = TO ∨ ∃ t ∈ its, t.it = c := by simpa [fpZ] using hcm
        rcases e' with q | q | q | ⟨t, ht, q⟩
        · rw [q]; exact hzl
        · rw [q]; exact Heap.lt_size hTI
        · rw [q]; exact Heap.lt_size hTO
        · rw [← q]; exact (hA t ht).lt
      rw [upd_ne (Nat.ne_of_lt hlt)]
      exact (hf c hcm).1
  done := by
    intro X hP hw hK hc i pins s σ H E I hf st hg
    subst hP hw hK
    obtain ⟨hz, hTI, ⟨old, hTO, hl⟩, hA⟩ := st
    obtain ⟨h1, h2⟩ := hg
    subst hls
    have nf : ∀ c, c ∉ fpZ z TI TO its → c ≠ z ∧ c ≠ TO ∧ ∀ t ∈ its, c ≠ t.it := fun c hc => by
      simp [fpZ] at hc
      exact ⟨hc.1, hc.2.2.1, fun t ht q => hc.2.2.2 t ht q.symm⟩
    refine pyNext_end (I.ok.hd hc) D hz hTI hTO hl hne hA (fun t ht => ?_) (fun hb => ?_) hsm fun h' hk => ⟨rfl, I.turnedL (t' := s.toks) (ch := fpZ z TI TO its) (fun c o hb q => by
      obtain ⟨c1, c2, c3⟩ := nf c hb
      exact hk c o c1 c2 c3 q) hf⟩
    · obtain ⟨ys, q1, q2⟩ := h1 (t.k, t.l) (List.mem_map.mpr ⟨t, ht, rfl⟩)
      obtain ⟨us, r1, r2⟩ := sqx_at I q1
      refine ⟨_, r2, fun hb => ?_⟩
      have := q2 hb
      have l := r1.length
      exact Array.getElem?_eq_none (by simp; omega)
    · obtain ⟨p, hp, zs, q1, q⟩ := h2 hb
      obtain ⟨t, ht, rfl⟩ := List.mem_map.mp hp
      refine ⟨t, ht, fun ys hy => ?_⟩
      obtain ⟨us, r1, r2⟩ := sqx_at I q1
      have e : ys = us.toArray := sqo_inj (k := t.k) (l := t.l) hy r2
      subst e
      have l := r1.length
      exact Array.getElem?_eq_none (by simp; omega)
  self := fun A i s Q E st h => pyIter_zip st.1 h
theorem SIs_mem {n : Nat} {ls : List (Bool × Addr)} {t : SI} (h : t ∈ SIs n ls) : n ≤ t.it ∧ t.it < n + ls.length ∧ (t.k, t.l) ∈ ls := by
  unfold SIs at h
  obtain ⟨⟨⟨k, a⟩, j⟩, hm, rfl⟩ := List.mem_map.mp h
  obtain ⟨h1, h2, h3⟩ := List.mem_zipIdx hm
  refine ⟨Nat.le_add_right _ _, by simp at h2; show n + j < _; omega, ?_⟩
  show (k, a) ∈ ls
  rw [h3]; exact List.getElem_mem _
theorem na1 (a b : Nat) : a + b ≠ a + b + 2 := by omega
theorem na2 (a b : Nat) : a + b + 1 ≠ a + b + 2 := by omega
theorem na3 (a b : Nat) : a + b ≠ a + b + 1 := by omega
theorem na4 {n b i : Nat} (h : i < n + b) : i ≠ n + b + 2 ∧ i ≠ n + b ∧ i ≠ n + b + 1 := by omega
theorem na5 {n b l : Nat} (h : l < n) : l ≠ n + b + 2 ∧ l ≠ n + b + 1 := by omega
theorem na6 {n l i : Nat} (h : l < n) (h' : n ≤ i) : l ≠ i := by omega
theorem na7 {n b c : Nat} (h : c = n + b + 2 ∨ c = n + b ∨ c = n + b + 1) : n ≤ c := by omega
theorem SIs_za {h : Heap} {ls : List (Bool × Addr)} (hl : ∀ p ∈ ls, p.2 < h.objs.size) : ZA (h.objs.size + ls.length + 2) (h.objs.size + ls.length) (h.objs.size + ls.length + 1) (SIs h.objs.size ls) where
  TIz := na1 _ _
  TOz := na2 _ _
  TITO := na3 _ _
  iz := fun t ht => by obtain ⟨a, b, _⟩ := SIs_mem ht; exact na4 b
  nd := by
    have e : (SIs h.objs.size ls).map (·.it) = (List.range' 0 ls.length).map (h.objs.size + ·) := by
      unfold SIs
      rw [List.map_map]
      have : ((fun x : SI => x.it) ∘ fun p : (Bool × Addr) × Nat => (⟨p.1.1, h.objs.size + p.2, p.1.2⟩ : SI)) = (h.objs.size + ·) ∘ Prod.snd := rfl
      rw [this, ← List.map_map, List.zipIdx_map_snd]
    rw [e]
    refine List.Pairwise.map _ (fun a b (q : a ≠ b) => ?_) (List.nodup_range' (s := 0) (n := ls.length))
    exact fun z => q (Nat.add_left_cancel z)
  lz := fun t ht => by obtain ⟨_, _, c⟩ := SIs_mem ht; exact na5 (hl _ c)
  li := fun t ht u hu => by obtain ⟨_, _, c⟩ := SIs_mem ht; obtain ⟨a, b, _⟩ := SIs_mem hu; exact na6 (hl _ c) a
theorem SIs_len (n : Nat) (ls : List (Bool × Addr)) : (SIs n ls).length = ls.length := by simp [SIs]
theorem SIs_ls (n : Nat) (ls : List (Bool × Addr)) : (SIs n ls).map (fun t => (t.k, t.l)) = ls := by
  unfold SIs
  rw [List.map_map]
  have : ((fun t : SI => (t.k, t.l)) ∘ fun p : (Bool × Addr) × Nat => (⟨p.1.1, n + p.2, p.1.2⟩ : SI)) = Prod.fst := rfl
  rw [this, List.zipIdx_map_fst]
/-- what behind the call of zip is left -/
theorem pie_zip {X : Cx} {pins : List (Addr × Obj)} {σ : L2.St} {H : Hp} {s : Shared} {h' : Heap} {elts : List Expr} {kk : Nat} {tpos : Pos} {ls : List (Bool × Addr)} {b : Bool} {R : It → Hp → Prop} (I : Inv X pins σ H s) (hl : ∀ p ∈ ls, p.2 < s.heap.objs.size) (hne : ls ≠ []) (hsm : ls.length ≤ 1000)
    (M : Made ls b s.heap h') (q : R (ItzN X.K ls b) H) : wpAny (model X.prog X.w) X.A (pyIter (.ref (s.heap.objs.size + ls.length + 2))) (PIE X pins σ (.Tuple elts kk tpos) R) X.xe { s with heap := h' } := by
  obtain ⟨hz, hTI, ⟨old, hTO, ho⟩, hA, hk⟩ := M
  refine pyIter_zip (s := { s with heap := h' }) hz ?_
  have I2 : Inv X pins σ H { s with heap := h' } := I.kept (t' := s.toks) hk
  refine ⟨_, fpZ (s.heap.objs.size + ls.length + 2) (s.heap.objs.size + ls.length) (s.heap.objs.size + ls.length + 1) (SIs s.heap.objs.size ls), _, _, H, rfl, I2,
    turn_zipN (SIs_za hl) (SIs_ls _ _) (fun e => hne (by have := SIs_len s.heap.objs.size ls; rw [e] at this; exact List.length_eq_zero_iff.mp this.symm)) (by rw [SIs_len]; exact hsm), ⟨hz, hTI, ⟨old, hTO, by rw [SIs_len]; exact ho⟩, hA⟩, fun c hcm => ?_, q⟩
  have hle : s.heap.objs.size ≤ c := by
    have e' : c = s.heap.objs.size + ls.length + 2 ∨ c = s.heap.objs.size + ls.length ∨ c = s.heap.objs.size + ls.length + 1 ∨ ∃ t ∈ SIs s.heap.objs.size ls, t.it = c := by simpa [fpZ] using hcm
    rcases e' with q | q | q | ⟨t, ht, q⟩
    · exact na7 (.inl q)
    · exact na7 (.inr (.inl q))
    · exact na7 (.inr (.inr q))
    · obtain ⟨a, _⟩ := SIs_mem ht; rw [← q]; exact a
  exact I.fpOk hle (I.hok.fresh hle)
def iZipN (K : PySem.W.Frag) (b : Bool) (ta : TA) : TI := fun σ H R => ta σ H fun vs H1 => ∃ ls : List (Bool × Addr), (ls.length = 2 ∨ ls.length = 3) ∧ vs = ls.map (fun p => V.ref p.2) ∧ (∀ p ∈ ls, ∃ xs, SqX K H1 p xs) ∧ R (ItzN K ls b) H1
section
variable {X : Cx} {e e2 e3 : Expr} {ta : TA} {p pos tpos : Pos} {elts : List Expr} {kk : Nat}
theorem vals_refs : ∀ {ls : List (Bool × Addr)} {us : List Value}, Vals (ls.map fun p => V.ref p.2) us → us = ls.map fun p => .ref p.2
  | [], _, .nil => rfl
  | p :: ls, _, .cons r t => by cases r; rw [vals_refs t]; rfl
theorem zip_go {pins : List (Addr × Obj)} {σ : L2.St} {H : Hp} {s : Shared} {us : List Value} {vs : List V} {b : Bool} {R : It → Hp → Prop} (I : Inv X pins σ H s) (r : Vals vs us)
    (h : ∃ ls : List (Bool × Addr), (ls.length = 2 ∨ ls.length = 3) ∧ vs = ls.map (fun p => V.ref p.2) ∧ (∀ p ∈ ls, ∃ xs, SqX X.K H p xs) ∧ R (ItzN X.K ls b) H) :
    wpAny (model X.prog X.w) X.A (call (.type "zip") us (kwS b)) (fun v s1 => wpAny (model X.prog X.w) X.A (pyIter v) (PIE X pins σ (.Tuple elts kk tpos) R) X.xe s1) X.xe s := by
  obtain ⟨ls, h2, rfl, hs, q⟩ := h
  have hu := vals_refs r
  subst hu
  have hlt : ∀ p ∈ ls, p.2 < s.heap.objs.size := fun p hp => by
    obtain ⟨xs, hx⟩ := hs p hp
    obtain ⟨us, _, q⟩ := sqx_at I hx
    unfold SqO SI.Sq at q
    split at q
    · obtain ⟨o, e, _⟩ := q; exact Heap.lt_size e
    · obtain ⟨o, e, _⟩ := q; exact Heap.lt_size e
  match ls, h2, hs, hlt, q with
  | [p1, p2], _, hs, hlt, q =>
    obtain ⟨xs, hx⟩ := hs p1 (by simp)
    obtain ⟨ys, hy⟩ := hs p2 (by simp)
    obtain ⟨us, _, q1⟩ := sqx_at I hx
    obtain ⟨ws, _, q2⟩ := sqx_at I hy
    exact call_zip2 (b := b) q1 q2 fun h' M => pie_zip I hlt (by simp) (by simp) M q
  | [p1, p2, p3], _, hs, hlt, q =>
    obtain ⟨xs, hx⟩ := hs p1 (by simp)
    obtain ⟨ys, hy⟩ := hs p2 (by simp)
    obtain ⟨zs, hz⟩ := hs p3 (by simp)
    obtain ⟨us, _, q1⟩ := sqx_at I hx
    obtain ⟨ws, _, q2⟩ := sqx_at I hy
    obtain ⟨ts, _, q3⟩ := sqx_at I hz
    exact call_zip3 (b := b) q1 q2 q3 fun h' M => pie_zip I hlt (by simp) (by simp) M q
  | [], h2, _, _, _ => simp at h2
  | [_], h2, _, _, _ => simp at h2
  | _ :: _ :: _ :: _ :: _, h2, _, _, _ => simp at h2
theorem pi_zip2 (hg : Gl X "zip") (hm : X.mg "zip" = none) (ha : PA X [e, e2] ta)
    (hs : starEach [e, e2] X.env = (false, eval e X.env) :: starEach [e2] X.env := by rfl) (hpl : (backTo pos (starEach [e2] X.env)).any (·.1) = false := by rfl) :
    PI X (.Tuple elts kk tpos) (.Call (.Name "zip" p) [e, e2] [] pos) (iZipN X.K false ta) := by
  refine ⟨fun pins s σ H R I h => ?_⟩
  exact Call_ (ld_blt I hg hm PyProof.Rows.boot_zip (PyProof.Rows.callWith_type1 (thn (ha.run pos pins s σ H _ I h) fun us s1 ⟨vs, H1, I1, r1, q1⟩ => zip_go (b := false) I1 r1 q1) hs hpl))
theorem pi_zip3 (hg : Gl X "zip") (hm : X.mg "zip" = none) (ha : PA X [e, e2, e3] ta)
    (hs : starEach [e, e2, e3] X.env = (false, eval e X.env) :: starEach [e2, e3] X.env := by rfl) (hpl : (backTo pos (starEach [e2, e3] X.env)).any (·.1) = false := by rfl) :
    PI X (.Tuple elts kk tpos) (.Call (.Name "zip" p) [e, e2, e3] [] pos) (iZipN X.K false ta) := by
  refine ⟨fun pins s σ H R I h => ?_⟩
  exact Call_ (ld_blt I hg hm PyProof.Rows.boot_zip (PyProof.Rows.callWith_type1 (thn (ha.run pos pins s σ H _ I h) fun us s1 ⟨vs, H1, I1, r1, q1⟩ => zip_go (b := false) I1 r1 q1) hs hpl))
theorem callWith_type_kw {M : Model} {A : Around} {E : Value → Shared → Prop} {s : Shared} {env : Env} {pos : Pos} {id : String} {e : Expr} {rest : List Expr} {kws : List Keyword} {Q : Value → Shared → Prop}
    (h : wpAny M A (spliced (backTo pos (starEach (e :: rest) env))) (fun vs s₁ => wpAny M A (evalAll ((backToKw pos (keywordEach kws env)).map (·.2)))
      (fun kvs s₂ => wpAny M A (call (.type id) vs (((backToKw pos (keywordEach kws env)).filterMap (·.1)).zip kvs)) Q E s₂) E s₁) E s)
    (he : backTo pos (starEach (e :: rest) env) = (false, eval e env) :: backTo pos (starEach rest env) := by rfl)
    (hplain : (backTo pos (starEach (e :: rest) env)).any (·.1) = false := by rfl)
    (hall : (backToKw pos (keywordEach kws env)).all (·.1.isSome) = true := by rfl)
    (hkw : (backToKw pos (keywordEach kws env)).any (·.1.isNone) = false := by rfl) :
    wpAny M A (callWith pos (.type id) [] (backTo pos (starEach (e :: rest) env)) (backToKw pos (keywordEach kws env))) Q E s := by
  unfold callWith
  refine wpAny_bind (wpAny_holding (wpAny_mono (Q := fun a s₁ => wpAny M A (call (.type id) a.pos a.kw) Q E s₁) ?_ (fun a s₁ h₁ => wpAny_bind (wpAny_standAt ?_)) fun _ _ x => x))
  · rw [he] at h ⊢
    exact PyProof.Rows.evalArgs_kwB hall h
  · simp only [hplain, hkw, Bool.or_false]
    refine wpAny_bind (wpAny_pure ?_)
    exact wpAny_bind (wpAny_mono h₁ (fun r s₂ hr => wpAny_bind (wpAny_holding (wpAny_point (wpAny_pure hr)))) fun _ _ x => x)
theorem pi_zipS {es : List Expr} {kws : List Keyword} (hg : Gl X "zip") (hm : X.mg "zip" = none) (ha : PA X (e :: es) ta) (hk : PK X kws (fun _ H Q => Q [.bl true] H))
    (he : backTo pos (starEach (e :: es) X.env) = (false, eval e X.env) :: backTo pos (starEach es X.env) := by rfl) (hpl : (backTo pos (starEach (e :: es) X.env)).any (·.1) = false := by rfl)
    (hall : (backToKw pos (keywordEach kws X.env)).all (·.1.isSome) = true := by rfl) (hnone : (backToKw pos (keywordEach kws X.env)).any (·.1.isNone) = false := by rfl) (hks : (backToKw pos (keywordEach kws X.env)).filterMap (·.1) = [Str.ofString "strict"] := by rfl) :
    PI X (.Tuple elts kk tpos) (.Call (.Name "zip" p) (e :: es) kws pos) (iZipN X.K true ta) := by
  refine ⟨fun pins s σ H R I h => ?_⟩
  refine wpAny_Call_Name_kw (ld_blt I hg hm PyProof.Rows.boot_zip ?_)
  refine callWith_type_kw (thn (ha.run pos pins s σ H _ I h) fun us s1 ⟨vs, H1, I1, r1, q1⟩ => thn (hk.run pos pins s1 σ H1 (fun zs H2 => zs = [.bl true] ∧ H2 = H1) I1 ⟨rfl, rfl⟩) fun ws s2 ⟨zs, H2, I2, r2, e1, e2⟩ => ?_) he hpl hall hnone
  rw [hks]
  subst e1 e2
  have ew : ws = [.bool true] := by
    cases r2 with
    | cons r rr => cases rr; cases r; rfl
  subst ew
  exact zip_go (b := true) I2 r1 q1
end
end DZ
namespace DL
open PySem L2 PySem.Spec
open PyProof.Rows hiding St
/-! ## zip of two or three, strict or not -/
def rows3 : List PyData → List PyData → List PyData → List PyData
  | x :: xs, y :: ys, z :: zs => .tuple [x, y, z] :: rows3 xs ys zs
  | _, _, _ => []
theorem rows3_len : ∀ (xs ys zs : List PyData), (rows3 xs ys zs).length = min xs.length (min ys.length zs.length)
  | [], ys, zs => by simp [rows3]
  | _ :: _, [], zs => by simp [rows3]
  | _ :: _, _ :: _, [] => by simp [rows3]
  | _ :: xs, _ :: ys, _ :: zs => by simp [rows3, rows3_len xs ys zs]
theorem rows3_get : ∀ (xs ys zs : List PyData) (i : Nat) (x y z : PyData), xs[i]? = some x → ys[i]? = some y → zs[i]? = some z → (rows3 xs ys zs)[i]? = some (.tuple [x, y, z])
  | [], _, _, _, _, _, _, h, _, _ => by simp at h
  | _ :: _, [], _, _, _, _, _, _, h, _ => by simp at h
  | _ :: _, _ :: _, [], _, _, _, _, _, _, h => by simp at h
  | a :: xs, b :: ys, c :: zs, 0, x, y, z, h, h', h'' => by
    have h : a = x := by simpa using h
    have h' : b = y := by simpa using h'
    have h'' : c = z := by simpa using h''
    subst h h' h''; rfl
  | a :: xs, b :: ys, c :: zs, i + 1, x, y, z, h, h', h'' => rows3_get xs ys zs i x y z (by simpa using h) (by simpa using h') (by simpa using h'')
def rowsOf (b : Bool) : List PyData → Option (List PyData)
  | [x, y] => match itsOf x, itsOf y with
    | some ds, some es => if b = true → ds.length = es.length then some (zipD ds es) else none
    | _, _ => none
  | [x, y, z] => match itsOf x, itsOf y, itsOf z with
    | some ds, some es, some fs => if b = true → ds.length = es.length ∧ ds.length = fs.length then some (rows3 ds es fs) else none
    | _, _, _ => none
  | _ => none
def mZipG (b : Bool) (mr : DEnv → Out (List EV)) : DEnv → Out (List PyData) := fun env => (mr env).bind fun xs r => match (walks r xs).bind (rowsOf b) with
  | some rows => .ok rows r
  | none => .bad
section
variable {K : Frag} {B : Bs}
theorem seqOf {G : Hp} {v : V} {d : PyData} {ds : List PyData} (h : StV K B G v d) (e : itsOf d = some ds) : ∃ p : Bool × Addr, v = .ref p.2 ∧ ∃ xs, Stands K B G (fun H => DZ.SqX K H p xs) ∧ RpA K G xs ds := by
  cases d with
  | list es => cases e; obtain ⟨a, xs, h1, h2, h3⟩ := h; exact ⟨(true, a), h1, xs, h2, h3⟩
  | tuple es => cases e; obtain ⟨a, xs, h1, h2, h3⟩ := h; exact ⟨(false, a), h1, xs, h2, h3⟩
  | _ => cases e
theorem itok_zip2 {b : Bool} {p q : Bool × Addr} {G0 : Hp} {ds es : List PyData} {xs ys : List V} (h : Stands K B G0 fun H => DZ.SqX K H p xs) (r : RpA K G0 xs ds) (h' : Stands K B G0 fun H => DZ.SqX K H q ys) (r' : RpA K G0 ys es)
    (hb : b = true → ds.length = es.length) : ItOk K B (DZ.ItzN K [p, q] b) G0 (zipD ds es) := fun env σ G H I S i => by
  have hx := h env σ G H I S
  have hy := h' env σ G H I S
  have l1 := r.len
  have l2 := r'.len
  rw [zipD_len]
  refine ⟨fun hl => ?_, fun hl => ⟨fun t ht => ?_, fun hb0 => ?_⟩, fun x H' hl ⟨T, us, e1, n, e2, e3, e4⟩ => ?_⟩
  · obtain ⟨v, hv, _⟩ := r.getD (List.getElem?_eq_getElem (by omega : i < ds.length))
    obtain ⟨w, hw, _⟩ := r'.getD (List.getElem?_eq_getElem (by omega : i < es.length))
    refine ⟨[v, w], rfl, fun k t x ht hx' => ?_⟩
    match k, ht, hx' with
    | 0, ht, hx' => cases ht; cases hx'; exact ⟨xs, hx, hv⟩
    | 1, ht, hx' => cases ht; cases hx'; exact ⟨ys, hy, hw⟩
    | k + 2, ht, _ => simp at ht
  · have : t = p ∨ t = q := by simpa using ht
    rcases this with rfl | rfl
    · exact ⟨xs, hx, fun hb' => by have := hb hb'; omega⟩
    · exact ⟨ys, hy, fun hb' => by have := hb hb'; omega⟩
  · by_cases hc : ds.length ≤ i
    · exact ⟨p, by simp, xs, hx, by omega⟩
    · exact ⟨q, by simp, ys, hy, by omega⟩
  · subst e1 e2
    match us, e3, e4 with
    | [y, z], _, e4 =>
      obtain ⟨d, hd, rd⟩ := r.get (e4 0 p y rfl rfl xs hx)
      obtain ⟨d', hd', rd'⟩ := r'.get (e4 1 q z rfl rfl ys hy)
      have S2 : Same G (upd G T (.tup [y, z])) := same_upd (I.fresh n).g
      exact ⟨upd G T (.tup [y, z]), _, .alloc n .refl, zipD_get ds es i d d' hd hd', .tup (.inl (.inl upd_same)) (.cons ((rd.up S).up S2) (.cons ((rd'.up S).up S2) .nil))⟩
    | [], e3, _ => simp at e3
    | [_], e3, _ => simp at e3
    | _ :: _ :: _ :: _, e3, _ => simp at e3
theorem itok_zip3 {b : Bool} {p q t : Bool × Addr} {G0 : Hp} {ds es fs : List PyData} {xs ys zs : List V} (h : Stands K B G0 fun H => DZ.SqX K H p xs) (r : RpA K G0 xs ds) (h' : Stands K B G0 fun H => DZ.SqX K H q ys) (r' : RpA K G0 ys es) (h3 : Stands K B G0 fun H => DZ.SqX K H t zs) (r3 : RpA K G0 zs fs)
    (hb : b = true → ds.length = es.length ∧ ds.length = fs.length) : ItOk K B (DZ.ItzN K [p, q, t] b) G0 (rows3 ds es fs) := fun env σ G H I S i => by
  have hx := h env σ G H I S
  have hy := h' env σ G H I S
  have hz := h3 env σ G H I S
  have l1 := r.len
  have l2 := r'.len
  have l3 := r3.len
  rw [rows3_len]
  refine ⟨fun hl => ?_, fun hl => ⟨fun u hu => ?_, fun hb0 => ?_⟩, fun x H' hl ⟨T, us, e1, n, e2, e3, e4⟩ => ?_⟩
  · obtain ⟨v, hv, _⟩ := r.getD (List.getElem?_eq_getElem (by omega : i < ds.length))
    obtain ⟨w, hw, _⟩ := r'.getD (List.getElem?_eq_getElem (by omega : i < es.length))
    obtain ⟨o, ho, _⟩ := r3.getD (List.getElem?_eq_getElem (by omega : i < fs.length))
    refine ⟨[v, w, o], rfl, fun k u x ht hx' => ?_⟩
    match k, ht, hx' with
    | 0, ht, hx' => cases ht; cases hx'; exact ⟨xs, hx, hv⟩
    | 1, ht, hx' => cases ht; cases hx'; exact ⟨ys, hy, hw⟩
    | 2, ht, hx' => cases ht; cases hx'; exact ⟨zs, hz, ho⟩
    | k + 3, ht, _ => simp at ht
  · have : u = p ∨ u = q ∨ u = t := by simpa using hu
    rcases this with rfl | rfl | rfl
    · exact ⟨xs, hx, fun hb' => by have := hb hb'; omega⟩
    · exact ⟨ys, hy, fun hb' => by have := hb hb'; omega⟩
    · exact ⟨zs, hz, fun hb' => by have := hb hb'; omega⟩
  · by_cases hc : ds.length ≤ i
    · exact ⟨p, by simp, xs, hx, by omega⟩
    · by_cases hc2 : es.length ≤ i
      · exact ⟨q, by simp, ys, hy, by omega⟩
      · exact ⟨t, by simp, zs, hz, by omega⟩
  · subst e1 e2
    match us, e3, e4 with
    | [y, z, o], _, e4 =>
      obtain ⟨d, hd, rd⟩ := r.get (e4 0 p y rfl rfl xs hx)
      obtain ⟨d', hd', rd'⟩ := r'.get (e4 1 q z rfl rfl ys hy)
      obtain ⟨d3, hd3, rd3⟩ := r3.get (e4 2 t o rfl rfl zs hz)
      have S2 : Same G (upd G T (.tup [y, z, o])) := same_upd (I.fresh n).g
      exact ⟨upd G T (.tup [y, z, o]), _, .alloc n .refl, rows3_get ds es fs i d d' d3 hd hd' hd3, .tup (.inl (.inl upd_same)) (.cons ((rd.up S).up S2) (.cons ((rd'.up S).up S2) (.cons ((rd3.up S).up S2) .nil)))⟩
    | [], e3, _ => simp at e3
    | [_], e3, _ => simp at e3
    | [_, _], e3, _ => simp at e3
    | _ :: _ :: _ :: _ :: _, e3, _ => simp at e3
theorem seqNow {env : DEnv} {σ : St} {G H : Hp} {p : Bool × Addr} {xs : List V} (I : INV K B env σ G H) (h : Stands K B G fun H => DZ.SqX K H p xs) : DZ.SqX K H p xs := h env σ G H I (Same.refl _)
end
section
variable {X : Cx} {EK : XK} {a b c e tg iter : Expr} {es : List Expr} {pos p p2 : Pos} {ma mb : DEnv → Out EV} {mr : DEnv → Out (List EV)}
theorem walks3 {env : DEnv} {xs : List EV} {d d' d3 : PyData} (h : walks env xs = some [d, d', d3]) : ∃ x y z, xs = [x, y, z] ∧ walkable env x = some d ∧ walkable env y = some d' ∧ walkable env z = some d3 := by
  match xs, h with
  | [], h => cases h
  | x :: xs, h =>
    unfold walks at h
    split at h
    · rename_i e ds h1 h2
      cases h
      obtain ⟨y, z, rfl, h3, h4⟩ := walks2 h2
      exact ⟨x, y, z, rfl, h1, h3, h4⟩
    · cases h
theorem zipG_red {f : Bool} {B : Bs} {σ : St} {H : Hp} {R : It → Hp → Prop} (h : tI X.K X.mg B EK (mZipG f mr) σ H R) : DZ.iZipN X.K f (tA X.K X.mg B EK mr) σ H R := by
  obtain ⟨env, G, I, h⟩ := h
  refine ⟨env, G, I, (PD.bind h).imp fun vs H1 ⟨xs, env1, G1, I1, _, r1, h1⟩ => ?_⟩
  cases q : walks env1 xs with
  | none => rw [q] at h1; exact h1.elim
  | some dl =>
    rw [q] at h1
    simp only [Option.bind_some] at h1
    cases q2 : rowsOf f dl with
    | none => rw [q2] at h1; exact h1.elim
    | some rows =>
      rw [q2] at h1
      unfold rowsOf at q2
      split at q2
      · rename_i d d'
        split at q2
        · rename_i ds es i1 i2
          split at q2
          · rename_i hc
            cases q2
            obtain ⟨x, y, rfl, w1, w2⟩ := walks2 q
            cases r1 with
            | cons r rr =>
              cases rr with
              | cons r' rr =>
                cases rr
                obtain ⟨p1, rfl, ys, s1, s2⟩ := seqOf (I1.stands r w1) i1
                obtain ⟨p2, rfl, zs, t1, t2⟩ := seqOf (I1.stands r' w2) i2
                refine ⟨[p1, p2], .inl rfl, rfl, fun t ht => ?_, h1 _ G1 H1 I1 (Same.refl _) (itok_zip2 s1 s2 t1 t2 hc)⟩
                have : t = p1 ∨ t = p2 := by simpa using ht
                rcases this with rfl | rfl
                · exact ⟨_, seqNow I1 s1⟩
                · exact ⟨_, seqNow I1 t1⟩
          · cases q2
        · cases q2
      · rename_i d d' d3
        split at q2
        · rename_i ds es fs i1 i2 i3
          split at q2
          · rename_i hc
            cases q2
            obtain ⟨x, y, z, rfl, w1, w2, w3⟩ := walks3 q
            cases r1 with
            | cons r rr =>
              cases rr with
              | cons r' rr =>
                cases rr with
                | cons r3 rr =>
                  cases rr
                  obtain ⟨p1, rfl, ys, s1, s2⟩ := seqOf (I1.stands r w1) i1
                  obtain ⟨p2, rfl, zs, t1, t2⟩ := seqOf (I1.stands r' w2) i2
                  obtain ⟨p3, rfl, us, u1, u2⟩ := seqOf (I1.stands r3 w3) i3
                  refine ⟨[p1, p2, p3], .inr rfl, rfl, fun t ht => ?_, h1 _ G1 H1 I1 (Same.refl _) (itok_zip3 s1 s2 t1 t2 u1 u2 hc)⟩
                  have : t = p1 ∨ t = p2 ∨ t = p3 := by simpa using ht
                  rcases this with rfl | rfl | rfl
                  · exact ⟨_, seqNow I1 s1⟩
                  · exact ⟨_, seqNow I1 t1⟩
                  · exact ⟨_, seqNow I1 u1⟩
          · cases q2
        · cases q2
      · cases q2
theorem di_zip2 {tpos : Pos} {elts : List Expr} {kk : Nat} (hm : X.mg "zip" = none) (ha : DA X EK [a, b] mr) (hg : Gl X "zip" := by rfl) (hs : starEach [a, b] X.env = (false, eval a X.env) :: starEach [b] X.env := by rfl) (hpl : (backTo pos (starEach [b] X.env)).any (·.1) = false := by rfl) :
    DI X EK (.Tuple elts kk tpos) (.Call (.Name "zip" p) [a, b] [] pos) (mZipG false mr) := fun B => PI.weak (DZ.pi_zip2 hg hm (ha B) hs hpl) fun _ _ _ h => zipG_red h
theorem di_zip3 {tpos : Pos} {elts : List Expr} {kk : Nat} (hm : X.mg "zip" = none) (ha : DA X EK [a, b, c] mr) (hg : Gl X "zip" := by rfl) (hs : starEach [a, b, c] X.env = (false, eval a X.env) :: starEach [b, c] X.env := by rfl) (hpl : (backTo pos (starEach [b, c] X.env)).any (·.1) = false := by rfl) :
    DI X EK (.Tuple elts kk tpos) (.Call (.Name "zip" p) [a, b, c] [] pos) (mZipG false mr) := fun B => PI.weak (DZ.pi_zip3 hg hm (ha B) hs hpl) fun _ _ _ h => zipG_red h
theorem di_zipS {tpos kp cp : Pos} {j : Nat} {elts : List Expr} {kk : Nat} (hm : X.mg "zip" = none) (ha : DA X EK (e :: es) mr) (hg : Gl X "zip" := by rfl)
    (he : backTo pos (starEach (e :: es) X.env) = (false, eval e X.env) :: backTo pos (starEach es X.env) := by rfl) (hpl : (backTo pos (starEach (e :: es) X.env)).any (·.1) = false := by rfl)
    (hall : (backToKw pos (keywordEach [⟨some "strict", .Constant (.bool true) j cp, kp⟩] X.env)).all (·.1.isSome) = true := by rfl) (hnone : (backToKw pos (keywordEach [⟨some "strict", .Constant (.bool true) j cp, kp⟩] X.env)).any (·.1.isNone) = false := by rfl) (hks : (backToKw pos (keywordEach [⟨some "strict", .Constant (.bool true) j cp, kp⟩] X.env)).filterMap (·.1) = [Str.ofString "strict"] := by rfl) :
    DI X EK (.Tuple elts kk tpos) (.Call (.Name "zip" p) (e :: es) [⟨some "strict", .Constant (.bool true) j cp, kp⟩] pos) (mZipG true mr) := fun B => PI.weak (DZ.pi_zipS hg hm (ha B) (pk_cons pe_bl pk_nil) he hpl hall hnone hks) fun _ _ _ h => zipG_red h
end
end DL
namespace DL
open PySem L2 PySem.Spec
open PyProof.Rows hiding St
/-! ## all, any, sum, max, min -/
def boolsOf : List PyData → Option (List Bool)
  | [] => some []
  | .bool b :: ds => (boolsOf ds).map (b :: ·)
  | _ => none
def strsOf : List PyData → Option (List Str)
  | [] => some []
  | .str b :: ds => (strsOf ds).map (b :: ·)
  | _ => none
section
variable {K : Frag}
theorem boolsOf_rp {G : Hp} : ∀ {ds : List PyData} {xs : List V} {bs : List Bool}, RpA K G xs ds → boolsOf ds = some bs → xs = bs.map V.bl
  | [], _, _, .nil, e => by cases e; rfl
  | .bool b :: ds, _, bs, .cons r rs, e => by
    have e : (boolsOf ds).map (b :: ·) = some bs := e
    cases q : boolsOf ds with
    | none => rw [q] at e; cases e
    | some cs => rw [q] at e; cases e; cases r; rw [boolsOf_rp rs q]; rfl
theorem strsOf_rp {G : Hp} : ∀ {ds : List PyData} {xs : List V} {bs : List Str}, RpA K G xs ds → strsOf ds = some bs → xs = bs.map V.str
  | [], _, _, .nil, e => by cases e; rfl
  | .str b :: ds, _, bs, .cons r rs, e => by
    have e : (strsOf ds).map (b :: ·) = some bs := e
    cases q : strsOf ds with
    | none => rw [q] at e; cases e
    | some cs => rw [q] at e; cases e; cases r; rw [strsOf_rp rs q]; rfl
theorem rpA_strs {G : Hp} : ∀ ns : List Str, RpA K G (ns.map V.str) (ns.map PyData.str)
  | [] => .nil
  | n :: ns => .cons (.str n) (rpA_strs ns)
def fAll : List PyData → Option PyData
  | [.list ds] => (boolsOf ds).map fun bs => .bool (bs.all id)
  | _ => none
def fAny : List PyData → Option PyData
  | [.list ds] => (boolsOf ds).map fun bs => .bool (bs.any id)
  | _ => none
def fSum : List PyData → Option PyData
  | [.list ds] => (intsOf ds).map fun ns => .int ns.sum
  | _ => none
theorem sc_all : SC K (rAll K) fAll := by
  intro G H vs ds d Q S vw e q
  unfold fAll at e
  split at e
  · rename_i ds'
    obtain ⟨v, rfl, a, xs, rfl, h1, r1⟩ := views1 vw
    cases q2 : boolsOf ds' with
    | none => rw [q2] at e; cases e
    | some bs =>
      rw [q2] at e; cases e
      have := boolsOf_rp r1 q2
      subst this
      exact ⟨a, bs, rfl, h1, q _ G H .refl (.bl _)⟩
  · cases e
theorem sc_any : SC K (rAny K) fAny := by
  intro G H vs ds d Q S vw e q
  unfold fAny at e
  split at e
  · rename_i ds'
    obtain ⟨v, rfl, a, xs, rfl, h1, r1⟩ := views1 vw
    cases q2 : boolsOf ds' with
    | none => rw [q2] at e; cases e
    | some bs =>
      rw [q2] at e; cases e
      have := boolsOf_rp r1 q2
      subst this
      exact ⟨a, bs, rfl, h1, q _ G H .refl (.bl _)⟩
  · cases e
theorem sc_sum : SC K (rSum K) fSum := by
  intro G H vs ds d Q S vw e q
  unfold fSum at e
  split at e
  · rename_i ds'
    obtain ⟨v, rfl, a, xs, rfl, h1, r1⟩ := views1 vw
    cases q2 : intsOf ds' with
    | none => rw [q2] at e; cases e
    | some ns =>
      rw [q2] at e; cases e
      obtain ⟨e1, _⟩ := intsOf_rp r1 q2
      subst e1
      exact ⟨a, ns, rfl, h1, q _ G H .refl (.int _)⟩
  · cases e
/-- one of two rules -/
theorem cr_or {X : Cx} {f : Value} {r r' : List V → Hp → VK → Prop} (h : CallR X f r) (h' : CallR X f r') : CallR X f (fun xs H Q => r xs H Q ∨ r' xs H Q) := fun pins s σ H xs us Q I rx q => by
  rcases q with q | q
  · exact h pins s σ H xs us Q I rx q
  · exact h' pins s σ H xs us Q I rx q
def maxI : List Int → Int
  | [] => 0
  | [i] => i
  | i :: j :: ns => max i (maxI (j :: ns))
def minI : List Int → Int
  | [] => 0
  | [i] => i
  | i :: j :: ns => min i (minI (j :: ns))
theorem maxI_spec : ∀ {ns : List Int}, ns ≠ [] → maxI ns ∈ ns ∧ ∀ y ∈ ns, y ≤ maxI ns
  | [], h => absurd rfl h
  | [i], _ => ⟨by simp [maxI], fun y h => by have : y = i := by simpa using h
                                             subst this; exact Int.le_refl _⟩
  | i :: j :: ns, _ => by
    obtain ⟨h1, h2⟩ := maxI_spec (ns := j :: ns) (by simp)
    unfold maxI
    refine ⟨?_, fun y hy => ?_⟩
    · rcases Int.le_total i (maxI (j :: ns)) with h | h
      · rw [Int.max_eq_right h]; exact List.mem_cons_of_mem _ h1
      · rw [Int.max_eq_left h]; exact List.mem_cons_self
    · rcases List.mem_cons.mp hy with rfl | hy
      · exact Int.le_max_left _ _
      · exact Int.le_trans (h2 y hy) (Int.le_max_right _ _)
theorem minI_spec : ∀ {ns : List Int}, ns ≠ [] → minI ns ∈ ns ∧ ∀ y ∈ ns, minI ns ≤ y
  | [], h => absurd rfl h
  | [i], _ => ⟨by simp [minI], fun y h => by have : y = i := by simpa using h
                                             subst this; exact Int.le_refl _⟩
  | i :: j :: ns, _ => by
    obtain ⟨h1, h2⟩ := minI_spec (ns := j :: ns) (by simp)
    unfold minI
    refine ⟨?_, fun y hy => ?_⟩
    · rcases Int.le_total i (minI (j :: ns)) with h | h
      · rw [Int.min_eq_left h]; exact List.mem_cons_self
      · rw [Int.min_eq_right h]; exact List.mem_cons_of_mem _ h1
    · rcases List.mem_cons.mp hy with rfl | hy
      · exact Int.min_le_left _ _
      · exact Int.le_trans (Int.min_le_right _ _) (h2 y hy)
def fMax : List PyData → Option PyData
  | [.int i, .int j] => some (.int (if j > i then j else i))
  | [.list ds] => (intsOf ds).bind fun ns => if ns = [] then none else some (.int (maxI ns))
  | _ => none
def fMin : List PyData → Option PyData
  | [.int i, .int j] => some (.int (if j < i then j else i))
  | [.list ds] => (intsOf ds).bind fun ns => if ns = [] then none else some (.int (minI ns))
  | _ => none
theorem sc_max : SC K (fun xs H Q => (∃ i j, xs = [.int i, .int j] ∧ Q (.int (if j > i then j else i)) H) ∨ rMax K xs H Q) fMax := by
  intro G H vs ds d Q S vw e q
  unfold fMax at e
  split at e
  · cases e
    obtain ⟨v, v', rfl, h1, h2⟩ := views2 vw
    have h1 : v = .int _ := h1
    have h2 : v' = .int _ := h2
    subst h1 h2
    exact .inl ⟨_, _, rfl, q _ G H .refl (.int _)⟩
  · rename_i ds'
    obtain ⟨v, rfl, a, xs, rfl, h1, r1⟩ := views1 vw
    cases q2 : intsOf ds' with
    | none => rw [q2] at e; cases e
    | some ns =>
      rw [q2] at e
      have e : (if ns = [] then none else some (PyData.int (maxI ns))) = some d := e
      split at e
      · cases e
      · rename_i hn
        cases e
        obtain ⟨e1, _⟩ := intsOf_rp r1 q2
        subst e1
        refine .inr ⟨a, ns, rfl, h1, List.length_pos_iff.mpr hn, fun m hm hy => ?_⟩
        obtain ⟨a1, a2⟩ := maxI_spec hn
        have : m = maxI ns := Int.le_antisymm (a2 m hm) (hy _ a1)
        subst this
        exact q _ G H .refl (.int _)
  · cases e
theorem sc_min : SC K (fun xs H Q => (∃ i j, xs = [.int i, .int j] ∧ Q (.int (if j < i then j else i)) H) ∨ rMin K xs H Q) fMin := by
  intro G H vs ds d Q S vw e q
  unfold fMin at e
  split at e
  · cases e
    obtain ⟨v, v', rfl, h1, h2⟩ := views2 vw
    have h1 : v = .int _ := h1
    have h2 : v' = .int _ := h2
    subst h1 h2
    exact .inl ⟨_, _, rfl, q _ G H .refl (.int _)⟩
  · rename_i ds'
    obtain ⟨v, rfl, a, xs, rfl, h1, r1⟩ := views1 vw
    cases q2 : intsOf ds' with
    | none => rw [q2] at e; cases e
    | some ns =>
      rw [q2] at e
      have e : (if ns = [] then none else some (PyData.int (minI ns))) = some d := e
      split at e
      · cases e
      · rename_i hn
        cases e
        obtain ⟨e1, _⟩ := intsOf_rp r1 q2
        subst e1
        refine .inr ⟨a, ns, rfl, h1, List.length_pos_iff.mpr hn, fun m hm hy => ?_⟩
        obtain ⟨a1, a2⟩ := minI_spec hn
        have : m = minI ns := Int.le_antisymm (hy _ a1) (a2 m hm)
        subst this
        exact q _ G H .refl (.int _)
  · cases e
theorem q_all : bootBuiltins "all" = some (.builtin "all") := by decide +kernel
theorem q_any : bootBuiltins "any" = some (.builtin "any") := by decide +kernel
theorem q_sum : bootBuiltins "sum" = some (.builtin "sum") := by decide +kernel
theorem q_max : bootBuiltins "max" = some (.builtin "max") := by decide +kernel
theorem q_min : bootBuiltins "min" = some (.builtin "min") := by decide +kernel
/-! ## str(..), int(a text) -/
def fStr : List PyData → Option PyData
  | [.int i] => if i.natAbs.log2 < 1920 then some (.str (toString i)) else none
  | [.str a] => some (.str a)
  | _ => none
theorem sc_str : SC K (fun xs H Q => (∃ i, xs = [V.int i] ∧ i.natAbs.log2 < 1920 ∧ Q (.str (toString i)) H) ∨ ∃ a, xs = [V.str a] ∧ Q (.str a) H) fStr := by
  intro G H vs ds d Q S vw e q
  unfold fStr at e
  split at e
  · split at e
    · rename_i hl
      cases e
      obtain ⟨v, rfl, h1⟩ := views1 vw
      have h1 : v = .int _ := h1
      subst h1
      exact .inl ⟨_, rfl, hl, q _ G H .refl (.str _)⟩
    · cases e
  · cases e
    obtain ⟨v, rfl, h1⟩ := views1 vw
    have h1 : v = .str _ := h1
    subst h1
    exact .inr ⟨_, rfl, q _ G H .refl (.str _)⟩
  · cases e
def fIntA : List PyData → Option PyData
  | [.str a] => if a.length ≤ 640 then (intText? a).map .int else none
  | ds => fInt ds
theorem sc_intA : SC K (fun xs H Q => (∃ a n, xs = [V.str a] ∧ intText? a = some n ∧ a.length ≤ 640 ∧ Q (.int n) H) ∨ ((∃ i, xs = [.int i] ∧ Q (.int i) H) ∨ ∃ k, xs = [.bl k] ∧ Q (.int (if k then 1 else 0)) H)) fIntA := by
  intro G H vs ds d Q S vw e q
  unfold fIntA at e
  split at e
  · rename_i a
    split at e
    · rename_i hl
      cases q2 : intText? a with
      | none => rw [q2] at e; cases e
      | some n =>
        rw [q2] at e; cases e
        obtain ⟨v, rfl, h1⟩ := views1 vw
        have h1 : v = .str _ := h1
        subst h1
        exact .inl ⟨_, _, rfl, q2, hl, q _ G H .refl (.int _)⟩
    · cases e
  · exact .inr (sc_int G H vs ds d Q S vw e q)
end
section
variable {X : Cx}
theorem call_maxA (hc : X.calm = true) : CallR X (.builtin "max") (fun xs H Q => (∃ i j, xs = [.int i, .int j] ∧ Q (.int (if j > i then j else i)) H) ∨ rMax X.K xs H Q) := cr_or (call_max2 hc) (cr_max hc)
theorem call_minA (hc : X.calm = true) : CallR X (.builtin "min") (fun xs H Q => (∃ i j, xs = [.int i, .int j] ∧ Q (.int (if j < i then j else i)) H) ∨ rMin X.K xs H Q) := cr_or (call_min2 hc) (cr_min hc)
theorem call_strA : CallR X (.type "str") (fun xs H Q => (∃ i, xs = [V.int i] ∧ i.natAbs.log2 < 1920 ∧ Q (.str (toString i)) H) ∨ ∃ a, xs = [V.str a] ∧ Q (.str a) H) := cr_or call_str_int SkE.call_str_str
theorem call_intA : CallR X (.type "int") (fun xs H Q => (∃ a n, xs = [V.str a] ∧ intText? a = some n ∧ a.length ≤ 640 ∧ Q (.int n) H) ∨ ((∃ i, xs = [.int i] ∧ Q (.int i) H) ∨ ∃ k, xs = [.bl k] ∧ Q (.int (if k then 1 else 0)) H)) := cr_or call_int_str call_int1
/-! ## a sign in a text; a text times a number -/
def fInS (n : Bool) : PyData → PyData → Option PyData
  | .str a, .str z => match a.cps.toList with
    | [c] => some (.bool (xor n (decide (c ∈ z.cps.toList))))
    | _ => none
  | _, _ => none
theorem sb_inS {K : Frag} : SB K (fun x y H Q => ∃ (c : Nat) (z : Str), x = .str ⟨#[c]⟩ ∧ y = .str z ∧ Q (.bl (decide (c ∈ z.cps.toList))) H) (fInS false) := by
  intro G H x y dx dy d Q S vx vy e q
  unfold fInS at e
  split at e
  · rename_i a z
    split at e
    · rename_i c hc
      cases e
      have : a = ⟨#[c]⟩ := by
        obtain ⟨⟨l⟩⟩ := a
        have hc : l = [c] := hc
        rw [hc]
      subst this
      refine ⟨c, z, vx, vy, ?_⟩
      have := q (.bl (xor false (decide (c ∈ z.cps.toList)))) G H .refl (.bl _)
      rwa [Bool.false_xor] at this
    · cases e
  · cases e
def rMulS : R2 := fun x y H Q => ∃ (a : Str) (k : Int), x = .str a ∧ y = .int k ∧ (k = 0 ∨ k = 1) ∧ Q (.str (if k = 0 then Str.empty else a)) H
theorem op_mulS : OpR X (binaryOp .Mult) rMulS := by
  intro pins s σ H x y v u Q I rx ry ⟨a, k, ex, ey, hk, q⟩
  subst ex ey
  obtain ⟨t, rfl⟩ := rx
  obtain ⟨t', rfl⟩ := ry
  rcases hk with rfl | rfl
  · exact P.mul_str_none (by decide) (by decide) ⟨.str _, H, I.tok _, ⟨_, rfl⟩, q⟩
  · refine P.mul_str (by decide) (fun _ h => by cases h) (fun _ h => by cases h) ?_
    exact ⟨.str a, H, I, ⟨t, rfl⟩, q⟩
def fMulS : PyData → PyData → Option PyData
  | .str a, .int k => if k = 0 then some (.str Str.empty) else if k = 1 then some (.str a) else none
  | _, _ => none
theorem sb_mulS {K : Frag} : SB K rMulS fMulS := by
  intro G H x y dx dy d Q S vx vy e q
  unfold fMulS at e
  split at e
  · split at e
    · rename_i hk
      cases e
      exact ⟨_, _, vx, vy, .inl hk, by rw [if_pos hk]; exact q _ G H .refl (.str _)⟩
    · split at e
      · rename_i h0 hk
        cases e
        exact ⟨_, _, vx, vy, .inr hk, by rw [if_neg h0]; exact q _ G H .refl (.str _)⟩
      · cases e
  · cases e
end
end DL
namespace DL
open PySem L2 PySem.Spec
open PyProof.Rows hiding St
/-! ## methods of texts, walks over texts -/
/-- a text's method that gives a value -/
def SMV (K : Frag) (r : V → List V → Hp → VK → Prop) (f : Str → List PyData → Option PyData) : Prop := ∀ (G H : Hp) (z : Str) (vs : List V) (ds : List PyData) (d : PyData) (Q : VK), Same G H → Views K G H vs ds → f z ds = some d →
  (∀ v G' H', Stp G H G' H' → Rp K G' v d → Q v H') → r (.str z) vs H Q
/-- .. that gives a new list -/
def SMF (K : Frag) (r : V → List V → Hp → VK → Prop) (f : Str → List PyData → Option PyData) : Prop := ∀ (G H : Hp) (z : Str) (vs : List V) (ds : List PyData) (d : PyData) (Q : VK), Same G H → Views K G H vs ds → f z ds = some d →
  (∀ p o, H p = none → Ow K G (upd H p o) p d → Q (.ref p) (upd H p o)) → r (.str z) vs H Q
def mVM (f : Str → List PyData → Option PyData) (mo : DEnv → Out EV) (mr : DEnv → Out (List EV)) : DEnv → Out EV := fun env => (mo env).bind fun x r => match dat r x with
  | some (.str z) => (mr r).bind fun xs r2 => (match dats r2 xs with
    | some ds => (match f z ds with
      | some d => .ok (.val d) r2
      | none => .bad)
    | none => .bad)
  | _ => .bad
def mVMF (f : Str → List PyData → Option PyData) (mo : DEnv → Out EV) (mr : DEnv → Out (List EV)) : DEnv → Out PyData := fun env => (mo env).bind fun x r => match dat r x with
  | some (.str z) => (mr r).bind fun xs r2 => (match dats r2 xs with
    | some ds => (match f z ds with
      | some d => .ok d r2
      | none => .bad)
    | none => .bad)
  | _ => .bad
section
variable {X : Cx} {EK : XK} {o e tg iter : Expr} {es : List Expr} {name : Str} {id : String} {apos cpos pos : Pos} {mo : DEnv → Out EV} {mr : DEnv → Out (List EV)}
theorem de_vm {r : V → List V → Hp → VK → Prop} {f : Str → List PyData → Option PyData} (s : SMV X.K r f) (slot : Slot "str" name id) (hty : typeOf (.builtin id) = pure (.type "method_descriptor")) (hm : MtR X id r) (ho : DE X EK o mo) (ha : DA X EK (e :: es) mr)
    (hbase : attributeBase o name X.env (eval o X.env) = eval o X.env := by rfl)
    (hfew : ((backTo cpos (starEach (e :: es) X.env)).all (fun x => !x.1) && (backToKw cpos (keywordEach [] X.env)).all (fun x => x.1.isSome)
      && decide ((e :: es).length + ([] : List Keyword).length + (if ([] : List Keyword).isEmpty then 0 else 1) < 30)) = true := by rfl)
    (hline : (apos.endLine == cpos.line) = true := by rfl) (hs : starEach (e :: es) X.env = (false, eval e X.env) :: starEach es X.env := by rfl) (hplain : (backTo cpos (starEach es X.env)).any (·.1) = false := by rfl) :
    DE X EK (.Call (.Attribute o name apos) (e :: es) [] cpos) (mVM f mo mr) := fun B =>
  PE.weak (pe_bm PySem.F.plainAttrs_str slot hty hm (ho B) (ha B) hbase hfew hline hs hplain) fun σ H Q ⟨env, G, I, h⟩ => ⟨env, G, I, (PD.bind h).imp fun v H1 ⟨x, env1, G1, I1, _, r1, h1⟩ => by
    split at h1
    · rename_i z q
      have vw := I1.view r1 q
      have vw : v = .str z := vw
      subst vw
      refine ⟨rfl, env1, G1, I1, (PD.bind h1).imp fun vs H2 ⟨xs, env2, G2, I2, _, r2, h2⟩ => ?_⟩
      cases q2 : dats env2 xs with
      | none => simp only [q2] at h2; exact h2.elim
      | some ds =>
        simp only [q2] at h2
        cases q3 : f z ds with
        | none => simp only [q3] at h2; exact h2.elim
        | some d =>
          simp only [q3] at h2
          exact s G2 H2 z vs ds d Q I2.gh (I2.views r2 q2) q3 fun v G' H' st rv => h2 v G' H' (INV.stp st I2).1 (INV.stp st I2).2 rv
    · exact h1.elim⟩
theorem df_vm {r : V → List V → Hp → VK → Prop} {f : Str → List PyData → Option PyData} (s : SMF X.K r f) (slot : Slot "str" name id) (hty : typeOf (.builtin id) = pure (.type "method_descriptor")) (hm : MtR X id r) (ho : DE X EK o mo) (ha : DA X EK (e :: es) mr)
    (hbase : attributeBase o name X.env (eval o X.env) = eval o X.env := by rfl)
    (hfew : ((backTo cpos (starEach (e :: es) X.env)).all (fun x => !x.1) && (backToKw cpos (keywordEach [] X.env)).all (fun x => x.1.isSome)
      && decide ((e :: es).length + ([] : List Keyword).length + (if ([] : List Keyword).isEmpty then 0 else 1) < 30)) = true := by rfl)
    (hline : (apos.endLine == cpos.line) = true := by rfl) (hs : starEach (e :: es) X.env = (false, eval e X.env) :: starEach es X.env := by rfl) (hplain : (backTo cpos (starEach es X.env)).any (·.1) = false := by rfl) :
    DF X EK (.Call (.Attribute o name apos) (e :: es) [] cpos) (mVMF f mo mr) := fun B =>
  PE.weak (pe_bm PySem.F.plainAttrs_str slot hty hm (ho B) (ha B) hbase hfew hline hs hplain) fun σ H Q ⟨env, G, I, h⟩ => ⟨env, G, I, (PD.bind h).imp fun v H1 ⟨x, env1, G1, I1, _, r1, h1⟩ => by
    split at h1
    · rename_i z q
      have vw := I1.view r1 q
      have vw : v = .str z := vw
      subst vw
      refine ⟨rfl, env1, G1, I1, (PD.bind h1).imp fun vs H2 ⟨xs, env2, G2, I2, _, r2, h2⟩ => ?_⟩
      cases q2 : dats env2 xs with
      | none => simp only [q2] at h2; exact h2.elim
      | some ds =>
        simp only [q2] at h2
        cases q3 : f z ds with
        | none => simp only [q3] at h2; exact h2.elim
        | some d =>
          simp only [q3] at h2
          exact s G2 H2 z vs ds d Q I2.gh (I2.views r2 q2) q3 fun p u n ow => h2 (.ref p) G2 _ (I2.tmp n) (Same.refl _) ⟨p, rfl, (I2.fresh n).any, ow⟩
    · exact h1.elim⟩
/-- sep.join(a list of texts) -/
def fJoin : Str → List PyData → Option PyData
  | a, [.list ds] => (strsOf ds).bind fun ys => if (ys.map (·.length)).sum + ys.length * a.length ≤ 16777216 then some (.str (Txt.join a ys)) else none
  | _, _ => none
theorem sm_join {K : Frag} : SMV K (fun x xs H Q => ∃ a p, ∃ ys : List Str, x = .str a ∧ xs = [.ref p] ∧ (SqL K H p (ys.map V.str) ∨ SqT K H p (ys.map V.str)) ∧
    (ys.map (·.length)).sum + ys.length * a.length ≤ 16777216 ∧ Q (.str (Txt.join a ys)) H) fJoin := by
  intro G H z vs ds d Q S vw e q
  unfold fJoin at e
  split at e
  · rename_i ds'
    obtain ⟨v, rfl, p, xs, rfl, h1, r1⟩ := views1 vw
    cases q2 : strsOf ds' with
    | none => rw [q2] at e; cases e
    | some ys =>
      rw [q2] at e
      have e : (if (ys.map (·.length)).sum + ys.length * z.length ≤ 16777216 then some (PyData.str (Txt.join z ys)) else none) = some d := e
      split at e
      · rename_i hc
        cases e
        have := strsOf_rp r1 q2
        subst this
        exact ⟨z, p, ys, rfl, rfl, .inl h1, hc, q _ G H .refl (.str _)⟩
      · cases e
  · cases e
/-- a.split(sep) -/
def fSplit : Str → List PyData → Option PyData
  | a, [.str b] => if (b.length == 0) = false ∧ a.length ≤ 1000000 then some (.list ((Txt.split a b).map .str)) else none
  | _, _ => none
theorem sm_split {K : Frag} : SMF K (fun x xs H Q => ∃ a b, x = .str a ∧ xs = [.str b] ∧ (b.length == 0) = false ∧ a.length + 2 ≤ sizeLine ∧ rNewStrs (Txt.split a b) H Q) fSplit := by
  intro G H z vs ds d Q S vw e q
  unfold fSplit at e
  split at e
  · rename_i b
    split at e
    · rename_i hc
      cases e
      obtain ⟨v, rfl, h1⟩ := views1 vw
      have h1 : v = .str _ := h1
      subst h1
      exact ⟨z, b, rfl, rfl, hc.1, Nat.le_trans (Nat.add_le_add_right hc.2 2) (by decide), fun p n => q p _ n ⟨_, upd_same, rpA_strs _⟩⟩
    · cases e
  · cases e
/-- the signs of a text, one after the other -/
def signsD (z : Str) : List PyData := z.cps.toList.map fun c => .str ⟨#[c]⟩
theorem itok_str {K : Frag} {B : Bs} {G0 : Hp} (z : Str) : ItOk K B (Its z) G0 (signsD z) := fun env σ G H I S i => by
  have l : (signsD z).length = z.cps.size := by simp [signsD]
  rw [l]
  refine ⟨fun h => h, fun h => h, fun x H' hl ⟨e1, c, hc, e2⟩ => ?_⟩
  subst e1 e2
  refine ⟨G, .str ⟨#[c]⟩, .refl, ?_, .str _⟩
  unfold signsD
  rw [List.getElem?_map, Array.getElem?_toList, hc]
  rfl
def mIterS (ma : DEnv → Out EV) : DEnv → Out (List PyData) := fun env => (ma env).bind fun x r => match dat r x with
  | some (.str z) => .ok (signsD z) r
  | _ => .bad
theorem di_str (h : DE X EK o mo) : DI X EK tg o (mIterS mo) := fun B =>
  PI.weak (pi_str (h B)) fun σ H Q ⟨env, G, I, h⟩ => ⟨env, G, I, (PD.bind h).imp fun v H1 ⟨x, env1, G1, I1, _, r1, h1⟩ => by
    split at h1
    · rename_i z q
      have vw := I1.view r1 q
      have vw : v = .str z := vw
      subst vw
      exact ⟨z, rfl, h1 _ G1 H1 I1 (Same.refl _) (itok_str z)⟩
    · exact h1.elim⟩
end
end DL
namespace DL
open PySem L2 PySem.Spec
open PyProof.Rows hiding St
/-! ## what is never reached -/
def mBad : DEnv → SOut := fun _ => .bad
def mBadE : DEnv → Out EV := fun _ => .bad
section
variable {X : Cx} {EK : XK} {e : Expr} {st : Stmt}
theorem ds_bad : DS X EK st mBad := fun B => ⟨fun pins s σ H D I ⟨env, G, _, h⟩ => h.elim⟩
theorem de_bad : DE X EK e mBadE := fun B => ⟨fun pins s σ H Q I ⟨env, G, _, h⟩ => h.elim⟩
end
/-! ## len of a text, too -/
def fLenA : List PyData → Option PyData
  | [.str a] => if a.length ≤ 1000000 then some (.int a.length) else none
  | ds => fLen ds
theorem sc_lenA {K : Frag} : SC K (fun xs H Q => (∃ z, xs = [V.str z] ∧ z.length ≤ sizeLine ∧ Q (V.int z.length) H) ∨ ∃ p ys, xs = [.ref p] ∧ (SqL K H p ys ∨ SqT K H p ys) ∧ Q (.int ys.length) H) fLenA := by
  intro G H vs ds d Q S vw e q
  unfold fLenA at e
  split at e
  · split at e
    · rename_i hl
      cases e
      obtain ⟨v, rfl, h1⟩ := views1 vw
      have h1 : v = .str _ := h1
      subst h1
      exact .inl ⟨_, rfl, mil_line hl, q _ G H .refl (.int _)⟩
    · cases e
  · exact .inr (sc_len G H vs ds d Q S vw e q)
theorem call_lenA {X : Cx} : CallR X (.builtin "len") (fun xs H Q => (∃ z, xs = [V.str z] ∧ z.length ≤ sizeLine ∧ Q (V.int z.length) H) ∨ ∃ p ys, xs = [.ref p] ∧ (SqL X.K H p ys ∨ SqT X.K H p ys) ∧ Q (.int ys.length) H) := cr_or call_len_str call_len_seq
end DL
namespace DL
open PySem L2
open PyProof.Rows hiding St
/-! ## data that repr can show -/
def Nice (d : PyData) : Prop := shw d = true ∧ d.leavesShort 2000 = true
structure GoodA (N D : Nat) (ds : List PyData) : Prop where
  mem : ∀ d ∈ ds, Nice d ∧ d.depth ≤ D
  bulk : PyData.bulkAll ds ≤ N
structure Good (N D : Nat) (d : PyData) : Prop where
  nice : Nice d
  bulk : d.bulk ≤ N
  depth : d.depth ≤ D
theorem niceAll : ∀ {ds : List PyData}, (∀ d ∈ ds, Nice d) → shwA ds = true ∧ PyData.leavesShortAll 2000 ds = true
  | [], _ => ⟨by simp only [shwA], by simp only [PyData.leavesShortAll]⟩
  | d :: ds, h => by
    obtain ⟨a, b⟩ := niceAll (ds := ds) fun x m => h x (List.mem_cons_of_mem _ m)
    obtain ⟨c, e⟩ := h d List.mem_cons_self
    exact ⟨by simp only [shwA, c, a, Bool.and_self], by simp only [PyData.leavesShortAll, e, b, Bool.and_self]⟩
theorem nice_of_all : ∀ {ds : List PyData}, shwA ds = true → PyData.leavesShortAll 2000 ds = true → ∀ d ∈ ds, Nice d
  | d :: ds, h1, h2, x, hx => by
    simp only [shwA, Bool.and_eq_true] at h1
    simp only [PyData.leavesShortAll, Bool.and_eq_true] at h2
    rcases List.mem_cons.mp hx with rfl | hx
    · exact ⟨h1.1, h2.1⟩
    · exact nice_of_all h1.2 h2.2 x hx
theorem depthAll_le {D : Nat} : ∀ {ds : List PyData}, PyData.depthAll ds ≤ D ↔ ∀ d ∈ ds, d.depth ≤ D
  | [] => ⟨fun _ d h => (nomatch h), fun _ => by simp only [PyData.depthAll]; omega⟩
  | d :: ds => by
    have ih := depthAll_le (D := D) (ds := ds)
    simp only [PyData.depthAll, List.mem_cons, forall_eq_or_imp, ← ih]
    omega
theorem bulkAll_append : ∀ xs ys : List PyData, PyData.bulkAll (xs ++ ys) = PyData.bulkAll xs + PyData.bulkAll ys
  | [], ys => by simp only [List.nil_append, PyData.bulkAll]; omega
  | x :: xs, ys => by
    have := bulkAll_append xs ys
    simp only [List.cons_append, PyData.bulkAll]; omega
theorem bulkAll_mem {d : PyData} : ∀ {ds : List PyData}, d ∈ ds → d.bulk + 1 ≤ PyData.bulkAll ds
  | x :: ds, h => by
    simp only [PyData.bulkAll]
    rcases List.mem_cons.mp h with rfl | h
    · omega
    · have := bulkAll_mem h; omega
theorem len_bulk : ∀ ds : List PyData, ds.length ≤ PyData.bulkAll ds
  | [] => by simp only [List.length_nil]; omega
  | d :: ds => by
    have := len_bulk ds
    simp only [List.length_cons, PyData.bulkAll]; omega
theorem bulk_take_drop (ds : List PyData) (k : Nat) : PyData.bulkAll (ds.take k) + PyData.bulkAll (ds.drop k) = PyData.bulkAll ds := by rw [← bulkAll_append, List.take_append_drop]
theorem bulk_rev : ∀ ds : List PyData, PyData.bulkAll ds.reverse = PyData.bulkAll ds
  | [] => rfl
  | d :: ds => by rw [List.reverse_cons, bulkAll_append, bulk_rev ds]; simp only [PyData.bulkAll]; omega
section
variable {N D M : Nat} {d : PyData} {ds es : List PyData}
theorem Good.tuple (h : GoodA N D ds) : Good N (D + 1) (.tuple ds) := by
  obtain ⟨a, b⟩ := niceAll fun x m => (h.mem x m).1
  refine ⟨⟨by simpa only [shw] using a, by simpa only [PyData.leavesShort] using b⟩, by simpa only [PyData.bulk] using h.bulk, ?_⟩
  have := depthAll_le.mpr fun x m => (h.mem x m).2
  simp only [PyData.depth]; omega
theorem Good.list (h : GoodA N D ds) : Good N (D + 1) (.list ds) := by
  obtain ⟨a, b⟩ := niceAll fun x m => (h.mem x m).1
  refine ⟨⟨by simpa only [shw] using a, by simpa only [PyData.leavesShort] using b⟩, by simpa only [PyData.bulk] using h.bulk, ?_⟩
  have := depthAll_le.mpr fun x m => (h.mem x m).2
  simp only [PyData.depth]; omega
theorem Good.parts (h : Good N D (.tuple ds)) : ∃ D', D = D' + 1 ∧ GoodA N D' ds := by
  obtain ⟨⟨a, b⟩, c, e⟩ := h
  simp only [PyData.depth] at e
  refine ⟨D - 1, by omega, fun x m => ⟨nice_of_all (by simpa only [shw] using a) (by simpa only [PyData.leavesShort] using b) x m, ?_⟩, by simpa only [PyData.bulk] using c⟩
  exact depthAll_le.mp (by omega) x m
theorem Good.mono {N' D' : Nat} (h : Good N D d) (hn : N ≤ N') (hd : D ≤ D') : Good N' D' d := ⟨h.nice, Nat.le_trans h.bulk hn, Nat.le_trans h.depth hd⟩
theorem GoodA.mono {N' D' : Nat} (h : GoodA N D ds) (hn : N ≤ N') (hd : D ≤ D') : GoodA N' D' ds := ⟨fun x m => ⟨(h.mem x m).1, Nat.le_trans (h.mem x m).2 hd⟩, Nat.le_trans h.bulk hn⟩
theorem GoodA.nil : GoodA 0 D [] := ⟨fun _ m => (nomatch m), by simp only [PyData.bulkAll]; omega⟩
theorem GoodA.cons (h : Good N D d) (t : GoodA M D ds) : GoodA (N + 1 + M) D (d :: ds) := by
  refine ⟨fun x m => ?_, ?_⟩
  · rcases List.mem_cons.mp m with rfl | m
    · exact ⟨h.nice, h.depth⟩
    · exact t.mem x m
  · have := h.bulk; have := t.bulk
    simp only [PyData.bulkAll]; omega
theorem GoodA.append (h : GoodA N D ds) (t : GoodA M D es) : GoodA (N + M) D (ds ++ es) := by
  refine ⟨fun x m => ?_, ?_⟩
  · rcases List.mem_append.mp m with m | m
    · exact h.mem x m
    · exact t.mem x m
  · have := h.bulk; have := t.bulk
    rw [bulkAll_append]; omega
theorem GoodA.take (h : GoodA N D ds) (k : Nat) : GoodA N D (ds.take k) := ⟨fun x m => h.mem x (List.mem_of_mem_take m), by have := bulk_take_drop ds k; have := h.bulk; omega⟩
theorem GoodA.drop (h : GoodA N D ds) (k : Nat) : GoodA N D (ds.drop k) := ⟨fun x m => h.mem x (List.mem_of_mem_drop m), by have := bulk_take_drop ds k; have := h.bulk; omega⟩
theorem GoodA.rev (h : GoodA N D ds) : GoodA N D ds.reverse := ⟨fun x m => h.mem x (List.mem_reverse.mp m), by rw [bulk_rev]; exact h.bulk⟩
theorem GoodA.get (h : GoodA N D ds) (m : d ∈ ds) : Good (N - 1) D d := ⟨(h.mem d m).1, by have := bulkAll_mem m; have := h.bulk; omega, (h.mem d m).2⟩
theorem good_non : Good 0 0 .none := ⟨⟨by simp only [shw], by simp only [PyData.leavesShort]⟩, by simp only [PyData.bulk]; omega, by simp only [PyData.depth]; omega⟩
theorem good_bool {b : Bool} : Good 0 0 (.bool b) := ⟨⟨by simp only [shw], by simp only [PyData.leavesShort]⟩, by simp only [PyData.bulk]; omega, by simp only [PyData.depth]; omega⟩
theorem good_int {i : Int} (h : i.natAbs.log2 < 1920) : Good 0 0 (.int i) := by
  refine ⟨⟨by simp only [shw]; exact decide_eq_true (by omega), ?_⟩, by simp only [PyData.bulk]; omega, by simp only [PyData.depth]; omega⟩
  simp only [PyData.leavesShort, PyData.shown]
  refine decide_eq_true ?_
  have e := int_text_length_le (k := 1920) (by decide) h
  rw [PySem.ofString_length]; omega
theorem good_int10 {i : Int} (h : i.natAbs < 10 ^ 1990) : Good 0 0 (.int i) := by
  have hl : i.natAbs.log2 < 12900 := by
    by_cases h0 : i.natAbs = 0
    · rw [h0]; decide
    · refine (Nat.log2_lt h0).mpr (Nat.lt_of_lt_of_le h ?_)
      decide +kernel
  refine ⟨⟨by simp only [shw]; exact decide_eq_true hl, ?_⟩, by simp only [PyData.bulk]; omega, by simp only [PyData.depth]; omega⟩
  simp only [PyData.leavesShort, PyData.shown]
  refine decide_eq_true ?_
  have e := int_text_length_le10 (k := 1990) (by decide) h
  rw [PySem.ofString_length]; omega
theorem repr_good (h : Good 8000 64 d) : fRepr [d] = some (.str d.shown) := by
  obtain ⟨⟨a, b⟩, c, e⟩ := h
  have l := PyData.shown_le_bulk 2000 (by decide) d b
  show (if _ then _ else _) = _
  rw [if_pos ⟨a, by omega, e⟩]
end
/-! ## loops -/
theorem forM_ok {g : GM} {body : DEnv → SOut} {ds : List PyData} (Iv : Nat → DEnv → Prop) (step : ∀ i d env, ds[i]? = some d → Iv i env → ∃ e1, g d env = some e1 ∧ ∃ e2, (body e1 = .nx e2 ∨ body e1 = .ct e2) ∧ Iv (i + 1) e2) {env : DEnv} (h0 : Iv 0 env) :
    ∃ e, forM g body ds env = .nx e ∧ Iv ds.length e := by
  have go : ∀ (l : List PyData) (i : Nat) (env : DEnv), ds.drop i = l → i + l.length = ds.length → Iv i env → ∃ e, forM g body l env = .nx e ∧ Iv ds.length e := by
    intro l
    induction l with
    | nil =>
      intro i env _ hl h
      have : i = ds.length := by simpa using hl
      exact ⟨env, rfl, this ▸ h⟩
    | cons d l ih =>
      intro i env hd hl h
      have hi : ds[i]? = some d := by
        have := congrArg (fun x => x[0]?) hd
        simpa using this
      obtain ⟨e1, h1, e2, h2, h3⟩ := step i d env hi h
      obtain ⟨e, h4, h5⟩ := ih (i + 1) e2 (by rw [← List.drop_drop, hd]; rfl) (by rw [List.length_cons] at hl; omega) h3
      refine ⟨e, ?_, h5⟩
      unfold forM
      simp only [h1]
      rcases h2 with h2 | h2 <;> (simp only [h2]; exact h4)
  exact go ds 0 env rfl (by omega) h0
theorem lcM_ok {vs : List Nat} {g : GM} {mt : DEnv → Out Bool} {me : DEnv → Out EV} {ds : List PyData} (Iv : Nat → DEnv → List PyData → Prop)
    (step : ∀ i d env acc, ds[i]? = some d → Iv i env acc → ∃ r1, g d env = some r1 ∧ ∃ r2, mt r1 = .ok true r2 ∧ ∃ x r3, me r2 = .ok x r3 ∧ ∃ y, cln r3 x = some y ∧ okAll r3 vs = true ∧ Iv (i + 1) (wipeE r3 vs) (acc ++ [y]))
    {env : DEnv} (h0 : Iv 0 env []) : ∃ xs r, lcM vs g mt me ds env [] = some (xs, r) ∧ Iv ds.length r xs := by
  have go : ∀ (l : List PyData) (i : Nat) (env : DEnv) (acc : List PyData), ds.drop i = l → i + l.length = ds.length → Iv i env acc → ∃ xs r, lcM vs g mt me l env acc = some (xs, r) ∧ Iv ds.length r xs := by
    intro l
    induction l with
    | nil =>
      intro i env acc _ hl h
      have : i = ds.length := by simpa using hl
      exact ⟨acc, env, rfl, this ▸ h⟩
    | cons d l ih =>
      intro i env acc hd hl h
      have hi : ds[i]? = some d := by
        have := congrArg (fun x => x[0]?) hd
        simpa using this
      obtain ⟨r1, h1, r2, h2, x, r3, h3, y, h4, h5, h6⟩ := step i d env acc hi h
      obtain ⟨xs, r, h7, h8⟩ := ih (i + 1) _ _ (by rw [← List.drop_drop, hd]; rfl) (by rw [List.length_cons] at hl; omega) h6
      refine ⟨xs, r, ?_, h8⟩
      unfold lcM
      simp only [h1, h2, h3, h4, h5, if_true]
      exact h7
  exact go ds 0 env [] rfl (by omega) h0
/-! ## == of plain data -/
theorem eqA_int (i j : Int) : fEqA (.int i) (.int j) = some (.bool (i == j)) := rfl
theorem neA_int (i j : Int) : fNeA (.int i) (.int j) = some (.bool (!(i == j))) := rfl
theorem eqA_bool (i j : Bool) : fEqA (.bool i) (.bool j) = some (.bool (i == j)) := rfl
theorem neA_bool (i j : Bool) : fNeA (.bool i) (.bool j) = some (.bool (!(i == j))) := rfl
theorem eqA_str (i j : Str) : fEqA (.str i) (.str j) = some (.bool (decide (i = j))) := rfl
theorem neA_str (i j : Str) : fNeA (.str i) (.str j) = some (.bool (!decide (i = j))) := rfl
theorem eqA_tupE (ds : List PyData) : fEqA (.tuple ds) (.tuple []) = some (.bool ds.isEmpty) := by cases ds <;> rfl
theorem neA_lstE (ds : List PyData) : fNeA (.list ds) (.list []) = some (.bool (!ds.isEmpty)) := by cases ds <;> rfl
def intsD' (zs : List Int) : PyData := .list (zs.map .int)
theorem lay_ints : ∀ zs : List Int, PyData.canLayAll0 (zs.map PyData.int) = true
  | [] => by simp only [List.map_nil, PyData.canLayAll0]
  | z :: zs => by simp only [List.map_cons, PyData.canLayAll0, PyData.canLay0, lay_ints zs, Bool.and_self]
theorem depth_ints : ∀ zs : List Int, PyData.depthAll (zs.map PyData.int) = 0
  | [] => by simp only [List.map_nil, PyData.depthAll]
  | z :: zs => by simp only [List.map_cons, PyData.depthAll, PyData.depth, depth_ints zs]; omega
theorem shaped_ints (zs : List Int) : SeqAt.shaped (.list (zs.map .int)) = true := by
  show (PyData.canLay0 _ && decide (PyData.depth _ ≤ 64)) = true
  simp only [PyData.canLay0, PyData.depth, lay_ints, depth_ints]
  decide
theorem eqA_ints (zs ws : List Int) : ∃ b : Bool, fEqA (.list (zs.map .int)) (.list (ws.map .int)) = some (.bool b) := by
  cases ws with
  | nil =>
    cases zs with
    | nil => exact ⟨_, rfl⟩
    | cons z zs => exact ⟨_, rfl⟩
  | cons w ws =>
    refine ⟨PyData.eqv (.list (zs.map .int)) (.list ((w :: ws).map .int)), ?_⟩
    show (if (SeqAt.shaped (.list (zs.map .int)) && SeqAt.shaped (.list ((w :: ws).map .int))) = true then _ else _) = _
    rw [shaped_ints, shaped_ints]
    rfl
theorem intsOf_ints : ∀ zs : List Int, intsOf (zs.map PyData.int) = some zs
  | [] => rfl
  | z :: zs => by show (intsOf (zs.map PyData.int)).map _ = _; rw [intsOf_ints zs]; rfl
theorem sorted_ints (zs : List Int) : fSorted [.list (zs.map .int)] = some (.list ((sortI zs).map .int)) := by
  show (intsOf _).map _ = _
  rw [intsOf_ints]; rfl
theorem atI_0 {a : PyData} {l : List PyData} : atI (a :: l) 0 = some a := by
  unfold atI ixN
  rw [if_pos (Int.le_refl 0), if_pos (by rw [List.length_cons]; omega)]
  rfl
theorem atI_1 {a b : PyData} {l : List PyData} : atI (a :: b :: l) 1 = some b := by
  unfold atI ixN
  rw [if_pos (by decide), if_pos (by rw [List.length_cons, List.length_cons]; omega)]
  rfl
theorem atI_2 {a b c : PyData} {l : List PyData} : atI (a :: b :: c :: l) 2 = some c := by
  unfold atI ixN
  rw [if_pos (by decide), if_pos (by rw [List.length_cons, List.length_cons, List.length_cons]; omega)]
  rfl
theorem fIx_t0 {a : PyData} {l : List PyData} : fIx (.tuple (a :: l)) (.int 0) = some a := atI_0
theorem fIx_t1 {a b : PyData} {l : List PyData} : fIx (.tuple (a :: b :: l)) (.int 1) = some b := atI_1
theorem fIx_l0 {a : PyData} {l : List PyData} : fIx (.list (a :: l)) (.int 0) = some a := atI_0
theorem fIx_l1 {a b : PyData} {l : List PyData} : fIx (.list (a :: b :: l)) (.int 1) = some b := atI_1
theorem fIx_l2 {a b c : PyData} {l : List PyData} : fIx (.list (a :: b :: c :: l)) (.int 2) = some c := atI_2
theorem addI_int (i j : Int) : fAdd (.int i) (.int j) = some (.int (i + j)) := rfl
end DL
namespace DL
open PySem L2
open PyProof.Rows hiding St
/-! ## reckoning with mirrors -/
theorem bind_ok {α β : Type} {a : α} {r : DEnv} {f : α → DEnv → Out β} : (Out.ok a r).bind f = f a r := rfl
theorem bind_bad {α β : Type} {f : α → DEnv → Out β} : (Out.bad : Out α).bind f = .bad := rfl
theorem bindS_ok {α : Type} {a : α} {r : DEnv} {f : α → DEnv → SOut} : (Out.ok a r).bindS f = f a r := rfl
theorem bindS_bad {α : Type} {f : α → DEnv → SOut} : (Out.bad : Out α).bindS f = .bad := rfl
theorem then_nx {r : DEnv} {f : DEnv → SOut} : (SOut.nx r).andThen f = f r := rfl
theorem then_rt {d : PyData} {b : Bool} {r : DEnv} {f : DEnv → SOut} : (SOut.rt d b r).andThen f = .rt d b r := rfl
theorem then_bad {f : DEnv → SOut} : SOut.bad.andThen f = .bad := rfl
theorem if_S {c : Prop} [Decidable c] {o o' : SOut} {f : DEnv → SOut} : (if c then o else o').andThen f = if c then o.andThen f else o'.andThen f := by split <;> rfl
theorem if_B {α β : Type} {c : Prop} [Decidable c] {o o' : Out α} {f : α → DEnv → Out β} : (if c then o else o').bind f = if c then o.bind f else o'.bind f := by split <;> rfl
theorem if_BS {α : Type} {c : Prop} [Decidable c] {o o' : Out α} {f : α → DEnv → SOut} : (if c then o else o').bindS f = if c then o.bindS f else o'.bindS f := by split <;> rfl
/-! ### whole numbers -/
def IntE (env : DEnv) (m : DEnv → Out EV) (i : Int) : Prop := m env = .ok (.val (.int i)) env
section
variable {env : DEnv} {a b : DEnv → Out EV} {i j : Int} {k : Nat}
theorem ie_c : IntE env (mC (.int i)) i := rfl
theorem ie_name (h : env[k]? = some (.cl (.int i))) : IntE env (mName k) i := by unfold IntE mName; rw [h]
theorem ie_bin {f : PyData → PyData → Option PyData} {n : Int} (h : IntE env a i) (h' : IntE env b j) (e : f (.int i) (.int j) = some (.int n)) : IntE env (mBin f a b) n := by
  unfold IntE at *
  unfold mBin fin1
  rw [h]
  show Out.bind (b env) _ = _
  rw [h']
  show (match f (.int i) (.int j) with | some d => Out.ok (EV.val d) env | none => Out.bad) = _
  rw [e]
theorem ie_add (h : IntE env a i) (h' : IntE env b j) : IntE env (mBin fAdd a b) (i + j) := ie_bin h h' rfl
theorem ie_sub (h : IntE env a i) (h' : IntE env b j) : IntE env (mBin fSub a b) (i - j) := ie_bin h h' rfl
theorem ie_mul (h : IntE env a i) (h' : IntE env b j) (c : (-(2 ^ 64) < i ∧ i < 2 ^ 64) ∨ (-(2 ^ 64) < j ∧ j < 2 ^ 64)) : IntE env (mBin fMul a b) (i * j) := ie_bin h h' (if_pos (by simpa using c))
theorem ie_mod (h : IntE env a i) (h' : IntE env b j) (c : j ≠ 0) : IntE env (mBin fMod a b) (i.fmod j) := ie_bin h h' (if_pos (by simpa using c))
theorem ie_div (h : IntE env a i) (h' : IntE env b j) (c : j ≠ 0) (c' : j.natAbs < 1073741824) : IntE env (mBin fDiv a b) (i.fdiv j) := ie_bin h h' (if_pos (by simpa using ⟨c, c'⟩))
theorem ie_pow (h : IntE env a i) (h' : IntE env b j) (c : 0 ≤ j) (c1 : j ≤ 1000000) (c2 : i.natAbs < 2 ^ 64) : IntE env (mBin fPow a b) (i ^ j.toNat) := ie_bin h h' (if_pos (by simpa using ⟨⟨c, c1⟩, c2⟩))
theorem ie_int (h : IntE env a i) : IntE env (mCb fInt (mCons a mNil)) i := by
  unfold IntE at *
  unfold mCb mCons
  rw [h]
  rfl
theorem ie_set (h : IntE env a i) (c : asgOk env k = true) : mSet k a env = .nx (env.set k (.cl (.int i))) := by
  unfold IntE at h
  unfold mSet
  rw [h]
  show (if asgOk env k = true then _ else _) = _
  rw [if_pos c]
theorem ie_ret (h : IntE env a i) : mRet a env = .rt (.int i) false env := by
  unfold IntE at h
  unfold mRet
  rw [h]
  rfl
theorem seq_nx {m m' : DEnv → SOut} {r : DEnv} (h : m env = .nx r) : mSeq m m' env = m' r := by unfold mSeq; rw [h]; rfl
theorem seq_rt {m m' : DEnv → SOut} {d : PyData} {f : Bool} {r : DEnv} (h : m env = .rt d f r) : mSeq m m' env = .rt d f r := by unfold mSeq; rw [h]; rfl
/-- a test without a change -/
def TstE (env : DEnv) (m : DEnv → Out Bool) (b : Bool) : Prop := m env = .ok b env
theorem te_lt (h : IntE env a i) (h' : IntE env b j) : TstE env (mTest (mBin fLt a b)) (decide (i < j)) := by
  unfold IntE at *; unfold TstE mTest mBin fin1; rw [h]; show Out.bind (Out.bind (b env) _) _ = _; rw [h']; rfl
theorem te_ge (h : IntE env a i) (h' : IntE env b j) : TstE env (mTest (mBin fGe a b)) (decide (j ≤ i)) := by
  unfold IntE at *; unfold TstE mTest mBin fin1; rw [h]; show Out.bind (Out.bind (b env) _) _ = _; rw [h']; rfl
theorem te_gt (h : IntE env a i) (h' : IntE env b j) : TstE env (mTest (mBin fGt a b)) (decide (j < i)) := by
  unfold IntE at *; unfold TstE mTest mBin fin1; rw [h]; show Out.bind (Out.bind (b env) _) _ = _; rw [h']; rfl
theorem if_t {t : DEnv → Out Bool} {m m' : DEnv → SOut} (h : TstE env t true) : mIf t m m' env = m env := by unfold TstE at h; unfold mIf; rw [h]; rfl
theorem if_f {t : DEnv → Out Bool} {m m' : DEnv → SOut} (h : TstE env t false) : mIf t m m' env = m' env := by unfold TstE at h; unfold mIf; rw [h]; rfl
/-- an item of a list of whole numbers -/
theorem ie_item {p : Sl} {zs : List Int} (h : env[k]? = some p) (hp : p = .cl (.list (zs.map .int))) (hj : IntE env b j) (h0 : 0 ≤ j) (h1 : j < zs.length) : ∃ z ∈ zs, IntE env (mBin fIx (mName k) b) z := by
  subst hp
  have hl : j.toNat < zs.length := by omega
  refine ⟨zs[j.toNat], List.getElem_mem hl, ?_⟩
  unfold IntE at *
  unfold mBin mName
  rw [h]
  show Out.bind (b env) _ = _
  rw [hj]
  show (match fIx (.list (zs.map .int)) (.int j) with | some d => Out.ok (EV.val d) env | none => Out.bad) = _
  have e : fIx (.list (zs.map .int)) (.int j) = some (.int zs[j.toNat]) := by
    show atI (zs.map PyData.int) j = _
    unfold atI
    rw [List.length_map, show ixN zs.length j = some j.toNat from by unfold ixN; rw [if_pos h0, if_pos h1]]
    show (zs.map PyData.int)[j.toNat]? = _
    rw [List.getElem?_map, List.getElem?_eq_getElem hl]
    rfl
  rw [e]
end
def goodB (N D : Nat) (d : PyData) : Bool := shw d && d.leavesShort 2000 && decide (d.bulk ≤ N) && decide (d.depth ≤ D)
theorem good_of {N D : Nat} {d : PyData} (h : goodB N D d = true) : Good N D d := by
  unfold goodB at h
  simp only [Bool.and_eq_true, decide_eq_true_eq] at h
  exact ⟨⟨h.1.1.1, h.1.1.2⟩, h.1.2, h.2⟩
theorem mFn_rt {np n : Nat} {m : DEnv → SOut} {as : List Sl} {d : PyData} {fr : Bool} {r : DEnv} (hl : as.length = np) (h : m (entry as n) = .rt d fr r) : mFn np n m as = .ok d fr (outs as r) := by
  unfold mFn mDef
  rw [if_pos hl, h]
theorem cut_to {ds : List PyData} (k : Nat) : cutD ds none (some (k : Int)) = ds.take k := by
  unfold cutD
  rw [HT.sIx_none, HT.sIx_nat, List.drop_zero, Nat.sub_zero]
  by_cases h : k ≤ ds.length
  · rw [Nat.min_eq_left h]
  · rw [Nat.min_eq_right (by omega), List.take_length, List.take_of_length_le (by omega)]
theorem cut_from {ds : List PyData} (k : Nat) : cutD ds (some (k : Int)) none = ds.drop k := by
  unfold cutD
  rw [HT.sIx_none, HT.sIx_nat]
  by_cases h : k ≤ ds.length
  · rw [Nat.min_eq_left h]
    exact List.take_of_length_le (by rw [List.length_drop]; omega)
  · rw [Nat.min_eq_right (by omega), List.drop_length, List.take_nil, List.drop_of_length_le (by omega)]
theorem cut_from1 {ds : List PyData} (k : Nat) : cutD ds (some ((k : Int) + 1)) none = ds.drop (k + 1) := by
  have := cut_from (ds := ds) (k + 1)
  rwa [Int.natCast_add] at this
theorem cut_to1 {ds : List PyData} : cutD ds none (some 1) = ds.take 1 := cut_to 1
theorem fIx_tup {ds : List PyData} {k : Nat} (h : k < ds.length) : fIx (.tuple ds) (.int (k : Int)) = some ds[k] := by
  show atI ds k = _
  unfold atI ixN
  rw [if_pos (by omega), if_pos (by omega)]
  show ds[(k : Int).toNat]? = _
  rw [Int.toNat_natCast]
  exact List.getElem?_eq_getElem h
theorem fAdd_tup {xs ys : List PyData} (h : xs.length + ys.length ≤ 1000000) : fAdd (.tuple xs) (.tuple ys) = some (.tuple (xs ++ ys)) := by
  show (if _ then _ else _) = _
  rw [if_pos h]
theorem bulk_split {ds : List PyData} {k : Nat} (h : k < ds.length) : PyData.bulkAll (ds.take k) + (ds[k].bulk + 1) + PyData.bulkAll (ds.drop (k + 1)) = PyData.bulkAll ds := by
  have e := bulk_take_drop ds k
  rw [List.drop_eq_getElem_cons h] at e
  simp only [PyData.bulkAll] at e
  omega
theorem GoodA.cons' {N D M : Nat} {d : PyData} {ds : List PyData} (t : GoodA M D ds) (h : Good N D d) : GoodA (N + 1 + M) D (d :: ds) := GoodA.cons h t
theorem goodA_exact {N D : Nat} {ds : List PyData} (h : GoodA N D ds) : GoodA (PyData.bulkAll ds) D ds := ⟨h.mem, Nat.le_refl _⟩
theorem whileM_ok {t : DEnv → Out Bool} {m : DEnv → SOut} (Iv Post : DEnv → Prop) (μ : DEnv → Nat)
    (step : ∀ env, Iv env → (t env = .ok false env ∧ Post env) ∨ (t env = .ok true env ∧ ∃ e2, m env = .nx e2 ∧ Iv e2 ∧ μ e2 < μ env)) :
    ∀ (n : Nat) (env : DEnv), Iv env → μ env < n → ∃ e, whileM t m n env = .nx e ∧ Post e
  | 0, env, _, h => absurd h (Nat.not_lt_zero _)
  | n + 1, env, h, hn => by
    rcases step env h with ⟨e, p⟩ | ⟨e, e2, em, h2, hm⟩
    · refine ⟨env, ?_, p⟩
      unfold whileM
      rw [e]
      rfl
    · obtain ⟨r, h3, p⟩ := whileM_ok Iv Post μ step n e2 h2 (by omega)
      refine ⟨r, ?_, p⟩
      unfold whileM
      rw [e]
      simp only [bindS_ok, if_true, em]
      exact h3
theorem app_ok (F : List PyData) (x : PyData) (h : F.length < 1000000) : fAppend F [x] = some (F ++ [x], .none) := by
  show (if _ then _ else _) = _
  rw [if_pos h]
def asg (s : Sl) : Prop := s = .un ∨ (∃ d, s = .cl d) ∨ ∃ d, s = .ow d
/-- a match's parts, looked over by sides_of -/
theorem mSet_ok {i : Nat} {m : DEnv → Out EV} {env r : DEnv} {d : PyData} (h : m env = .ok (.val d) r) (ha : asgOk r i = true) : mSet i m env = .nx (r.set i (.cl d)) := by
  unfold mSet
  rw [h]
  show (if asgOk r i = true then _ else _) = _
  rw [if_pos ha]
theorem gN_ok {i : Nat} {env : DEnv} {d : PyData} (ha : asgOk env i = true) : gN i d env = some (env.set i (.cl d)) := if_pos ha
theorem asgOk_at {env : DEnv} {i : Nat} {s : Sl} (h : env[i]? = some s) (hs : asg s) : asgOk env i = true := by
  unfold asgOk
  rw [h]
  rcases hs with rfl | ⟨_, rfl⟩ | ⟨_, rfl⟩ <;> rfl
theorem asg_cl {d : PyData} : asg (.cl d) := .inr (.inl ⟨_, rfl⟩)
theorem asg_ow {d : PyData} : asg (.ow d) := .inr (.inr ⟨_, rfl⟩)
theorem asg_un : asg .un := .inl rfl
def Pl (N D : Nat) (d : PyData) : Prop := d.bulk ≤ N ∧ d.depth ≤ D ∧ d.hasDict = false
theorem pl_all {N D : Nat} : ∀ {ds : List PyData}, (∀ x ∈ ds, Pl N D x) → PyData.bulkAll ds ≤ ds.length * (N + 1) ∧ PyData.depthAll ds ≤ D ∧ PyData.hasDictAll ds = false
  | [], _ => ⟨by simp only [PyData.bulkAll, List.length_nil]; omega, by simp only [PyData.depthAll]; omega, by simp only [PyData.hasDictAll]⟩
  | d :: ds, h => by
    obtain ⟨a, b, c⟩ := pl_all (ds := ds) fun x m => h x (List.mem_cons_of_mem _ m)
    obtain ⟨p, q, r⟩ := h d List.mem_cons_self
    refine ⟨?_, by simp only [PyData.depthAll]; omega, by simp only [PyData.hasDictAll, r, c, Bool.or_self]⟩
    simp only [PyData.bulkAll, List.length_cons, Nat.succ_mul]
    omega
theorem pl_list {N D M : Nat} {ds : List PyData} (h : ∀ x ∈ ds, Pl N D x) (hM : ds.length * (N + 1) ≤ M) : Pl M (D + 1) (.list ds) := by
  obtain ⟨a, b, c⟩ := pl_all h
  exact ⟨by simp only [PyData.bulk]; omega, by simp only [PyData.depth]; omega, by simp only [PyData.hasDict, c]⟩
theorem pl_tup {N D M : Nat} {ds : List PyData} (h : ∀ x ∈ ds, Pl N D x) (hM : ds.length * (N + 1) ≤ M) : Pl M (D + 1) (.tuple ds) := by
  obtain ⟨a, b, c⟩ := pl_all h
  exact ⟨by simp only [PyData.bulk]; omega, by simp only [PyData.depth]; omega, by simp only [PyData.hasDict, c]⟩
theorem pl_int {i : Int} : Pl 0 0 (.int i) := ⟨by simp only [PyData.bulk]; omega, by simp only [PyData.depth]; omega, by simp only [PyData.hasDict]⟩
theorem forM_ok' {g : GM} {body : DEnv → SOut} {ds : List PyData} (Iv : Nat → DEnv → Prop) (step : ∀ i d env, ds[i]? = some d → Iv i env → ∃ e1, g d env = some e1 ∧ ∃ e2, body e1 = .nx e2 ∧ Iv (i + 1) e2) {env : DEnv} (h0 : Iv 0 env) :
    ∃ e, forM g body ds env = .nx e ∧ Iv ds.length e := forM_ok Iv (fun i d env hd h => by obtain ⟨e1, a, e2, b, c⟩ := step i d env hd h; exact ⟨e1, a, e2, .inl b, c⟩) h0
theorem sq {m m' : DEnv → SOut} {env r : DEnv} {Φ : SOut → Prop} (h : m env = .nx r) (k : Φ (m' r)) : Φ (mSeq m m' env) := by unfold mSeq; rw [h]; exact k
theorem fIx_list {xs : List PyData} {v : Int} (h0 : 0 ≤ v) (h1 : v < xs.length) : ∃ d ∈ xs, fIx (.list xs) (.int v) = some d := by
  have hl : v.toNat < xs.length := by omega
  refine ⟨xs[v.toNat], List.getElem_mem hl, ?_⟩
  show atI xs v = _
  unfold atI
  rw [show ixN xs.length v = some v.toNat from by unfold ixN; rw [if_pos h0, if_pos h1]]
  exact List.getElem?_eq_getElem hl
end DL
namespace DL
open PySem L2 PySem.Spec
open PyProof.Rows hiding St
def mb_is_integer : DEnv → SOut :=
    (mRet (mAndV (mIs .int (mName 0)) (mAndV (mNotV (mIs .bool (mName 0))) (mChain fLe fLe (mName 1) (mName 0) (mName 2)))))
def m_is_integer : FnM := mFn 3 3 mb_is_integer
def mb_note_matches (self : FnM) : DEnv → SOut :=
    (mSeq (mIf (mNot (mTest (mIs .tuple (mName 0))))
    (mRet (mTup (mCons (mC (.str "side")) (mCons (mName 0) mNil))))
    mNext)
    (mSeq (mSet 2 (mCall self [false, true] (mCons (mBin fIx (mName 0) (mC (.int 0))) (mCons (mName 1) mNil))))
    (mSeq (mSet 3 (mCall self [false, true] (mCons (mBin fIx (mName 0) (mC (.int 1))) (mCons (mName 1) mNil))))
    (mSeq (mExpr (mMethG 1 fAppend (mCons (mTup (mCons (mName 2) (mCons (mName 3) mNil))) mNil)))
    (mRet (mTup (mCons (mC (.str "match")) (mCons (mBin fSub (mCb fLen (mCons (mName 1) mNil)) (mC (.int 1))) mNil))))))))
def m_note_matches : Nat → FnM
  | 0 => fun _ => .bad
  | n + 1 => mFn 2 4 (mb_note_matches (m_note_matches n))
def mb_matches : DEnv → SOut :=
    (mSeq (mSetF 1 (mLstF mNil))
    (mSeq (mExpr (mCall (m_note_matches 30) [false, true] (mCons (mName 0) (mCons (mName 1) mNil))))
    (mRetO 1)))
def m_matches : FnM := mFn 1 2 mb_matches
def mb_sides_of : DEnv → SOut :=
    (mSeq (mSetF 1 (mLstF mNil))
    (mSeq (mFor (mIterL (mCall m_matches [false] (mCons (mName 0) mNil))) (gN 2)
    (mSeq (mSetF 3 (mLstF mNil))
    (mSeq (mFor (mIterL (mName 2)) (gT 2 (gCn (gN 4) (gCn (gN 5) gNl)))
    (mExpr (mMethG 3 fExtend (mCons (mIfE (mTest (mBin fEqA (mName 4) (mC (.str "side")))) (mLst (mCons (mName 5) mNil)) (mBin fIx (mName 1) (mName 5))) mNil))))
    (mExpr (mMethG 1 fAppend (mCons (mCb fTuple (mCons (mFr (mCbF fSorted (mCons (mName 3) mNil))) mNil)) mNil))))))
    (mRetO 1)))
def m_sides_of : FnM := mFn 1 6 mb_sides_of
def mb_is_sheet : DEnv → SOut :=
    (mSeq (mSet 2 (mCall m_sides_of [false] (mCons (mName 0) mNil)))
    (mSeq (mIf (mOr (mNot (mTest (mIs .tuple (mName 1)))) (mTest (mBin fNeA (mCb fLen (mCons (mName 1) mNil)) (mCb fLen (mCons (mName 2) mNil)))))
    (mRet (mC (.bool false)))
    mNext)
    (mRet (mCb fAll (mCons (mFr (mLcF [3, 4] (mZipG true (mCons (mName 1) (mCons (mName 2) mNil))) (gT 2 (gCn (gN 3) (gCn (gN 4) gNl))) mYes (mAndV (mCall m_is_integer [false, false, false] (mCons (mName 3) (mCons (mC (.int 0)) (mCons (mC (.int 99)) mNil)))) (mBin (fIn false) (mName 3) (mName 4))))) mNil)))))
def m_is_sheet : FnM := mFn 2 5 mb_is_sheet
def mb_write_sheet : DEnv → SOut :=
    (mRet (mVM fJoin (mC (.str " ")) (mCons (mFr (mLcF [1] (mIterL (mName 0)) (gN 1) mYes (mCb fStr (mCons (mName 1) mNil)))) mNil)))
def m_write_sheet : FnM := mFn 1 2 mb_write_sheet
def mb_is_number : DEnv → SOut :=
    (mRet (mAndV (mChain fLe fLe (mC (.int 1)) (mCb fLenA (mCons (mName 0) mNil)) (mC (.int 2))) (mCb fAll (mCons (mFr (mLcF [1] (mIterS (mName 0)) (gN 1) mYes (mBin (fInS false) (mName 1) (mC (.str "0123456789"))))) mNil))))
def m_is_number : FnM := mFn 1 2 mb_is_number
def mb_read_sheet : DEnv → SOut :=
    (mSeq (mIf (mOr (mNot (mTest (mIs .str (mName 1)))) (mNot (mTest (mCb fAll (mCons (mFr (mLcF [3] (mIterL (mFr (mVMF fSplit (mName 1) (mCons (mC (.str " ")) mNil)))) (gN 3) mYes (mCall m_is_number [false] (mCons (mName 3) mNil)))) mNil)))))
    mBad
    mNext)
    (mSeq (mSet 2 (mCb fTuple (mCons (mFr (mLcF [3] (mIterL (mFr (mVMF fSplit (mName 1) (mCons (mC (.str " ")) mNil)))) (gN 3) mYes (mCb fIntA (mCons (mName 3) mNil)))) mNil)))
    (mSeq (mIf (mOr (mNot (mTest (mCall m_is_sheet [false, false] (mCons (mName 0) (mCons (mName 2) mNil))))) (mTest (mBin fNeA (mCall m_write_sheet [false] (mCons (mName 2) mNil)) (mName 1))))
    mBad
    mNext)
    (mRet (mName 2)))))
def m_read_sheet : FnM := mFn 2 4 mb_read_sheet
def mb__law_open : DEnv → SOut :=
    (mSeq (mSetF 1 (mCbF fList (mCons (mSl (mName 0) mNoPart (mPart (mC (.int 12)))) mNil)))
    (mSeq (mFor (mEnum (mCons (mSl (mName 0) (mPart (mC (.int 12))) (mPart (mC (.int 63)))) mNil)) (gT 2 (gCn (gN 2) (gCn (gN 3) gNl)))
    (mSetIx 1 (mBin fAdd (mBin fIx (mName 1) (mBin fMod (mCb fInt (mCons (mName 2) mNil)) (mC (.int 12)))) (mName 3)) (mBin fMod (mCb fInt (mCons (mName 2) mNil)) (mC (.int 12)))))
    (mRetF (mLstF (mCons (mNameF 1) (mCons (mC (.int 0)) (mCons (mC (.int 0)) mNil)))))))
def m__law_open : FnM := mFn 1 4 mb__law_open
def mb__law_spread : DEnv → SOut :=
    (mSeq (mIf (mTest (mBin fGe (mName 0) (mBin fPow (mC (.int 10)) (mC (.int 18)))))
    (mRet (mName 0))
    mNext)
    (mSeq (mSet 2 (mLst (mCons (mC (.int 2147483629)) (mCons (mC (.int 2147483587)) (mCons (mC (.int 2147483579)) (mCons (mC (.int 2147483563)) (mCons (mC (.int 2147483549)) (mCons (mC (.int 2147483543)) (mCons (mC (.int 2147483497)) (mCons (mC (.int 2147483489)) mNil))))))))))
    (mSeq (mSet 2 (mBin fAdd (mName 2) (mLst (mCons (mC (.int 2147483477)) (mCons (mC (.int 2147483423)) (mCons (mC (.int 2147483399)) (mCons (mC (.int 2147483353)) (mCons (mC (.int 2147483323)) mNil))))))))
    (mSeq (mSet 3 (mBin fAdd (mBin fAdd (mBin fMul (mBin fMod (mCb fInt (mCons (mName 0) mNil)) (mC (.int 1000000007))) (mBin fAdd (mBin fMul (mC (.int 2)) (mName 1)) (mC (.int 69069)))) (mBin fMul (mName 1) (mC (.int 40503)))) (mC (.int 977))))
    (mSeq (mSet 3 (mBin fMod (mCb fInt (mCons (mBin fPow (mName 3) (mC (.int 3))) mNil)) (mBin fIx (mName 2) (mBin fMod (mCb fInt (mCons (mName 1) mNil)) (mC (.int 13))))))
    (mSeq (mSet 4 (mBin fMod (mCb fInt (mCons (mBin fPow (mBin fAdd (mBin fAdd (mBin fMul (mName 3) (mBin fAdd (mName 1) (mC (.int 3)))) (mBin fMod (mCb fInt (mCons (mName 0) mNil)) (mC (.int 65537)))) (mC (.int 5))) (mC (.int 5))) mNil)) (mBin fIx (mName 2) (mBin fMod (mCb fInt (mCons (mBin fAdd (mName 1) (mC (.int 5))) mNil)) (mC (.int 13))))))
    (mSeq (mSet 5 (mBin fMod (mCb fInt (mCons (mBin fPow (mBin fAdd (mBin fAdd (mName 4) (mBin fMod (mCb fInt (mCons (mName 3) mNil)) (mC (.int 1009)))) (mName 1)) (mC (.int 3))) mNil)) (mBin fIx (mName 2) (mBin fMod (mCb fInt (mCons (mBin fAdd (mName 1) (mC (.int 7))) mNil)) (mC (.int 13))))))
    (mRet (mBin fAdd (mBin fMul (mBin fAdd (mBin fMul (mName 3) (mC (.int 2147483647))) (mName 4)) (mC (.int 2147483647))) (mName 5))))))))))
def m__law_spread : FnM := mFn 2 6 mb__law_spread
def mb__law_take : DEnv → SOut :=
    (mSeq (mIf (mTest (mBin fLt (mBin fIx (mName 0) (mC (.int 2))) (mName 1)))
    (mSeq (mSet 2 (mBin fIx (mName 0) (mC (.int 1))))
    (mSeq (mSet 3 (mC (.int 0)))
    (mSeq (mIf (mTest (mBin fLt (mName 2) (mCb fLen (mCons (mBin fIx (mName 0) (mC (.int 0))) mNil))))
    (mSet 3 (mBin fIx (mBin fIx (mName 0) (mC (.int 0))) (mName 2)))
    (mIf (mTest (mBin fGt (mCb fLen (mCons (mBin fIx (mName 0) (mC (.int 0))) mNil)) (mC (.int 0))))
    (mSet 3 (mBin fMod (mCb fInt (mCons (mBin fIx (mBin fIx (mName 0) (mC (.int 0))) (mBin fMod (mCb fInt (mCons (mBin fAdd (mBin fMul (mName 2) (mC (.int 5))) (mC (.int 3))) mNil)) (mCb fLen (mCons (mBin fIx (mName 0) (mC (.int 0))) mNil)))) mNil)) (mBin fAdd (mBin fPow (mC (.int 10)) (mC (.int 17))) (mName 2))))
    mNext))
    (mSeq (mSetIx 0 (mBin fAdd (mName 2) (mC (.int 1))) (mC (.int 1)))
    (mSetIx 0 (mCall m__law_spread [false, false] (mCons (mName 3) (mCons (mName 2) mNil))) (mC (.int 2)))))))
    mNext)
    (mSeq (mSet 4 (mBin fMod (mCb fInt (mCons (mBin fIx (mName 0) (mC (.int 2))) mNil)) (mName 1)))
    (mSeq (mSetIx 0 (mBin fDiv (mBin fIx (mName 0) (mC (.int 2))) (mName 1)) (mC (.int 2)))
    (mRet (mName 4)))))
def m__law_take : FnM := mFn 2 5 mb__law_take
def mb__law_same (self : FnM) : DEnv → SOut :=
    (mSeq (mIf (mOr (mTest (mBin fIsN (mName 1) (mC .none))) (mTest (mBin fIsN (mName 0) (mC .none))))
    (mRet (mAndV (mBin fIsN (mName 1) (mC .none)) (mBin fIsN (mName 0) (mC .none))))
    mNext)
    (mSeq (mIf (mOr (mTest (mIs .bool (mName 1))) (mTest (mIs .bool (mName 0))))
    (mRet (mAndV (mIs .bool (mName 1)) (mAndV (mIs .bool (mName 0)) (mBin fEqA (mName 0) (mName 1)))))
    mNext)
    (mSeq (mIf (mTest (mIsM [.int, .str] (mName 1)))
    (mSeq (mIf (mTest (mBin fNeA (mIs .int (mName 0)) (mIs .int (mName 1))))
    (mRet (mC (.bool false)))
    mNext)
    (mRet (mAndV (mIsM [.int, .str] (mName 0)) (mBin fEqA (mName 0) (mName 1)))))
    mNext)
    (mSeq (mIf (mOr (mTest (mBin fNeA (mIs .tuple (mName 1)) (mIs .tuple (mName 0)))) (mTest (mBin fNeA (mIs .list (mName 1)) (mIs .list (mName 0)))))
    (mRet (mC (.bool false)))
    mNext)
    (mSeq (mIf (mTest (mBin fNeA (mCb fLen (mCons (mName 0) mNil)) (mCb fLen (mCons (mName 1) mNil))))
    (mRet (mC (.bool false)))
    mNext)
    (mRet (mBin (fIn true) (mC (.bool false)) (mFr (mLcF [2, 3] (mZip (mCons (mName 0) (mCons (mName 1) mNil))) (gT 2 (gCn (gN 2) (gCn (gN 3) gNl))) mYes (mCall self [false, false] (mCons (mName 2) (mCons (mName 3) mNil))))))))))))
def m__law_same : Nat → FnM
  | 0 => fun _ => .bad
  | n + 1 => mFn 2 4 (mb__law_same (m__law_same n))
def mb__law_one_of : DEnv → SOut :=
    (mRet (mBin fIx (mName 1) (mCall m__law_take [true, false] (mCons (mName 0) (mCons (mCb fLen (mCons (mName 1) mNil)) mNil)))))
def m__law_one_of : FnM := mFn 2 2 mb__law_one_of
def mb__law_grown (self : FnM) : DEnv → SOut :=
    (mSeq (mIf (mTest (mBin fEqA (mCb fLen (mCons (mName 1) mNil)) (mC (.int 1))))
    (mRet (mBin fIx (mName 1) (mC (.int 0))))
    mNext)
    (mSeq (mSet 3 (mBin fIx (mLst (mCons (mBin fDiv (mCb fLen (mCons (mName 1) mNil)) (mC (.int 2))) (mCons (mBin fSub (mCb fLen (mCons (mName 1) mNil)) (mC (.int 1))) (mCons (mBin fAdd (mC (.int 1)) (mCall m__law_take [true, false] (mCons (mName 0) (mCons (mBin fSub (mCb fLen (mCons (mName 1) mNil)) (mC (.int 1))) mNil)))) mNil)))) (mName 2)))
    (mRet (mTup (mCons (mCall self [true, false, false] (mCons (mName 0) (mCons (mSl (mName 1) mNoPart (mPart (mName 3))) (mCons (mName 2) mNil)))) (mCons (mCall self [true, false, false] (mCons (mName 0) (mCons (mSl (mName 1) (mPart (mName 3)) mNoPart) (mCons (mName 2) mNil)))) mNil))))))
def m__law_grown : Nat → FnM
  | 0 => fun _ => .bad
  | n + 1 => mFn 3 4 (mb__law_grown (m__law_grown n))
def mb__law_draw_tree : DEnv → SOut :=
    (mSeq (mParFF 2 3 (mLstF mNil) (mLRg1 (mName 1)))
    (mSeq (whileM (mTest (mBin fNeA (mName 3) (mLst mNil)))
    (mExpr (mMethG 2 fAppend (mCons (mMethG 3 fPopAt (mCons (mCall m__law_take [true, false] (mCons (mName 0) (mCons (mCb fLen (mCons (mName 3) mNil)) mNil))) mNil)) mNil))) 1000)
    (mRet (mCall (m__law_grown 30) [true, false, false] (mCons (mName 0) (mCons (mName 2) (mCons (mCall m__law_one_of [true, false] (mCons (mName 0) (mCons (mLst (mCons (mC (.int 0)) (mCons (mC (.int 0)) (mCons (mC (.int 1)) (mCons (mC (.int 2)) mNil))))) mNil))) mNil)))))))
def m__law_draw_tree : FnM := mFn 2 4 mb__law_draw_tree
def mb__law_note (self : FnM) : DEnv → SOut :=
    (mSeq (mIf (mTest (mIs .int (mName 0)))
    (mRet (mTup (mCons (mC (.str "side")) (mCons (mName 0) mNil))))
    mNext)
    (mSeq (mPar 2 3 (mCall self [false, true] (mCons (mBin fIx (mName 0) (mC (.int 0))) (mCons (mName 1) mNil))) (mCall self [false, true] (mCons (mBin fIx (mName 0) (mC (.int 1))) (mCons (mName 1) mNil))))
    (mSeq (mExpr (mMethG 1 fAppend (mCons (mTup (mCons (mName 2) (mCons (mName 3) mNil))) mNil)))
    (mRet (mTup (mCons (mC (.str "match")) (mCons (mBin fSub (mCb fLen (mCons (mName 1) mNil)) (mC (.int 1))) mNil)))))))
def m__law_note : Nat → FnM
  | 0 => fun _ => .bad
  | n + 1 => mFn 2 4 (mb__law_note (m__law_note n))
def mb__law_matches : DEnv → SOut :=
    (mSeq (mSetF 1 (mLstF mNil))
    (mSeq (mExpr (mCall (m__law_note 30) [false, true] (mCons (mName 0) (mCons (mName 1) mNil))))
    (mRetO 1)))
def m__law_matches : FnM := mFn 1 2 mb__law_matches
def mb__law_sides : DEnv → SOut :=
    (mSeq (mSetF 1 (mLstF mNil))
    (mSeq (mFor (mIterL (mCall m__law_matches [false] (mCons (mName 0) mNil))) (gN 2)
    (mSeq (mSet 3 (mLst mNil))
    (mSeq (mFor (mIterL (mName 2)) (gT 2 (gCn (gN 4) (gCn (gN 5) gNl)))
    (mSet 3 (mBin fAdd (mName 3) (mIfE (mTest (mBin fEqA (mName 4) (mC (.str "side")))) (mLst (mCons (mName 5) mNil)) (mFr (mCbF fList (mCons (mBin fIx (mName 1) (mName 5)) mNil)))))))
    (mExpr (mMethG 1 fAppend (mCons (mCb fTuple (mCons (mFr (mCbF fSorted (mCons (mName 3) mNil))) mNil)) mNil))))))
    (mRetO 1)))
def m__law_sides : FnM := mFn 1 6 mb__law_sides
def mb_law : DEnv → SOut :=
    (mSeq (mSetF 1 (mCallF m__law_open [false] (mCons (mName 0) mNil)))
    (mSeq (mFor (mRange1 (mCons (mC (.int 6)) mNil)) (gN 2)
    (mSeq (mSet 3 (mCall m__law_draw_tree [true, false] (mCons (mName 1) (mCons (mBin fAdd (mC (.int 2)) (mCall m__law_take [true, false] (mCons (mName 1) (mCons (mC (.int 15)) mNil)))) mNil))))
    (mSeq (mPar 4 5 (mCb fTuple (mCons (mFr (mLcF [7] (mIterL (mCall m__law_sides [false] (mCons (mName 3) mNil))) (gN 7) mYes (mCall m__law_one_of [true, false] (mCons (mName 1) (mCons (mFr (mCbF fList (mCons (mName 7) mNil))) mNil))))) mNil)) (mC (.str "")))
    (mSeq (mFor (mIterL (mName 4)) (gN 6)
    (mSet 5 (mBin fAdd (mBin fAdd (mBin fAdd (mName 5) (mBin fMulS (mC (.str " ")) (mCb fInt (mCons (mBin fNeA (mName 5) (mC (.str ""))) mNil)))) (mIfE (mTest (mBin fGt (mName 6) (mC (.int 9)))) (mC (.str "1")) (mC (.str "")))) (mBin fIx (mC (.str "0123456789")) (mBin fMod (mCb fInt (mCons (mName 6) mNil)) (mC (.int 10)))))))
    (mIf (mNot (mTest (mCall (m__law_same 30) [false, false] (mCons (mLst (mCons (mCall m_write_sheet [false] (mCons (mName 4) mNil)) (mCons (mCall m_read_sheet [false, false] (mCons (mName 3) (mCons (mName 5) mNil))) mNil))) (mCons (mLst (mCons (mName 5) (mCons (mName 4) mNil))) mNil)))))
    (mRet (mC (.bool false)))
    mNext)))))
    (mRet (mC (.bool true)))))
def m_law : FnM := mFn 1 8 mb_law
end DL
namespace DL
open PySem L2
open PyProof.Rows hiding St
/-! ### the pen -/
def intsD (zs : List Int) : PyData := .list (zs.map .int)
def primes0 : List Int := [2147483629, 2147483587, 2147483579, 2147483563, 2147483549, 2147483543, 2147483497, 2147483489]
def primes : List Int := [2147483629, 2147483587, 2147483579, 2147483563, 2147483549, 2147483543, 2147483497, 2147483489, 2147483477, 2147483423, 2147483399, 2147483353, 2147483323]
theorem primes_in : ∀ p ∈ primes, 0 < p ∧ p < 2147483648 := by decide
theorem fmod_in {a b : Int} (h : 0 < b) : 0 ≤ a.fmod b ∧ a.fmod b < b := ⟨Int.fmod_nonneg_of_pos a h, Int.fmod_lt_of_pos a h⟩
def RtI (o : SOut) (n : Nat) : Prop := ∃ r : Int, 0 ≤ r ∧ ∃ env, o = .rt (.int r) false env ∧ env.length = n
theorem rtI_nx {m m' : DEnv → SOut} {env r : DEnv} {n : Nat} (h : m env = .nx r) (k : RtI (m' r) n) : RtI (mSeq m m' env) n := by unfold mSeq; rw [h]; exact k
theorem spread_ok (cell at' : Int) (h0 : 0 ≤ at') (h1 : at' ≤ 268435456) : ∃ r : Int, m__law_spread [.cl (.int cell), .cl (.int at')] = .ok (.int r) false [.cl (.int cell), .cl (.int at')] ∧ 0 ≤ r := by
  -- the body
  have main : RtI (mb__law_spread [.cl (.int cell), .cl (.int at'), .un, .un, .un, .un]) 6 := by
    unfold mb__law_spread
    have t1 : TstE [.cl (.int cell), .cl (.int at'), .un, .un, .un, .un] (mTest (mBin fGe (mName 0) (mBin fPow (mC (.int 10)) (mC (.int 18))))) (decide ((10 : Int) ^ 18 ≤ cell)) := te_ge (ie_name rfl) (ie_pow ie_c ie_c (by decide) (by decide) (by decide))
    by_cases hc : (10 : Int) ^ 18 ≤ cell
    · rw [decide_eq_true hc] at t1
      refine ⟨cell, by omega, [.cl (.int cell), .cl (.int at'), .un, .un, .un, .un], ?_, rfl⟩
      rw [seq_rt (d := .int cell) (f := false) (r := [.cl (.int cell), .cl (.int at'), .un, .un, .un, .un])]
      rw [if_t t1]
      exact ie_ret (ie_name rfl)
    · rw [decide_eq_false hc] at t1
      refine rtI_nx (r := [.cl (.int cell), .cl (.int at'), .un, .un, .un, .un]) (by rw [if_f t1]; rfl) ?_
      refine rtI_nx (r := [.cl (.int cell), .cl (.int at'), .cl (intsD primes0), .un, .un, .un]) rfl ?_
      refine rtI_nx (r := [.cl (.int cell), .cl (.int at'), .cl (intsD primes), .un, .un, .un]) rfl ?_
      -- one
      obtain ⟨a1, a2⟩ := fmod_in (a := cell) (b := 1000000007) (by decide)
      obtain ⟨one, eone, o1, o2⟩ : ∃ one : Int, mSet 3 (mBin fAdd (mBin fAdd (mBin fMul (mBin fMod (mCb fInt (mCons (mName 0) mNil)) (mC (.int 1000000007))) (mBin fAdd (mBin fMul (mC (.int 2)) (mName 1)) (mC (.int 69069)))) (mBin fMul (mName 1) (mC (.int 40503)))) (mC (.int 977))) [.cl (.int cell), .cl (.int at'), .cl (intsD primes), .un, .un, .un]
          = .nx [.cl (.int cell), .cl (.int at'), .cl (intsD primes), .cl (.int one), .un, .un] ∧ 0 ≤ one ∧ one < 2 ^ 64 := by
        refine ⟨_, ie_set (ie_add (ie_add (ie_mul (ie_mod (ie_int (ie_name rfl)) ie_c (by decide)) (ie_add (ie_mul ie_c (ie_name rfl) (.inl (by decide))) ie_c) (.inl (by omega))) (ie_mul (ie_name rfl) ie_c (.inr (by decide)))) ie_c) rfl, ?_, ?_⟩
        · have := Int.mul_nonneg a1 (show 0 ≤ 2 * at' + 69069 by omega); omega
        · have := Int.mul_le_mul (Int.le_of_lt a2) (show 2 * at' + 69069 ≤ 600000000 by omega) (by omega) (by decide); omega
      refine rtI_nx eone ?_
      have prime : ∀ (env : DEnv) (m : DEnv → Out EV) (j : Int), env[2]? = some (.cl (intsD primes)) → IntE env m j → ∃ p : Int, 0 < p ∧ p < 2147483648 ∧ IntE env (mBin fIx (mName 2) (mBin fMod (mCb fInt (mCons m mNil)) (mC (.int 13)))) p := fun env m j h2 hm => by
        obtain ⟨b1, b2⟩ := fmod_in (a := j) (b := 13) (by decide)
        obtain ⟨p, hp, ep⟩ := ie_item (zs := primes) h2 rfl (ie_mod (ie_int hm) (ie_c (i := 13)) (by decide)) b1 b2
        exact ⟨p, (primes_in p hp).1, (primes_in p hp).2, ep⟩
      obtain ⟨p1, q1, q2, ep⟩ := prime [.cl (.int cell), .cl (.int at'), .cl (intsD primes), .cl (.int one), .un, .un] (mName 1) at' rfl (ie_name rfl)
      obtain ⟨b1, b2⟩ := fmod_in (a := one ^ 3) (b := p1) q1
      have e2 := ie_set (k := 3) (ie_mod (ie_int (ie_pow (ie_name (env := [.cl (.int cell), .cl (.int at'), .cl (intsD primes), .cl (.int one), .un, .un]) (k := 3) rfl) (ie_c (i := 3)) (by decide) (by decide) (by omega))) ep (by omega)) rfl
      refine rtI_nx e2 ?_
      generalize hone2 : (one ^ (3 : Int).toNat).fmod p1 = one2
      have c1 : 0 ≤ one2 ∧ one2 < 2147483648 := by rw [← hone2]; exact ⟨b1, Int.lt_trans b2 q2⟩
      have s3 : ∀ x : Sl, [.cl (.int cell), .cl (.int at'), .cl (intsD primes), .cl (.int one), .un, .un].set 3 x = [.cl (.int cell), .cl (.int at'), .cl (intsD primes), x, Sl.un, Sl.un] := fun _ => rfl
      rw [s3]
      obtain ⟨p2, q3, q4, ep2⟩ := prime [.cl (.int cell), .cl (.int at'), .cl (intsD primes), .cl (.int one2), .un, .un] (mBin fAdd (mName 1) (mC (.int 5))) (at' + 5) rfl (ie_add (ie_name rfl) ie_c)
      obtain ⟨f1, f2⟩ := fmod_in (a := cell) (b := 65537) (by decide)
      have hb : 0 ≤ one2 * (at' + 3) ∧ one2 * (at' + 3) < 2 ^ 61 := by
        refine ⟨Int.mul_nonneg c1.1 (by omega), ?_⟩
        have := Int.mul_le_mul (Int.le_of_lt c1.2) (show at' + 3 ≤ 300000000 by omega) (by omega) (by decide)
        omega
      have e3 := ie_set (k := 4) (ie_mod (ie_int (ie_pow (ie_add (ie_add (ie_mul (ie_name (env := [.cl (.int cell), .cl (.int at'), .cl (intsD primes), .cl (.int one2), .un, .un]) (k := 3) rfl) (ie_add (ie_name (k := 1) rfl) (ie_c (i := 3))) (.inl (by omega)))
        (ie_mod (ie_int (ie_name (k := 0) rfl)) (ie_c (i := 65537)) (by decide))) (ie_c (i := 5))) (ie_c (i := 5)) (by decide) (by decide) (by omega))) ep2 (by omega)) rfl
      refine rtI_nx e3 ?_
      generalize htwo : (((one2 * (at' + 3) + cell.fmod 65537 + 5) ^ (5 : Int).toNat).fmod p2) = two
      have c2 : 0 ≤ two ∧ two < 2147483648 := by rw [← htwo]; exact ⟨(fmod_in q3).1, Int.lt_trans (fmod_in q3).2 q4⟩
      have s4 : ∀ x : Sl, [.cl (.int cell), .cl (.int at'), .cl (intsD primes), .cl (.int one2), .un, .un].set 4 x = [.cl (.int cell), .cl (.int at'), .cl (intsD primes), .cl (.int one2), x, Sl.un] := fun _ => rfl
      rw [s4]
      obtain ⟨p3, q5, q6, ep3⟩ := prime [.cl (.int cell), .cl (.int at'), .cl (intsD primes), .cl (.int one2), .cl (.int two), .un] (mBin fAdd (mName 1) (mC (.int 7))) (at' + 7) rfl (ie_add (ie_name rfl) ie_c)
      obtain ⟨g1, g2⟩ := fmod_in (a := one2) (b := 1009) (by decide)
      have e4 := ie_set (k := 5) (ie_mod (ie_int (ie_pow (ie_add (ie_add (ie_name (env := [.cl (.int cell), .cl (.int at'), .cl (intsD primes), .cl (.int one2), .cl (.int two), .un]) (k := 4) rfl)
        (ie_mod (ie_int (ie_name (k := 3) rfl)) (ie_c (i := 1009)) (by decide))) (ie_name (k := 1) rfl)) (ie_c (i := 3)) (by decide) (by decide) (by omega))) ep3 (by omega)) rfl
      refine rtI_nx e4 ?_
      generalize hth : (((two + one2.fmod 1009 + at') ^ (3 : Int).toNat).fmod p3) = three
      have c3 : 0 ≤ three := by rw [← hth]; exact (fmod_in q5).1
      have s5 : ∀ x : Sl, [.cl (.int cell), .cl (.int at'), .cl (intsD primes), .cl (.int one2), .cl (.int two), .un].set 5 x = [.cl (.int cell), .cl (.int at'), .cl (intsD primes), .cl (.int one2), .cl (.int two), x] := fun _ => rfl
      rw [s5]
      exact ⟨(one2 * 2147483647 + two) * 2147483647 + three, by omega, _, ie_ret (ie_add (ie_mul (ie_add (ie_mul (ie_name (k := 3) rfl) ie_c (.inr (by decide))) (ie_name (k := 4) rfl)) ie_c (.inr (by decide))) (ie_name (k := 5) rfl)), rfl⟩
  obtain ⟨r, hr, env, he, hl⟩ := main
  refine ⟨r, ?_, hr⟩
  show (match mb__law_spread [.cl (.int cell), .cl (.int at'), .un, .un, .un, .un] with | .rt d fr r => FOut.ok d fr (outs [.cl (.int cell), .cl (.int at')] r) | .nx r => .ok .none false (outs [.cl (.int cell), .cl (.int at')] r) | .ex c r => .ex c (outs [.cl (.int cell), .cl (.int at')] r) | _ => .bad) = _
  rw [he]
  rfl
def pen (cells : List Int) (a r : Int) : PyData := .list [intsD cells, .int a, .int r]
theorem six1 {env rest : DEnv} {me : DEnv → Out EV} {c x y : PyData} {v : Int} (h : IntE env me v) (e : env = .pw (.list [c, x, y]) :: rest) : mSetIx 0 me (mC (.int 1)) env = .nx (.pw (.list [c, .int v, y]) :: rest) := by
  unfold IntE at h
  unfold mSetIx
  rw [h]
  subst e
  rfl
theorem six2 {env rest : DEnv} {me : DEnv → Out EV} {c x y : PyData} {v : Int} (h : IntE env me v) (e : env = .pw (.list [c, x, y]) :: rest) : mSetIx 0 me (mC (.int 2)) env = .nx (.pw (.list [c, x, .int v]) :: rest) := by
  unfold IntE at h
  unfold mSetIx
  rw [h]
  subst e
  rfl
theorem ie_item2 {env : DEnv} {ml mj : DEnv → Out EV} {zs : List Int} {j : Int} (hl : ml env = .ok (.val (intsD zs)) env) (hj : IntE env mj j) (h0 : 0 ≤ j) (h1 : j < zs.length) : ∃ z : Int, IntE env (mBin fIx ml mj) z := by
  have hl' : j.toNat < zs.length := by omega
  refine ⟨zs[j.toNat], ?_⟩
  unfold IntE at *
  unfold mBin
  rw [hl]
  show Out.bind (mj env) _ = _
  rw [hj]
  show (match fIx (.list (zs.map .int)) (.int j) with | some d => Out.ok (EV.val d) env | none => Out.bad) = _
  have e : fIx (.list (zs.map .int)) (.int j) = some (.int zs[j.toNat]) := by
    show atI (zs.map PyData.int) j = _
    unfold atI
    rw [List.length_map, show ixN zs.length j = some j.toNat from by unfold ixN; rw [if_pos h0, if_pos h1]]
    show (zs.map PyData.int)[j.toNat]? = _
    rw [List.getElem?_map, List.getElem?_eq_getElem hl']
    rfl
  rw [e]
theorem sqr {m m' : DEnv → SOut} {env r : DEnv} {d : PyData} {f : Bool} {Φ : SOut → Prop} (h : m env = .rt d f r) (k : Φ (.rt d f r)) : Φ (mSeq m m' env) := by unfold mSeq; rw [h]; exact k
def TakeR (cells : List Int) (at' a : Int) (o : SOut) : Prop := ∃ v at2 r2 : Int, ∃ x y z : Sl, o = .rt (.int v) false [.pw (pen cells at2 r2), .cl (.int a), x, y, z] ∧ 0 ≤ v ∧ v < a ∧ 0 ≤ r2 ∧ at' ≤ at2 ∧ at2 ≤ at' + 1
theorem take_tail {cells : List Int} {at' at2 r2 a : Int} (ha : 0 < a) (ha2 : a < 1073741824) (hr : 0 ≤ r2) (h1 : at' ≤ at2) (h2 : at2 ≤ at' + 1) (x y : Sl) : TakeR cells at' a ((mSeq (mSet 4 (mBin fMod (mCb fInt (mCons (mBin fIx (mName 0) (mC (.int 2))) mNil)) (mName 1)))
    (mSeq (mSetIx 0 (mBin fDiv (mBin fIx (mName 0) (mC (.int 2))) (mName 1)) (mC (.int 2)))
    (mRet (mName 4)))) [.pw (pen cells at2 r2), .cl (.int a), x, y, .un]) := by
  obtain ⟨f1, f2⟩ := fmod_in (a := r2) ha
  have e1 := ie_set (k := 4) (ie_mod (ie_int (i := r2) (env := [.pw (pen cells at2 r2), .cl (.int a), x, y, .un]) (a := mBin fIx (mName 0) (mC (.int 2))) rfl) (ie_name (k := 1) rfl) (by omega)) rfl
  refine sq e1 ?_
  have e2 := six2 (me := mBin fDiv (mBin fIx (mName 0) (mC (.int 2))) (mName 1)) (v := r2.fdiv a) (env := [.pw (pen cells at2 r2), .cl (.int a), x, y, .cl (.int (r2.fmod a))]) (ie_div (i := r2) rfl (ie_name (k := 1) rfl) (by omega) (by omega)) rfl
  refine sq e2 ?_
  exact ⟨r2.fmod a, at2, r2.fdiv a, x, y, _, ie_ret (ie_name (k := 4) rfl), f1, f2, Int.fdiv_nonneg hr (Int.le_of_lt ha), h1, h2⟩
theorem ne17 {a : Int} (h : 0 ≤ a) : (10 : Int) ^ (17 : Int).toNat + a ≠ 0 := by
  have : (10 : Int) ^ (17 : Int).toNat = 100000000000000000 := by decide
  omega
theorem take_ok (cells : List Int) (at' r0 a : Int) (ha : 0 < a) (ha2 : a < 1073741824) (h0 : 0 ≤ at') (h1 : at' ≤ 268435456) (hr : 0 ≤ r0) :
    ∃ v at2 r2 : Int, m__law_take [.ow (pen cells at' r0), .cl (.int a)] = .ok (.int v) false [.ow (pen cells at2 r2), .cl (.int a)] ∧ 0 ≤ v ∧ v < a ∧ 0 ≤ r2 ∧ at' ≤ at2 ∧ at2 ≤ at' + 1 := by
  have main : TakeR cells at' a (mb__law_take [.pw (pen cells at' r0), .cl (.int a), .un, .un, .un]) := by
    unfold mb__law_take
    have t1 : TstE [.pw (pen cells at' r0), .cl (.int a), .un, .un, .un] (mTest (mBin fLt (mBin fIx (mName 0) (mC (.int 2))) (mName 1))) (decide (r0 < a)) := te_lt (i := r0) rfl (ie_name rfl)
    by_cases hc : r0 < a
    case neg =>
      rw [decide_eq_false hc] at t1
      exact sq (if_f t1) (take_tail ha ha2 hr (Int.le_refl _) (by omega) .un .un)
    case pos =>
      rw [decide_eq_true hc] at t1
      -- the cell
      have stp : ∀ c : Int, ∃ r2 : Int, 0 ≤ r2 ∧ (mSeq (mSetIx 0 (mBin fAdd (mName 2) (mC (.int 1))) (mC (.int 1))) (mSetIx 0 (mCall m__law_spread [false, false] (mCons (mName 3) (mCons (mName 2) mNil))) (mC (.int 2)))) [.pw (pen cells at' r0), .cl (.int a), .cl (.int at'), .cl (.int c), .un] = .nx [.pw (pen cells (at' + 1) r2), .cl (.int a), .cl (.int at'), .cl (.int c), .un] := fun c => by
        obtain ⟨r2, e, h⟩ := spread_ok c at' h0 h1
        refine ⟨r2, h, ?_⟩
        refine sq (Φ := fun o => o = _) (six1 (v := at' + 1) (ie_add (ie_name (k := 2) rfl) ie_c) rfl) ?_
        refine six2 (v := r2) ?_ rfl
        unfold IntE mCall mCons
        show (match callM m__law_spread [false, false] [.val (.int c), .val (.int at')] _ with | some (.ok d _ as', as) => Out.ok (EV.val d) (updE _ [.val (.int c), .val (.int at')] as as') | some (.ex c2 as', as) => .ex c2 (updE _ [.val (.int c), .val (.int at')] as as') | _ => .bad) = _
        have ec : ∀ env, callM m__law_spread [false, false] [.val (.int c), .val (.int at')] env = some (m__law_spread [.cl (.int c), .cl (.int at')], [.cl (.int c), .cl (.int at')]) := fun env => rfl
        rw [ec, e]
        rfl
      have l1 : IntE [.pw (pen cells at' r0), .cl (.int a), .cl (.int at'), .cl (.int 0), .un] (mCb fLen (mCons (mBin fIx (mName 0) (mC (.int 0))) mNil)) (cells.map PyData.int).length := rfl
      rw [List.length_map] at l1
      have t2 : TstE [.pw (pen cells at' r0), .cl (.int a), .cl (.int at'), .cl (.int 0), .un] (mTest (mBin fLt (mName 2) (mCb fLen (mCons (mBin fIx (mName 0) (mC (.int 0))) mNil)))) (decide (at' < (cells.length : Int))) := te_lt (ie_name (k := 2) rfl) l1
      have t3 : TstE [.pw (pen cells at' r0), .cl (.int a), .cl (.int at'), .cl (.int 0), .un] (mTest (mBin fGt (mCb fLen (mCons (mBin fIx (mName 0) (mC (.int 0))) mNil)) (mC (.int 0)))) (decide ((0 : Int) < (cells.length : Int))) := te_gt l1 ie_c
      have cell : ∃ c : Int, (mIf (mTest (mBin fLt (mName 2) (mCb fLen (mCons (mBin fIx (mName 0) (mC (.int 0))) mNil)))) (mSet 3 (mBin fIx (mBin fIx (mName 0) (mC (.int 0))) (mName 2)))
          (mIf (mTest (mBin fGt (mCb fLen (mCons (mBin fIx (mName 0) (mC (.int 0))) mNil)) (mC (.int 0))))
          (mSet 3 (mBin fMod (mCb fInt (mCons (mBin fIx (mBin fIx (mName 0) (mC (.int 0))) (mBin fMod (mCb fInt (mCons (mBin fAdd (mBin fMul (mName 2) (mC (.int 5))) (mC (.int 3))) mNil)) (mCb fLen (mCons (mBin fIx (mName 0) (mC (.int 0))) mNil)))) mNil)) (mBin fAdd (mBin fPow (mC (.int 10)) (mC (.int 17))) (mName 2)))) mNext))
          [.pw (pen cells at' r0), .cl (.int a), .cl (.int at'), .cl (.int 0), .un] = .nx [.pw (pen cells at' r0), .cl (.int a), .cl (.int at'), .cl (.int c), .un] := by
        by_cases c1 : at' < (cells.length : Int)
        · rw [decide_eq_true c1] at t2
          obtain ⟨z, ez⟩ := ie_item2 (env := [.pw (pen cells at' r0), .cl (.int a), .cl (.int at'), .cl (.int 0), .un]) (ml := mBin fIx (mName 0) (mC (.int 0))) (mj := mName 2) (zs := cells) rfl (ie_name (k := 2) rfl) h0 c1
          exact ⟨z, by rw [if_t t2]; exact ie_set ez rfl⟩
        · rw [decide_eq_false c1] at t2
          by_cases c2 : (0 : Int) < (cells.length : Int)
          · rw [decide_eq_true c2] at t3
            have e5 := ie_mod (ie_int (ie_add (ie_mul (ie_name (env := [.pw (pen cells at' r0), .cl (.int a), .cl (.int at'), .cl (.int 0), .un]) (k := 2) rfl) (ie_c (i := 5)) (.inr (by decide))) (ie_c (i := 3)))) l1 (by omega)
            obtain ⟨b1, b2⟩ := fmod_in (a := at' * 5 + 3) c2
            obtain ⟨z, ez⟩ := ie_item2 (ml := mBin fIx (mName 0) (mC (.int 0))) (zs := cells) rfl e5 b1 b2
            exact ⟨_, by rw [if_f t2, if_t t3]; exact ie_set (ie_mod (ie_int ez) (ie_add (ie_pow (ie_c (i := 10)) (ie_c (i := 17)) (by decide) (by decide) (by decide)) (ie_name (k := 2) rfl)) (ne17 h0)) rfl⟩
          · rw [decide_eq_false c2] at t3
            exact ⟨0, by rw [if_f t2, if_f t3]; rfl⟩
      obtain ⟨c, ec⟩ := cell
      obtain ⟨r2, hr2, es⟩ := stp c
      refine sq (r := [.pw (pen cells (at' + 1) r2), .cl (.int a), .cl (.int at'), .cl (.int c), .un]) ?_ (take_tail ha ha2 hr2 (by omega) (Int.le_refl _) _ _)
      rw [if_t t1]
      refine sq (Φ := fun o => o = _) (r := [.pw (pen cells at' r0), .cl (.int a), .cl (.int at'), .un, .un]) rfl ?_
      refine sq (Φ := fun o => o = _) (r := [.pw (pen cells at' r0), .cl (.int a), .cl (.int at'), .cl (.int 0), .un]) rfl ?_
      exact sq (Φ := fun o => o = _) ec es
  obtain ⟨v, at2, r2, x, y, z, e, h⟩ := main
  refine ⟨v, at2, r2, ?_, h⟩
  show (match mb__law_take [.pw (pen cells at' r0), .cl (.int a), .un, .un, .un] with | .rt d fr r => FOut.ok d fr (outs [.ow (pen cells at' r0), .cl (.int a)] r) | .nx r => .ok .none false (outs [.ow (pen cells at' r0), .cl (.int a)] r) | .ex c r => .ex c (outs [.ow (pen cells at' r0), .cl (.int a)] r) | _ => .bad) = _
  rw [e]
  rfl
def PenOk (n : Nat) (P : PyData) : Prop := ∃ cells a r, P = pen cells a r ∧ 0 ≤ a ∧ a ≤ (n : Int) ∧ 0 ≤ r
theorem PenOk.mono {n m : Nat} {P : PyData} (h : PenOk n P) (hm : n ≤ m) : PenOk m P := by
  obtain ⟨c, a, r, e, h1, h2, h3⟩ := h
  exact ⟨c, a, r, e, h1, by omega, h3⟩
theorem take_p {n : Nat} {P : PyData} (h : PenOk n P) (hn : n ≤ 268435456) {a : Int} (ha : 0 < a) (ha2 : a < 1073741824) : ∃ (v : Int) (P' : PyData), m__law_take [.ow P, .cl (.int a)] = .ok (.int v) false [.ow P', .cl (.int a)] ∧ 0 ≤ v ∧ v < a ∧ PenOk (n + 1) P' := by
  obtain ⟨c, at', r, rfl, h1, h2, h3⟩ := h
  obtain ⟨v, at2, r2, e, g1, g2, g3, g4, g5⟩ := take_ok c at' r a ha ha2 h1 (by omega) h3
  exact ⟨v, _, e, g1, g2, c, at2, r2, rfl, by omega, by omega, g3⟩
theorem one_of_p {n : Nat} {P : PyData} (h : PenOk n P) (hn : n ≤ 268435456) {xs : List PyData} (hx : xs ≠ []) (hl : xs.length < 1073741824) : ∃ d ∈ xs, ∃ P', m__law_one_of [.ow P, .cl (.list xs)] = .ok d false [.ow P', .cl (.list xs)] ∧ PenOk (n + 1) P' := by
  have hpos : 0 < xs.length := List.length_pos_iff.mpr hx
  obtain ⟨v, P', e, h1, h2, hP⟩ := take_p h hn (a := xs.length) (by omega) (by omega)
  obtain ⟨d, hd, ed⟩ := fIx_list h1 h2
  refine ⟨d, hd, P', ?_, hP⟩
  simp only [mFn, mDef, entry, ent, outs, outS, mSeq, mNext, mPass, mExpr, mRet, mRetF, mRetN, mRetO, mIf, mSet, mSetF, mSetL, mAsg, gN, gNl, gCn, gT, mPar, mParFF, mParFV, mParVF, mName, mNameF, mC, mBin, fin1, dat, Sl.dat, cln, clns, dats, mTest, mChain, mAnd, mOr, mNot, mVal, mAndV, mOrV, mNotV, mIfE, mNeg, mTup, mLst, mLstF, mFr, mNil, mCons, mCall, mCallF, callM, argSs, argS, apart, apartE, updE, backAt, conv, mIs, mIsM, BT.is, mCb, mCbF, fLen, fList, fTuple, fInt, fI, mPart, mNoPart, mSl, fSl, mRev, fRev, mSetIx, mMethG, mMeth, fClear, fIsN, fNotN, isNo, asgOk, slotOwn, Sl.put, Sl.mut, Sl.isO, bind_ok, bind_bad, bindS_ok, bindS_bad, then_nx, then_rt, then_bad, if_S, if_B, if_BS, ite_self, List.getElem?_cons_zero, List.getElem?_cons_succ, List.length_cons, List.length_nil, List.map_cons, List.map_nil, List.replicate, List.cons_append, List.nil_append, List.set_cons_zero, List.set_cons_succ, List.mapIdx_cons, List.mapIdx_nil, List.zip_cons_cons, List.zip_nil_right, List.zip_nil_left, List.all_cons, List.all_nil, List.any_cons, List.any_nil, List.headD_cons, List.headD_nil, List.tail_cons, List.tail_nil, Nat.reduceAdd, Nat.reduceSub, Nat.reduceEqDiff, Nat.reduceLeDiff, if_true, if_false, ite_true, ite_false, Bool.false_eq_true, decide_true, decide_false, Bool.and_true, Bool.true_and, Bool.and_false, Bool.false_and, Bool.or_true, Bool.true_or, Bool.or_false, Bool.false_or, Bool.not_true, Bool.not_false, Option.map_some, Option.map_none, Option.bind_some, Option.or_some, Option.or_none, Option.none_or, Option.some_or, and_self, and_true, true_and, ne_eq, not_true_eq_false, not_false_eq_true, List.isEmpty_cons, List.isEmpty_nil, Int.cast_ofNat_Int, beq_self_eq_true, Int.reduceBEq, Int.reduceLT, Int.reduceLE, Int.reduceAdd, Int.reduceSub, Int.reduceEq, Int.reduceNeg, reduceIte, eqA_int, neA_int, eqA_bool, neA_bool, eqA_str, neA_str, eqA_tupE, neA_lstE, fIx_t0, fIx_t1, fIx_l0, fIx_l1, fIx_l2, addI_int, Int.natCast_zero, Int.natCast_one, Bool.not_eq_true, Bool.not_eq_false, m__law_one_of, mb__law_one_of, e, ed]
end DL
namespace DL
open PySem L2
open PyProof.Rows hiding St
theorem hasDict_mem : ∀ {ds : List PyData} {d : PyData}, PyData.hasDictAll ds = false → d ∈ ds → d.hasDict = false
  | x :: ds, d, h, m => by
    simp only [PyData.hasDictAll, Bool.or_eq_false_iff] at h
    rcases List.mem_cons.mp m with rfl | m
    · exact h.1
    · exact hasDict_mem h.2 m
theorem zipD_self : ∀ (ds : List PyData) (i : Nat) (p : PyData), (zipD ds ds)[i]? = some p → ∃ x ∈ ds, p = .tuple [x, x]
  | [], i, p, h => by simp [zipD] at h
  | d :: ds, 0, p, h => by
    have h : some (pairD d d) = some p := h
    cases h
    exact ⟨d, List.mem_cons_self, rfl⟩
  | d :: ds, i + 1, p, h => by
    obtain ⟨x, hx, e⟩ := zipD_self ds i p h
    exact ⟨x, List.mem_cons_of_mem _ hx, e⟩
theorem in_trues (k : Nat) : fIn true (.bool false) (.list (List.replicate k (.bool true))) = some (.bool true) := by
  have h1 : (List.replicate k (PyData.bool true)).all flatD = true := by rw [List.all_eq_true]; intro x hx; rw [List.eq_of_mem_replicate hx]; rfl
  have h2 : anyEq (.bool false) (List.replicate k (PyData.bool true)) = false := by
    unfold anyEq
    rw [List.any_eq_false]; intro x hx; rw [List.eq_of_mem_replicate hx]; decide
  show (if flatD (.bool false) = true ∧ _ then some (PyData.bool (xor true (anyEq (.bool false) _))) else none) = _
  rw [if_pos ⟨rfl, h1⟩, h2]; rfl
/-- the comprehension of _law_same over alike parts -/
theorem same_lc (self : FnM) (D : PyData) (ds : List PyData) (hl : ds.length ≤ 1000000) (ih : ∀ x ∈ ds, self [.cl x, .cl x] = .ok (.bool true) false [.cl x, .cl x])
    (hw : mZip (mCons (mName 0) (mCons (mName 1) mNil)) [.cl D, .cl D, .un, .un] = .ok (zipD ds ds) [.cl D, .cl D, .un, .un]) :
    mLcF [2, 3] (mZip (mCons (mName 0) (mCons (mName 1) mNil))) (gT 2 (gCn (gN 2) (gCn (gN 3) gNl))) mYes (mCall self [false, false] (mCons (mName 2) (mCons (mName 3) mNil))) [.cl D, .cl D, .un, .un]
      = .ok (.list (List.replicate ds.length (.bool true))) [.cl D, .cl D, .un, .un] := by
  obtain ⟨xs, r, h1, h2, h3⟩ := lcM_ok (vs := [2, 3]) (g := gT 2 (gCn (gN 2) (gCn (gN 3) gNl))) (mt := mYes) (me := mCall self [false, false] (mCons (mName 2) (mCons (mName 3) mNil))) (ds := zipD ds ds)
    (fun i env acc => env = [.cl D, .cl D, .un, .un] ∧ acc = List.replicate i (.bool true)) (fun i d env acc hd ⟨he, ha⟩ => by
      obtain ⟨x, hx, rfl⟩ := zipD_self ds i d hd
      subst he ha
      have e := ih x hx
      refine ⟨[.cl D, .cl D, .cl x, .cl x], rfl, _, rfl, .val (.bool true), [.cl D, .cl D, .cl x, .cl x], ?_, .bool true, rfl, rfl, rfl, ?_⟩
      · simp only [mFn, mDef, entry, ent, outs, outS, mSeq, mNext, mPass, mExpr, mRet, mRetF, mRetN, mRetO, mIf, mSet, mSetF, mSetL, mAsg, gN, gNl, gCn, gT, mPar, mParFF, mParFV, mParVF, mName, mNameF, mC, mBin, fin1, dat, Sl.dat, cln, clns, dats, mTest, mChain, mAnd, mOr, mNot, mVal, mAndV, mOrV, mNotV, mIfE, mNeg, mTup, mLst, mLstF, mFr, mNil, mCons, mCall, mCallF, callM, argSs, argS, apart, apartE, updE, backAt, conv, mIs, mIsM, BT.is, mCb, mCbF, fLen, fList, fTuple, fInt, fI, mPart, mNoPart, mSl, fSl, mRev, fRev, mSetIx, mMethG, mMeth, fClear, fIsN, fNotN, isNo, asgOk, slotOwn, Sl.put, Sl.mut, Sl.isO, bind_ok, bind_bad, bindS_ok, bindS_bad, then_nx, then_rt, then_bad, if_S, if_B, if_BS, ite_self, List.getElem?_cons_zero, List.getElem?_cons_succ, List.length_cons, List.length_nil, List.map_cons, List.map_nil, List.replicate, List.cons_append, List.nil_append, List.set_cons_zero, List.set_cons_succ, List.mapIdx_cons, List.mapIdx_nil, List.zip_cons_cons, List.zip_nil_right, List.zip_nil_left, List.all_cons, List.all_nil, List.any_cons, List.any_nil, List.headD_cons, List.headD_nil, List.tail_cons, List.tail_nil, Nat.reduceAdd, Nat.reduceSub, Nat.reduceEqDiff, Nat.reduceLeDiff, if_true, if_false, ite_true, ite_false, Bool.false_eq_true, decide_true, decide_false, Bool.and_true, Bool.true_and, Bool.and_false, Bool.false_and, Bool.or_true, Bool.true_or, Bool.or_false, Bool.false_or, Bool.not_true, Bool.not_false, Option.map_some, Option.map_none, Option.bind_some, Option.or_some, Option.or_none, Option.none_or, Option.some_or, and_self, and_true, true_and, ne_eq, not_true_eq_false, not_false_eq_true, List.isEmpty_cons, List.isEmpty_nil, Int.cast_ofNat_Int, beq_self_eq_true, Int.reduceBEq, Int.reduceLT, Int.reduceLE, Int.reduceAdd, Int.reduceSub, Int.reduceEq, Int.reduceNeg, reduceIte, eqA_int, neA_int, eqA_bool, neA_bool, eqA_str, neA_str, eqA_tupE, neA_lstE, fIx_t0, fIx_t1, fIx_l0, fIx_l1, fIx_l2, addI_int, Int.natCast_zero, Int.natCast_one, Bool.not_eq_true, Bool.not_eq_false, e]
      · rw [List.replicate_succ']) (env := [.cl D, .cl D, .un, .un]) ⟨rfl, rfl⟩
  subst h2 h3
  have hz : (zipD ds ds).length = ds.length := by rw [zipD_len, Nat.min_self]
  rw [hz] at h1
  unfold mLcF
  rw [hw]
  show (if _ then _ else _) = _
  rw [if_pos ⟨by rw [hz]; exact hl, rfl⟩]
  show (match lcM [2, 3] _ _ _ (zipD ds ds) [.cl D, .cl D, .un, .un] [] with | some (xs, r2) => _ | none => _) = _
  rw [h1]
  rfl
theorem same_eq : ∀ (n : Nat) (d : PyData), d.depth < n → d.bulk ≤ 100000 → d.hasDict = false → m__law_same n [.cl d, .cl d] = .ok (.bool true) false [.cl d, .cl d]
  | 0, d, h, _, _ => absurd h (Nat.not_lt_zero _)
  | n + 1, d, h, hb, hd => by
    cases d with
    | none => simp only [mFn, mDef, entry, ent, outs, outS, mSeq, mNext, mPass, mExpr, mRet, mRetF, mRetN, mRetO, mIf, mSet, mSetF, mSetL, mAsg, gN, gNl, gCn, gT, mPar, mParFF, mParFV, mParVF, mName, mNameF, mC, mBin, fin1, dat, Sl.dat, cln, clns, dats, mTest, mChain, mAnd, mOr, mNot, mVal, mAndV, mOrV, mNotV, mIfE, mNeg, mTup, mLst, mLstF, mFr, mNil, mCons, mCall, mCallF, callM, argSs, argS, apart, apartE, updE, backAt, conv, mIs, mIsM, BT.is, mCb, mCbF, fLen, fList, fTuple, fInt, fI, mPart, mNoPart, mSl, fSl, mRev, fRev, mSetIx, mMethG, mMeth, fClear, fIsN, fNotN, isNo, asgOk, slotOwn, Sl.put, Sl.mut, Sl.isO, bind_ok, bind_bad, bindS_ok, bindS_bad, then_nx, then_rt, then_bad, if_S, if_B, if_BS, ite_self, List.getElem?_cons_zero, List.getElem?_cons_succ, List.length_cons, List.length_nil, List.map_cons, List.map_nil, List.replicate, List.cons_append, List.nil_append, List.set_cons_zero, List.set_cons_succ, List.mapIdx_cons, List.mapIdx_nil, List.zip_cons_cons, List.zip_nil_right, List.zip_nil_left, List.all_cons, List.all_nil, List.any_cons, List.any_nil, List.headD_cons, List.headD_nil, List.tail_cons, List.tail_nil, Nat.reduceAdd, Nat.reduceSub, Nat.reduceEqDiff, Nat.reduceLeDiff, if_true, if_false, ite_true, ite_false, Bool.false_eq_true, decide_true, decide_false, Bool.and_true, Bool.true_and, Bool.and_false, Bool.false_and, Bool.or_true, Bool.true_or, Bool.or_false, Bool.false_or, Bool.not_true, Bool.not_false, Option.map_some, Option.map_none, Option.bind_some, Option.or_some, Option.or_none, Option.none_or, Option.some_or, and_self, and_true, true_and, ne_eq, not_true_eq_false, not_false_eq_true, List.isEmpty_cons, List.isEmpty_nil, Int.cast_ofNat_Int, beq_self_eq_true, Int.reduceBEq, Int.reduceLT, Int.reduceLE, Int.reduceAdd, Int.reduceSub, Int.reduceEq, Int.reduceNeg, reduceIte, eqA_int, neA_int, eqA_bool, neA_bool, eqA_str, neA_str, eqA_tupE, neA_lstE, fIx_t0, fIx_t1, fIx_l0, fIx_l1, fIx_l2, addI_int, Int.natCast_zero, Int.natCast_one, Bool.not_eq_true, Bool.not_eq_false, m__law_same, mb__law_same]
    | bool b => simp only [mFn, mDef, entry, ent, outs, outS, mSeq, mNext, mPass, mExpr, mRet, mRetF, mRetN, mRetO, mIf, mSet, mSetF, mSetL, mAsg, gN, gNl, gCn, gT, mPar, mParFF, mParFV, mParVF, mName, mNameF, mC, mBin, fin1, dat, Sl.dat, cln, clns, dats, mTest, mChain, mAnd, mOr, mNot, mVal, mAndV, mOrV, mNotV, mIfE, mNeg, mTup, mLst, mLstF, mFr, mNil, mCons, mCall, mCallF, callM, argSs, argS, apart, apartE, updE, backAt, conv, mIs, mIsM, BT.is, mCb, mCbF, fLen, fList, fTuple, fInt, fI, mPart, mNoPart, mSl, fSl, mRev, fRev, mSetIx, mMethG, mMeth, fClear, fIsN, fNotN, isNo, asgOk, slotOwn, Sl.put, Sl.mut, Sl.isO, bind_ok, bind_bad, bindS_ok, bindS_bad, then_nx, then_rt, then_bad, if_S, if_B, if_BS, ite_self, List.getElem?_cons_zero, List.getElem?_cons_succ, List.length_cons, List.length_nil, List.map_cons, List.map_nil, List.replicate, List.cons_append, List.nil_append, List.set_cons_zero, List.set_cons_succ, List.mapIdx_cons, List.mapIdx_nil, List.zip_cons_cons, List.zip_nil_right, List.zip_nil_left, List.all_cons, List.all_nil, List.any_cons, List.any_nil, List.headD_cons, List.headD_nil, List.tail_cons, List.tail_nil, Nat.reduceAdd, Nat.reduceSub, Nat.reduceEqDiff, Nat.reduceLeDiff, if_true, if_false, ite_true, ite_false, Bool.false_eq_true, decide_true, decide_false, Bool.and_true, Bool.true_and, Bool.and_false, Bool.false_and, Bool.or_true, Bool.true_or, Bool.or_false, Bool.false_or, Bool.not_true, Bool.not_false, Option.map_some, Option.map_none, Option.bind_some, Option.or_some, Option.or_none, Option.none_or, Option.some_or, and_self, and_true, true_and, ne_eq, not_true_eq_false, not_false_eq_true, List.isEmpty_cons, List.isEmpty_nil, Int.cast_ofNat_Int, beq_self_eq_true, Int.reduceBEq, Int.reduceLT, Int.reduceLE, Int.reduceAdd, Int.reduceSub, Int.reduceEq, Int.reduceNeg, reduceIte, eqA_int, neA_int, eqA_bool, neA_bool, eqA_str, neA_str, eqA_tupE, neA_lstE, fIx_t0, fIx_t1, fIx_l0, fIx_l1, fIx_l2, addI_int, Int.natCast_zero, Int.natCast_one, Bool.not_eq_true, Bool.not_eq_false, m__law_same, mb__law_same]
    | int i => simp only [mFn, mDef, entry, ent, outs, outS, mSeq, mNext, mPass, mExpr, mRet, mRetF, mRetN, mRetO, mIf, mSet, mSetF, mSetL, mAsg, gN, gNl, gCn, gT, mPar, mParFF, mParFV, mParVF, mName, mNameF, mC, mBin, fin1, dat, Sl.dat, cln, clns, dats, mTest, mChain, mAnd, mOr, mNot, mVal, mAndV, mOrV, mNotV, mIfE, mNeg, mTup, mLst, mLstF, mFr, mNil, mCons, mCall, mCallF, callM, argSs, argS, apart, apartE, updE, backAt, conv, mIs, mIsM, BT.is, mCb, mCbF, fLen, fList, fTuple, fInt, fI, mPart, mNoPart, mSl, fSl, mRev, fRev, mSetIx, mMethG, mMeth, fClear, fIsN, fNotN, isNo, asgOk, slotOwn, Sl.put, Sl.mut, Sl.isO, bind_ok, bind_bad, bindS_ok, bindS_bad, then_nx, then_rt, then_bad, if_S, if_B, if_BS, ite_self, List.getElem?_cons_zero, List.getElem?_cons_succ, List.length_cons, List.length_nil, List.map_cons, List.map_nil, List.replicate, List.cons_append, List.nil_append, List.set_cons_zero, List.set_cons_succ, List.mapIdx_cons, List.mapIdx_nil, List.zip_cons_cons, List.zip_nil_right, List.zip_nil_left, List.all_cons, List.all_nil, List.any_cons, List.any_nil, List.headD_cons, List.headD_nil, List.tail_cons, List.tail_nil, Nat.reduceAdd, Nat.reduceSub, Nat.reduceEqDiff, Nat.reduceLeDiff, if_true, if_false, ite_true, ite_false, Bool.false_eq_true, decide_true, decide_false, Bool.and_true, Bool.true_and, Bool.and_false, Bool.false_and, Bool.or_true, Bool.true_or, Bool.or_false, Bool.false_or, Bool.not_true, Bool.not_false, Option.map_some, Option.map_none, Option.bind_some, Option.or_some, Option.or_none, Option.none_or, Option.some_or, and_self, and_true, true_and, ne_eq, not_true_eq_false, not_false_eq_true, List.isEmpty_cons, List.isEmpty_nil, Int.cast_ofNat_Int, beq_self_eq_true, Int.reduceBEq, Int.reduceLT, Int.reduceLE, Int.reduceAdd, Int.reduceSub, Int.reduceEq, Int.reduceNeg, reduceIte, eqA_int, neA_int, eqA_bool, neA_bool, eqA_str, neA_str, eqA_tupE, neA_lstE, fIx_t0, fIx_t1, fIx_l0, fIx_l1, fIx_l2, addI_int, Int.natCast_zero, Int.natCast_one, Bool.not_eq_true, Bool.not_eq_false, m__law_same, mb__law_same]
    | str i => simp only [mFn, mDef, entry, ent, outs, outS, mSeq, mNext, mPass, mExpr, mRet, mRetF, mRetN, mRetO, mIf, mSet, mSetF, mSetL, mAsg, gN, gNl, gCn, gT, mPar, mParFF, mParFV, mParVF, mName, mNameF, mC, mBin, fin1, dat, Sl.dat, cln, clns, dats, mTest, mChain, mAnd, mOr, mNot, mVal, mAndV, mOrV, mNotV, mIfE, mNeg, mTup, mLst, mLstF, mFr, mNil, mCons, mCall, mCallF, callM, argSs, argS, apart, apartE, updE, backAt, conv, mIs, mIsM, BT.is, mCb, mCbF, fLen, fList, fTuple, fInt, fI, mPart, mNoPart, mSl, fSl, mRev, fRev, mSetIx, mMethG, mMeth, fClear, fIsN, fNotN, isNo, asgOk, slotOwn, Sl.put, Sl.mut, Sl.isO, bind_ok, bind_bad, bindS_ok, bindS_bad, then_nx, then_rt, then_bad, if_S, if_B, if_BS, ite_self, List.getElem?_cons_zero, List.getElem?_cons_succ, List.length_cons, List.length_nil, List.map_cons, List.map_nil, List.replicate, List.cons_append, List.nil_append, List.set_cons_zero, List.set_cons_succ, List.mapIdx_cons, List.mapIdx_nil, List.zip_cons_cons, List.zip_nil_right, List.zip_nil_left, List.all_cons, List.all_nil, List.any_cons, List.any_nil, List.headD_cons, List.headD_nil, List.tail_cons, List.tail_nil, Nat.reduceAdd, Nat.reduceSub, Nat.reduceEqDiff, Nat.reduceLeDiff, if_true, if_false, ite_true, ite_false, Bool.false_eq_true, decide_true, decide_false, Bool.and_true, Bool.true_and, Bool.and_false, Bool.false_and, Bool.or_true, Bool.true_or, Bool.or_false, Bool.false_or, Bool.not_true, Bool.not_false, Option.map_some, Option.map_none, Option.bind_some, Option.or_some, Option.or_none, Option.none_or, Option.some_or, and_self, and_true, true_and, ne_eq, not_true_eq_false, not_false_eq_true, List.isEmpty_cons, List.isEmpty_nil, Int.cast_ofNat_Int, beq_self_eq_true, Int.reduceBEq, Int.reduceLT, Int.reduceLE, Int.reduceAdd, Int.reduceSub, Int.reduceEq, Int.reduceNeg, reduceIte, eqA_int, neA_int, eqA_bool, neA_bool, eqA_str, neA_str, eqA_tupE, neA_lstE, fIx_t0, fIx_t1, fIx_l0, fIx_l1, fIx_l2, addI_int, Int.natCast_zero, Int.natCast_one, Bool.not_eq_true, Bool.not_eq_false, m__law_same, mb__law_same]
    | dict kvs => simp [PyData.hasDict] at hd
    | list ds =>
      simp only [PyData.depth] at h
      simp only [PyData.bulk] at hb
      simp only [PyData.hasDict] at hd
      have hl := len_bulk ds
      have e := same_lc (m__law_same n) (.list ds) ds (by omega) (fun x hx => same_eq n x (by have := depthAll_le.mp (Nat.le_refl _) x hx; omega) (by have := bulkAll_mem hx; omega) (hasDict_mem hd hx)) rfl
      simp only [mFn, mDef, entry, ent, outs, outS, mSeq, mNext, mPass, mExpr, mRet, mRetF, mRetN, mRetO, mIf, mSet, mSetF, mSetL, mAsg, gN, gNl, gCn, gT, mPar, mParFF, mParFV, mParVF, mName, mNameF, mC, mBin, fin1, dat, Sl.dat, cln, clns, dats, mTest, mChain, mAnd, mOr, mNot, mVal, mAndV, mOrV, mNotV, mIfE, mNeg, mTup, mLst, mLstF, mFr, mNil, mCons, mCall, mCallF, callM, argSs, argS, apart, apartE, updE, backAt, conv, mIs, mIsM, BT.is, mCb, mCbF, fLen, fList, fTuple, fInt, fI, mPart, mNoPart, mSl, fSl, mRev, fRev, mSetIx, mMethG, mMeth, fClear, fIsN, fNotN, isNo, asgOk, slotOwn, Sl.put, Sl.mut, Sl.isO, bind_ok, bind_bad, bindS_ok, bindS_bad, then_nx, then_rt, then_bad, if_S, if_B, if_BS, ite_self, List.getElem?_cons_zero, List.getElem?_cons_succ, List.length_cons, List.length_nil, List.map_cons, List.map_nil, List.replicate, List.cons_append, List.nil_append, List.set_cons_zero, List.set_cons_succ, List.mapIdx_cons, List.mapIdx_nil, List.zip_cons_cons, List.zip_nil_right, List.zip_nil_left, List.all_cons, List.all_nil, List.any_cons, List.any_nil, List.headD_cons, List.headD_nil, List.tail_cons, List.tail_nil, Nat.reduceAdd, Nat.reduceSub, Nat.reduceEqDiff, Nat.reduceLeDiff, if_true, if_false, ite_true, ite_false, Bool.false_eq_true, decide_true, decide_false, Bool.and_true, Bool.true_and, Bool.and_false, Bool.false_and, Bool.or_true, Bool.true_or, Bool.or_false, Bool.false_or, Bool.not_true, Bool.not_false, Option.map_some, Option.map_none, Option.bind_some, Option.or_some, Option.or_none, Option.none_or, Option.some_or, and_self, and_true, true_and, ne_eq, not_true_eq_false, not_false_eq_true, List.isEmpty_cons, List.isEmpty_nil, Int.cast_ofNat_Int, beq_self_eq_true, Int.reduceBEq, Int.reduceLT, Int.reduceLE, Int.reduceAdd, Int.reduceSub, Int.reduceEq, Int.reduceNeg, reduceIte, eqA_int, neA_int, eqA_bool, neA_bool, eqA_str, neA_str, eqA_tupE, neA_lstE, fIx_t0, fIx_t1, fIx_l0, fIx_l1, fIx_l2, addI_int, Int.natCast_zero, Int.natCast_one, Bool.not_eq_true, Bool.not_eq_false, m__law_same, mb__law_same, e, in_trues]
    | tuple ds =>
      simp only [PyData.depth] at h
      simp only [PyData.bulk] at hb
      simp only [PyData.hasDict] at hd
      have hl := len_bulk ds
      have e := same_lc (m__law_same n) (.tuple ds) ds (by omega) (fun x hx => same_eq n x (by have := depthAll_le.mp (Nat.le_refl _) x hx; omega) (by have := bulkAll_mem hx; omega) (hasDict_mem hd hx)) rfl
      simp only [mFn, mDef, entry, ent, outs, outS, mSeq, mNext, mPass, mExpr, mRet, mRetF, mRetN, mRetO, mIf, mSet, mSetF, mSetL, mAsg, gN, gNl, gCn, gT, mPar, mParFF, mParFV, mParVF, mName, mNameF, mC, mBin, fin1, dat, Sl.dat, cln, clns, dats, mTest, mChain, mAnd, mOr, mNot, mVal, mAndV, mOrV, mNotV, mIfE, mNeg, mTup, mLst, mLstF, mFr, mNil, mCons, mCall, mCallF, callM, argSs, argS, apart, apartE, updE, backAt, conv, mIs, mIsM, BT.is, mCb, mCbF, fLen, fList, fTuple, fInt, fI, mPart, mNoPart, mSl, fSl, mRev, fRev, mSetIx, mMethG, mMeth, fClear, fIsN, fNotN, isNo, asgOk, slotOwn, Sl.put, Sl.mut, Sl.isO, bind_ok, bind_bad, bindS_ok, bindS_bad, then_nx, then_rt, then_bad, if_S, if_B, if_BS, ite_self, List.getElem?_cons_zero, List.getElem?_cons_succ, List.length_cons, List.length_nil, List.map_cons, List.map_nil, List.replicate, List.cons_append, List.nil_append, List.set_cons_zero, List.set_cons_succ, List.mapIdx_cons, List.mapIdx_nil, List.zip_cons_cons, List.zip_nil_right, List.zip_nil_left, List.all_cons, List.all_nil, List.any_cons, List.any_nil, List.headD_cons, List.headD_nil, List.tail_cons, List.tail_nil, Nat.reduceAdd, Nat.reduceSub, Nat.reduceEqDiff, Nat.reduceLeDiff, if_true, if_false, ite_true, ite_false, Bool.false_eq_true, decide_true, decide_false, Bool.and_true, Bool.true_and, Bool.and_false, Bool.false_and, Bool.or_true, Bool.true_or, Bool.or_false, Bool.false_or, Bool.not_true, Bool.not_false, Option.map_some, Option.map_none, Option.bind_some, Option.or_some, Option.or_none, Option.none_or, Option.some_or, and_self, and_true, true_and, ne_eq, not_true_eq_false, not_false_eq_true, List.isEmpty_cons, List.isEmpty_nil, Int.cast_ofNat_Int, beq_self_eq_true, Int.reduceBEq, Int.reduceLT, Int.reduceLE, Int.reduceAdd, Int.reduceSub, Int.reduceEq, Int.reduceNeg, reduceIte, eqA_int, neA_int, eqA_bool, neA_bool, eqA_str, neA_str, eqA_tupE, neA_lstE, fIx_t0, fIx_t1, fIx_l0, fIx_l1, fIx_l2, addI_int, Int.natCast_zero, Int.natCast_one, Bool.not_eq_true, Bool.not_eq_false, m__law_same, mb__law_same, e, in_trues]
end DL
namespace DL
open PySem L2
open PyProof.Rows hiding St
theorem set_ints (cs : List Int) (j : Nat) (v : Int) : (cs.map PyData.int).set j (.int v) = (cs.set j v).map .int := by rw [List.map_set]
theorem fIx_ints {cs : List Int} {j : Int} (h0 : 0 ≤ j) (h1 : j < cs.length) : ∃ z : Int, fIx (.list (cs.map .int)) (.int j) = some (.int z) ∧ ixN (cs.map PyData.int).length j = some j.toNat := by
  have hl : j.toNat < cs.length := by omega
  have e : ixN (cs.map PyData.int).length j = some j.toNat := by rw [List.length_map]; unfold ixN; rw [if_pos h0, if_pos h1]
  refine ⟨cs[j.toNat], ?_, e⟩
  show atI _ _ = _
  unfold atI
  rw [e]
  show (cs.map PyData.int)[j.toNat]? = _
  rw [List.getElem?_map, List.getElem?_eq_getElem hl]
  rfl
theorem enum_ints (ws : List Int) (i : Nat) (d : PyData) (h : (enumD 0 (ws.map .int))[i]? = some d) : ∃ z : Int, d = .tuple [.int (i : Nat), .int z] := by
  have hl : i < (enumD 0 (ws.map PyData.int)).length := (List.getElem?_eq_some_iff.mp h).1
  rw [enumD_len, List.length_map] at hl
  have e := enumD_get (ws.map .int) 0 i (.int ws[i]) (by rw [List.getElem?_map, List.getElem?_eq_getElem hl]; rfl)
  rw [h] at e
  cases e
  exact ⟨_, by rw [Nat.zero_add]; rfl⟩
theorem cut_map (zs : List Int) (lo hi : Option Int) : ∃ ws : List Int, cutD (zs.map .int) lo hi = ws.map .int ∧ ws = (zs.drop (HT.sIx zs.length 0 lo)).take (HT.sIx zs.length zs.length hi - HT.sIx zs.length 0 lo) := by
  refine ⟨_, ?_, rfl⟩
  unfold cutD
  rw [List.length_map, List.map_take, List.map_drop]
theorem six12 (n d : Nat) : HT.sIx n d (some 12) = min 12 n := HT.sIx_nat n d 12
theorem open_ok (zs : List Int) (hz : zs.length ≤ 63) : ∃ cells : List Int, m__law_open [.cl (intsD zs)] = .ok (pen cells 0 0) true [.cl (intsD zs)] := by
  obtain ⟨c0, e0, h0⟩ := cut_map zs none (some 12)
  obtain ⟨c1, e1, h1⟩ := cut_map zs (some 12) (some 63)
  have l0 : c1 ≠ [] → c0.length = 12 := by
    intro hne
    have hn : 12 < zs.length := by
      apply Nat.lt_of_not_le
      intro hle
      apply hne
      rw [h1, six12, Nat.min_eq_right hle, List.drop_length, List.take_nil]
    rw [h0, HT.sIx_none, six12, List.drop_zero, List.length_take]
    omega
  obtain ⟨env, hf, cs, s2, s3, he, _, _, _⟩ := forM_ok (g := gT 2 (gCn (gN 2) (gCn (gN 3) gNl))) (body := mSetIx 1 (mBin fAdd (mBin fIx (mName 1) (mBin fMod (mCb fInt (mCons (mName 2) mNil)) (mC (.int 12)))) (mName 3)) (mBin fMod (mCb fInt (mCons (mName 2) mNil)) (mC (.int 12)))) (ds := enumD 0 (c1.map .int))
    (fun i env => ∃ cs s2 s3, env = [.cl (intsD zs), .ow (.list (cs.map .int)), s2, s3] ∧ (s2 = .un ∨ ∃ d, s2 = .cl d) ∧ (s3 = .un ∨ ∃ d, s3 = .cl d) ∧ (c1 ≠ [] → cs.length = 12)) (fun i d env hd ⟨cs, s2, s3, he, h2, h3, hl⟩ => by
      obtain ⟨z, rfl⟩ := enum_ints c1 i d hd
      subst he
      have hne : c1 ≠ [] := by rintro rfl; simp [enumD] at hd
      have hl := hl hne
      obtain ⟨f1, f2⟩ := fmod_in (a := ((i : Nat) : Int)) (b := 12) (by decide)
      obtain ⟨y, ey, ex⟩ := fIx_ints (cs := cs) f1 (by rw [hl]; exact f2)
      refine ⟨[.cl (intsD zs), .ow (.list (cs.map .int)), .cl (.int (i : Nat)), .cl (.int z)], ?_, [.cl (intsD zs), .ow (.list ((cs.set (((i : Nat) : Int).fmod 12).toNat (y + z)).map .int)), .cl (.int (i : Nat)), .cl (.int z)], ?_, ?_⟩
      · rcases h2 with rfl | ⟨d2, rfl⟩ <;> rcases h3 with rfl | ⟨d3, rfl⟩ <;> rfl
      · left
        simp only [mFn, mDef, entry, ent, outs, outS, mSeq, mNext, mPass, mExpr, mRet, mRetF, mRetN, mRetO, mIf, mSet, mSetF, mSetL, mAsg, gN, gNl, gCn, gT, mPar, mParFF, mParFV, mParVF, mName, mNameF, mC, mBin, fin1, dat, Sl.dat, cln, clns, dats, mTest, mChain, mAnd, mOr, mNot, mVal, mAndV, mOrV, mNotV, mIfE, mNeg, mTup, mLst, mLstF, mFr, mNil, mCons, mCall, mCallF, callM, argSs, argS, apart, apartE, updE, backAt, conv, mIs, mIsM, BT.is, mCb, mCbF, fLen, fList, fTuple, fInt, fI, mPart, mNoPart, mSl, fSl, mRev, fRev, mSetIx, mMethG, mMeth, fClear, fIsN, fNotN, isNo, asgOk, slotOwn, Sl.put, Sl.mut, Sl.isO, bind_ok, bind_bad, bindS_ok, bindS_bad, then_nx, then_rt, then_bad, if_S, if_B, if_BS, ite_self, List.getElem?_cons_zero, List.getElem?_cons_succ, List.length_cons, List.length_nil, List.map_cons, List.map_nil, List.replicate, List.cons_append, List.nil_append, List.set_cons_zero, List.set_cons_succ, List.mapIdx_cons, List.mapIdx_nil, List.zip_cons_cons, List.zip_nil_right, List.zip_nil_left, List.all_cons, List.all_nil, List.any_cons, List.any_nil, List.headD_cons, List.headD_nil, List.tail_cons, List.tail_nil, Nat.reduceAdd, Nat.reduceSub, Nat.reduceEqDiff, Nat.reduceLeDiff, if_true, if_false, ite_true, ite_false, Bool.false_eq_true, decide_true, decide_false, Bool.and_true, Bool.true_and, Bool.and_false, Bool.false_and, Bool.or_true, Bool.true_or, Bool.or_false, Bool.false_or, Bool.not_true, Bool.not_false, Option.map_some, Option.map_none, Option.bind_some, Option.or_some, Option.or_none, Option.none_or, Option.some_or, and_self, and_true, true_and, ne_eq, not_true_eq_false, not_false_eq_true, List.isEmpty_cons, List.isEmpty_nil, Int.cast_ofNat_Int, beq_self_eq_true, Int.reduceBEq, Int.reduceLT, Int.reduceLE, Int.reduceAdd, Int.reduceSub, Int.reduceEq, Int.reduceNeg, reduceIte, eqA_int, neA_int, eqA_bool, neA_bool, eqA_str, neA_str, eqA_tupE, neA_lstE, fIx_t0, fIx_t1, fIx_l0, fIx_l1, fIx_l2, addI_int, Int.natCast_zero, Int.natCast_one, Bool.not_eq_true, Bool.not_eq_false, fMod, ey, ex, fAdd, set_ints]
      · exact ⟨_, _, _, rfl, .inr ⟨_, rfl⟩, .inr ⟨_, rfl⟩, fun _ => by rw [List.length_set]; exact hl⟩) (env := [.cl (intsD zs), .ow (.list (c0.map .int)), .un, .un]) ⟨c0, .un, .un, rfl, .inl rfl, .inl rfl, l0⟩
  refine ⟨cs, ?_⟩
  subst he
  unfold intsD
  unfold intsD at hf
  simp only [mFn, mDef, entry, ent, outs, outS, mSeq, mNext, mPass, mExpr, mRet, mRetF, mRetN, mRetO, mIf, mSet, mSetF, mSetL, mAsg, gN, gNl, gCn, gT, mPar, mParFF, mParFV, mParVF, mName, mNameF, mC, mBin, fin1, dat, Sl.dat, cln, clns, dats, mTest, mChain, mAnd, mOr, mNot, mVal, mAndV, mOrV, mNotV, mIfE, mNeg, mTup, mLst, mLstF, mFr, mNil, mCons, mCall, mCallF, callM, argSs, argS, apart, apartE, updE, backAt, conv, mIs, mIsM, BT.is, mCb, mCbF, fLen, fList, fTuple, fInt, fI, mPart, mNoPart, mSl, fSl, mRev, fRev, mSetIx, mMethG, mMeth, fClear, fIsN, fNotN, isNo, asgOk, slotOwn, Sl.put, Sl.mut, Sl.isO, bind_ok, bind_bad, bindS_ok, bindS_bad, then_nx, then_rt, then_bad, if_S, if_B, if_BS, ite_self, List.getElem?_cons_zero, List.getElem?_cons_succ, List.length_cons, List.length_nil, List.map_cons, List.map_nil, List.replicate, List.cons_append, List.nil_append, List.set_cons_zero, List.set_cons_succ, List.mapIdx_cons, List.mapIdx_nil, List.zip_cons_cons, List.zip_nil_right, List.zip_nil_left, List.all_cons, List.all_nil, List.any_cons, List.any_nil, List.headD_cons, List.headD_nil, List.tail_cons, List.tail_nil, Nat.reduceAdd, Nat.reduceSub, Nat.reduceEqDiff, Nat.reduceLeDiff, if_true, if_false, ite_true, ite_false, Bool.false_eq_true, decide_true, decide_false, Bool.and_true, Bool.true_and, Bool.and_false, Bool.false_and, Bool.or_true, Bool.true_or, Bool.or_false, Bool.false_or, Bool.not_true, Bool.not_false, Option.map_some, Option.map_none, Option.bind_some, Option.or_some, Option.or_none, Option.none_or, Option.some_or, and_self, and_true, true_and, ne_eq, not_true_eq_false, not_false_eq_true, List.isEmpty_cons, List.isEmpty_nil, Int.cast_ofNat_Int, beq_self_eq_true, Int.reduceBEq, Int.reduceLT, Int.reduceLE, Int.reduceAdd, Int.reduceSub, Int.reduceEq, Int.reduceNeg, reduceIte, eqA_int, neA_int, eqA_bool, neA_bool, eqA_str, neA_str, eqA_tupE, neA_lstE, fIx_t0, fIx_t1, fIx_l0, fIx_l1, fIx_l2, addI_int, Int.natCast_zero, Int.natCast_one, Bool.not_eq_true, Bool.not_eq_false, m__law_open, mb__law_open, e0, mFor, mEnum, walks, walkable, e1, hf]
  rfl
end DL
namespace DL
open PySem L2
open PyProof.Rows hiding St
/-! ## trees -/
inductive Tr where
  | lf (i : Int)
  | nd (l r : Tr)
def Tr.enc : Tr → PyData
  | .lf i => .int i
  | .nd l r => .tuple [l.enc, r.enc]
def Tr.sz : Tr → Nat
  | .lf _ => 1
  | .nd l r => l.sz + r.sz
def Tr.Ok : Tr → Prop
  | .lf i => 0 ≤ i ∧ i < 1000
  | .nd l r => l.Ok ∧ r.Ok
theorem Tr.pos : ∀ t : Tr, 0 < t.sz
  | .lf _ => Nat.one_pos
  | .nd l r => by have := l.pos; have := r.pos; simp only [Tr.sz]; omega
/-- the leaves, from the first to the last -/
def Tr.lv : Tr → List Int
  | .lf i => [i]
  | .nd l r => l.lv ++ r.lv
theorem lv_len : ∀ t : Tr, t.lv.length = t.sz
  | .lf _ => rfl
  | .nd l r => by simp only [Tr.lv, Tr.sz, List.length_append, lv_len l, lv_len r]
theorem ok_lv : ∀ (t : Tr), (∀ z ∈ t.lv, 0 ≤ z ∧ z < 1000) → t.Ok
  | .lf i, h => h i (by simp [Tr.lv])
  | .nd l r, h => ⟨ok_lv l fun z m => h z (List.mem_append_left _ m), ok_lv r fun z m => h z (List.mem_append_right _ m)⟩
theorem small_log {i : Int} (h : 0 ≤ i ∧ i < 1000) : i.natAbs.log2 < 1920 := by
  by_cases z : i.natAbs = 0
  · rw [z]; decide
  · have h1 : i.natAbs < 2 ^ 10 := by omega
    have := (Nat.log2_lt z).mpr h1
    omega
theorem Tr.good : ∀ t : Tr, t.Ok → Good (2 * t.sz) (t.sz - 1) t.enc
  | .lf i, h => (good_int (small_log h)).mono (by omega) (by omega)
  | .nd l r, h => by
    have hl := l.good h.1
    have hr := r.good h.2
    have pl := l.pos
    have pr := r.pos
    have e1 : ∀ t : Tr, t.enc.bulk + 2 ≤ 2 * t.sz := fun t => by
      induction t with
      | lf i => simp only [Tr.enc, PyData.bulk, Tr.sz]; omega
      | nd l r il ir => simp only [Tr.enc, PyData.bulk, PyData.bulkAll, Tr.sz]; omega
    have b1 := e1 l
    have b2 := e1 r
    have g1 : Good l.enc.bulk (l.sz + r.sz - 2) l.enc := ⟨hl.nice, Nat.le_refl _, Nat.le_trans hl.depth (by omega)⟩
    have g2 : Good r.enc.bulk (l.sz + r.sz - 2) r.enc := ⟨hr.nice, Nat.le_refl _, Nat.le_trans hr.depth (by omega)⟩
    refine (Good.tuple (GoodA.cons g1 (GoodA.cons g2 GoodA.nil))).mono ?_ ?_
    · simp only [Tr.sz]; omega
    · simp only [Tr.sz]; omega
theorem take_map (zs : List Int) (k : Nat) : (zs.map PyData.int).take k = (zs.take k).map .int := by rw [List.map_take]
theorem drop_map (zs : List Int) (k : Nat) : (zs.map PyData.int).drop k = (zs.drop k).map .int := by rw [List.map_drop]
theorem div2 (i : Int) : fDiv (.int i) (.int 2) = some (.int (i.fdiv 2)) := rfl
theorem grown_p : ∀ (f : Nat) {n : Nat} {P : PyData} (_ : PenOk n P) (zs : List Int) (s : Sl) (_ : s = .cl (.list (zs.map .int)) ∨ s = .lw (.list (zs.map .int))) (w : Int) (_ : w = 0 ∨ w = 1 ∨ w = 2) (_ : zs ≠ []) (_ : zs.length ≤ f) (_ : n + zs.length ≤ 268435456),
    ∃ (t : Tr) (P' : PyData), m__law_grown f [.ow P, s, .cl (.int w)] = .ok t.enc false [.ow P', s, .cl (.int w)] ∧ t.lv = zs ∧ PenOk (n + zs.length - 1) P'
  | 0, _, _, _, zs, _, _, _, _, hne, hl, _ => absurd (List.length_pos_iff.mpr hne) (by omega)
  | f + 1, n, P, hP, zs, s, hs, w, hw, hne, hl, hn => by
    match zs, hne, hl, hn, hs with
    | [z], _, _, _, hs =>
      refine ⟨.lf z, P, ?_, rfl, hP.mono (by simp)⟩
      rcases hs with rfl | rfl
      · simp only [mFn, mDef, entry, ent, outs, outS, mSeq, mNext, mPass, mExpr, mRet, mRetF, mRetN, mRetO, mIf, mSet, mSetF, mSetL, mAsg, gN, gNl, gCn, gT, mPar, mParFF, mParFV, mParVF, mName, mNameF, mC, mBin, fin1, dat, Sl.dat, cln, clns, dats, mTest, mChain, mAnd, mOr, mNot, mVal, mAndV, mOrV, mNotV, mIfE, mNeg, mTup, mLst, mLstF, mFr, mNil, mCons, mCall, mCallF, callM, argSs, argS, apart, apartE, updE, backAt, conv, mIs, mIsM, BT.is, mCb, mCbF, fLen, fList, fTuple, fInt, fI, mPart, mNoPart, mSl, fSl, mRev, fRev, mSetIx, mMethG, mMeth, fClear, fIsN, fNotN, isNo, asgOk, slotOwn, Sl.put, Sl.mut, Sl.isO, bind_ok, bind_bad, bindS_ok, bindS_bad, then_nx, then_rt, then_bad, if_S, if_B, if_BS, ite_self, List.getElem?_cons_zero, List.getElem?_cons_succ, List.length_cons, List.length_nil, List.map_cons, List.map_nil, List.replicate, List.cons_append, List.nil_append, List.set_cons_zero, List.set_cons_succ, List.mapIdx_cons, List.mapIdx_nil, List.zip_cons_cons, List.zip_nil_right, List.zip_nil_left, List.all_cons, List.all_nil, List.any_cons, List.any_nil, List.headD_cons, List.headD_nil, List.tail_cons, List.tail_nil, Nat.reduceAdd, Nat.reduceSub, Nat.reduceEqDiff, Nat.reduceLeDiff, if_true, if_false, ite_true, ite_false, Bool.false_eq_true, decide_true, decide_false, Bool.and_true, Bool.true_and, Bool.and_false, Bool.false_and, Bool.or_true, Bool.true_or, Bool.or_false, Bool.false_or, Bool.not_true, Bool.not_false, Option.map_some, Option.map_none, Option.bind_some, Option.or_some, Option.or_none, Option.none_or, Option.some_or, and_self, and_true, true_and, ne_eq, not_true_eq_false, not_false_eq_true, List.isEmpty_cons, List.isEmpty_nil, Int.cast_ofNat_Int, beq_self_eq_true, Int.reduceBEq, Int.reduceLT, Int.reduceLE, Int.reduceAdd, Int.reduceSub, Int.reduceEq, Int.reduceNeg, reduceIte, eqA_int, neA_int, eqA_bool, neA_bool, eqA_str, neA_str, eqA_tupE, neA_lstE, fIx_t0, fIx_t1, fIx_l0, fIx_l1, fIx_l2, addI_int, Int.natCast_zero, Int.natCast_one, Bool.not_eq_true, Bool.not_eq_false, m__law_grown, mb__law_grown, Tr.enc]
      · simp only [mFn, mDef, entry, ent, outs, outS, mSeq, mNext, mPass, mExpr, mRet, mRetF, mRetN, mRetO, mIf, mSet, mSetF, mSetL, mAsg, gN, gNl, gCn, gT, mPar, mParFF, mParFV, mParVF, mName, mNameF, mC, mBin, fin1, dat, Sl.dat, cln, clns, dats, mTest, mChain, mAnd, mOr, mNot, mVal, mAndV, mOrV, mNotV, mIfE, mNeg, mTup, mLst, mLstF, mFr, mNil, mCons, mCall, mCallF, callM, argSs, argS, apart, apartE, updE, backAt, conv, mIs, mIsM, BT.is, mCb, mCbF, fLen, fList, fTuple, fInt, fI, mPart, mNoPart, mSl, fSl, mRev, fRev, mSetIx, mMethG, mMeth, fClear, fIsN, fNotN, isNo, asgOk, slotOwn, Sl.put, Sl.mut, Sl.isO, bind_ok, bind_bad, bindS_ok, bindS_bad, then_nx, then_rt, then_bad, if_S, if_B, if_BS, ite_self, List.getElem?_cons_zero, List.getElem?_cons_succ, List.length_cons, List.length_nil, List.map_cons, List.map_nil, List.replicate, List.cons_append, List.nil_append, List.set_cons_zero, List.set_cons_succ, List.mapIdx_cons, List.mapIdx_nil, List.zip_cons_cons, List.zip_nil_right, List.zip_nil_left, List.all_cons, List.all_nil, List.any_cons, List.any_nil, List.headD_cons, List.headD_nil, List.tail_cons, List.tail_nil, Nat.reduceAdd, Nat.reduceSub, Nat.reduceEqDiff, Nat.reduceLeDiff, if_true, if_false, ite_true, ite_false, Bool.false_eq_true, decide_true, decide_false, Bool.and_true, Bool.true_and, Bool.and_false, Bool.false_and, Bool.or_true, Bool.true_or, Bool.or_false, Bool.false_or, Bool.not_true, Bool.not_false, Option.map_some, Option.map_none, Option.bind_some, Option.or_some, Option.or_none, Option.none_or, Option.some_or, and_self, and_true, true_and, ne_eq, not_true_eq_false, not_false_eq_true, List.isEmpty_cons, List.isEmpty_nil, Int.cast_ofNat_Int, beq_self_eq_true, Int.reduceBEq, Int.reduceLT, Int.reduceLE, Int.reduceAdd, Int.reduceSub, Int.reduceEq, Int.reduceNeg, reduceIte, eqA_int, neA_int, eqA_bool, neA_bool, eqA_str, neA_str, eqA_tupE, neA_lstE, fIx_t0, fIx_t1, fIx_l0, fIx_l1, fIx_l2, addI_int, Int.natCast_zero, Int.natCast_one, Bool.not_eq_true, Bool.not_eq_false, m__law_grown, mb__law_grown, Tr.enc]
    | z1 :: z2 :: zs, _, hl, hn, hs =>
      simp only [List.length_cons] at hl hn
      have ne1 : (((zs.length + 1 + 1 : Nat) : Int) == 1) = false := by rw [beq_eq_false_iff_ne]; omega
      obtain ⟨v, P1, e1, v0, v1, p1⟩ := take_p hP (a := ((zs.length + 1 + 1 : Nat) : Int) - 1) (by omega) (by omega) (by omega)
      -- where it is parted
      obtain ⟨m, hm, m1, m2⟩ : ∃ m : Nat, fIx (.list [.int (((zs.length + 1 + 1 : Nat) : Int).fdiv 2), .int (((zs.length + 1 + 1 : Nat) : Int) - 1), .int (1 + v)]) (.int w) = some (.int (m : Nat)) ∧ 1 ≤ m ∧ m ≤ zs.length + 1 := by
        rcases hw with rfl | rfl | rfl
        · refine ⟨(zs.length + 2) / 2, ?_, by omega, by omega⟩
          rw [fIx_l0]
          congr 2
        · refine ⟨zs.length + 1, ?_, by omega, by omega⟩
          rw [fIx_l1]
          congr 2
          omega
        · obtain ⟨v, rfl⟩ := Int.eq_ofNat_of_zero_le v0
          refine ⟨1 + v, ?_, by omega, by omega⟩
          rw [fIx_l2]
          congr 2
      have lt : ((z1 :: z2 :: zs).take m).length = m := by rw [List.length_take]; simp only [List.length_cons]; omega
      have ld : ((z1 :: z2 :: zs).drop m).length = zs.length + 2 - m := by rw [List.length_drop]; simp only [List.length_cons]
      obtain ⟨ta, P2, e2, sa, p2⟩ := grown_p f p1 ((z1 :: z2 :: zs).take m) _ (.inl rfl) w hw (by rw [← List.length_pos_iff, lt]; omega) (by rw [lt]; omega) (by rw [lt]; omega)
      obtain ⟨tb, P3, e3, sb, p3⟩ := grown_p f p2 ((z1 :: z2 :: zs).drop m) _ (.inl rfl) w hw (by rw [← List.length_pos_iff, ld]; omega) (by rw [ld]; omega) (by rw [lt, ld]; omega)
      rw [← take_map] at e2
      rw [← drop_map] at e3
      refine ⟨.nd ta tb, P3, ?_, by simp only [Tr.lv, sa, sb]; exact List.take_append_drop _ _, p3.mono (by rw [lt, ld]; simp only [List.length_cons]; omega)⟩
      simp only [List.map_cons] at e2 e3
      rcases hs with rfl | rfl
      · simp only [mFn, mDef, entry, ent, outs, outS, mSeq, mNext, mPass, mExpr, mRet, mRetF, mRetN, mRetO, mIf, mSet, mSetF, mSetL, mAsg, gN, gNl, gCn, gT, mPar, mParFF, mParFV, mParVF, mName, mNameF, mC, mBin, fin1, dat, Sl.dat, cln, clns, dats, mTest, mChain, mAnd, mOr, mNot, mVal, mAndV, mOrV, mNotV, mIfE, mNeg, mTup, mLst, mLstF, mFr, mNil, mCons, mCall, mCallF, callM, argSs, argS, apart, apartE, updE, backAt, conv, mIs, mIsM, BT.is, mCb, mCbF, fLen, fList, fTuple, fInt, fI, mPart, mNoPart, mSl, fSl, mRev, fRev, mSetIx, mMethG, mMeth, fClear, fIsN, fNotN, isNo, asgOk, slotOwn, Sl.put, Sl.mut, Sl.isO, bind_ok, bind_bad, bindS_ok, bindS_bad, then_nx, then_rt, then_bad, if_S, if_B, if_BS, ite_self, List.getElem?_cons_zero, List.getElem?_cons_succ, List.length_cons, List.length_nil, List.map_cons, List.map_nil, List.replicate, List.cons_append, List.nil_append, List.set_cons_zero, List.set_cons_succ, List.mapIdx_cons, List.mapIdx_nil, List.zip_cons_cons, List.zip_nil_right, List.zip_nil_left, List.all_cons, List.all_nil, List.any_cons, List.any_nil, List.headD_cons, List.headD_nil, List.tail_cons, List.tail_nil, Nat.reduceAdd, Nat.reduceSub, Nat.reduceEqDiff, Nat.reduceLeDiff, if_true, if_false, ite_true, ite_false, Bool.false_eq_true, decide_true, decide_false, Bool.and_true, Bool.true_and, Bool.and_false, Bool.false_and, Bool.or_true, Bool.true_or, Bool.or_false, Bool.false_or, Bool.not_true, Bool.not_false, Option.map_some, Option.map_none, Option.bind_some, Option.or_some, Option.or_none, Option.none_or, Option.some_or, and_self, and_true, true_and, ne_eq, not_true_eq_false, not_false_eq_true, List.isEmpty_cons, List.isEmpty_nil, Int.cast_ofNat_Int, beq_self_eq_true, Int.reduceBEq, Int.reduceLT, Int.reduceLE, Int.reduceAdd, Int.reduceSub, Int.reduceEq, Int.reduceNeg, reduceIte, eqA_int, neA_int, eqA_bool, neA_bool, eqA_str, neA_str, eqA_tupE, neA_lstE, fIx_t0, fIx_t1, fIx_l0, fIx_l1, fIx_l2, addI_int, Int.natCast_zero, Int.natCast_one, Bool.not_eq_true, Bool.not_eq_false, m__law_grown, mb__law_grown, ne1, div2, fSub, e1, hm, cut_to, cut_from, e2, e3, Tr.enc, List.length_map]
      · simp only [mFn, mDef, entry, ent, outs, outS, mSeq, mNext, mPass, mExpr, mRet, mRetF, mRetN, mRetO, mIf, mSet, mSetF, mSetL, mAsg, gN, gNl, gCn, gT, mPar, mParFF, mParFV, mParVF, mName, mNameF, mC, mBin, fin1, dat, Sl.dat, cln, clns, dats, mTest, mChain, mAnd, mOr, mNot, mVal, mAndV, mOrV, mNotV, mIfE, mNeg, mTup, mLst, mLstF, mFr, mNil, mCons, mCall, mCallF, callM, argSs, argS, apart, apartE, updE, backAt, conv, mIs, mIsM, BT.is, mCb, mCbF, fLen, fList, fTuple, fInt, fI, mPart, mNoPart, mSl, fSl, mRev, fRev, mSetIx, mMethG, mMeth, fClear, fIsN, fNotN, isNo, asgOk, slotOwn, Sl.put, Sl.mut, Sl.isO, bind_ok, bind_bad, bindS_ok, bindS_bad, then_nx, then_rt, then_bad, if_S, if_B, if_BS, ite_self, List.getElem?_cons_zero, List.getElem?_cons_succ, List.length_cons, List.length_nil, List.map_cons, List.map_nil, List.replicate, List.cons_append, List.nil_append, List.set_cons_zero, List.set_cons_succ, List.mapIdx_cons, List.mapIdx_nil, List.zip_cons_cons, List.zip_nil_right, List.zip_nil_left, List.all_cons, List.all_nil, List.any_cons, List.any_nil, List.headD_cons, List.headD_nil, List.tail_cons, List.tail_nil, Nat.reduceAdd, Nat.reduceSub, Nat.reduceEqDiff, Nat.reduceLeDiff, if_true, if_false, ite_true, ite_false, Bool.false_eq_true, decide_true, decide_false, Bool.and_true, Bool.true_and, Bool.and_false, Bool.false_and, Bool.or_true, Bool.true_or, Bool.or_false, Bool.false_or, Bool.not_true, Bool.not_false, Option.map_some, Option.map_none, Option.bind_some, Option.or_some, Option.or_none, Option.none_or, Option.some_or, and_self, and_true, true_and, ne_eq, not_true_eq_false, not_false_eq_true, List.isEmpty_cons, List.isEmpty_nil, Int.cast_ofNat_Int, beq_self_eq_true, Int.reduceBEq, Int.reduceLT, Int.reduceLE, Int.reduceAdd, Int.reduceSub, Int.reduceEq, Int.reduceNeg, reduceIte, eqA_int, neA_int, eqA_bool, neA_bool, eqA_str, neA_str, eqA_tupE, neA_lstE, fIx_t0, fIx_t1, fIx_l0, fIx_l1, fIx_l2, addI_int, Int.natCast_zero, Int.natCast_one, Bool.not_eq_true, Bool.not_eq_false, m__law_grown, mb__law_grown, ne1, div2, fSub, e1, hm, cut_to, cut_from, e2, e3, Tr.enc, List.length_map]
theorem erase_map (f : Int → PyData) : ∀ (rs : List Int) (k : Nat), (rs.map f).eraseIdx k = (rs.eraseIdx k).map f
  | [], _ => rfl
  | r :: rs, 0 => rfl
  | r :: rs, k + 1 => by show f r :: (rs.map f).eraseIdx k = f r :: (rs.eraseIdx k).map f; rw [erase_map f rs k]
theorem erase_perm : ∀ (l : List Int) (i : Nat) (h : i < l.length), (l[i] :: l.eraseIdx i).Perm l
  | [], i, h => absurd h (Nat.not_lt_zero _)
  | x :: xs, 0, _ => List.Perm.refl _
  | x :: xs, i + 1, h => by
    have hi : i < xs.length := by simpa using h
    have := erase_perm xs i hi
    show (xs[i] :: x :: xs.eraseIdx i).Perm (x :: xs)
    exact (List.Perm.swap _ _ _).trans (this.cons x)
theorem pop_ints {rs : List Int} {v : Int} (h0 : 0 ≤ v) (h1 : v < rs.length) (hl : rs.length ≤ 1000000) : ∃ z, (z :: rs.eraseIdx v.toNat).Perm rs ∧ fPopAt (rs.map .int) [.int v] = some ((rs.eraseIdx v.toNat).map .int, .int z) := by
  have hv : v.toNat < rs.length := by omega
  refine ⟨rs[v.toNat], erase_perm rs v.toNat hv, ?_⟩
  show (if _ then _ else _) = _
  rw [if_pos ⟨by omega, by omega⟩, List.length_map, show ixN rs.length v = some v.toNat from by unfold ixN; rw [if_pos h0, if_pos h1]]
  show ((rs.map PyData.int)[v.toNat]?).map _ = _
  rw [List.getElem?_map, List.getElem?_eq_getElem hv, erase_map]
  rfl
theorem app_ints (ss : List Int) (z : Int) (h : ss.length < 1000000) : fAppend (ss.map .int) [.int z] = some ((ss ++ [z]).map .int, .none) := by
  show (if _ then _ else _) = _
  rw [if_pos (by rw [List.length_map]; exact h), List.map_append]
  rfl
def upTo (k : Nat) : List Int := (List.range k).map fun i : Nat => (0 : Int) + (i : Int)
theorem rangeD_ints (lo : Int) (n : Nat) : rangeD lo n = ((List.range n).map fun i : Nat => lo + (i : Int)).map .int := by unfold rangeD; rw [List.map_map]; rfl
theorem upTo_mem {k : Nat} {z : Int} (h : z ∈ upTo k) : 0 ≤ z ∧ z < k := by
  obtain ⟨i, hi, rfl⟩ := List.mem_map.mp h
  have := List.mem_range.mp hi
  omega
theorem upTo_len (k : Nat) : (upTo k).length = k := by simp [upTo]
theorem draw_p {n : Nat} {P : PyData} (hP : PenOk n P) (k : Int) (h1 : 1 ≤ k) (h2 : k ≤ 30) (hn : n + 400 ≤ 268435456) :
    ∃ (t : Tr) (P' : PyData), m__law_draw_tree [.ow P, .cl (.int k)] = .ok t.enc false [.ow P', .cl (.int k)] ∧ t.lv.Perm (upTo k.toNat) ∧ PenOk (n + 300) P' := by
  obtain ⟨k, rfl⟩ := Int.eq_ofNat_of_zero_le (show 0 ≤ k by omega)
  -- the loop
  obtain ⟨e, ew, P1, ss, he, hss, hl, hp⟩ := whileM_ok (t := mTest (mBin fNeA (mName 3) (mLst mNil)))
    (m := mExpr (mMethG 2 fAppend (mCons (mMethG 3 fPopAt (mCons (mCall m__law_take [true, false] (mCons (mName 0) (mCons (mCb fLen (mCons (mName 3) mNil)) mNil))) mNil)) mNil)))
    (fun env => ∃ (Q : PyData) (ss rs : List Int), env = [.pw Q, .cl (.int k), .ow (.list (ss.map .int)), .ow (.list (rs.map .int))] ∧ (ss ++ rs).Perm (upTo k) ∧ ss.length + rs.length = k ∧ PenOk (n + ss.length) Q)
    (fun env => ∃ (Q : PyData) (ss : List Int), env = [.pw Q, .cl (.int k), .ow (.list (ss.map .int)), .ow (.list [])] ∧ ss.Perm (upTo k) ∧ ss.length = k ∧ PenOk (n + k) Q)
    (fun env => match env with
      | [_, _, _, .ow (.list rs)] => rs.length
      | _ => 0) (fun env ⟨Q, ss, rs, he, hz, hl, hq⟩ => by
      subst he
      cases rs with
      | nil =>
        left
        rw [List.append_nil] at hz
        rw [List.length_nil, Nat.add_zero] at hl
        exact ⟨rfl, Q, ss, rfl, hz, hl, hl ▸ hq⟩
      | cons r rs =>
        right
        rw [List.length_cons] at hl
        obtain ⟨v, Q2, e1, v0, v1, q2⟩ := take_p hq (a := ((rs.length + 1 : Nat) : Int)) (by omega) (by omega) (by omega)
        obtain ⟨z, hzm, ez⟩ := pop_ints (rs := r :: rs) v0 (by rw [List.length_cons]; exact v1) (by rw [List.length_cons]; omega)
        have ea := app_ints ss z (by omega)
        have le : ((r :: rs).eraseIdx v.toNat).length = rs.length := by rw [List.length_eraseIdx_of_lt (by rw [List.length_cons]; omega), List.length_cons]; omega
        refine ⟨rfl, [.pw Q2, .cl (.int k), .ow (.list ((ss ++ [z]).map .int)), .ow (.list (((r :: rs).eraseIdx v.toNat).map .int))], ?_, ⟨Q2, ss ++ [z], (r :: rs).eraseIdx v.toNat, rfl, ?_, ?_, ?_⟩, ?_⟩
        · simp only [List.map_cons] at ez
          simp only [mFn, mDef, entry, ent, outs, outS, mSeq, mNext, mPass, mExpr, mRet, mRetF, mRetN, mRetO, mIf, mSet, mSetF, mSetL, mAsg, gN, gNl, gCn, gT, mPar, mParFF, mParFV, mParVF, mName, mNameF, mC, mBin, fin1, dat, Sl.dat, cln, clns, dats, mTest, mChain, mAnd, mOr, mNot, mVal, mAndV, mOrV, mNotV, mIfE, mNeg, mTup, mLst, mLstF, mFr, mNil, mCons, mCall, mCallF, callM, argSs, argS, apart, apartE, updE, backAt, conv, mIs, mIsM, BT.is, mCb, mCbF, fLen, fList, fTuple, fInt, fI, mPart, mNoPart, mSl, fSl, mRev, fRev, mSetIx, mMethG, mMeth, fClear, fIsN, fNotN, isNo, asgOk, slotOwn, Sl.put, Sl.mut, Sl.isO, bind_ok, bind_bad, bindS_ok, bindS_bad, then_nx, then_rt, then_bad, if_S, if_B, if_BS, ite_self, List.getElem?_cons_zero, List.getElem?_cons_succ, List.length_cons, List.length_nil, List.map_cons, List.map_nil, List.replicate, List.cons_append, List.nil_append, List.set_cons_zero, List.set_cons_succ, List.mapIdx_cons, List.mapIdx_nil, List.zip_cons_cons, List.zip_nil_right, List.zip_nil_left, List.all_cons, List.all_nil, List.any_cons, List.any_nil, List.headD_cons, List.headD_nil, List.tail_cons, List.tail_nil, Nat.reduceAdd, Nat.reduceSub, Nat.reduceEqDiff, Nat.reduceLeDiff, if_true, if_false, ite_true, ite_false, Bool.false_eq_true, decide_true, decide_false, Bool.and_true, Bool.true_and, Bool.and_false, Bool.false_and, Bool.or_true, Bool.true_or, Bool.or_false, Bool.false_or, Bool.not_true, Bool.not_false, Option.map_some, Option.map_none, Option.bind_some, Option.or_some, Option.or_none, Option.none_or, Option.some_or, and_self, and_true, true_and, ne_eq, not_true_eq_false, not_false_eq_true, List.isEmpty_cons, List.isEmpty_nil, Int.cast_ofNat_Int, beq_self_eq_true, Int.reduceBEq, Int.reduceLT, Int.reduceLE, Int.reduceAdd, Int.reduceSub, Int.reduceEq, Int.reduceNeg, reduceIte, eqA_int, neA_int, eqA_bool, neA_bool, eqA_str, neA_str, eqA_tupE, neA_lstE, fIx_t0, fIx_t1, fIx_l0, fIx_l1, fIx_l2, addI_int, Int.natCast_zero, Int.natCast_one, Bool.not_eq_true, Bool.not_eq_false, List.length_map, e1, ez, ea]
        · rw [List.append_assoc]
          exact (List.Perm.append_left ss hzm).trans hz
        · rw [le, List.length_append, List.length_singleton]; omega
        · rw [List.length_append, List.length_singleton]; exact q2.mono (by omega)
        · show (((r :: rs).eraseIdx v.toNat).map PyData.int).length < ((r :: rs).map PyData.int).length
          rw [List.length_map, List.length_map, le, List.length_cons]; omega) 1000 [.pw P, .cl (.int k), .ow (.list []), .ow (.list ((upTo k).map .int))]
      ⟨P, [], upTo k, rfl, List.Perm.refl _, by simp [upTo_len], hP⟩ (by show ((upTo k).map PyData.int).length < 1000; rw [List.length_map, upTo_len]; omega)
  subst he
  unfold upTo at ew
  rw [← rangeD_ints] at ew
  obtain ⟨w, hw, P2, e2, p2⟩ := one_of_p hp (by omega) (xs := [.int 0, .int 0, .int 1, .int 2]) (by simp) (by decide)
  have hw2 : ∃ i : Int, w = .int i ∧ (i = 0 ∨ i = 1 ∨ i = 2) := by
    simp only [List.mem_cons, List.not_mem_nil, or_false] at hw
    rcases hw with rfl | rfl | rfl | rfl
    · exact ⟨0, rfl, .inl rfl⟩
    · exact ⟨0, rfl, .inl rfl⟩
    · exact ⟨1, rfl, .inr (.inl rfl)⟩
    · exact ⟨2, rfl, .inr (.inr rfl)⟩
  obtain ⟨w, rfl, hw3⟩ := hw2
  obtain ⟨t, P3, e3, st, p3⟩ := grown_p 30 p2 ss (.lw (.list (ss.map .int))) (.inr rfl) w hw3 (by rw [← List.length_pos_iff]; omega) (by omega) (by omega)
  have hr : (0 : Int) ≤ (k : Int) ∧ (k : Int) ≤ 16777216 := by omega
  have s1 : mParFF 2 3 (mLstF mNil) (mLRg1 (mName 1)) [.pw P, .cl (.int k), .un, .un] = .nx [.pw P, .cl (.int k), .ow (.list []), .ow (.list (rangeD 0 k))] := by
    simp only [mFn, mDef, entry, ent, outs, outS, mSeq, mNext, mPass, mExpr, mRet, mRetF, mRetN, mRetO, mIf, mSet, mSetF, mSetL, mAsg, gN, gNl, gCn, gT, mPar, mParFF, mParFV, mParVF, mName, mNameF, mC, mBin, fin1, dat, Sl.dat, cln, clns, dats, mTest, mChain, mAnd, mOr, mNot, mVal, mAndV, mOrV, mNotV, mIfE, mNeg, mTup, mLst, mLstF, mFr, mNil, mCons, mCall, mCallF, callM, argSs, argS, apart, apartE, updE, backAt, conv, mIs, mIsM, BT.is, mCb, mCbF, fLen, fList, fTuple, fInt, fI, mPart, mNoPart, mSl, fSl, mRev, fRev, mSetIx, mMethG, mMeth, fClear, fIsN, fNotN, isNo, asgOk, slotOwn, Sl.put, Sl.mut, Sl.isO, bind_ok, bind_bad, bindS_ok, bindS_bad, then_nx, then_rt, then_bad, if_S, if_B, if_BS, ite_self, List.getElem?_cons_zero, List.getElem?_cons_succ, List.length_cons, List.length_nil, List.map_cons, List.map_nil, List.replicate, List.cons_append, List.nil_append, List.set_cons_zero, List.set_cons_succ, List.mapIdx_cons, List.mapIdx_nil, List.zip_cons_cons, List.zip_nil_right, List.zip_nil_left, List.all_cons, List.all_nil, List.any_cons, List.any_nil, List.headD_cons, List.headD_nil, List.tail_cons, List.tail_nil, Nat.reduceAdd, Nat.reduceSub, Nat.reduceEqDiff, Nat.reduceLeDiff, if_true, if_false, ite_true, ite_false, Bool.false_eq_true, decide_true, decide_false, Bool.and_true, Bool.true_and, Bool.and_false, Bool.false_and, Bool.or_true, Bool.true_or, Bool.or_false, Bool.false_or, Bool.not_true, Bool.not_false, Option.map_some, Option.map_none, Option.bind_some, Option.or_some, Option.or_none, Option.none_or, Option.some_or, and_self, and_true, true_and, ne_eq, not_true_eq_false, not_false_eq_true, List.isEmpty_cons, List.isEmpty_nil, Int.cast_ofNat_Int, beq_self_eq_true, Int.reduceBEq, Int.reduceLT, Int.reduceLE, Int.reduceAdd, Int.reduceSub, Int.reduceEq, Int.reduceNeg, reduceIte, eqA_int, neA_int, eqA_bool, neA_bool, eqA_str, neA_str, eqA_tupE, neA_lstE, fIx_t0, fIx_t1, fIx_l0, fIx_l1, fIx_l2, addI_int, Int.natCast_zero, Int.natCast_one, Bool.not_eq_true, Bool.not_eq_false, mLRg1, hr, Int.toNat_natCast]
  refine ⟨t, P3, mFn_rt (r := [.pw P3, .cl (.int k), .ow (.list (ss.map .int)), .ow (.list [])]) rfl ?_, by rw [st, Int.toNat_natCast]; exact hss, p3.mono (by omega)⟩
  refine sq (Φ := fun o => o = _) s1 (sq (Φ := fun o => o = _) ew ?_)
  simp only [mFn, mDef, entry, ent, outs, outS, mSeq, mNext, mPass, mExpr, mRet, mRetF, mRetN, mRetO, mIf, mSet, mSetF, mSetL, mAsg, gN, gNl, gCn, gT, mPar, mParFF, mParFV, mParVF, mName, mNameF, mC, mBin, fin1, dat, Sl.dat, cln, clns, dats, mTest, mChain, mAnd, mOr, mNot, mVal, mAndV, mOrV, mNotV, mIfE, mNeg, mTup, mLst, mLstF, mFr, mNil, mCons, mCall, mCallF, callM, argSs, argS, apart, apartE, updE, backAt, conv, mIs, mIsM, BT.is, mCb, mCbF, fLen, fList, fTuple, fInt, fI, mPart, mNoPart, mSl, fSl, mRev, fRev, mSetIx, mMethG, mMeth, fClear, fIsN, fNotN, isNo, asgOk, slotOwn, Sl.put, Sl.mut, Sl.isO, bind_ok, bind_bad, bindS_ok, bindS_bad, then_nx, then_rt, then_bad, if_S, if_B, if_BS, ite_self, List.getElem?_cons_zero, List.getElem?_cons_succ, List.length_cons, List.length_nil, List.map_cons, List.map_nil, List.replicate, List.cons_append, List.nil_append, List.set_cons_zero, List.set_cons_succ, List.mapIdx_cons, List.mapIdx_nil, List.zip_cons_cons, List.zip_nil_right, List.zip_nil_left, List.all_cons, List.all_nil, List.any_cons, List.any_nil, List.headD_cons, List.headD_nil, List.tail_cons, List.tail_nil, Nat.reduceAdd, Nat.reduceSub, Nat.reduceEqDiff, Nat.reduceLeDiff, if_true, if_false, ite_true, ite_false, Bool.false_eq_true, decide_true, decide_false, Bool.and_true, Bool.true_and, Bool.and_false, Bool.false_and, Bool.or_true, Bool.true_or, Bool.or_false, Bool.false_or, Bool.not_true, Bool.not_false, Option.map_some, Option.map_none, Option.bind_some, Option.or_some, Option.or_none, Option.none_or, Option.some_or, and_self, and_true, true_and, ne_eq, not_true_eq_false, not_false_eq_true, List.isEmpty_cons, List.isEmpty_nil, Int.cast_ofNat_Int, beq_self_eq_true, Int.reduceBEq, Int.reduceLT, Int.reduceLE, Int.reduceAdd, Int.reduceSub, Int.reduceEq, Int.reduceNeg, reduceIte, eqA_int, neA_int, eqA_bool, neA_bool, eqA_str, neA_str, eqA_tupE, neA_lstE, fIx_t0, fIx_t1, fIx_l0, fIx_l1, fIx_l2, addI_int, Int.natCast_zero, Int.natCast_one, Bool.not_eq_true, Bool.not_eq_false, e2, e3]
end DL
namespace DL
open PySem L2
open PyProof.Rows hiding St
/-! ## matches -/
def note : Tr → Nat → PyData × List PyData
  | .lf i, _ => (.tuple [.str "side", .int i], [])
  | .nd l r, k => (.tuple [.str "match", .int ((k + (note l k).2.length + (note r (k + (note l k).2.length)).2.length : Nat) : Int)], (note l k).2 ++ (note r (k + (note l k).2.length)).2 ++ [.tuple [(note l k).1, (note r (k + (note l k).2.length)).1]])
theorem note_len : ∀ (t : Tr) (k : Nat), (note t k).2.length + 1 = t.sz
  | .lf _, _ => rfl
  | .nd l r, k => by
    have h1 := note_len l k
    have h2 := note_len r (k + (note l k).2.length)
    simp only [note, List.length_append, List.length_singleton, Tr.sz]
    omega
theorem note_eq : ∀ (f : Nat) (t : Tr) (F : List PyData) (_ : t.sz ≤ f) (_ : F.length + t.sz ≤ 1000000), m_note_matches f [.cl t.enc, .ow (.list F)] = .ok (note t F.length).1 false [.cl t.enc, .ow (.list (F ++ (note t F.length).2))]
  | 0, t, _, h, _ => absurd t.pos (by omega)
  | f + 1, t, F, h, hF => by
    cases t with
    | lf i =>
      simp only [mFn, mDef, entry, ent, outs, outS, mSeq, mNext, mPass, mExpr, mRet, mRetF, mRetN, mRetO, mIf, mSet, mSetF, mSetL, mAsg, gN, gNl, gCn, gT, mPar, mParFF, mParFV, mParVF, mName, mNameF, mC, mBin, fin1, dat, Sl.dat, cln, clns, dats, mTest, mChain, mAnd, mOr, mNot, mVal, mAndV, mOrV, mNotV, mIfE, mNeg, mTup, mLst, mLstF, mFr, mNil, mCons, mCall, mCallF, callM, argSs, argS, apart, apartE, updE, backAt, conv, mIs, mIsM, BT.is, mCb, mCbF, fLen, fList, fTuple, fInt, fI, mPart, mNoPart, mSl, fSl, mRev, fRev, mSetIx, mMethG, mMeth, fClear, fIsN, fNotN, isNo, asgOk, slotOwn, Sl.put, Sl.mut, Sl.isO, bind_ok, bind_bad, bindS_ok, bindS_bad, then_nx, then_rt, then_bad, if_S, if_B, if_BS, ite_self, List.getElem?_cons_zero, List.getElem?_cons_succ, List.length_cons, List.length_nil, List.map_cons, List.map_nil, List.replicate, List.cons_append, List.nil_append, List.set_cons_zero, List.set_cons_succ, List.mapIdx_cons, List.mapIdx_nil, List.zip_cons_cons, List.zip_nil_right, List.zip_nil_left, List.all_cons, List.all_nil, List.any_cons, List.any_nil, List.headD_cons, List.headD_nil, List.tail_cons, List.tail_nil, Nat.reduceAdd, Nat.reduceSub, Nat.reduceEqDiff, Nat.reduceLeDiff, if_true, if_false, ite_true, ite_false, Bool.false_eq_true, decide_true, decide_false, Bool.and_true, Bool.true_and, Bool.and_false, Bool.false_and, Bool.or_true, Bool.true_or, Bool.or_false, Bool.false_or, Bool.not_true, Bool.not_false, Option.map_some, Option.map_none, Option.bind_some, Option.or_some, Option.or_none, Option.none_or, Option.some_or, and_self, and_true, true_and, ne_eq, not_true_eq_false, not_false_eq_true, List.isEmpty_cons, List.isEmpty_nil, Int.cast_ofNat_Int, beq_self_eq_true, Int.reduceBEq, Int.reduceLT, Int.reduceLE, Int.reduceAdd, Int.reduceSub, Int.reduceEq, Int.reduceNeg, reduceIte, eqA_int, neA_int, eqA_bool, neA_bool, eqA_str, neA_str, eqA_tupE, neA_lstE, fIx_t0, fIx_t1, fIx_l0, fIx_l1, fIx_l2, addI_int, Int.natCast_zero, Int.natCast_one, Bool.not_eq_true, Bool.not_eq_false, m_note_matches, mb_note_matches, Tr.enc, note, List.append_nil]
    | nd l r =>
      have pl := l.pos
      have pr := r.pos
      have nl := note_len l F.length
      have nr := note_len r (F.length + (note l F.length).2.length)
      simp only [Tr.sz] at h hF
      have e1 := note_eq f l F (by omega) (by omega)
      have e2 := note_eq f r (F ++ (note l F.length).2) (by omega) (by rw [List.length_append]; omega)
      rw [List.length_append] at e2
      have e3 := app_ok (F ++ (note l F.length).2 ++ (note r (F.length + (note l F.length).2.length)).2) (.tuple [(note l F.length).1, (note r (F.length + (note l F.length).2.length)).1]) (by rw [List.length_append, List.length_append]; omega)
      have e4 : (((F ++ (note l F.length).2 ++ (note r (F.length + (note l F.length).2.length)).2 ++ [PyData.tuple [(note l F.length).1, (note r (F.length + (note l F.length).2.length)).1]]).length : Nat) : Int) - 1 = ((F.length + (note l F.length).2.length + (note r (F.length + (note l F.length).2.length)).2.length : Nat) : Int) := by
        simp only [List.length_append, List.length_singleton]; omega
      simp only [mFn, mDef, entry, ent, outs, outS, mSeq, mNext, mPass, mExpr, mRet, mRetF, mRetN, mRetO, mIf, mSet, mSetF, mSetL, mAsg, gN, gNl, gCn, gT, mPar, mParFF, mParFV, mParVF, mName, mNameF, mC, mBin, fin1, dat, Sl.dat, cln, clns, dats, mTest, mChain, mAnd, mOr, mNot, mVal, mAndV, mOrV, mNotV, mIfE, mNeg, mTup, mLst, mLstF, mFr, mNil, mCons, mCall, mCallF, callM, argSs, argS, apart, apartE, updE, backAt, conv, mIs, mIsM, BT.is, mCb, mCbF, fLen, fList, fTuple, fInt, fI, mPart, mNoPart, mSl, fSl, mRev, fRev, mSetIx, mMethG, mMeth, fClear, fIsN, fNotN, isNo, asgOk, slotOwn, Sl.put, Sl.mut, Sl.isO, bind_ok, bind_bad, bindS_ok, bindS_bad, then_nx, then_rt, then_bad, if_S, if_B, if_BS, ite_self, List.getElem?_cons_zero, List.getElem?_cons_succ, List.length_cons, List.length_nil, List.map_cons, List.map_nil, List.replicate, List.cons_append, List.nil_append, List.set_cons_zero, List.set_cons_succ, List.mapIdx_cons, List.mapIdx_nil, List.zip_cons_cons, List.zip_nil_right, List.zip_nil_left, List.all_cons, List.all_nil, List.any_cons, List.any_nil, List.headD_cons, List.headD_nil, List.tail_cons, List.tail_nil, Nat.reduceAdd, Nat.reduceSub, Nat.reduceEqDiff, Nat.reduceLeDiff, if_true, if_false, ite_true, ite_false, Bool.false_eq_true, decide_true, decide_false, Bool.and_true, Bool.true_and, Bool.and_false, Bool.false_and, Bool.or_true, Bool.true_or, Bool.or_false, Bool.false_or, Bool.not_true, Bool.not_false, Option.map_some, Option.map_none, Option.bind_some, Option.or_some, Option.or_none, Option.none_or, Option.some_or, and_self, and_true, true_and, ne_eq, not_true_eq_false, not_false_eq_true, List.isEmpty_cons, List.isEmpty_nil, Int.cast_ofNat_Int, beq_self_eq_true, Int.reduceBEq, Int.reduceLT, Int.reduceLE, Int.reduceAdd, Int.reduceSub, Int.reduceEq, Int.reduceNeg, reduceIte, eqA_int, neA_int, eqA_bool, neA_bool, eqA_str, neA_str, eqA_tupE, neA_lstE, fIx_t0, fIx_t1, fIx_l0, fIx_l1, fIx_l2, addI_int, Int.natCast_zero, Int.natCast_one, Bool.not_eq_true, Bool.not_eq_false, m_note_matches, mb_note_matches, Tr.enc, e1, e2, e3, fSub, e4, note]
      simp only [List.append_assoc]
theorem law_note_eq : ∀ (f : Nat) (t : Tr) (F : List PyData) (_ : t.sz ≤ f) (_ : F.length + t.sz ≤ 1000000), m__law_note f [.cl t.enc, .ow (.list F)] = .ok (note t F.length).1 false [.cl t.enc, .ow (.list (F ++ (note t F.length).2))]
  | 0, t, _, h, _ => absurd t.pos (by omega)
  | f + 1, t, F, h, hF => by
    cases t with
    | lf i =>
      simp only [mFn, mDef, entry, ent, outs, outS, mSeq, mNext, mPass, mExpr, mRet, mRetF, mRetN, mRetO, mIf, mSet, mSetF, mSetL, mAsg, gN, gNl, gCn, gT, mPar, mParFF, mParFV, mParVF, mName, mNameF, mC, mBin, fin1, dat, Sl.dat, cln, clns, dats, mTest, mChain, mAnd, mOr, mNot, mVal, mAndV, mOrV, mNotV, mIfE, mNeg, mTup, mLst, mLstF, mFr, mNil, mCons, mCall, mCallF, callM, argSs, argS, apart, apartE, updE, backAt, conv, mIs, mIsM, BT.is, mCb, mCbF, fLen, fList, fTuple, fInt, fI, mPart, mNoPart, mSl, fSl, mRev, fRev, mSetIx, mMethG, mMeth, fClear, fIsN, fNotN, isNo, asgOk, slotOwn, Sl.put, Sl.mut, Sl.isO, bind_ok, bind_bad, bindS_ok, bindS_bad, then_nx, then_rt, then_bad, if_S, if_B, if_BS, ite_self, List.getElem?_cons_zero, List.getElem?_cons_succ, List.length_cons, List.length_nil, List.map_cons, List.map_nil, List.replicate, List.cons_append, List.nil_append, List.set_cons_zero, List.set_cons_succ, List.mapIdx_cons, List.mapIdx_nil, List.zip_cons_cons, List.zip_nil_right, List.zip_nil_left, List.all_cons, List.all_nil, List.any_cons, List.any_nil, List.headD_cons, List.headD_nil, List.tail_cons, List.tail_nil, Nat.reduceAdd, Nat.reduceSub, Nat.reduceEqDiff, Nat.reduceLeDiff, if_true, if_false, ite_true, ite_false, Bool.false_eq_true, decide_true, decide_false, Bool.and_true, Bool.true_and, Bool.and_false, Bool.false_and, Bool.or_true, Bool.true_or, Bool.or_false, Bool.false_or, Bool.not_true, Bool.not_false, Option.map_some, Option.map_none, Option.bind_some, Option.or_some, Option.or_none, Option.none_or, Option.some_or, and_self, and_true, true_and, ne_eq, not_true_eq_false, not_false_eq_true, List.isEmpty_cons, List.isEmpty_nil, Int.cast_ofNat_Int, beq_self_eq_true, Int.reduceBEq, Int.reduceLT, Int.reduceLE, Int.reduceAdd, Int.reduceSub, Int.reduceEq, Int.reduceNeg, reduceIte, eqA_int, neA_int, eqA_bool, neA_bool, eqA_str, neA_str, eqA_tupE, neA_lstE, fIx_t0, fIx_t1, fIx_l0, fIx_l1, fIx_l2, addI_int, Int.natCast_zero, Int.natCast_one, Bool.not_eq_true, Bool.not_eq_false, m__law_note, mb__law_note, Tr.enc, note, List.append_nil]
    | nd l r =>
      have pl := l.pos
      have pr := r.pos
      have nl := note_len l F.length
      have nr := note_len r (F.length + (note l F.length).2.length)
      simp only [Tr.sz] at h hF
      have e1 := law_note_eq f l F (by omega) (by omega)
      have e2 := law_note_eq f r (F ++ (note l F.length).2) (by omega) (by rw [List.length_append]; omega)
      rw [List.length_append] at e2
      have e3 := app_ok (F ++ (note l F.length).2 ++ (note r (F.length + (note l F.length).2.length)).2) (.tuple [(note l F.length).1, (note r (F.length + (note l F.length).2.length)).1]) (by rw [List.length_append, List.length_append]; omega)
      have e4 : (((F ++ (note l F.length).2 ++ (note r (F.length + (note l F.length).2.length)).2 ++ [PyData.tuple [(note l F.length).1, (note r (F.length + (note l F.length).2.length)).1]]).length : Nat) : Int) - 1 = ((F.length + (note l F.length).2.length + (note r (F.length + (note l F.length).2.length)).2.length : Nat) : Int) := by
        simp only [List.length_append, List.length_singleton]; omega
      simp only [mFn, mDef, entry, ent, outs, outS, mSeq, mNext, mPass, mExpr, mRet, mRetF, mRetN, mRetO, mIf, mSet, mSetF, mSetL, mAsg, gN, gNl, gCn, gT, mPar, mParFF, mParFV, mParVF, mName, mNameF, mC, mBin, fin1, dat, Sl.dat, cln, clns, dats, mTest, mChain, mAnd, mOr, mNot, mVal, mAndV, mOrV, mNotV, mIfE, mNeg, mTup, mLst, mLstF, mFr, mNil, mCons, mCall, mCallF, callM, argSs, argS, apart, apartE, updE, backAt, conv, mIs, mIsM, BT.is, mCb, mCbF, fLen, fList, fTuple, fInt, fI, mPart, mNoPart, mSl, fSl, mRev, fRev, mSetIx, mMethG, mMeth, fClear, fIsN, fNotN, isNo, asgOk, slotOwn, Sl.put, Sl.mut, Sl.isO, bind_ok, bind_bad, bindS_ok, bindS_bad, then_nx, then_rt, then_bad, if_S, if_B, if_BS, ite_self, List.getElem?_cons_zero, List.getElem?_cons_succ, List.length_cons, List.length_nil, List.map_cons, List.map_nil, List.replicate, List.cons_append, List.nil_append, List.set_cons_zero, List.set_cons_succ, List.mapIdx_cons, List.mapIdx_nil, List.zip_cons_cons, List.zip_nil_right, List.zip_nil_left, List.all_cons, List.all_nil, List.any_cons, List.any_nil, List.headD_cons, List.headD_nil, List.tail_cons, List.tail_nil, Nat.reduceAdd, Nat.reduceSub, Nat.reduceEqDiff, Nat.reduceLeDiff, if_true, if_false, ite_true, ite_false, Bool.false_eq_true, decide_true, decide_false, Bool.and_true, Bool.true_and, Bool.and_false, Bool.false_and, Bool.or_true, Bool.true_or, Bool.or_false, Bool.false_or, Bool.not_true, Bool.not_false, Option.map_some, Option.map_none, Option.bind_some, Option.or_some, Option.or_none, Option.none_or, Option.some_or, and_self, and_true, true_and, ne_eq, not_true_eq_false, not_false_eq_true, List.isEmpty_cons, List.isEmpty_nil, Int.cast_ofNat_Int, beq_self_eq_true, Int.reduceBEq, Int.reduceLT, Int.reduceLE, Int.reduceAdd, Int.reduceSub, Int.reduceEq, Int.reduceNeg, reduceIte, eqA_int, neA_int, eqA_bool, neA_bool, eqA_str, neA_str, eqA_tupE, neA_lstE, fIx_t0, fIx_t1, fIx_l0, fIx_l1, fIx_l2, addI_int, Int.natCast_zero, Int.natCast_one, Bool.not_eq_true, Bool.not_eq_false, m__law_note, mb__law_note, Tr.enc, e1, e2, e3, fSub, e4, note]
      simp only [List.append_assoc]
theorem matches_eq (t : Tr) (h : t.sz ≤ 30) : m_matches [.cl t.enc] = .ok (.list (note t 0).2) true [.cl t.enc] := by
  have e := note_eq 30 t [] h (by simp only [List.length_nil]; omega)
  simp only [List.length_nil, List.nil_append] at e
  simp only [mFn, mDef, entry, ent, outs, outS, mSeq, mNext, mPass, mExpr, mRet, mRetF, mRetN, mRetO, mIf, mSet, mSetF, mSetL, mAsg, gN, gNl, gCn, gT, mPar, mParFF, mParFV, mParVF, mName, mNameF, mC, mBin, fin1, dat, Sl.dat, cln, clns, dats, mTest, mChain, mAnd, mOr, mNot, mVal, mAndV, mOrV, mNotV, mIfE, mNeg, mTup, mLst, mLstF, mFr, mNil, mCons, mCall, mCallF, callM, argSs, argS, apart, apartE, updE, backAt, conv, mIs, mIsM, BT.is, mCb, mCbF, fLen, fList, fTuple, fInt, fI, mPart, mNoPart, mSl, fSl, mRev, fRev, mSetIx, mMethG, mMeth, fClear, fIsN, fNotN, isNo, asgOk, slotOwn, Sl.put, Sl.mut, Sl.isO, bind_ok, bind_bad, bindS_ok, bindS_bad, then_nx, then_rt, then_bad, if_S, if_B, if_BS, ite_self, List.getElem?_cons_zero, List.getElem?_cons_succ, List.length_cons, List.length_nil, List.map_cons, List.map_nil, List.replicate, List.cons_append, List.nil_append, List.set_cons_zero, List.set_cons_succ, List.mapIdx_cons, List.mapIdx_nil, List.zip_cons_cons, List.zip_nil_right, List.zip_nil_left, List.all_cons, List.all_nil, List.any_cons, List.any_nil, List.headD_cons, List.headD_nil, List.tail_cons, List.tail_nil, Nat.reduceAdd, Nat.reduceSub, Nat.reduceEqDiff, Nat.reduceLeDiff, if_true, if_false, ite_true, ite_false, Bool.false_eq_true, decide_true, decide_false, Bool.and_true, Bool.true_and, Bool.and_false, Bool.false_and, Bool.or_true, Bool.true_or, Bool.or_false, Bool.false_or, Bool.not_true, Bool.not_false, Option.map_some, Option.map_none, Option.bind_some, Option.or_some, Option.or_none, Option.none_or, Option.some_or, and_self, and_true, true_and, ne_eq, not_true_eq_false, not_false_eq_true, List.isEmpty_cons, List.isEmpty_nil, Int.cast_ofNat_Int, beq_self_eq_true, Int.reduceBEq, Int.reduceLT, Int.reduceLE, Int.reduceAdd, Int.reduceSub, Int.reduceEq, Int.reduceNeg, reduceIte, eqA_int, neA_int, eqA_bool, neA_bool, eqA_str, neA_str, eqA_tupE, neA_lstE, fIx_t0, fIx_t1, fIx_l0, fIx_l1, fIx_l2, addI_int, Int.natCast_zero, Int.natCast_one, Bool.not_eq_true, Bool.not_eq_false, m_matches, mb_matches, e]
theorem law_matches_eq (t : Tr) (h : t.sz ≤ 30) : m__law_matches [.cl t.enc] = .ok (.list (note t 0).2) true [.cl t.enc] := by
  have e := law_note_eq 30 t [] h (by simp only [List.length_nil]; omega)
  simp only [List.length_nil, List.nil_append] at e
  simp only [mFn, mDef, entry, ent, outs, outS, mSeq, mNext, mPass, mExpr, mRet, mRetF, mRetN, mRetO, mIf, mSet, mSetF, mSetL, mAsg, gN, gNl, gCn, gT, mPar, mParFF, mParFV, mParVF, mName, mNameF, mC, mBin, fin1, dat, Sl.dat, cln, clns, dats, mTest, mChain, mAnd, mOr, mNot, mVal, mAndV, mOrV, mNotV, mIfE, mNeg, mTup, mLst, mLstF, mFr, mNil, mCons, mCall, mCallF, callM, argSs, argS, apart, apartE, updE, backAt, conv, mIs, mIsM, BT.is, mCb, mCbF, fLen, fList, fTuple, fInt, fI, mPart, mNoPart, mSl, fSl, mRev, fRev, mSetIx, mMethG, mMeth, fClear, fIsN, fNotN, isNo, asgOk, slotOwn, Sl.put, Sl.mut, Sl.isO, bind_ok, bind_bad, bindS_ok, bindS_bad, then_nx, then_rt, then_bad, if_S, if_B, if_BS, ite_self, List.getElem?_cons_zero, List.getElem?_cons_succ, List.length_cons, List.length_nil, List.map_cons, List.map_nil, List.replicate, List.cons_append, List.nil_append, List.set_cons_zero, List.set_cons_succ, List.mapIdx_cons, List.mapIdx_nil, List.zip_cons_cons, List.zip_nil_right, List.zip_nil_left, List.all_cons, List.all_nil, List.any_cons, List.any_nil, List.headD_cons, List.headD_nil, List.tail_cons, List.tail_nil, Nat.reduceAdd, Nat.reduceSub, Nat.reduceEqDiff, Nat.reduceLeDiff, if_true, if_false, ite_true, ite_false, Bool.false_eq_true, decide_true, decide_false, Bool.and_true, Bool.true_and, Bool.and_false, Bool.false_and, Bool.or_true, Bool.true_or, Bool.or_false, Bool.false_or, Bool.not_true, Bool.not_false, Option.map_some, Option.map_none, Option.bind_some, Option.or_some, Option.or_none, Option.none_or, Option.some_or, and_self, and_true, true_and, ne_eq, not_true_eq_false, not_false_eq_true, List.isEmpty_cons, List.isEmpty_nil, Int.cast_ofNat_Int, beq_self_eq_true, Int.reduceBEq, Int.reduceLT, Int.reduceLE, Int.reduceAdd, Int.reduceSub, Int.reduceEq, Int.reduceNeg, reduceIte, eqA_int, neA_int, eqA_bool, neA_bool, eqA_str, neA_str, eqA_tupE, neA_lstE, fIx_t0, fIx_t1, fIx_l0, fIx_l1, fIx_l2, addI_int, Int.natCast_zero, Int.natCast_one, Bool.not_eq_true, Bool.not_eq_false, m__law_matches, mb__law_matches, e]
end DL
namespace DL
open PySem L2
open PyProof.Rows hiding St
/-! ## sides -/
def Tr.sv : Tr → List Int
  | .lf i => [i]
  | .nd l r => sortI (l.sv ++ r.sv)
def Tr.rows : Tr → List (List Int)
  | .lf _ => []
  | .nd l r => l.rows ++ r.rows ++ [sortI (l.sv ++ r.sv)]
theorem sv_len : ∀ t : Tr, t.sv.length = t.sz
  | .lf _ => rfl
  | .nd l r => by
    have h1 := sv_len l
    have h2 := sv_len r
    simp only [Tr.sv, Tr.sz, (sortI_perm _).length_eq, List.length_append, h1, h2]
theorem rows_len : ∀ t : Tr, t.rows.length + 1 = t.sz
  | .lf _ => rfl
  | .nd l r => by
    have h1 := rows_len l
    have h2 := rows_len r
    simp only [Tr.rows, Tr.sz, List.length_append, List.length_singleton]; omega
def tups (R : List (List Int)) : List PyData := R.map fun zs => .tuple (zs.map .int)
/-- a part of a match stands for these sides -/
def Ref (R : List (List Int)) (a : PyData) (zs : List Int) : Prop := (∃ i, a = .tuple [.str "side", .int i] ∧ zs = [i]) ∨ ∃ j : Nat, a = .tuple [.str "match", .int (j : Int)] ∧ R[j]? = some zs
theorem note_ref : ∀ (t : Tr) (R S : List (List Int)), Ref (R ++ t.rows ++ S) (note t R.length).1 t.sv
  | .lf i, R, S => .inl ⟨i, rfl, rfl⟩
  | .nd l r, R, S => by
    refine .inr ⟨_, rfl, ?_⟩
    have h1 := note_len l R.length
    have h2 := note_len r (R.length + (note l R.length).2.length)
    have h3 := rows_len l
    have h4 := rows_len r
    have e : R.length + (note l R.length).2.length + (note r (R.length + (note l R.length).2.length)).2.length = (R ++ (l.rows ++ r.rows)).length := by simp only [List.length_append]; omega
    rw [e]
    simp only [Tr.rows, Tr.sv, ← List.append_assoc]
    rw [List.getElem?_append_left (by simp only [List.length_append, List.length_singleton]; omega), List.getElem?_append_right (by simp only [List.length_append]; omega)]
    simp only [List.append_assoc, Nat.sub_self, List.getElem?_cons_zero]
theorem fIx_tups {R : List (List Int)} {j : Nat} {zs : List Int} (h : R[j]? = some zs) : fIx (.list (tups R)) (.int (j : Int)) = some (.tuple (zs.map .int)) := by
  obtain ⟨hj, e⟩ := List.getElem?_eq_some_iff.mp h
  have hl : (tups R).length = R.length := by unfold tups; rw [List.length_map]
  show atI (tups R) j = _
  unfold atI ixN
  rw [if_pos (by omega), if_pos (by rw [hl]; omega)]
  show (tups R)[(j : Int).toNat]? = _
  rw [Int.toNat_natCast]
  unfold tups
  rw [List.getElem?_map, h]
  rfl
theorem ext_l (zs ws : List Int) (h : zs.length + ws.length ≤ 1000000) : fExtend (zs.map .int) [.list (ws.map .int)] = some ((zs ++ ws).map .int, .none) := by
  show (if _ then _ else _) = _
  rw [if_pos (by rw [List.length_map, List.length_map]; exact h), List.map_append]
theorem ext_t (zs ws : List Int) (h : zs.length + ws.length ≤ 1000000) : fExtend (zs.map .int) [.tuple (ws.map .int)] = some ((zs ++ ws).map .int, .none) := by
  show (if _ then _ else _) = _
  rw [if_pos (by rw [List.length_map, List.length_map]; exact h), List.map_append]
theorem str_eq1 : (decide ((Str.ofString "side") = Str.ofString "side")) = true := by decide
theorem str_eq2 : (decide ((Str.ofString "match") = Str.ofString "side")) = false := by decide
/-- a match's parts, looked over by sides_of -/
theorem row_step (T : PyData) (R : List (List Int)) (a b : PyData) (za zb : List Int) (ha : Ref R a za) (hb : Ref R b zb) (la : za.length ≤ 1000) (lb : zb.length ≤ 1000) (hR : R.length ≤ 1000) (s3 s4 s5 : Sl) (h3 : asg s3) (h4 : asg s4) (h5 : asg s5) :
    ∃ t3 t4 t5, (mSeq (mSetF 3 (mLstF mNil)) (mSeq (mFor (mIterL (mName 2)) (gT 2 (gCn (gN 4) (gCn (gN 5) gNl)))
      (mExpr (mMethG 3 fExtend (mCons (mIfE (mTest (mBin fEqA (mName 4) (mC (.str "side")))) (mLst (mCons (mName 5) mNil)) (mBin fIx (mName 1) (mName 5))) mNil))))
      (mExpr (mMethG 1 fAppend (mCons (mCb fTuple (mCons (mFr (mCbF fSorted (mCons (mName 3) mNil))) mNil)) mNil))))) [.cl T, .ow (.list (tups R)), .cl (.tuple [a, b]), s3, s4, s5]
      = .nx [.cl T, .ow (.list (tups (R ++ [sortI (za ++ zb)]))), .cl (.tuple [a, b]), t3, t4, t5] ∧ asg t3 ∧ asg t4 ∧ asg t5 := by
  -- one part
  have part : ∀ (p : PyData) (zp zs : List Int) (q4 q5 : Sl), Ref R p zp → zp.length ≤ 1000 → zs.length ≤ 1000 → asg q4 → asg q5 → ∃ e1 u4 u5, gT 2 (gCn (gN 4) (gCn (gN 5) gNl)) p [.cl T, .ow (.list (tups R)), .cl (.tuple [a, b]), .ow (.list (zs.map .int)), q4, q5] = some e1 ∧
      mExpr (mMethG 3 fExtend (mCons (mIfE (mTest (mBin fEqA (mName 4) (mC (.str "side")))) (mLst (mCons (mName 5) mNil)) (mBin fIx (mName 1) (mName 5))) mNil)) e1 = .nx [.cl T, .ow (.list (tups R)), .cl (.tuple [a, b]), .ow (.list ((zs ++ zp).map .int)), .cl u4, .cl u5] := by
    intro p zp zs q4 q5 hp lp ls g4 g5
    have hg : ∀ u v : PyData, gT 2 (gCn (gN 4) (gCn (gN 5) gNl)) (.tuple [u, v]) [.cl T, .ow (.list (tups R)), .cl (.tuple [a, b]), .ow (.list (zs.map .int)), q4, q5] = some [.cl T, .ow (.list (tups R)), .cl (.tuple [a, b]), .ow (.list (zs.map .int)), .cl u, .cl v] := by
      intro u v
      rcases g4 with rfl | ⟨_, rfl⟩ | ⟨_, rfl⟩ <;> rcases g5 with rfl | ⟨_, rfl⟩ | ⟨_, rfl⟩ <;> rfl
    rcases hp with ⟨i, rfl, rfl⟩ | ⟨j, rfl, hj⟩
    · have e := ext_l zs [i] (by simp only [List.length_singleton]; omega)
      simp only [List.map_cons, List.map_nil] at e
      refine ⟨_, .str "side", .int i, hg _ _, ?_⟩
      simp only [mFn, mDef, entry, ent, outs, outS, mSeq, mNext, mPass, mExpr, mRet, mRetF, mRetN, mRetO, mIf, mSet, mSetF, mSetL, mAsg, gN, gNl, gCn, gT, mPar, mParFF, mParFV, mParVF, mName, mNameF, mC, mBin, fin1, dat, Sl.dat, cln, clns, dats, mTest, mChain, mAnd, mOr, mNot, mVal, mAndV, mOrV, mNotV, mIfE, mNeg, mTup, mLst, mLstF, mFr, mNil, mCons, mCall, mCallF, callM, argSs, argS, apart, apartE, updE, backAt, conv, mIs, mIsM, BT.is, mCb, mCbF, fLen, fList, fTuple, fInt, fI, mPart, mNoPart, mSl, fSl, mRev, fRev, mSetIx, mMethG, mMeth, fClear, fIsN, fNotN, isNo, asgOk, slotOwn, Sl.put, Sl.mut, Sl.isO, bind_ok, bind_bad, bindS_ok, bindS_bad, then_nx, then_rt, then_bad, if_S, if_B, if_BS, ite_self, List.getElem?_cons_zero, List.getElem?_cons_succ, List.length_cons, List.length_nil, List.map_cons, List.map_nil, List.replicate, List.cons_append, List.nil_append, List.set_cons_zero, List.set_cons_succ, List.mapIdx_cons, List.mapIdx_nil, List.zip_cons_cons, List.zip_nil_right, List.zip_nil_left, List.all_cons, List.all_nil, List.any_cons, List.any_nil, List.headD_cons, List.headD_nil, List.tail_cons, List.tail_nil, Nat.reduceAdd, Nat.reduceSub, Nat.reduceEqDiff, Nat.reduceLeDiff, if_true, if_false, ite_true, ite_false, Bool.false_eq_true, decide_true, decide_false, Bool.and_true, Bool.true_and, Bool.and_false, Bool.false_and, Bool.or_true, Bool.true_or, Bool.or_false, Bool.false_or, Bool.not_true, Bool.not_false, Option.map_some, Option.map_none, Option.bind_some, Option.or_some, Option.or_none, Option.none_or, Option.some_or, and_self, and_true, true_and, ne_eq, not_true_eq_false, not_false_eq_true, List.isEmpty_cons, List.isEmpty_nil, Int.cast_ofNat_Int, beq_self_eq_true, Int.reduceBEq, Int.reduceLT, Int.reduceLE, Int.reduceAdd, Int.reduceSub, Int.reduceEq, Int.reduceNeg, reduceIte, eqA_int, neA_int, eqA_bool, neA_bool, eqA_str, neA_str, eqA_tupE, neA_lstE, fIx_t0, fIx_t1, fIx_l0, fIx_l1, fIx_l2, addI_int, Int.natCast_zero, Int.natCast_one, Bool.not_eq_true, Bool.not_eq_false, str_eq1, e]
    · have e := ext_t zs zp (by omega)
      have ei := fIx_tups hj
      refine ⟨_, .str "match", .int (j : Int), hg _ _, ?_⟩
      simp only [mFn, mDef, entry, ent, outs, outS, mSeq, mNext, mPass, mExpr, mRet, mRetF, mRetN, mRetO, mIf, mSet, mSetF, mSetL, mAsg, gN, gNl, gCn, gT, mPar, mParFF, mParFV, mParVF, mName, mNameF, mC, mBin, fin1, dat, Sl.dat, cln, clns, dats, mTest, mChain, mAnd, mOr, mNot, mVal, mAndV, mOrV, mNotV, mIfE, mNeg, mTup, mLst, mLstF, mFr, mNil, mCons, mCall, mCallF, callM, argSs, argS, apart, apartE, updE, backAt, conv, mIs, mIsM, BT.is, mCb, mCbF, fLen, fList, fTuple, fInt, fI, mPart, mNoPart, mSl, fSl, mRev, fRev, mSetIx, mMethG, mMeth, fClear, fIsN, fNotN, isNo, asgOk, slotOwn, Sl.put, Sl.mut, Sl.isO, bind_ok, bind_bad, bindS_ok, bindS_bad, then_nx, then_rt, then_bad, if_S, if_B, if_BS, ite_self, List.getElem?_cons_zero, List.getElem?_cons_succ, List.length_cons, List.length_nil, List.map_cons, List.map_nil, List.replicate, List.cons_append, List.nil_append, List.set_cons_zero, List.set_cons_succ, List.mapIdx_cons, List.mapIdx_nil, List.zip_cons_cons, List.zip_nil_right, List.zip_nil_left, List.all_cons, List.all_nil, List.any_cons, List.any_nil, List.headD_cons, List.headD_nil, List.tail_cons, List.tail_nil, Nat.reduceAdd, Nat.reduceSub, Nat.reduceEqDiff, Nat.reduceLeDiff, if_true, if_false, ite_true, ite_false, Bool.false_eq_true, decide_true, decide_false, Bool.and_true, Bool.true_and, Bool.and_false, Bool.false_and, Bool.or_true, Bool.true_or, Bool.or_false, Bool.false_or, Bool.not_true, Bool.not_false, Option.map_some, Option.map_none, Option.bind_some, Option.or_some, Option.or_none, Option.none_or, Option.some_or, and_self, and_true, true_and, ne_eq, not_true_eq_false, not_false_eq_true, List.isEmpty_cons, List.isEmpty_nil, Int.cast_ofNat_Int, beq_self_eq_true, Int.reduceBEq, Int.reduceLT, Int.reduceLE, Int.reduceAdd, Int.reduceSub, Int.reduceEq, Int.reduceNeg, reduceIte, eqA_int, neA_int, eqA_bool, neA_bool, eqA_str, neA_str, eqA_tupE, neA_lstE, fIx_t0, fIx_t1, fIx_l0, fIx_l1, fIx_l2, addI_int, Int.natCast_zero, Int.natCast_one, Bool.not_eq_true, Bool.not_eq_false, str_eq2, ei, e]
  obtain ⟨e1, u4, u5, g1, x1⟩ := part a za [] s4 s5 ha la (by simp) h4 h5
  obtain ⟨e2, v4, v5, g2, x2⟩ := part b zb za (.cl u4) (.cl u5) hb lb la (.inr (.inl ⟨_, rfl⟩)) (.inr (.inl ⟨_, rfl⟩))
  have fm : ∀ (g : GM) (m : DEnv → SOut) (E0 E1 E2 E3 E4 : DEnv), g a E0 = some E1 → m E1 = .nx E2 → g b E2 = some E3 → m E3 = .nx E4 → forM g m [a, b] E0 = .nx E4 := fun g m E0 E1 E2 E3 E4 q1 q2 q3 q4 => by
    simp only [forM, q1, q2, q3, q4]
  have ff := fm _ _ _ _ _ _ _ g1 x1 g2 x2
  have ea : fAppend (tups R) [.tuple ((sortI (za ++ zb)).map .int)] = some (tups (R ++ [sortI (za ++ zb)]), .none) := by
    rw [app_ok _ _ (by unfold tups; rw [List.length_map]; omega)]
    unfold tups
    rw [List.map_append]
    rfl
  refine ⟨.ow (.list ((za ++ zb).map .int)), .cl v4, .cl v5, ?_, .inr (.inr ⟨_, rfl⟩), .inr (.inl ⟨_, rfl⟩), .inr (.inl ⟨_, rfl⟩)⟩
  have s1 : mSetF 3 (mLstF mNil) [.cl T, .ow (.list (tups R)), .cl (.tuple [a, b]), s3, s4, s5] = .nx [.cl T, .ow (.list (tups R)), .cl (.tuple [a, b]), .ow (.list []), s4, s5] := by
    rcases h3 with rfl | ⟨_, rfl⟩ | ⟨_, rfl⟩ <;> rfl
  refine sq (Φ := fun o => o = _) s1 (sq (Φ := fun o => o = _) (r := [.cl T, .ow (.list (tups R)), .cl (.tuple [a, b]), .ow (.list ((za ++ zb).map .int)), .cl v4, .cl v5]) ?_ ?_)
  · exact ff
  · simp only [mFn, mDef, entry, ent, outs, outS, mSeq, mNext, mPass, mExpr, mRet, mRetF, mRetN, mRetO, mIf, mSet, mSetF, mSetL, mAsg, gN, gNl, gCn, gT, mPar, mParFF, mParFV, mParVF, mName, mNameF, mC, mBin, fin1, dat, Sl.dat, cln, clns, dats, mTest, mChain, mAnd, mOr, mNot, mVal, mAndV, mOrV, mNotV, mIfE, mNeg, mTup, mLst, mLstF, mFr, mNil, mCons, mCall, mCallF, callM, argSs, argS, apart, apartE, updE, backAt, conv, mIs, mIsM, BT.is, mCb, mCbF, fLen, fList, fTuple, fInt, fI, mPart, mNoPart, mSl, fSl, mRev, fRev, mSetIx, mMethG, mMeth, fClear, fIsN, fNotN, isNo, asgOk, slotOwn, Sl.put, Sl.mut, Sl.isO, bind_ok, bind_bad, bindS_ok, bindS_bad, then_nx, then_rt, then_bad, if_S, if_B, if_BS, ite_self, List.getElem?_cons_zero, List.getElem?_cons_succ, List.length_cons, List.length_nil, List.map_cons, List.map_nil, List.replicate, List.cons_append, List.nil_append, List.set_cons_zero, List.set_cons_succ, List.mapIdx_cons, List.mapIdx_nil, List.zip_cons_cons, List.zip_nil_right, List.zip_nil_left, List.all_cons, List.all_nil, List.any_cons, List.any_nil, List.headD_cons, List.headD_nil, List.tail_cons, List.tail_nil, Nat.reduceAdd, Nat.reduceSub, Nat.reduceEqDiff, Nat.reduceLeDiff, if_true, if_false, ite_true, ite_false, Bool.false_eq_true, decide_true, decide_false, Bool.and_true, Bool.true_and, Bool.and_false, Bool.false_and, Bool.or_true, Bool.true_or, Bool.or_false, Bool.false_or, Bool.not_true, Bool.not_false, Option.map_some, Option.map_none, Option.bind_some, Option.or_some, Option.or_none, Option.none_or, Option.some_or, and_self, and_true, true_and, ne_eq, not_true_eq_false, not_false_eq_true, List.isEmpty_cons, List.isEmpty_nil, Int.cast_ofNat_Int, beq_self_eq_true, Int.reduceBEq, Int.reduceLT, Int.reduceLE, Int.reduceAdd, Int.reduceSub, Int.reduceEq, Int.reduceNeg, reduceIte, eqA_int, neA_int, eqA_bool, neA_bool, eqA_str, neA_str, eqA_tupE, neA_lstE, fIx_t0, fIx_t1, fIx_l0, fIx_l1, fIx_l2, addI_int, Int.natCast_zero, Int.natCast_one, Bool.not_eq_true, Bool.not_eq_false, sorted_ints, ea]
theorem addL (zs ws : List Int) (h : zs.length + ws.length ≤ 1000000) : fAdd (.list (zs.map .int)) (.list (ws.map .int)) = some (.list ((zs ++ ws).map .int)) := by
  show (if _ then _ else _) = _
  rw [if_pos (by rw [List.length_map, List.length_map]; exact h), List.map_append]
/-- .. by _law_sides -/
theorem row_step2 (T : PyData) (R : List (List Int)) (a b : PyData) (za zb : List Int) (ha : Ref R a za) (hb : Ref R b zb) (la : za.length ≤ 1000) (lb : zb.length ≤ 1000) (hR : R.length ≤ 1000) (s3 s4 s5 : Sl) (h3 : asg s3) (h4 : asg s4) (h5 : asg s5) :
    ∃ t3 t4 t5, (mSeq (mSet 3 (mLst mNil)) (mSeq (mFor (mIterL (mName 2)) (gT 2 (gCn (gN 4) (gCn (gN 5) gNl)))
      (mSet 3 (mBin fAdd (mName 3) (mIfE (mTest (mBin fEqA (mName 4) (mC (.str "side")))) (mLst (mCons (mName 5) mNil)) (mFr (mCbF fList (mCons (mBin fIx (mName 1) (mName 5)) mNil)))))))
      (mExpr (mMethG 1 fAppend (mCons (mCb fTuple (mCons (mFr (mCbF fSorted (mCons (mName 3) mNil))) mNil)) mNil))))) [.cl T, .ow (.list (tups R)), .cl (.tuple [a, b]), s3, s4, s5]
      = .nx [.cl T, .ow (.list (tups (R ++ [sortI (za ++ zb)]))), .cl (.tuple [a, b]), t3, t4, t5] ∧ asg t3 ∧ asg t4 ∧ asg t5 := by
  -- one part
  have part : ∀ (p : PyData) (zp zs : List Int) (q4 q5 : Sl), Ref R p zp → zp.length ≤ 1000 → zs.length ≤ 1000 → asg q4 → asg q5 → ∃ e1 u4 u5, gT 2 (gCn (gN 4) (gCn (gN 5) gNl)) p [.cl T, .ow (.list (tups R)), .cl (.tuple [a, b]), .cl (.list (zs.map .int)), q4, q5] = some e1 ∧
      mSet 3 (mBin fAdd (mName 3) (mIfE (mTest (mBin fEqA (mName 4) (mC (.str "side")))) (mLst (mCons (mName 5) mNil)) (mFr (mCbF fList (mCons (mBin fIx (mName 1) (mName 5)) mNil))))) e1 = .nx [.cl T, .ow (.list (tups R)), .cl (.tuple [a, b]), .cl (.list ((zs ++ zp).map .int)), .cl u4, .cl u5] := by
    intro p zp zs q4 q5 hp lp ls g4 g5
    have hg : ∀ u v : PyData, gT 2 (gCn (gN 4) (gCn (gN 5) gNl)) (.tuple [u, v]) [.cl T, .ow (.list (tups R)), .cl (.tuple [a, b]), .cl (.list (zs.map .int)), q4, q5] = some [.cl T, .ow (.list (tups R)), .cl (.tuple [a, b]), .cl (.list (zs.map .int)), .cl u, .cl v] := by
      intro u v
      rcases g4 with rfl | ⟨_, rfl⟩ | ⟨_, rfl⟩ <;> rcases g5 with rfl | ⟨_, rfl⟩ | ⟨_, rfl⟩ <;> rfl
    rcases hp with ⟨i, rfl, rfl⟩ | ⟨j, rfl, hj⟩
    · have e := addL zs [i] (by simp only [List.length_singleton]; omega)
      simp only [List.map_cons, List.map_nil] at e
      refine ⟨_, .str "side", .int i, hg _ _, ?_⟩
      simp only [mFn, mDef, entry, ent, outs, outS, mSeq, mNext, mPass, mExpr, mRet, mRetF, mRetN, mRetO, mIf, mSet, mSetF, mSetL, mAsg, gN, gNl, gCn, gT, mPar, mParFF, mParFV, mParVF, mName, mNameF, mC, mBin, fin1, dat, Sl.dat, cln, clns, dats, mTest, mChain, mAnd, mOr, mNot, mVal, mAndV, mOrV, mNotV, mIfE, mNeg, mTup, mLst, mLstF, mFr, mNil, mCons, mCall, mCallF, callM, argSs, argS, apart, apartE, updE, backAt, conv, mIs, mIsM, BT.is, mCb, mCbF, fLen, fList, fTuple, fInt, fI, mPart, mNoPart, mSl, fSl, mRev, fRev, mSetIx, mMethG, mMeth, fClear, fIsN, fNotN, isNo, asgOk, slotOwn, Sl.put, Sl.mut, Sl.isO, bind_ok, bind_bad, bindS_ok, bindS_bad, then_nx, then_rt, then_bad, if_S, if_B, if_BS, ite_self, List.getElem?_cons_zero, List.getElem?_cons_succ, List.length_cons, List.length_nil, List.map_cons, List.map_nil, List.replicate, List.cons_append, List.nil_append, List.set_cons_zero, List.set_cons_succ, List.mapIdx_cons, List.mapIdx_nil, List.zip_cons_cons, List.zip_nil_right, List.zip_nil_left, List.all_cons, List.all_nil, List.any_cons, List.any_nil, List.headD_cons, List.headD_nil, List.tail_cons, List.tail_nil, Nat.reduceAdd, Nat.reduceSub, Nat.reduceEqDiff, Nat.reduceLeDiff, if_true, if_false, ite_true, ite_false, Bool.false_eq_true, decide_true, decide_false, Bool.and_true, Bool.true_and, Bool.and_false, Bool.false_and, Bool.or_true, Bool.true_or, Bool.or_false, Bool.false_or, Bool.not_true, Bool.not_false, Option.map_some, Option.map_none, Option.bind_some, Option.or_some, Option.or_none, Option.none_or, Option.some_or, and_self, and_true, true_and, ne_eq, not_true_eq_false, not_false_eq_true, List.isEmpty_cons, List.isEmpty_nil, Int.cast_ofNat_Int, beq_self_eq_true, Int.reduceBEq, Int.reduceLT, Int.reduceLE, Int.reduceAdd, Int.reduceSub, Int.reduceEq, Int.reduceNeg, reduceIte, eqA_int, neA_int, eqA_bool, neA_bool, eqA_str, neA_str, eqA_tupE, neA_lstE, fIx_t0, fIx_t1, fIx_l0, fIx_l1, fIx_l2, addI_int, Int.natCast_zero, Int.natCast_one, Bool.not_eq_true, Bool.not_eq_false, str_eq1, e]
    · have e := addL zs zp (by omega)
      have ei := fIx_tups hj
      refine ⟨_, .str "match", .int (j : Int), hg _ _, ?_⟩
      simp only [mFn, mDef, entry, ent, outs, outS, mSeq, mNext, mPass, mExpr, mRet, mRetF, mRetN, mRetO, mIf, mSet, mSetF, mSetL, mAsg, gN, gNl, gCn, gT, mPar, mParFF, mParFV, mParVF, mName, mNameF, mC, mBin, fin1, dat, Sl.dat, cln, clns, dats, mTest, mChain, mAnd, mOr, mNot, mVal, mAndV, mOrV, mNotV, mIfE, mNeg, mTup, mLst, mLstF, mFr, mNil, mCons, mCall, mCallF, callM, argSs, argS, apart, apartE, updE, backAt, conv, mIs, mIsM, BT.is, mCb, mCbF, fLen, fList, fTuple, fInt, fI, mPart, mNoPart, mSl, fSl, mRev, fRev, mSetIx, mMethG, mMeth, fClear, fIsN, fNotN, isNo, asgOk, slotOwn, Sl.put, Sl.mut, Sl.isO, bind_ok, bind_bad, bindS_ok, bindS_bad, then_nx, then_rt, then_bad, if_S, if_B, if_BS, ite_self, List.getElem?_cons_zero, List.getElem?_cons_succ, List.length_cons, List.length_nil, List.map_cons, List.map_nil, List.replicate, List.cons_append, List.nil_append, List.set_cons_zero, List.set_cons_succ, List.mapIdx_cons, List.mapIdx_nil, List.zip_cons_cons, List.zip_nil_right, List.zip_nil_left, List.all_cons, List.all_nil, List.any_cons, List.any_nil, List.headD_cons, List.headD_nil, List.tail_cons, List.tail_nil, Nat.reduceAdd, Nat.reduceSub, Nat.reduceEqDiff, Nat.reduceLeDiff, if_true, if_false, ite_true, ite_false, Bool.false_eq_true, decide_true, decide_false, Bool.and_true, Bool.true_and, Bool.and_false, Bool.false_and, Bool.or_true, Bool.true_or, Bool.or_false, Bool.false_or, Bool.not_true, Bool.not_false, Option.map_some, Option.map_none, Option.bind_some, Option.or_some, Option.or_none, Option.none_or, Option.some_or, and_self, and_true, true_and, ne_eq, not_true_eq_false, not_false_eq_true, List.isEmpty_cons, List.isEmpty_nil, Int.cast_ofNat_Int, beq_self_eq_true, Int.reduceBEq, Int.reduceLT, Int.reduceLE, Int.reduceAdd, Int.reduceSub, Int.reduceEq, Int.reduceNeg, reduceIte, eqA_int, neA_int, eqA_bool, neA_bool, eqA_str, neA_str, eqA_tupE, neA_lstE, fIx_t0, fIx_t1, fIx_l0, fIx_l1, fIx_l2, addI_int, Int.natCast_zero, Int.natCast_one, Bool.not_eq_true, Bool.not_eq_false, str_eq2, ei, e]
  obtain ⟨e1, u4, u5, g1, x1⟩ := part a za [] s4 s5 ha la (by simp) h4 h5
  obtain ⟨e2, v4, v5, g2, x2⟩ := part b zb za (.cl u4) (.cl u5) hb lb la (.inr (.inl ⟨_, rfl⟩)) (.inr (.inl ⟨_, rfl⟩))
  have fm : ∀ (g : GM) (m : DEnv → SOut) (E0 E1 E2 E3 E4 : DEnv), g a E0 = some E1 → m E1 = .nx E2 → g b E2 = some E3 → m E3 = .nx E4 → forM g m [a, b] E0 = .nx E4 := fun g m E0 E1 E2 E3 E4 q1 q2 q3 q4 => by
    simp only [forM, q1, q2, q3, q4]
  have ff := fm _ _ _ _ _ _ _ g1 x1 g2 x2
  have ea : fAppend (tups R) [.tuple ((sortI (za ++ zb)).map .int)] = some (tups (R ++ [sortI (za ++ zb)]), .none) := by
    rw [app_ok _ _ (by unfold tups; rw [List.length_map]; omega)]
    unfold tups
    rw [List.map_append]
    rfl
  refine ⟨.cl (.list ((za ++ zb).map .int)), .cl v4, .cl v5, ?_, .inr (.inl ⟨_, rfl⟩), .inr (.inl ⟨_, rfl⟩), .inr (.inl ⟨_, rfl⟩)⟩
  have s1 : mSet 3 (mLst mNil) [.cl T, .ow (.list (tups R)), .cl (.tuple [a, b]), s3, s4, s5] = .nx [.cl T, .ow (.list (tups R)), .cl (.tuple [a, b]), .cl (.list []), s4, s5] := by
    rcases h3 with rfl | ⟨_, rfl⟩ | ⟨_, rfl⟩ <;> rfl
  refine sq (Φ := fun o => o = _) s1 (sq (Φ := fun o => o = _) (r := [.cl T, .ow (.list (tups R)), .cl (.tuple [a, b]), .cl (.list ((za ++ zb).map .int)), .cl v4, .cl v5]) ?_ ?_)
  · exact ff
  · simp only [mFn, mDef, entry, ent, outs, outS, mSeq, mNext, mPass, mExpr, mRet, mRetF, mRetN, mRetO, mIf, mSet, mSetF, mSetL, mAsg, gN, gNl, gCn, gT, mPar, mParFF, mParFV, mParVF, mName, mNameF, mC, mBin, fin1, dat, Sl.dat, cln, clns, dats, mTest, mChain, mAnd, mOr, mNot, mVal, mAndV, mOrV, mNotV, mIfE, mNeg, mTup, mLst, mLstF, mFr, mNil, mCons, mCall, mCallF, callM, argSs, argS, apart, apartE, updE, backAt, conv, mIs, mIsM, BT.is, mCb, mCbF, fLen, fList, fTuple, fInt, fI, mPart, mNoPart, mSl, fSl, mRev, fRev, mSetIx, mMethG, mMeth, fClear, fIsN, fNotN, isNo, asgOk, slotOwn, Sl.put, Sl.mut, Sl.isO, bind_ok, bind_bad, bindS_ok, bindS_bad, then_nx, then_rt, then_bad, if_S, if_B, if_BS, ite_self, List.getElem?_cons_zero, List.getElem?_cons_succ, List.length_cons, List.length_nil, List.map_cons, List.map_nil, List.replicate, List.cons_append, List.nil_append, List.set_cons_zero, List.set_cons_succ, List.mapIdx_cons, List.mapIdx_nil, List.zip_cons_cons, List.zip_nil_right, List.zip_nil_left, List.all_cons, List.all_nil, List.any_cons, List.any_nil, List.headD_cons, List.headD_nil, List.tail_cons, List.tail_nil, Nat.reduceAdd, Nat.reduceSub, Nat.reduceEqDiff, Nat.reduceLeDiff, if_true, if_false, ite_true, ite_false, Bool.false_eq_true, decide_true, decide_false, Bool.and_true, Bool.true_and, Bool.and_false, Bool.false_and, Bool.or_true, Bool.true_or, Bool.or_false, Bool.false_or, Bool.not_true, Bool.not_false, Option.map_some, Option.map_none, Option.bind_some, Option.or_some, Option.or_none, Option.none_or, Option.some_or, and_self, and_true, true_and, ne_eq, not_true_eq_false, not_false_eq_true, List.isEmpty_cons, List.isEmpty_nil, Int.cast_ofNat_Int, beq_self_eq_true, Int.reduceBEq, Int.reduceLT, Int.reduceLE, Int.reduceAdd, Int.reduceSub, Int.reduceEq, Int.reduceNeg, reduceIte, eqA_int, neA_int, eqA_bool, neA_bool, eqA_str, neA_str, eqA_tupE, neA_lstE, fIx_t0, fIx_t1, fIx_l0, fIx_l1, fIx_l2, addI_int, Int.natCast_zero, Int.natCast_one, Bool.not_eq_true, Bool.not_eq_false, sorted_ints, ea]
/-- turns that all come to their end -/
def Steps (g : GM) (m : DEnv → SOut) : List PyData → DEnv → DEnv → Prop
  | [], env, r => env = r
  | x :: xs, env, r => ∃ r1 r2, g x env = some r1 ∧ m r1 = .nx r2 ∧ Steps g m xs r2 r
theorem Steps.app {g : GM} {m : DEnv → SOut} : ∀ {xs ys : List PyData} {a b c : DEnv}, Steps g m xs a b → Steps g m ys b c → Steps g m (xs ++ ys) a c
  | [], _, _, _, _, h, k => by cases h; exact k
  | _ :: _, _, _, _, _, ⟨r1, r2, h1, h2, h3⟩, k => ⟨r1, r2, h1, h2, Steps.app h3 k⟩
theorem Steps.forM {g : GM} {m : DEnv → SOut} : ∀ {xs : List PyData} {a b : DEnv}, Steps g m xs a b → DL.forM g m xs a = .nx b
  | [], _, _, h => by cases h; rfl
  | _ :: _, _, _, ⟨r1, r2, h1, h2, h3⟩ => by
    unfold DL.forM
    simp only [h1, h2]
    exact Steps.forM h3
/-- the walk over a tree's notes -/
theorem sides_loop (T : PyData) (body : DEnv → SOut)
    (step : ∀ (R : List (List Int)) (a b : PyData) (za zb : List Int) (_ : Ref R a za) (_ : Ref R b zb) (_ : za.length ≤ 1000) (_ : zb.length ≤ 1000) (_ : R.length ≤ 1000) (s3 s4 s5 : Sl) (_ : asg s3) (_ : asg s4) (_ : asg s5),
      ∃ t3 t4 t5, body [.cl T, .ow (.list (tups R)), .cl (.tuple [a, b]), s3, s4, s5] = .nx [.cl T, .ow (.list (tups (R ++ [sortI (za ++ zb)]))), .cl (.tuple [a, b]), t3, t4, t5] ∧ asg t3 ∧ asg t4 ∧ asg t5) :
    ∀ (t : Tr) (R : List (List Int)) (_ : R.length + t.sz ≤ 1000) (s2 s3 s4 s5 : Sl) (_ : asg s2) (_ : asg s3) (_ : asg s4) (_ : asg s5),
      ∃ t2 t3 t4 t5, Steps (gN 2) body (note t R.length).2 [.cl T, .ow (.list (tups R)), s2, s3, s4, s5] [.cl T, .ow (.list (tups (R ++ t.rows))), t2, t3, t4, t5] ∧ asg t2 ∧ asg t3 ∧ asg t4 ∧ asg t5
  | .lf i, R, _, s2, s3, s4, s5, h2, h3, h4, h5 => ⟨s2, s3, s4, s5, by simp only [note, Steps, Tr.rows, List.append_nil], h2, h3, h4, h5⟩
  | .nd l r, R, h, s2, s3, s4, s5, h2, h3, h4, h5 => by
    simp only [Tr.sz] at h
    have pl := l.pos
    have pr := r.pos
    have nl := note_len l R.length
    have rl := rows_len l
    have rr := rows_len r
    obtain ⟨a2, a3, a4, a5, e1, g2, g3, g4, g5⟩ := sides_loop T body step l R (by omega) s2 s3 s4 s5 h2 h3 h4 h5
    obtain ⟨b2, b3, b4, b5, e2, k2, k3, k4, k5⟩ := sides_loop T body step r (R ++ l.rows) (by rw [List.length_append]; omega) a2 a3 a4 a5 g2 g3 g4 g5
    have el : (R ++ l.rows).length = R.length + (note l R.length).2.length := by rw [List.length_append]; omega
    have fa := note_ref l R r.rows
    have fb := note_ref r (R ++ l.rows) []
    rw [List.append_nil] at fb
    have e3 : gN 2 (.tuple [(note l R.length).1, (note r (R ++ l.rows).length).1]) [.cl T, .ow (.list (tups (R ++ l.rows ++ r.rows))), b2, b3, b4, b5] = some [.cl T, .ow (.list (tups (R ++ l.rows ++ r.rows))), .cl (.tuple [(note l R.length).1, (note r (R ++ l.rows).length).1]), b3, b4, b5] := by
      rcases k2 with rfl | ⟨_, rfl⟩ | ⟨_, rfl⟩ <;> rfl
    obtain ⟨c3, c4, c5, e4, m3, m4, m5⟩ := step (R ++ l.rows ++ r.rows) _ _ _ _ fa fb (by rw [sv_len]; omega) (by rw [sv_len]; omega) (by simp only [List.length_append]; omega) b3 b4 b5 k3 k4 k5
    refine ⟨.cl (.tuple [(note l R.length).1, (note r (R ++ l.rows).length).1]), c3, c4, c5, ?_, .inr (.inl ⟨_, rfl⟩), m3, m4, m5⟩
    have e5 := (e1.app e2).app (ys := [.tuple [(note l R.length).1, (note r (R ++ l.rows).length).1]]) ⟨_, _, e3, e4, rfl⟩
    simp only [note, ← el, Tr.rows]
    simp only [List.append_assoc] at e5 ⊢
    exact e5
theorem sides_of_eq (t : Tr) (h : t.sz ≤ 30) : m_sides_of [.cl t.enc] = .ok (.list (tups t.rows)) true [.cl t.enc] := by
  have em := matches_eq t h
  obtain ⟨t2, t3, t4, t5, e, _, _, _, _⟩ := sides_loop t.enc _ (row_step t.enc) t [] (by simp only [List.length_nil]; omega) .un .un .un .un (.inl rfl) (.inl rfl) (.inl rfl) (.inl rfl)
  have ef := e.forM
  rw [List.nil_append, List.length_nil] at ef
  refine mFn_rt (r := [.cl t.enc, .un, t2, t3, t4, t5]) rfl ?_
  refine sq (Φ := fun o => o = _) (r := [.cl t.enc, .ow (.list []), .un, .un, .un, .un]) rfl (sq (Φ := fun o => o = _) (r := [.cl t.enc, .ow (.list (tups t.rows)), t2, t3, t4, t5]) ?_ rfl)
  unfold mFor
  have ei : mIterL (mCall m_matches [false] (mCons (mName 0) mNil)) [.cl t.enc, .ow (.list []), .un, .un, .un, .un] = .ok (note t 0).2 [.cl t.enc, .ow (.list []), .un, .un, .un, .un] := by
    simp only [mFn, mDef, entry, ent, outs, outS, mSeq, mNext, mPass, mExpr, mRet, mRetF, mRetN, mRetO, mIf, mSet, mSetF, mSetL, mAsg, gN, gNl, gCn, gT, mPar, mParFF, mParFV, mParVF, mName, mNameF, mC, mBin, fin1, dat, Sl.dat, cln, clns, dats, mTest, mChain, mAnd, mOr, mNot, mVal, mAndV, mOrV, mNotV, mIfE, mNeg, mTup, mLst, mLstF, mFr, mNil, mCons, mCall, mCallF, callM, argSs, argS, apart, apartE, updE, backAt, conv, mIs, mIsM, BT.is, mCb, mCbF, fLen, fList, fTuple, fInt, fI, mPart, mNoPart, mSl, fSl, mRev, fRev, mSetIx, mMethG, mMeth, fClear, fIsN, fNotN, isNo, asgOk, slotOwn, Sl.put, Sl.mut, Sl.isO, bind_ok, bind_bad, bindS_ok, bindS_bad, then_nx, then_rt, then_bad, if_S, if_B, if_BS, ite_self, List.getElem?_cons_zero, List.getElem?_cons_succ, List.length_cons, List.length_nil, List.map_cons, List.map_nil, List.replicate, List.cons_append, List.nil_append, List.set_cons_zero, List.set_cons_succ, List.mapIdx_cons, List.mapIdx_nil, List.zip_cons_cons, List.zip_nil_right, List.zip_nil_left, List.all_cons, List.all_nil, List.any_cons, List.any_nil, List.headD_cons, List.headD_nil, List.tail_cons, List.tail_nil, Nat.reduceAdd, Nat.reduceSub, Nat.reduceEqDiff, Nat.reduceLeDiff, if_true, if_false, ite_true, ite_false, Bool.false_eq_true, decide_true, decide_false, Bool.and_true, Bool.true_and, Bool.and_false, Bool.false_and, Bool.or_true, Bool.true_or, Bool.or_false, Bool.false_or, Bool.not_true, Bool.not_false, Option.map_some, Option.map_none, Option.bind_some, Option.or_some, Option.or_none, Option.none_or, Option.some_or, and_self, and_true, true_and, ne_eq, not_true_eq_false, not_false_eq_true, List.isEmpty_cons, List.isEmpty_nil, Int.cast_ofNat_Int, beq_self_eq_true, Int.reduceBEq, Int.reduceLT, Int.reduceLE, Int.reduceAdd, Int.reduceSub, Int.reduceEq, Int.reduceNeg, reduceIte, eqA_int, neA_int, eqA_bool, neA_bool, eqA_str, neA_str, eqA_tupE, neA_lstE, fIx_t0, fIx_t1, fIx_l0, fIx_l1, fIx_l2, addI_int, Int.natCast_zero, Int.natCast_one, Bool.not_eq_true, Bool.not_eq_false, mIterL, em, walkable]
  rw [ei]
  exact ef
theorem law_sides_of_eq (t : Tr) (h : t.sz ≤ 30) : m__law_sides [.cl t.enc] = .ok (.list (tups t.rows)) true [.cl t.enc] := by
  have em := law_matches_eq t h
  obtain ⟨t2, t3, t4, t5, e, _, _, _, _⟩ := sides_loop t.enc _ (row_step2 t.enc) t [] (by simp only [List.length_nil]; omega) .un .un .un .un (.inl rfl) (.inl rfl) (.inl rfl) (.inl rfl)
  have ef := e.forM
  rw [List.nil_append, List.length_nil] at ef
  refine mFn_rt (r := [.cl t.enc, .un, t2, t3, t4, t5]) rfl ?_
  refine sq (Φ := fun o => o = _) (r := [.cl t.enc, .ow (.list []), .un, .un, .un, .un]) rfl (sq (Φ := fun o => o = _) (r := [.cl t.enc, .ow (.list (tups t.rows)), t2, t3, t4, t5]) ?_ rfl)
  unfold mFor
  have ei : mIterL (mCall m__law_matches [false] (mCons (mName 0) mNil)) [.cl t.enc, .ow (.list []), .un, .un, .un, .un] = .ok (note t 0).2 [.cl t.enc, .ow (.list []), .un, .un, .un, .un] := by
    simp only [mFn, mDef, entry, ent, outs, outS, mSeq, mNext, mPass, mExpr, mRet, mRetF, mRetN, mRetO, mIf, mSet, mSetF, mSetL, mAsg, gN, gNl, gCn, gT, mPar, mParFF, mParFV, mParVF, mName, mNameF, mC, mBin, fin1, dat, Sl.dat, cln, clns, dats, mTest, mChain, mAnd, mOr, mNot, mVal, mAndV, mOrV, mNotV, mIfE, mNeg, mTup, mLst, mLstF, mFr, mNil, mCons, mCall, mCallF, callM, argSs, argS, apart, apartE, updE, backAt, conv, mIs, mIsM, BT.is, mCb, mCbF, fLen, fList, fTuple, fInt, fI, mPart, mNoPart, mSl, fSl, mRev, fRev, mSetIx, mMethG, mMeth, fClear, fIsN, fNotN, isNo, asgOk, slotOwn, Sl.put, Sl.mut, Sl.isO, bind_ok, bind_bad, bindS_ok, bindS_bad, then_nx, then_rt, then_bad, if_S, if_B, if_BS, ite_self, List.getElem?_cons_zero, List.getElem?_cons_succ, List.length_cons, List.length_nil, List.map_cons, List.map_nil, List.replicate, List.cons_append, List.nil_append, List.set_cons_zero, List.set_cons_succ, List.mapIdx_cons, List.mapIdx_nil, List.zip_cons_cons, List.zip_nil_right, List.zip_nil_left, List.all_cons, List.all_nil, List.any_cons, List.any_nil, List.headD_cons, List.headD_nil, List.tail_cons, List.tail_nil, Nat.reduceAdd, Nat.reduceSub, Nat.reduceEqDiff, Nat.reduceLeDiff, if_true, if_false, ite_true, ite_false, Bool.false_eq_true, decide_true, decide_false, Bool.and_true, Bool.true_and, Bool.and_false, Bool.false_and, Bool.or_true, Bool.true_or, Bool.or_false, Bool.false_or, Bool.not_true, Bool.not_false, Option.map_some, Option.map_none, Option.bind_some, Option.or_some, Option.or_none, Option.none_or, Option.some_or, and_self, and_true, true_and, ne_eq, not_true_eq_false, not_false_eq_true, List.isEmpty_cons, List.isEmpty_nil, Int.cast_ofNat_Int, beq_self_eq_true, Int.reduceBEq, Int.reduceLT, Int.reduceLE, Int.reduceAdd, Int.reduceSub, Int.reduceEq, Int.reduceNeg, reduceIte, eqA_int, neA_int, eqA_bool, neA_bool, eqA_str, neA_str, eqA_tupE, neA_lstE, fIx_t0, fIx_t1, fIx_l0, fIx_l1, fIx_l2, addI_int, Int.natCast_zero, Int.natCast_one, Bool.not_eq_true, Bool.not_eq_false, mIterL, em, walkable]
  rw [ei]
  exact ef
end DL
namespace DL
open PySem L2
open PyProof.Rows hiding St
theorem pl_pair {s : Str} {i : Int} (h : s.cps.size ≤ 8) : Pl 20 1 (.tuple [.str s, .int i]) :=
  ⟨by simp only [PyData.bulk, PyData.bulkAll]; omega, by simp only [PyData.depth, PyData.depthAll]; omega, by simp only [PyData.hasDict, PyData.hasDictAll, Bool.or_self]⟩
theorem note_pl : ∀ (t : Tr) (k : Nat), Pl 20 1 (note t k).1 ∧ ∀ x ∈ (note t k).2, Pl 50 2 x
  | .lf i, _ => ⟨pl_pair (by decide), fun x h => (nomatch h)⟩
  | .nd l r, k => by
    obtain ⟨a, b⟩ := note_pl l k
    obtain ⟨c, d⟩ := note_pl r (k + (note l k).2.length)
    refine ⟨pl_pair (by decide), fun x h => ?_⟩
    simp only [note, List.mem_append, List.mem_singleton] at h
    rcases h with (h | h) | rfl
    · exact b x h
    · exact d x h
    · refine pl_tup (N := 20) (D := 1) (fun y hy => ?_) (by simp only [List.length_cons, List.length_nil]; omega)
      simp only [List.mem_cons, List.not_mem_nil, or_false] at hy
      rcases hy with rfl | rfl
      · exact a
      · exact c
theorem rows_le : ∀ (t : Tr), ∀ zs ∈ t.rows, zs.length ≤ t.sz
  | .lf _, _, h => nomatch h
  | .nd l r, zs, h => by
    simp only [Tr.rows, List.mem_append, List.mem_singleton] at h
    simp only [Tr.sz]
    rcases h with (h | h) | rfl
    · have := rows_le l zs h; omega
    · have := rows_le r zs h; omega
    · have h1 := sv_len l
      have h2 := sv_len r
      rw [(sortI_perm _).length_eq, List.length_append, h1, h2]; omega
theorem rows_pl (t : Tr) (h : t.sz ≤ 16) : ∀ x ∈ tups t.rows, Pl 50 2 x := by
  intro x hx
  obtain ⟨zs, hz, rfl⟩ := List.mem_map.mp hx
  have := rows_le t zs hz
  have p := pl_tup (N := 0) (D := 0) (M := 50) (ds := zs.map .int) (fun y hy => by obtain ⟨i, _, rfl⟩ := List.mem_map.mp hy; exact pl_int) (by rw [List.length_map]; omega)
  exact ⟨p.1, by have := p.2.1; omega, p.2.2⟩
end DL
namespace DL
open PySem L2
open PyProof.Rows hiding St
/-! ## comprehensions that change nothing -/
theorem lcM_map {vs : List Nat} {g : GM} {me : DEnv → Out EV} {w : DEnv} (f : PyData → PyData) : ∀ (ds acc : List PyData), (∀ d ∈ ds, ∃ r1, g d w = some r1 ∧ ∃ x r3, me r1 = .ok x r3 ∧ cln r3 x = some (f d) ∧ okAll r3 vs = true ∧ wipeE r3 vs = w) →
    lcM vs g mYes me ds w acc = some (acc ++ ds.map f, w)
  | [], acc, _ => by unfold lcM; simp
  | d :: ds, acc, h => by
    obtain ⟨r1, e1, x, r3, e2, e3, e4, e5⟩ := h d List.mem_cons_self
    unfold lcM
    simp only [e1, mYes, e2, e3, e4, if_true, e5]
    rw [lcM_map f ds _ fun d m => h d (List.mem_cons_of_mem _ m), List.map_cons, List.append_assoc]
    rfl
theorem lcF_map {vs : List Nat} {mi : DEnv → Out (List PyData)} {g : GM} {me : DEnv → Out EV} {env r : DEnv} {ds : List PyData} (f : PyData → PyData) (hi : mi env = .ok ds r) (hl : ds.length ≤ 1000000) (ho : okAll r vs = true) (ho2 : okAll (wipeE r vs) vs = true)
    (h : ∀ d ∈ ds, ∃ r1, g d (wipeE r vs) = some r1 ∧ ∃ x r3, me r1 = .ok x r3 ∧ cln r3 x = some (f d) ∧ okAll r3 vs = true ∧ wipeE r3 vs = wipeE r vs) :
    mLcF vs mi g mYes me env = .ok (.list (ds.map f)) (restoreE r (wipeE r vs) vs) := by
  unfold mLcF
  rw [hi]
  show (if _ then _ else _) = _
  rw [if_pos ⟨hl, ho⟩, lcM_map f ds [] h]
  simp only [List.nil_append, ho2, if_true]
theorem mIterL_of {m : DEnv → Out EV} {env r : DEnv} {xs : List PyData} (h : m env = .ok (.val (.list xs)) r) : mIterL m env = .ok xs r := by unfold mIterL; rw [h]; rfl
theorem mIterT_of {m : DEnv → Out EV} {env r : DEnv} {xs : List PyData} (h : m env = .ok (.val (.tuple xs)) r) : mIterL m env = .ok xs r := by unfold mIterL; rw [h]; rfl
theorem mFor_list {m : DEnv → Out EV} {g : GM} {body : DEnv → SOut} {env r : DEnv} {xs : List PyData} {out : SOut} (h : m env = .ok (.val (.list xs)) r) (hf : forM g body xs r = out) : mFor (mIterL m) g body env = out := by
  unfold mFor mIterL
  rw [h]
  exact hf
theorem mFor_tup {m : DEnv → Out EV} {g : GM} {body : DEnv → SOut} {env r : DEnv} {xs : List PyData} {out : SOut} (h : m env = .ok (.val (.tuple xs)) r) (hf : forM g body xs r = out) : mFor (mIterL m) g body env = out := by
  unfold mFor mIterL
  rw [h]
  exact hf
theorem forM_cons {g : GM} {body : DEnv → SOut} {d : PyData} {ds : List PyData} {env e1 e2 : DEnv} {o : SOut} (hg : g d env = some e1) (hb : body e1 = .nx e2) (h : forM g body ds e2 = o) : forM g body (d :: ds) env = o := by
  unfold forM
  simp only [hg, hb]
  exact h
theorem mPar_ok {i j : Nat} {ma mb : DEnv → Out EV} {env r r' : DEnv} {d d' : PyData} (h1 : ma env = .ok (.val d) r) (h2 : mb r = .ok (.val d') r') (hi : asgOk r' i = true) (hj : asgOk r' j = true) : mPar i j ma mb env = .nx ((r'.set i (.cl d)).set j (.cl d')) := by
  unfold mPar
  rw [h1]
  show (mb r).bindS _ = _
  rw [h2]
  show (if _ then _ else _) = _
  rw [if_pos ⟨hi, hj⟩]
theorem mAsg_ok {m : DEnv → Out EV} {g : GM} {env r r' : DEnv} {d : PyData} (h : m env = .ok (.val d) r) (h2 : g d r = some r') : mAsg m g env = .nx r' := by
  unfold mAsg
  rw [h]
  show (match g d r with | some r' => SOut.nx r' | none => .bad) = _
  rw [h2]
theorem gT2_ok {i j : Nat} {env : DEnv} {a b : PyData} (hi : asgOk env i = true) (hj : asgOk (env.set i (.cl a)) j = true) : gT 2 (gCn (gN i) (gCn (gN j) gNl)) (.tuple [a, b]) env = some ((env.set i (.cl a)).set j (.cl b)) := by
  show (gN i a env).bind (fun r => (gN j b r).bind fun r => some r) = _
  rw [gN_ok hi]
  show (gN j b _).bind _ = _
  rw [gN_ok hj]
  rfl
end DL
namespace DL
open PySem L2
open PyProof.Rows hiding St
/-! ## texts of sides -/
def num (z : Int) : Str := toString z
theorem cases20 {z : Int} (h : 0 ≤ z ∧ z < 16) : z = 0 ∨ z = 1 ∨ z = 2 ∨ z = 3 ∨ z = 4 ∨ z = 5 ∨ z = 6 ∨ z = 7 ∨ z = 8 ∨ z = 9 ∨ z = 10 ∨ z = 11 ∨ z = 12 ∨ z = 13 ∨ z = 14 ∨ z = 15 := by omega
def sp : Str := " "
theorem num_free {z : Int} (h : 0 ≤ z ∧ z < 16) : 32 ∉ TL.tl (num z) := by
  rcases cases20 h with rfl | rfl | rfl | rfl | rfl | rfl | rfl | rfl | rfl | rfl | rfl | rfl | rfl | rfl | rfl | rfl <;> decide +kernel
theorem num_len {z : Int} (h : 0 ≤ z ∧ z < 16) : 1 ≤ (num z).length ∧ (num z).length ≤ 2 := by
  rcases cases20 h with rfl | rfl | rfl | rfl | rfl | rfl | rfl | rfl | rfl | rfl | rfl | rfl | rfl | rfl | rfl | rfl <;> decide +kernel
theorem num_txt {z : Int} (h : 0 ≤ z ∧ z < 16) : intText? (num z) = some z := by
  rcases cases20 h with rfl | rfl | rfl | rfl | rfl | rfl | rfl | rfl | rfl | rfl | rfl | rfl | rfl | rfl | rfl | rfl <;> decide +kernel
theorem num_int {z : Int} (h : 0 ≤ z ∧ z < 16) : fIntA [.str (num z)] = some (.int z) := by
  show (if (num z).length ≤ 640 then (intText? (num z)).map PyData.int else none) = _
  rw [if_pos (by have := num_len h; omega), num_txt h]
  rfl
def digs : Str := "0123456789"
theorem num_digs {z : Int} (h : 0 ≤ z ∧ z < 16) : ∀ c ∈ TL.tl (num z), c ∈ TL.tl digs := by
  rcases cases20 h with rfl | rfl | rfl | rfl | rfl | rfl | rfl | rfl | rfl | rfl | rfl | rfl | rfl | rfl | rfl | rfl <;> decide +kernel
theorem num_is {z : Int} (h : 0 ≤ z ∧ z < 16) : m_is_number [.cl (.str (num z))] = .ok (.bool true) false [.cl (.str (num z))] := by
  have hl := num_len h
  have e1 : fLenA [.str (num z)] = some (.int (num z).length) := if_pos (by omega)
  have c1 : mLcF [1] (mIterS (mName 0)) (gN 1) mYes (mBin (fInS false) (mName 1) (mC (.str "0123456789"))) [.cl (.str (num z)), .un] = .ok (.list ((signsD (num z)).map fun _ => .bool true)) [.cl (.str (num z)), .un] := by
    refine lcF_map (r := [.cl (.str (num z)), .un]) (fun _ => .bool true) rfl (by unfold signsD; rw [List.length_map]; show (num z).length ≤ _; omega) rfl rfl fun d hd => ?_
    obtain ⟨c, hc, rfl⟩ := List.mem_map.mp hd
    have e3 : fInS false (.str ⟨#[c]⟩) (.str "0123456789") = some (.bool true) := by
      show some (PyData.bool (xor false (decide (c ∈ TL.tl digs)))) = _
      rw [decide_eq_true (num_digs h c hc)]
      rfl
    refine ⟨_, rfl, .val (.bool true), [.cl (.str (num z)), .cl (.str ⟨#[c]⟩)], ?_, rfl, rfl, rfl⟩
    show mBin (fInS false) (mName 1) (mC (.str "0123456789")) [.cl (.str (num z)), .cl (.str ⟨#[c]⟩)] = _
    simp only [mFn, mDef, entry, ent, outs, outS, mSeq, mNext, mPass, mExpr, mRet, mRetF, mRetN, mRetO, mIf, mSet, mSetF, mSetL, mAsg, gN, gNl, gCn, gT, mPar, mParFF, mParFV, mParVF, mName, mNameF, mC, mBin, fin1, dat, Sl.dat, cln, clns, dats, mTest, mChain, mAnd, mOr, mNot, mVal, mAndV, mOrV, mNotV, mIfE, mNeg, mTup, mLst, mLstF, mFr, mNil, mCons, mCall, mCallF, callM, argSs, argS, apart, apartE, updE, backAt, conv, mIs, mIsM, BT.is, mCb, mCbF, fLen, fList, fTuple, fInt, fI, mPart, mNoPart, mSl, fSl, mRev, fRev, mSetIx, mMethG, mMeth, fClear, fIsN, fNotN, isNo, asgOk, slotOwn, Sl.put, Sl.mut, Sl.isO, bind_ok, bind_bad, bindS_ok, bindS_bad, then_nx, then_rt, then_bad, if_S, if_B, if_BS, ite_self, List.getElem?_cons_zero, List.getElem?_cons_succ, List.length_cons, List.length_nil, List.map_cons, List.map_nil, List.replicate, List.cons_append, List.nil_append, List.set_cons_zero, List.set_cons_succ, List.mapIdx_cons, List.mapIdx_nil, List.zip_cons_cons, List.zip_nil_right, List.zip_nil_left, List.all_cons, List.all_nil, List.any_cons, List.any_nil, List.headD_cons, List.headD_nil, List.tail_cons, List.tail_nil, Nat.reduceAdd, Nat.reduceSub, Nat.reduceEqDiff, Nat.reduceLeDiff, if_true, if_false, ite_true, ite_false, Bool.false_eq_true, decide_true, decide_false, Bool.and_true, Bool.true_and, Bool.and_false, Bool.false_and, Bool.or_true, Bool.true_or, Bool.or_false, Bool.false_or, Bool.not_true, Bool.not_false, Option.map_some, Option.map_none, Option.bind_some, Option.or_some, Option.or_none, Option.none_or, Option.some_or, and_self, and_true, true_and, ne_eq, not_true_eq_false, not_false_eq_true, List.isEmpty_cons, List.isEmpty_nil, Int.cast_ofNat_Int, beq_self_eq_true, Int.reduceBEq, Int.reduceLT, Int.reduceLE, Int.reduceAdd, Int.reduceSub, Int.reduceEq, Int.reduceNeg, reduceIte, eqA_int, neA_int, eqA_bool, neA_bool, eqA_str, neA_str, eqA_tupE, neA_lstE, fIx_t0, fIx_t1, fIx_l0, fIx_l1, fIx_l2, addI_int, Int.natCast_zero, Int.natCast_one, Bool.not_eq_true, Bool.not_eq_false, e3]
  have e2 : fAll [.list ((signsD (num z)).map fun _ => .bool true)] = some (.bool true) := by
    generalize signsD (num z) = l
    show (boolsOf _).map _ = _
    have : ∀ l : List PyData, boolsOf (l.map fun _ => PyData.bool true) = some (l.map fun _ => true) := fun l => by
      induction l with
      | nil => rfl
      | cons x l ih => show (boolsOf _).map _ = _; rw [ih]; rfl
    rw [this]
    simp
  have h1 : (1 : Int) ≤ ((num z).length : Int) := by omega
  have h2 : ((num z).length : Int) ≤ 2 := by omega
  simp only [mFn, mDef, entry, ent, outs, outS, mSeq, mNext, mPass, mExpr, mRet, mRetF, mRetN, mRetO, mIf, mSet, mSetF, mSetL, mAsg, gN, gNl, gCn, gT, mPar, mParFF, mParFV, mParVF, mName, mNameF, mC, mBin, fin1, dat, Sl.dat, cln, clns, dats, mTest, mChain, mAnd, mOr, mNot, mVal, mAndV, mOrV, mNotV, mIfE, mNeg, mTup, mLst, mLstF, mFr, mNil, mCons, mCall, mCallF, callM, argSs, argS, apart, apartE, updE, backAt, conv, mIs, mIsM, BT.is, mCb, mCbF, fLen, fList, fTuple, fInt, fI, mPart, mNoPart, mSl, fSl, mRev, fRev, mSetIx, mMethG, mMeth, fClear, fIsN, fNotN, isNo, asgOk, slotOwn, Sl.put, Sl.mut, Sl.isO, bind_ok, bind_bad, bindS_ok, bindS_bad, then_nx, then_rt, then_bad, if_S, if_B, if_BS, ite_self, List.getElem?_cons_zero, List.getElem?_cons_succ, List.length_cons, List.length_nil, List.map_cons, List.map_nil, List.replicate, List.cons_append, List.nil_append, List.set_cons_zero, List.set_cons_succ, List.mapIdx_cons, List.mapIdx_nil, List.zip_cons_cons, List.zip_nil_right, List.zip_nil_left, List.all_cons, List.all_nil, List.any_cons, List.any_nil, List.headD_cons, List.headD_nil, List.tail_cons, List.tail_nil, Nat.reduceAdd, Nat.reduceSub, Nat.reduceEqDiff, Nat.reduceLeDiff, if_true, if_false, ite_true, ite_false, Bool.false_eq_true, decide_true, decide_false, Bool.and_true, Bool.true_and, Bool.and_false, Bool.false_and, Bool.or_true, Bool.true_or, Bool.or_false, Bool.false_or, Bool.not_true, Bool.not_false, Option.map_some, Option.map_none, Option.bind_some, Option.or_some, Option.or_none, Option.none_or, Option.some_or, and_self, and_true, true_and, ne_eq, not_true_eq_false, not_false_eq_true, List.isEmpty_cons, List.isEmpty_nil, Int.cast_ofNat_Int, beq_self_eq_true, Int.reduceBEq, Int.reduceLT, Int.reduceLE, Int.reduceAdd, Int.reduceSub, Int.reduceEq, Int.reduceNeg, reduceIte, eqA_int, neA_int, eqA_bool, neA_bool, eqA_str, neA_str, eqA_tupE, neA_lstE, fIx_t0, fIx_t1, fIx_l0, fIx_l1, fIx_l2, addI_int, Int.natCast_zero, Int.natCast_one, Bool.not_eq_true, Bool.not_eq_false, m_is_number, mb_is_number, e1, mChain, fLe, h1, h2, c1, e2]
theorem num_str {z : Int} (h : 0 ≤ z ∧ z < 16) : fStr [.int z] = some (.str (num z)) := if_pos (small_log (by omega))
def ones (z : Int) : Str := if 9 < z then "1" else ""
theorem num_atI {z : Int} (h : 0 ≤ z ∧ z < 16) : atI (TL.tl digs) (z.fmod 10) = some (48 + (z % 10).toNat) ∧ num z = ones z ++ ⟨#[48 + (z % 10).toNat]⟩ := by
  rcases cases20 h with rfl | rfl | rfl | rfl | rfl | rfl | rfl | rfl | rfl | rfl | rfl | rfl | rfl | rfl | rfl | rfl <;> decide +kernel
theorem num_dig {z : Int} (h : 0 ≤ z ∧ z < 16) : ∃ c : Nat, fIx (.str "0123456789") (.int (z.fmod 10)) = some (.str ⟨#[c]⟩) ∧ num z = ones z ++ ⟨#[c]⟩ := by
  obtain ⟨h1, h2⟩ := num_atI h
  refine ⟨_, ?_, h2⟩
  show (if digs.length ≤ 1000000 then (atI (TL.tl digs) (z.fmod 10)).map fun c => PyData.str ⟨#[c]⟩ else none) = _
  rw [if_pos (by decide +kernel), h1]
  rfl
def due (ss : List Int) : Str := Txt.join sp (ss.map num)
theorem due_nil : due [] = "" := by decide +kernel
theorem due_split {ss : List Int} (hne : ss ≠ []) (h : ∀ z ∈ ss, 0 ≤ z ∧ z < 16) : Txt.split (due ss) sp = ss.map num :=
  TL.split_join (s := 32) (S := []) (by decide +kernel) (by decide +kernel) (by simpa using hne) fun p hp => by
    obtain ⟨z, hz, rfl⟩ := List.mem_map.mp hp
    exact num_free (h z hz)
end DL
namespace DL
open PySem L2
open PyProof.Rows hiding St
/-! ## is_integer; items of lists of whole numbers -/
def isI (d : PyData) (lo hi : Int) : Bool := match d with
  | .int i => decide (lo ≤ i) && decide (i ≤ hi)
  | _ => false
theorem isint_eq (d : PyData) (lo hi : Int) : m_is_integer [.cl d, .cl (.int lo), .cl (.int hi)] = .ok (.bool (isI d lo hi)) false [.cl d, .cl (.int lo), .cl (.int hi)] := by
  cases d with
  | int i =>
    by_cases h : lo ≤ i
    · simp only [mFn, mDef, entry, ent, outs, outS, mSeq, mNext, mPass, mExpr, mRet, mRetF, mRetN, mRetO, mIf, mSet, mSetF, mSetL, mAsg, gN, gNl, gCn, gT, mPar, mParFF, mParFV, mParVF, mName, mNameF, mC, mBin, fin1, dat, Sl.dat, cln, clns, dats, mTest, mChain, mAnd, mOr, mNot, mVal, mAndV, mOrV, mNotV, mIfE, mNeg, mTup, mLst, mLstF, mFr, mNil, mCons, mCall, mCallF, callM, argSs, argS, apart, apartE, updE, backAt, conv, mIs, mIsM, BT.is, mCb, mCbF, fLen, fList, fTuple, fInt, fI, mPart, mNoPart, mSl, fSl, mRev, fRev, mSetIx, mMethG, mMeth, fClear, fIsN, fNotN, isNo, asgOk, slotOwn, Sl.put, Sl.mut, Sl.isO, bind_ok, bind_bad, bindS_ok, bindS_bad, then_nx, then_rt, then_bad, if_S, if_B, if_BS, ite_self, List.getElem?_cons_zero, List.getElem?_cons_succ, List.length_cons, List.length_nil, List.map_cons, List.map_nil, List.replicate, List.cons_append, List.nil_append, List.set_cons_zero, List.set_cons_succ, List.mapIdx_cons, List.mapIdx_nil, List.zip_cons_cons, List.zip_nil_right, List.zip_nil_left, List.all_cons, List.all_nil, List.any_cons, List.any_nil, List.headD_cons, List.headD_nil, List.tail_cons, List.tail_nil, Nat.reduceAdd, Nat.reduceSub, Nat.reduceEqDiff, Nat.reduceLeDiff, if_true, if_false, ite_true, ite_false, Bool.false_eq_true, decide_true, decide_false, Bool.and_true, Bool.true_and, Bool.and_false, Bool.false_and, Bool.or_true, Bool.true_or, Bool.or_false, Bool.false_or, Bool.not_true, Bool.not_false, Option.map_some, Option.map_none, Option.bind_some, Option.or_some, Option.or_none, Option.none_or, Option.some_or, and_self, and_true, true_and, ne_eq, not_true_eq_false, not_false_eq_true, List.isEmpty_cons, List.isEmpty_nil, Int.cast_ofNat_Int, beq_self_eq_true, Int.reduceBEq, Int.reduceLT, Int.reduceLE, Int.reduceAdd, Int.reduceSub, Int.reduceEq, Int.reduceNeg, reduceIte, eqA_int, neA_int, eqA_bool, neA_bool, eqA_str, neA_str, eqA_tupE, neA_lstE, fIx_t0, fIx_t1, fIx_l0, fIx_l1, fIx_l2, addI_int, Int.natCast_zero, Int.natCast_one, Bool.not_eq_true, Bool.not_eq_false, m_is_integer, mb_is_integer, isI, h]
    · simp only [mFn, mDef, entry, ent, outs, outS, mSeq, mNext, mPass, mExpr, mRet, mRetF, mRetN, mRetO, mIf, mSet, mSetF, mSetL, mAsg, gN, gNl, gCn, gT, mPar, mParFF, mParFV, mParVF, mName, mNameF, mC, mBin, fin1, dat, Sl.dat, cln, clns, dats, mTest, mChain, mAnd, mOr, mNot, mVal, mAndV, mOrV, mNotV, mIfE, mNeg, mTup, mLst, mLstF, mFr, mNil, mCons, mCall, mCallF, callM, argSs, argS, apart, apartE, updE, backAt, conv, mIs, mIsM, BT.is, mCb, mCbF, fLen, fList, fTuple, fInt, fI, mPart, mNoPart, mSl, fSl, mRev, fRev, mSetIx, mMethG, mMeth, fClear, fIsN, fNotN, isNo, asgOk, slotOwn, Sl.put, Sl.mut, Sl.isO, bind_ok, bind_bad, bindS_ok, bindS_bad, then_nx, then_rt, then_bad, if_S, if_B, if_BS, ite_self, List.getElem?_cons_zero, List.getElem?_cons_succ, List.length_cons, List.length_nil, List.map_cons, List.map_nil, List.replicate, List.cons_append, List.nil_append, List.set_cons_zero, List.set_cons_succ, List.mapIdx_cons, List.mapIdx_nil, List.zip_cons_cons, List.zip_nil_right, List.zip_nil_left, List.all_cons, List.all_nil, List.any_cons, List.any_nil, List.headD_cons, List.headD_nil, List.tail_cons, List.tail_nil, Nat.reduceAdd, Nat.reduceSub, Nat.reduceEqDiff, Nat.reduceLeDiff, if_true, if_false, ite_true, ite_false, Bool.false_eq_true, decide_true, decide_false, Bool.and_true, Bool.true_and, Bool.and_false, Bool.false_and, Bool.or_true, Bool.true_or, Bool.or_false, Bool.false_or, Bool.not_true, Bool.not_false, Option.map_some, Option.map_none, Option.bind_some, Option.or_some, Option.or_none, Option.none_or, Option.some_or, and_self, and_true, true_and, ne_eq, not_true_eq_false, not_false_eq_true, List.isEmpty_cons, List.isEmpty_nil, Int.cast_ofNat_Int, beq_self_eq_true, Int.reduceBEq, Int.reduceLT, Int.reduceLE, Int.reduceAdd, Int.reduceSub, Int.reduceEq, Int.reduceNeg, reduceIte, eqA_int, neA_int, eqA_bool, neA_bool, eqA_str, neA_str, eqA_tupE, neA_lstE, fIx_t0, fIx_t1, fIx_l0, fIx_l1, fIx_l2, addI_int, Int.natCast_zero, Int.natCast_one, Bool.not_eq_true, Bool.not_eq_false, m_is_integer, mb_is_integer, isI, h]
  | _ => simp only [mFn, mDef, entry, ent, outs, outS, mSeq, mNext, mPass, mExpr, mRet, mRetF, mRetN, mRetO, mIf, mSet, mSetF, mSetL, mAsg, gN, gNl, gCn, gT, mPar, mParFF, mParFV, mParVF, mName, mNameF, mC, mBin, fin1, dat, Sl.dat, cln, clns, dats, mTest, mChain, mAnd, mOr, mNot, mVal, mAndV, mOrV, mNotV, mIfE, mNeg, mTup, mLst, mLstF, mFr, mNil, mCons, mCall, mCallF, callM, argSs, argS, apart, apartE, updE, backAt, conv, mIs, mIsM, BT.is, mCb, mCbF, fLen, fList, fTuple, fInt, fI, mPart, mNoPart, mSl, fSl, mRev, fRev, mSetIx, mMethG, mMeth, fClear, fIsN, fNotN, isNo, asgOk, slotOwn, Sl.put, Sl.mut, Sl.isO, bind_ok, bind_bad, bindS_ok, bindS_bad, then_nx, then_rt, then_bad, if_S, if_B, if_BS, ite_self, List.getElem?_cons_zero, List.getElem?_cons_succ, List.length_cons, List.length_nil, List.map_cons, List.map_nil, List.replicate, List.cons_append, List.nil_append, List.set_cons_zero, List.set_cons_succ, List.mapIdx_cons, List.mapIdx_nil, List.zip_cons_cons, List.zip_nil_right, List.zip_nil_left, List.all_cons, List.all_nil, List.any_cons, List.any_nil, List.headD_cons, List.headD_nil, List.tail_cons, List.tail_nil, Nat.reduceAdd, Nat.reduceSub, Nat.reduceEqDiff, Nat.reduceLeDiff, if_true, if_false, ite_true, ite_false, Bool.false_eq_true, decide_true, decide_false, Bool.and_true, Bool.true_and, Bool.and_false, Bool.false_and, Bool.or_true, Bool.true_or, Bool.or_false, Bool.false_or, Bool.not_true, Bool.not_false, Option.map_some, Option.map_none, Option.bind_some, Option.or_some, Option.or_none, Option.none_or, Option.some_or, and_self, and_true, true_and, ne_eq, not_true_eq_false, not_false_eq_true, List.isEmpty_cons, List.isEmpty_nil, Int.cast_ofNat_Int, beq_self_eq_true, Int.reduceBEq, Int.reduceLT, Int.reduceLE, Int.reduceAdd, Int.reduceSub, Int.reduceEq, Int.reduceNeg, reduceIte, eqA_int, neA_int, eqA_bool, neA_bool, eqA_str, neA_str, eqA_tupE, neA_lstE, fIx_t0, fIx_t1, fIx_l0, fIx_l1, fIx_l2, addI_int, Int.natCast_zero, Int.natCast_one, Bool.not_eq_true, Bool.not_eq_false, m_is_integer, mb_is_integer, isI]
theorem isI_in {z lo hi : Int} (h : lo ≤ z) (h' : z ≤ hi) : isI (.int z) lo hi = true := by show (decide (lo ≤ z) && decide (z ≤ hi)) = true; rw [decide_eq_true h, decide_eq_true h']; rfl
theorem flat_ints : ∀ zs : List Int, (zs.map PyData.int).all flatD = true
  | [] => rfl
  | z :: zs => by rw [List.map_cons, List.all_cons, flat_ints zs]; rfl
theorem anyEq_ints (z : Int) : ∀ zs : List Int, anyEq (.int z) (zs.map .int) = decide (z ∈ zs)
  | [] => by simp [anyEq]
  | y :: zs => by
    have ih := anyEq_ints z zs
    unfold anyEq at *
    rw [List.map_cons, List.any_cons, ih]
    have e : PyData.eqv (.int y) (.int z) = (y == z) := by simp only [PyData.eqv]
    rw [e]
    by_cases h : z = y
    · subst h; simp
    · have h2 : (y == z) = false := by rw [beq_eq_false_iff_ne]; exact fun q => h q.symm
      rw [h2, Bool.false_or]
      simp [h]
theorem in_intsT (n : Bool) (z : Int) (zs : List Int) : fIn n (.int z) (.tuple (zs.map .int)) = some (.bool (xor n (decide (z ∈ zs)))) := by
  show (if flatD (.int z) = true ∧ (zs.map PyData.int).all flatD = true then _ else _) = _
  rw [if_pos ⟨rfl, flat_ints zs⟩, anyEq_ints]
theorem in_intsL (n : Bool) (z : Int) (zs : List Int) : fIn n (.int z) (.list (zs.map .int)) = some (.bool (xor n (decide (z ∈ zs)))) := by
  show (if flatD (.int z) = true ∧ (zs.map PyData.int).all flatD = true then _ else _) = _
  rw [if_pos ⟨rfl, flat_ints zs⟩, anyEq_ints]
theorem zipD_mem : ∀ (xs ys : List PyData) (d : PyData), d ∈ zipD xs ys → ∃ (i : Nat) (x y : PyData), xs[i]? = some x ∧ ys[i]? = some y ∧ d = .tuple [x, y]
  | [], _, d, h => by simp [zipD] at h
  | _ :: _, [], d, h => by simp [zipD] at h
  | x :: xs, y :: ys, d, h => by
    have h : d ∈ pairD x y :: zipD xs ys := h
    rcases List.mem_cons.mp h with rfl | h
    · exact ⟨0, x, y, rfl, rfl, rfl⟩
    · obtain ⟨i, a, b, h1, h2, h3⟩ := zipD_mem xs ys d h
      exact ⟨i + 1, a, b, by simpa using h1, by simpa using h2, h3⟩
theorem all_trues (l : List PyData) : fAll [.list (l.map fun _ => .bool true)] = some (.bool true) := by
  show (boolsOf _).map _ = _
  have : ∀ l : List PyData, boolsOf (l.map fun _ => PyData.bool true) = some (l.map fun _ => true) := fun l => by
    induction l with
    | nil => rfl
    | cons x l ih => show (boolsOf _).map _ = _; rw [ih]; rfl
  rw [this]
  simp
theorem all_bools (bs : List Bool) : fAll [.list (bs.map .bool)] = some (.bool (bs.all id)) := by
  show (boolsOf _).map _ = _
  have : ∀ l : List Bool, boolsOf (l.map PyData.bool) = some l := fun l => by
    induction l with
    | nil => rfl
    | cons x l ih => show (boolsOf (l.map PyData.bool)).map _ = _; rw [ih]; rfl
  rw [this]
  rfl
end DL
namespace DL
open PySem L2
open PyProof.Rows hiding St
def sheetD (ss : List Int) : PyData := .tuple (ss.map .int)
def InR (ss : List Int) : Prop := ∀ z ∈ ss, 0 ≤ z ∧ z < 16
def toS (d : PyData) : PyData := match d with
  | .int z => .str (num z)
  | d => d
theorem map_toS (ss : List Int) : (ss.map PyData.int).map toS = (ss.map num).map .str := by rw [List.map_map, List.map_map]; rfl
theorem strsOf_map : ∀ ws : List Str, strsOf (ws.map .str) = some ws
  | [] => rfl
  | w :: ws => by show (strsOf (ws.map .str)).map _ = _; rw [strsOf_map ws]; rfl
theorem lens_le {ss : List Int} (h : InR ss) : ((ss.map num).map (·.length)).sum ≤ 2 * ss.length := by
  induction ss with
  | nil => simp
  | cons z zs ih =>
    have := num_len (h z List.mem_cons_self)
    have := ih fun y hy => h y (List.mem_cons_of_mem _ hy)
    simp only [List.map_cons, List.sum_cons, List.length_cons]
    omega
theorem write_ok (ss : List Int) (h : InR ss) (hl : ss.length ≤ 100) : m_write_sheet [.cl (sheetD ss)] = .ok (.str (due ss)) false [.cl (sheetD ss)] := by
  have c1 : mLcF [1] (mIterL (mName 0)) (gN 1) mYes (mCb fStr (mCons (mName 1) mNil)) [.cl (.tuple (ss.map .int)), .un] = .ok (.list ((ss.map num).map .str)) [.cl (.tuple (ss.map .int)), .un] := by
    rw [← map_toS]
    refine lcF_map (r := [.cl (.tuple (ss.map .int)), .un]) toS (mIterT_of rfl) (by rw [List.length_map]; omega) rfl rfl fun d hd => ?_
    obtain ⟨z, hz, rfl⟩ := List.mem_map.mp hd
    have e := num_str (h z hz)
    refine ⟨_, rfl, .val (.str (num z)), [.cl (.tuple (ss.map .int)), .cl (.int z)], ?_, rfl, rfl, rfl⟩
    show mCb fStr (mCons (mName 1) mNil) [.cl (.tuple (ss.map .int)), .cl (.int z)] = _
    simp only [mFn, mDef, entry, ent, outs, outS, mSeq, mNext, mPass, mExpr, mRet, mRetF, mRetN, mRetO, mIf, mSet, mSetF, mSetL, mAsg, gN, gNl, gCn, gT, mPar, mParFF, mParFV, mParVF, mName, mNameF, mC, mBin, fin1, dat, Sl.dat, cln, clns, dats, mTest, mChain, mAnd, mOr, mNot, mVal, mAndV, mOrV, mNotV, mIfE, mNeg, mTup, mLst, mLstF, mFr, mNil, mCons, mCall, mCallF, callM, argSs, argS, apart, apartE, updE, backAt, conv, mIs, mIsM, BT.is, mCb, mCbF, fLen, fList, fTuple, fInt, fI, mPart, mNoPart, mSl, fSl, mRev, fRev, mSetIx, mMethG, mMeth, fClear, fIsN, fNotN, isNo, asgOk, slotOwn, Sl.put, Sl.mut, Sl.isO, bind_ok, bind_bad, bindS_ok, bindS_bad, then_nx, then_rt, then_bad, if_S, if_B, if_BS, ite_self, List.getElem?_cons_zero, List.getElem?_cons_succ, List.length_cons, List.length_nil, List.map_cons, List.map_nil, List.replicate, List.cons_append, List.nil_append, List.set_cons_zero, List.set_cons_succ, List.mapIdx_cons, List.mapIdx_nil, List.zip_cons_cons, List.zip_nil_right, List.zip_nil_left, List.all_cons, List.all_nil, List.any_cons, List.any_nil, List.headD_cons, List.headD_nil, List.tail_cons, List.tail_nil, Nat.reduceAdd, Nat.reduceSub, Nat.reduceEqDiff, Nat.reduceLeDiff, if_true, if_false, ite_true, ite_false, Bool.false_eq_true, decide_true, decide_false, Bool.and_true, Bool.true_and, Bool.and_false, Bool.false_and, Bool.or_true, Bool.true_or, Bool.or_false, Bool.false_or, Bool.not_true, Bool.not_false, Option.map_some, Option.map_none, Option.bind_some, Option.or_some, Option.or_none, Option.none_or, Option.some_or, and_self, and_true, true_and, ne_eq, not_true_eq_false, not_false_eq_true, List.isEmpty_cons, List.isEmpty_nil, Int.cast_ofNat_Int, beq_self_eq_true, Int.reduceBEq, Int.reduceLT, Int.reduceLE, Int.reduceAdd, Int.reduceSub, Int.reduceEq, Int.reduceNeg, reduceIte, eqA_int, neA_int, eqA_bool, neA_bool, eqA_str, neA_str, eqA_tupE, neA_lstE, fIx_t0, fIx_t1, fIx_l0, fIx_l1, fIx_l2, addI_int, Int.natCast_zero, Int.natCast_one, Bool.not_eq_true, Bool.not_eq_false, e]
  have e2 : fJoin " " [.list ((ss.map num).map .str)] = some (.str (due ss)) := by
    show (strsOf ((ss.map num).map .str)).bind _ = _
    rw [strsOf_map]
    have := lens_le h
    refine if_pos ?_
    rw [List.length_map]
    have : (" " : Str).length = 1 := by decide +kernel
    rw [this]
    omega
  unfold sheetD
  simp only [mFn, mDef, entry, ent, outs, outS, mSeq, mNext, mPass, mExpr, mRet, mRetF, mRetN, mRetO, mIf, mSet, mSetF, mSetL, mAsg, gN, gNl, gCn, gT, mPar, mParFF, mParFV, mParVF, mName, mNameF, mC, mBin, fin1, dat, Sl.dat, cln, clns, dats, mTest, mChain, mAnd, mOr, mNot, mVal, mAndV, mOrV, mNotV, mIfE, mNeg, mTup, mLst, mLstF, mFr, mNil, mCons, mCall, mCallF, callM, argSs, argS, apart, apartE, updE, backAt, conv, mIs, mIsM, BT.is, mCb, mCbF, fLen, fList, fTuple, fInt, fI, mPart, mNoPart, mSl, fSl, mRev, fRev, mSetIx, mMethG, mMeth, fClear, fIsN, fNotN, isNo, asgOk, slotOwn, Sl.put, Sl.mut, Sl.isO, bind_ok, bind_bad, bindS_ok, bindS_bad, then_nx, then_rt, then_bad, if_S, if_B, if_BS, ite_self, List.getElem?_cons_zero, List.getElem?_cons_succ, List.length_cons, List.length_nil, List.map_cons, List.map_nil, List.replicate, List.cons_append, List.nil_append, List.set_cons_zero, List.set_cons_succ, List.mapIdx_cons, List.mapIdx_nil, List.zip_cons_cons, List.zip_nil_right, List.zip_nil_left, List.all_cons, List.all_nil, List.any_cons, List.any_nil, List.headD_cons, List.headD_nil, List.tail_cons, List.tail_nil, Nat.reduceAdd, Nat.reduceSub, Nat.reduceEqDiff, Nat.reduceLeDiff, if_true, if_false, ite_true, ite_false, Bool.false_eq_true, decide_true, decide_false, Bool.and_true, Bool.true_and, Bool.and_false, Bool.false_and, Bool.or_true, Bool.true_or, Bool.or_false, Bool.false_or, Bool.not_true, Bool.not_false, Option.map_some, Option.map_none, Option.bind_some, Option.or_some, Option.or_none, Option.none_or, Option.some_or, and_self, and_true, true_and, ne_eq, not_true_eq_false, not_false_eq_true, List.isEmpty_cons, List.isEmpty_nil, Int.cast_ofNat_Int, beq_self_eq_true, Int.reduceBEq, Int.reduceLT, Int.reduceLE, Int.reduceAdd, Int.reduceSub, Int.reduceEq, Int.reduceNeg, reduceIte, eqA_int, neA_int, eqA_bool, neA_bool, eqA_str, neA_str, eqA_tupE, neA_lstE, fIx_t0, fIx_t1, fIx_l0, fIx_l1, fIx_l2, addI_int, Int.natCast_zero, Int.natCast_one, Bool.not_eq_true, Bool.not_eq_false, m_write_sheet, mb_write_sheet, mVM, c1, e2]
/-- a sheet for the tree -/
structure Sheet (t : Tr) (ss : List Int) : Prop where
  len : ss.length = t.rows.length
  mem : ∀ (i : Nat) (z : Int) (zs : List Int), ss[i]? = some z → t.rows[i]? = some zs → z ∈ zs
theorem isSheet_ok (t : Tr) (ht : t.sz ≤ 30) (ss : List Int) (h : Sheet t ss) (hr : InR ss) : m_is_sheet [.cl t.enc, .cl (sheetD ss)] = .ok (.bool true) false [.cl t.enc, .cl (sheetD ss)] := by
  have e1 := sides_of_eq t ht
  have rl := rows_len t
  have hl := h.len
  have lt : (tups t.rows).length = t.rows.length := by simp [tups]
  have c1 : mLcF [3, 4] (mZipG true (mCons (mName 1) (mCons (mName 2) mNil))) (gT 2 (gCn (gN 3) (gCn (gN 4) gNl))) mYes (mAndV (mCall m_is_integer [false, false, false] (mCons (mName 3) (mCons (mC (.int 0)) (mCons (mC (.int 99)) mNil)))) (mBin (fIn false) (mName 3) (mName 4)))
      [.cl t.enc, .cl (.tuple (ss.map .int)), .cl (.list (tups t.rows)), .un, .un] = .ok (.list ((zipD (ss.map .int) (tups t.rows)).map fun _ => .bool true)) [.cl t.enc, .cl (.tuple (ss.map .int)), .cl (.list (tups t.rows)), .un, .un] := by
    refine lcF_map (r := [.cl t.enc, .cl (.tuple (ss.map .int)), .cl (.list (tups t.rows)), .un, .un]) (fun _ => .bool true) ?_ (by rw [zipD_len, List.length_map, lt]; omega) rfl rfl fun d hd => ?_
    · show (match rowsOf true [.tuple (ss.map .int), .list (tups t.rows)] with | some rows => Out.ok rows _ | none => .bad) = _
      have : rowsOf true [.tuple (ss.map .int), .list (tups t.rows)] = some (zipD (ss.map .int) (tups t.rows)) := if_pos (fun _ => by rw [List.length_map, lt, hl])
      rw [this]
    · obtain ⟨i, x, y, h1, h2, rfl⟩ := zipD_mem _ _ _ hd
      rw [List.getElem?_map] at h1
      unfold tups at h2
      rw [List.getElem?_map] at h2
      obtain ⟨z, hz, rfl⟩ := Option.map_eq_some_iff.mp h1
      obtain ⟨zs, hzs, rfl⟩ := Option.map_eq_some_iff.mp h2
      have hm := h.mem i z zs hz hzs
      have hi := hr z (List.mem_of_getElem? hz)
      have a1 := isint_eq (.int z) 0 99
      rw [isI_in hi.1 (by omega)] at a1
      have a2 := in_intsT false z zs
      rw [decide_eq_true hm] at a2
      refine ⟨[.cl t.enc, .cl (.tuple (ss.map .int)), .cl (.list (tups t.rows)), .cl (.int z), .cl (.tuple (zs.map .int))], rfl, .val (.bool true), [.cl t.enc, .cl (.tuple (ss.map .int)), .cl (.list (tups t.rows)), .cl (.int z), .cl (.tuple (zs.map .int))], ?_, rfl, rfl, rfl⟩
      simp only [mFn, mDef, entry, ent, outs, outS, mSeq, mNext, mPass, mExpr, mRet, mRetF, mRetN, mRetO, mIf, mSet, mSetF, mSetL, mAsg, gN, gNl, gCn, gT, mPar, mParFF, mParFV, mParVF, mName, mNameF, mC, mBin, fin1, dat, Sl.dat, cln, clns, dats, mTest, mChain, mAnd, mOr, mNot, mVal, mAndV, mOrV, mNotV, mIfE, mNeg, mTup, mLst, mLstF, mFr, mNil, mCons, mCall, mCallF, callM, argSs, argS, apart, apartE, updE, backAt, conv, mIs, mIsM, BT.is, mCb, mCbF, fLen, fList, fTuple, fInt, fI, mPart, mNoPart, mSl, fSl, mRev, fRev, mSetIx, mMethG, mMeth, fClear, fIsN, fNotN, isNo, asgOk, slotOwn, Sl.put, Sl.mut, Sl.isO, bind_ok, bind_bad, bindS_ok, bindS_bad, then_nx, then_rt, then_bad, if_S, if_B, if_BS, ite_self, List.getElem?_cons_zero, List.getElem?_cons_succ, List.length_cons, List.length_nil, List.map_cons, List.map_nil, List.replicate, List.cons_append, List.nil_append, List.set_cons_zero, List.set_cons_succ, List.mapIdx_cons, List.mapIdx_nil, List.zip_cons_cons, List.zip_nil_right, List.zip_nil_left, List.all_cons, List.all_nil, List.any_cons, List.any_nil, List.headD_cons, List.headD_nil, List.tail_cons, List.tail_nil, Nat.reduceAdd, Nat.reduceSub, Nat.reduceEqDiff, Nat.reduceLeDiff, if_true, if_false, ite_true, ite_false, Bool.false_eq_true, decide_true, decide_false, Bool.and_true, Bool.true_and, Bool.and_false, Bool.false_and, Bool.or_true, Bool.true_or, Bool.or_false, Bool.false_or, Bool.not_true, Bool.not_false, Option.map_some, Option.map_none, Option.bind_some, Option.or_some, Option.or_none, Option.none_or, Option.some_or, and_self, and_true, true_and, ne_eq, not_true_eq_false, not_false_eq_true, List.isEmpty_cons, List.isEmpty_nil, Int.cast_ofNat_Int, beq_self_eq_true, Int.reduceBEq, Int.reduceLT, Int.reduceLE, Int.reduceAdd, Int.reduceSub, Int.reduceEq, Int.reduceNeg, reduceIte, eqA_int, neA_int, eqA_bool, neA_bool, eqA_str, neA_str, eqA_tupE, neA_lstE, fIx_t0, fIx_t1, fIx_l0, fIx_l1, fIx_l2, addI_int, Int.natCast_zero, Int.natCast_one, Bool.not_eq_true, Bool.not_eq_false, a1, a2, Bool.xor_true, Bool.false_xor]
  have e2 := all_trues (zipD (ss.map .int) (tups t.rows))
  have n1 : ((ss.length : Int) == (ss.length : Int)) = true := by simp
  unfold sheetD
  simp only [mFn, mDef, entry, ent, outs, outS, mSeq, mNext, mPass, mExpr, mRet, mRetF, mRetN, mRetO, mIf, mSet, mSetF, mSetL, mAsg, gN, gNl, gCn, gT, mPar, mParFF, mParFV, mParVF, mName, mNameF, mC, mBin, fin1, dat, Sl.dat, cln, clns, dats, mTest, mChain, mAnd, mOr, mNot, mVal, mAndV, mOrV, mNotV, mIfE, mNeg, mTup, mLst, mLstF, mFr, mNil, mCons, mCall, mCallF, callM, argSs, argS, apart, apartE, updE, backAt, conv, mIs, mIsM, BT.is, mCb, mCbF, fLen, fList, fTuple, fInt, fI, mPart, mNoPart, mSl, fSl, mRev, fRev, mSetIx, mMethG, mMeth, fClear, fIsN, fNotN, isNo, asgOk, slotOwn, Sl.put, Sl.mut, Sl.isO, bind_ok, bind_bad, bindS_ok, bindS_bad, then_nx, then_rt, then_bad, if_S, if_B, if_BS, ite_self, List.getElem?_cons_zero, List.getElem?_cons_succ, List.length_cons, List.length_nil, List.map_cons, List.map_nil, List.replicate, List.cons_append, List.nil_append, List.set_cons_zero, List.set_cons_succ, List.mapIdx_cons, List.mapIdx_nil, List.zip_cons_cons, List.zip_nil_right, List.zip_nil_left, List.all_cons, List.all_nil, List.any_cons, List.any_nil, List.headD_cons, List.headD_nil, List.tail_cons, List.tail_nil, Nat.reduceAdd, Nat.reduceSub, Nat.reduceEqDiff, Nat.reduceLeDiff, if_true, if_false, ite_true, ite_false, Bool.false_eq_true, decide_true, decide_false, Bool.and_true, Bool.true_and, Bool.and_false, Bool.false_and, Bool.or_true, Bool.true_or, Bool.or_false, Bool.false_or, Bool.not_true, Bool.not_false, Option.map_some, Option.map_none, Option.bind_some, Option.or_some, Option.or_none, Option.none_or, Option.some_or, and_self, and_true, true_and, ne_eq, not_true_eq_false, not_false_eq_true, List.isEmpty_cons, List.isEmpty_nil, Int.cast_ofNat_Int, beq_self_eq_true, Int.reduceBEq, Int.reduceLT, Int.reduceLE, Int.reduceAdd, Int.reduceSub, Int.reduceEq, Int.reduceNeg, reduceIte, eqA_int, neA_int, eqA_bool, neA_bool, eqA_str, neA_str, eqA_tupE, neA_lstE, fIx_t0, fIx_t1, fIx_l0, fIx_l1, fIx_l2, addI_int, Int.natCast_zero, Int.natCast_one, Bool.not_eq_true, Bool.not_eq_false, m_is_sheet, mb_is_sheet, e1, List.length_map, lt, hl, c1, e2]
theorem read_ok (t : Tr) (ht : t.sz ≤ 30) (ss : List Int) (h : Sheet t ss) (hr : InR ss) (hne : ss ≠ []) : m_read_sheet [.cl t.enc, .cl (.str (due ss))] = .ok (sheetD ss) false [.cl t.enc, .cl (.str (due ss))] := by
  have rl := rows_len t
  have hl := h.len
  have hw := write_ok ss hr (by omega)
  have hs := isSheet_ok t ht ss h hr
  unfold sheetD at *
  have dl : (due ss).length ≤ 1000000 := by
    have e := StrLaws.join_length_le sp (ss.map num)
    have := lens_le hr
    rw [List.length_map, show sp.length = 1 from by decide +kernel, ← TL.join_eq] at e
    show (Txt.join sp (ss.map num)).length ≤ _
    omega
  have e1 : fSplit (due ss) [.str " "] = some (.list ((ss.map num).map .str)) := by
    refine (if_pos ⟨by decide +kernel, dl⟩).trans ?_
    rw [show Txt.split (due ss) " " = ss.map num from due_split hne hr]
  have c1 : mLcF [3] (mIterL (mFr (mVMF fSplit (mName 1) (mCons (mC (.str " ")) mNil)))) (gN 3) mYes (mCall m_is_number [false] (mCons (mName 3) mNil)) [.cl t.enc, .cl (.str (due ss)), .un, .un] = .ok (.list (((ss.map num).map PyData.str).map fun _ => .bool true)) [.cl t.enc, .cl (.str (due ss)), .un, .un] := by
    refine lcF_map (r := [.cl t.enc, .cl (.str (due ss)), .un, .un]) (fun _ => .bool true) (mIterL_of (by simp only [mFn, mDef, entry, ent, outs, outS, mSeq, mNext, mPass, mExpr, mRet, mRetF, mRetN, mRetO, mIf, mSet, mSetF, mSetL, mAsg, gN, gNl, gCn, gT, mPar, mParFF, mParFV, mParVF, mName, mNameF, mC, mBin, fin1, dat, Sl.dat, cln, clns, dats, mTest, mChain, mAnd, mOr, mNot, mVal, mAndV, mOrV, mNotV, mIfE, mNeg, mTup, mLst, mLstF, mFr, mNil, mCons, mCall, mCallF, callM, argSs, argS, apart, apartE, updE, backAt, conv, mIs, mIsM, BT.is, mCb, mCbF, fLen, fList, fTuple, fInt, fI, mPart, mNoPart, mSl, fSl, mRev, fRev, mSetIx, mMethG, mMeth, fClear, fIsN, fNotN, isNo, asgOk, slotOwn, Sl.put, Sl.mut, Sl.isO, bind_ok, bind_bad, bindS_ok, bindS_bad, then_nx, then_rt, then_bad, if_S, if_B, if_BS, ite_self, List.getElem?_cons_zero, List.getElem?_cons_succ, List.length_cons, List.length_nil, List.map_cons, List.map_nil, List.replicate, List.cons_append, List.nil_append, List.set_cons_zero, List.set_cons_succ, List.mapIdx_cons, List.mapIdx_nil, List.zip_cons_cons, List.zip_nil_right, List.zip_nil_left, List.all_cons, List.all_nil, List.any_cons, List.any_nil, List.headD_cons, List.headD_nil, List.tail_cons, List.tail_nil, Nat.reduceAdd, Nat.reduceSub, Nat.reduceEqDiff, Nat.reduceLeDiff, if_true, if_false, ite_true, ite_false, Bool.false_eq_true, decide_true, decide_false, Bool.and_true, Bool.true_and, Bool.and_false, Bool.false_and, Bool.or_true, Bool.true_or, Bool.or_false, Bool.false_or, Bool.not_true, Bool.not_false, Option.map_some, Option.map_none, Option.bind_some, Option.or_some, Option.or_none, Option.none_or, Option.some_or, and_self, and_true, true_and, ne_eq, not_true_eq_false, not_false_eq_true, List.isEmpty_cons, List.isEmpty_nil, Int.cast_ofNat_Int, beq_self_eq_true, Int.reduceBEq, Int.reduceLT, Int.reduceLE, Int.reduceAdd, Int.reduceSub, Int.reduceEq, Int.reduceNeg, reduceIte, eqA_int, neA_int, eqA_bool, neA_bool, eqA_str, neA_str, eqA_tupE, neA_lstE, fIx_t0, fIx_t1, fIx_l0, fIx_l1, fIx_l2, addI_int, Int.natCast_zero, Int.natCast_one, Bool.not_eq_true, Bool.not_eq_false, mVMF, e1])) (by rw [List.length_map, List.length_map]; omega) rfl rfl fun d hd => ?_
    obtain ⟨w, hw, rfl⟩ := List.mem_map.mp hd
    obtain ⟨z, hz, rfl⟩ := List.mem_map.mp hw
    have a1 := num_is (hr z hz)
    refine ⟨[.cl t.enc, .cl (.str (due ss)), .un, .cl (.str (num z))], rfl, .val (.bool true), [.cl t.enc, .cl (.str (due ss)), .un, .cl (.str (num z))], ?_, rfl, rfl, rfl⟩
    simp only [mFn, mDef, entry, ent, outs, outS, mSeq, mNext, mPass, mExpr, mRet, mRetF, mRetN, mRetO, mIf, mSet, mSetF, mSetL, mAsg, gN, gNl, gCn, gT, mPar, mParFF, mParFV, mParVF, mName, mNameF, mC, mBin, fin1, dat, Sl.dat, cln, clns, dats, mTest, mChain, mAnd, mOr, mNot, mVal, mAndV, mOrV, mNotV, mIfE, mNeg, mTup, mLst, mLstF, mFr, mNil, mCons, mCall, mCallF, callM, argSs, argS, apart, apartE, updE, backAt, conv, mIs, mIsM, BT.is, mCb, mCbF, fLen, fList, fTuple, fInt, fI, mPart, mNoPart, mSl, fSl, mRev, fRev, mSetIx, mMethG, mMeth, fClear, fIsN, fNotN, isNo, asgOk, slotOwn, Sl.put, Sl.mut, Sl.isO, bind_ok, bind_bad, bindS_ok, bindS_bad, then_nx, then_rt, then_bad, if_S, if_B, if_BS, ite_self, List.getElem?_cons_zero, List.getElem?_cons_succ, List.length_cons, List.length_nil, List.map_cons, List.map_nil, List.replicate, List.cons_append, List.nil_append, List.set_cons_zero, List.set_cons_succ, List.mapIdx_cons, List.mapIdx_nil, List.zip_cons_cons, List.zip_nil_right, List.zip_nil_left, List.all_cons, List.all_nil, List.any_cons, List.any_nil, List.headD_cons, List.headD_nil, List.tail_cons, List.tail_nil, Nat.reduceAdd, Nat.reduceSub, Nat.reduceEqDiff, Nat.reduceLeDiff, if_true, if_false, ite_true, ite_false, Bool.false_eq_true, decide_true, decide_false, Bool.and_true, Bool.true_and, Bool.and_false, Bool.false_and, Bool.or_true, Bool.true_or, Bool.or_false, Bool.false_or, Bool.not_true, Bool.not_false, Option.map_some, Option.map_none, Option.bind_some, Option.or_some, Option.or_none, Option.none_or, Option.some_or, and_self, and_true, true_and, ne_eq, not_true_eq_false, not_false_eq_true, List.isEmpty_cons, List.isEmpty_nil, Int.cast_ofNat_Int, beq_self_eq_true, Int.reduceBEq, Int.reduceLT, Int.reduceLE, Int.reduceAdd, Int.reduceSub, Int.reduceEq, Int.reduceNeg, reduceIte, eqA_int, neA_int, eqA_bool, neA_bool, eqA_str, neA_str, eqA_tupE, neA_lstE, fIx_t0, fIx_t1, fIx_l0, fIx_l1, fIx_l2, addI_int, Int.natCast_zero, Int.natCast_one, Bool.not_eq_true, Bool.not_eq_false, a1]
  have e2 := all_trues ((ss.map num).map .str)
  have c2 : mLcF [3] (mIterL (mFr (mVMF fSplit (mName 1) (mCons (mC (.str " ")) mNil)))) (gN 3) mYes (mCb fIntA (mCons (mName 3) mNil)) [.cl t.enc, .cl (.str (due ss)), .un, .un] = .ok (.list (ss.map .int)) [.cl t.enc, .cl (.str (due ss)), .un, .un] := by
    have em : ss.map PyData.int = ((ss.map num).map PyData.str).map fun d => match fIntA [d] with | some x => x | none => d := by
      rw [List.map_map, List.map_map]
      refine List.map_congr_left fun z hz => ?_
      show _ = (match fIntA [.str (num z)] with | some x => x | none => _)
      rw [num_int (hr z hz)]
    rw [em]
    refine lcF_map (r := [.cl t.enc, .cl (.str (due ss)), .un, .un]) _ (mIterL_of (by simp only [mFn, mDef, entry, ent, outs, outS, mSeq, mNext, mPass, mExpr, mRet, mRetF, mRetN, mRetO, mIf, mSet, mSetF, mSetL, mAsg, gN, gNl, gCn, gT, mPar, mParFF, mParFV, mParVF, mName, mNameF, mC, mBin, fin1, dat, Sl.dat, cln, clns, dats, mTest, mChain, mAnd, mOr, mNot, mVal, mAndV, mOrV, mNotV, mIfE, mNeg, mTup, mLst, mLstF, mFr, mNil, mCons, mCall, mCallF, callM, argSs, argS, apart, apartE, updE, backAt, conv, mIs, mIsM, BT.is, mCb, mCbF, fLen, fList, fTuple, fInt, fI, mPart, mNoPart, mSl, fSl, mRev, fRev, mSetIx, mMethG, mMeth, fClear, fIsN, fNotN, isNo, asgOk, slotOwn, Sl.put, Sl.mut, Sl.isO, bind_ok, bind_bad, bindS_ok, bindS_bad, then_nx, then_rt, then_bad, if_S, if_B, if_BS, ite_self, List.getElem?_cons_zero, List.getElem?_cons_succ, List.length_cons, List.length_nil, List.map_cons, List.map_nil, List.replicate, List.cons_append, List.nil_append, List.set_cons_zero, List.set_cons_succ, List.mapIdx_cons, List.mapIdx_nil, List.zip_cons_cons, List.zip_nil_right, List.zip_nil_left, List.all_cons, List.all_nil, List.any_cons, List.any_nil, List.headD_cons, List.headD_nil, List.tail_cons, List.tail_nil, Nat.reduceAdd, Nat.reduceSub, Nat.reduceEqDiff, Nat.reduceLeDiff, if_true, if_false, ite_true, ite_false, Bool.false_eq_true, decide_true, decide_false, Bool.and_true, Bool.true_and, Bool.and_false, Bool.false_and, Bool.or_true, Bool.true_or, Bool.or_false, Bool.false_or, Bool.not_true, Bool.not_false, Option.map_some, Option.map_none, Option.bind_some, Option.or_some, Option.or_none, Option.none_or, Option.some_or, and_self, and_true, true_and, ne_eq, not_true_eq_false, not_false_eq_true, List.isEmpty_cons, List.isEmpty_nil, Int.cast_ofNat_Int, beq_self_eq_true, Int.reduceBEq, Int.reduceLT, Int.reduceLE, Int.reduceAdd, Int.reduceSub, Int.reduceEq, Int.reduceNeg, reduceIte, eqA_int, neA_int, eqA_bool, neA_bool, eqA_str, neA_str, eqA_tupE, neA_lstE, fIx_t0, fIx_t1, fIx_l0, fIx_l1, fIx_l2, addI_int, Int.natCast_zero, Int.natCast_one, Bool.not_eq_true, Bool.not_eq_false, mVMF, e1])) (by rw [List.length_map, List.length_map]; omega) rfl rfl fun d hd => ?_
    obtain ⟨w, hw, rfl⟩ := List.mem_map.mp hd
    obtain ⟨z, hz, rfl⟩ := List.mem_map.mp hw
    have a1 := num_int (hr z hz)
    refine ⟨[.cl t.enc, .cl (.str (due ss)), .un, .cl (.str (num z))], rfl, .val (.int z), [.cl t.enc, .cl (.str (due ss)), .un, .cl (.str (num z))], ?_, ?_, rfl, rfl⟩
    · simp only [mFn, mDef, entry, ent, outs, outS, mSeq, mNext, mPass, mExpr, mRet, mRetF, mRetN, mRetO, mIf, mSet, mSetF, mSetL, mAsg, gN, gNl, gCn, gT, mPar, mParFF, mParFV, mParVF, mName, mNameF, mC, mBin, fin1, dat, Sl.dat, cln, clns, dats, mTest, mChain, mAnd, mOr, mNot, mVal, mAndV, mOrV, mNotV, mIfE, mNeg, mTup, mLst, mLstF, mFr, mNil, mCons, mCall, mCallF, callM, argSs, argS, apart, apartE, updE, backAt, conv, mIs, mIsM, BT.is, mCb, mCbF, fLen, fList, fTuple, fInt, fI, mPart, mNoPart, mSl, fSl, mRev, fRev, mSetIx, mMethG, mMeth, fClear, fIsN, fNotN, isNo, asgOk, slotOwn, Sl.put, Sl.mut, Sl.isO, bind_ok, bind_bad, bindS_ok, bindS_bad, then_nx, then_rt, then_bad, if_S, if_B, if_BS, ite_self, List.getElem?_cons_zero, List.getElem?_cons_succ, List.length_cons, List.length_nil, List.map_cons, List.map_nil, List.replicate, List.cons_append, List.nil_append, List.set_cons_zero, List.set_cons_succ, List.mapIdx_cons, List.mapIdx_nil, List.zip_cons_cons, List.zip_nil_right, List.zip_nil_left, List.all_cons, List.all_nil, List.any_cons, List.any_nil, List.headD_cons, List.headD_nil, List.tail_cons, List.tail_nil, Nat.reduceAdd, Nat.reduceSub, Nat.reduceEqDiff, Nat.reduceLeDiff, if_true, if_false, ite_true, ite_false, Bool.false_eq_true, decide_true, decide_false, Bool.and_true, Bool.true_and, Bool.and_false, Bool.false_and, Bool.or_true, Bool.true_or, Bool.or_false, Bool.false_or, Bool.not_true, Bool.not_false, Option.map_some, Option.map_none, Option.bind_some, Option.or_some, Option.or_none, Option.none_or, Option.some_or, and_self, and_true, true_and, ne_eq, not_true_eq_false, not_false_eq_true, List.isEmpty_cons, List.isEmpty_nil, Int.cast_ofNat_Int, beq_self_eq_true, Int.reduceBEq, Int.reduceLT, Int.reduceLE, Int.reduceAdd, Int.reduceSub, Int.reduceEq, Int.reduceNeg, reduceIte, eqA_int, neA_int, eqA_bool, neA_bool, eqA_str, neA_str, eqA_tupE, neA_lstE, fIx_t0, fIx_t1, fIx_l0, fIx_l1, fIx_l2, addI_int, Int.natCast_zero, Int.natCast_one, Bool.not_eq_true, Bool.not_eq_false, a1]
    · simp only [a1]; rfl
  simp only [mFn, mDef, entry, ent, outs, outS, mSeq, mNext, mPass, mExpr, mRet, mRetF, mRetN, mRetO, mIf, mSet, mSetF, mSetL, mAsg, gN, gNl, gCn, gT, mPar, mParFF, mParFV, mParVF, mName, mNameF, mC, mBin, fin1, dat, Sl.dat, cln, clns, dats, mTest, mChain, mAnd, mOr, mNot, mVal, mAndV, mOrV, mNotV, mIfE, mNeg, mTup, mLst, mLstF, mFr, mNil, mCons, mCall, mCallF, callM, argSs, argS, apart, apartE, updE, backAt, conv, mIs, mIsM, BT.is, mCb, mCbF, fLen, fList, fTuple, fInt, fI, mPart, mNoPart, mSl, fSl, mRev, fRev, mSetIx, mMethG, mMeth, fClear, fIsN, fNotN, isNo, asgOk, slotOwn, Sl.put, Sl.mut, Sl.isO, bind_ok, bind_bad, bindS_ok, bindS_bad, then_nx, then_rt, then_bad, if_S, if_B, if_BS, ite_self, List.getElem?_cons_zero, List.getElem?_cons_succ, List.length_cons, List.length_nil, List.map_cons, List.map_nil, List.replicate, List.cons_append, List.nil_append, List.set_cons_zero, List.set_cons_succ, List.mapIdx_cons, List.mapIdx_nil, List.zip_cons_cons, List.zip_nil_right, List.zip_nil_left, List.all_cons, List.all_nil, List.any_cons, List.any_nil, List.headD_cons, List.headD_nil, List.tail_cons, List.tail_nil, Nat.reduceAdd, Nat.reduceSub, Nat.reduceEqDiff, Nat.reduceLeDiff, if_true, if_false, ite_true, ite_false, Bool.false_eq_true, decide_true, decide_false, Bool.and_true, Bool.true_and, Bool.and_false, Bool.false_and, Bool.or_true, Bool.true_or, Bool.or_false, Bool.false_or, Bool.not_true, Bool.not_false, Option.map_some, Option.map_none, Option.bind_some, Option.or_some, Option.or_none, Option.none_or, Option.some_or, and_self, and_true, true_and, ne_eq, not_true_eq_false, not_false_eq_true, List.isEmpty_cons, List.isEmpty_nil, Int.cast_ofNat_Int, beq_self_eq_true, Int.reduceBEq, Int.reduceLT, Int.reduceLE, Int.reduceAdd, Int.reduceSub, Int.reduceEq, Int.reduceNeg, reduceIte, eqA_int, neA_int, eqA_bool, neA_bool, eqA_str, neA_str, eqA_tupE, neA_lstE, fIx_t0, fIx_t1, fIx_l0, fIx_l1, fIx_l2, addI_int, Int.natCast_zero, Int.natCast_one, Bool.not_eq_true, Bool.not_eq_false, m_read_sheet, mb_read_sheet, c1, e2, c2, hs, hw]
end DL
namespace DL
open PySem L2
open PyProof.Rows hiding St
/-! ## the law -/
def lw_1 : DEnv → SOut := (mSetF 1 (mCallF m__law_open [false] (mCons (mName 0) mNil)))
def lw_2b_1 : DEnv → SOut := (mSet 3 (mCall m__law_draw_tree [true, false] (mCons (mName 1) (mCons (mBin fAdd (mC (.int 2)) (mCall m__law_take [true, false] (mCons (mName 1) (mCons (mC (.int 15)) mNil)))) mNil))))
def lw_2b_2 : DEnv → SOut := (mPar 4 5 (mCb fTuple (mCons (mFr (mLcF [7] (mIterL (mCall m__law_sides [false] (mCons (mName 3) mNil))) (gN 7) mYes (mCall m__law_one_of [true, false] (mCons (mName 1) (mCons (mFr (mCbF fList (mCons (mName 7) mNil))) mNil))))) mNil)) (mC (.str "")))
def lw_2b_3b : DEnv → SOut := (mSet 5 (mBin fAdd (mBin fAdd (mBin fAdd (mName 5) (mBin fMulS (mC (.str " ")) (mCb fInt (mCons (mBin fNeA (mName 5) (mC (.str ""))) mNil)))) (mIfE (mTest (mBin fGt (mName 6) (mC (.int 9)))) (mC (.str "1")) (mC (.str "")))) (mBin fIx (mC (.str "0123456789")) (mBin fMod (mCb fInt (mCons (mName 6) mNil)) (mC (.int 10))))))
def lw_2b_3 : DEnv → SOut := mFor (mIterL (mName 4)) (gN 6) lw_2b_3b
def lw_2b_4 : DEnv → SOut := (mIf (mNot (mTest (mCall (m__law_same 30) [false, false] (mCons (mLst (mCons (mCall m_write_sheet [false] (mCons (mName 4) mNil)) (mCons (mCall m_read_sheet [false, false] (mCons (mName 3) (mCons (mName 5) mNil))) mNil))) (mCons (mLst (mCons (mName 5) (mCons (mName 4) mNil))) mNil)))))
    (mRet (mC (.bool false)))
    mNext)
def lw_2b : DEnv → SOut := mSeq lw_2b_1 (mSeq lw_2b_2 (mSeq lw_2b_3 lw_2b_4))
def lw_2 : DEnv → SOut := mFor (mRange1 (mCons (mC (.int 6)) mNil)) (gN 2) lw_2b
def lw_3 : DEnv → SOut := (mRet (mC (.bool true)))
def lw : DEnv → SOut := mSeq lw_1 (mSeq lw_2 lw_3)
theorem lw_is : mb_law = lw := rfl

theorem sv_lv : ∀ t : Tr, t.sv.Perm t.lv
  | .lf i => List.Perm.refl _
  | .nd l r => (sortI_perm _).trans ((sv_lv l).append (sv_lv r))
theorem rows_in : ∀ (t : Tr) (zs : List Int), zs ∈ t.rows → zs ≠ [] ∧ ∀ z ∈ zs, z ∈ t.lv
  | .lf i, zs, h => by simp [Tr.rows] at h
  | .nd l r, zs, h => by
    have h : zs ∈ l.rows ++ r.rows ++ [sortI (l.sv ++ r.sv)] := h
    simp only [List.mem_append, List.mem_singleton] at h
    rcases h with (h | h) | rfl
    · obtain ⟨a, b⟩ := rows_in l zs h; exact ⟨a, fun z m => List.mem_append_left _ (b z m)⟩
    · obtain ⟨a, b⟩ := rows_in r zs h; exact ⟨a, fun z m => List.mem_append_right _ (b z m)⟩
    · have p := sv_lv (.nd l r)
      refine ⟨fun e => ?_, fun z m => p.mem_iff.mp m⟩
      have e1 := p.length_eq
      rw [lv_len] at e1
      have := (Tr.nd l r).pos
      have e2 : (Tr.nd l r).sv = [] := e
      rw [e2] at e1
      simp at e1
      omega
theorem tl_eq {x y : Str} (h : TL.tl x = TL.tl y) : x = y := by rw [← TL.mk_tl x, ← TL.mk_tl y, h]
theorem str_assoc (x y z : Str) : x ++ y ++ z = x ++ (y ++ z) := tl_eq (by simp only [TL.tl_append, List.append_assoc])
theorem str_nil (x : Str) : x ++ ("" : Str) = x := tl_eq (by rw [TL.tl_append]; exact List.append_nil _)
theorem nil_str (x : Str) : ("" : Str) ++ x = x := tl_eq (by rw [TL.tl_append]; rfl)
theorem join_app (x : Str) : ∀ xs : List Str, xs ≠ [] → Txt.join sp (xs ++ [x]) = Txt.join sp xs ++ sp ++ x := by
  intro xs hne
  rw [TL.join_eq, TL.join_eq]
  induction xs with
  | nil => exact absurd rfl hne
  | cons y ys ih =>
    cases ys with
    | nil => rfl
    | cons z zs =>
      have := ih (by simp)
      show y ++ sp ++ Str.join sp (z :: zs ++ [x]) = y ++ sp ++ Str.join sp (z :: zs) ++ sp ++ x
      rw [show z :: zs ++ [x] = (z :: zs) ++ [x] from rfl, this]
      simp only [str_assoc]
theorem due_app (xs : List Int) (z : Int) (h : xs ≠ []) : due (xs ++ [z]) = due xs ++ sp ++ num z := by
  unfold due
  rw [List.map_append]
  exact join_app _ _ (by simpa using h)
theorem due_one (z : Int) : due [z] = num z := by
  unfold due
  rw [TL.join_eq]
  rfl
theorem due_len {ss : List Int} (h : InR ss) : (due ss).length ≤ 3 * ss.length := by
  have e := StrLaws.join_length_le sp (ss.map num)
  have := lens_le h
  rw [List.length_map, show sp.length = 1 from by decide +kernel, ← TL.join_eq] at e
  show (Txt.join sp (ss.map num)).length ≤ _
  omega
theorem len_app (x y : Str) : (x ++ y).length = x.length + y.length := by
  have : ∀ z : Str, z.length = (TL.tl z).length := fun z => by simp [Str.length]
  rw [this, TL.tl_append, List.length_append, ← this, ← this]
theorem due_ne {ss : List Int} (h : InR ss) (hne : ss ≠ []) : due ss ≠ "" := by
  intro e
  have hl : (due ss).length = 0 := by rw [e]; rfl
  rcases List.eq_nil_or_concat ss with rfl | ⟨xs, z, rfl⟩
  · exact hne rfl
  · have hz := num_len (h z (by simp))
    by_cases hx : xs = []
    · subst hx
      rw [List.concat_eq_append, List.nil_append, due_one] at hl
      omega
    · rw [List.concat_eq_append, due_app xs z hx, len_app] at hl
      omega
theorem addS {x y : Str} (h : x.length + y.length ≤ 1000000) : fAdd (.str x) (.str y) = some (.str (x ++ y)) := if_pos h
section
variable (S P : PyData) (s2 s3 s4 s5 s6 s7 : Sl)
theorem st1 {n : Nat} (hP : PenOk n P) (hn : n + 1000 ≤ 268435456) (h3 : asg s3) : ∃ (t : Tr) (k : Nat) (P' : PyData), lw_2b_1 [.cl S, .ow P, s2, s3, s4, s5, s6, s7] = .nx [.cl S, .ow P', s2, .cl t.enc, s4, s5, s6, s7] ∧ t.lv.Perm (upTo k) ∧ 2 ≤ k ∧ k ≤ 16 ∧ PenOk (n + 301) P' := by
  obtain ⟨v, P1, e1, v0, v1, p1⟩ := take_p hP (a := 15) (by omega) (by decide) (by decide)
  obtain ⟨t, P2, e2, ht, p2⟩ := draw_p p1 (2 + v) (by omega) (by omega) (by omega)
  refine ⟨t, (2 + v).toNat, P2, ?_, ht, by omega, by omega, p2.mono (by omega)⟩
  exact mSet_ok (r := [.cl S, .ow P2, s2, s3, s4, s5, s6, s7]) (d := t.enc) (by simp only [mFn, mDef, entry, ent, outs, outS, mSeq, mNext, mPass, mExpr, mRet, mRetF, mRetN, mRetO, mIf, mSet, mSetF, mSetL, mAsg, gN, gNl, gCn, gT, mPar, mParFF, mParFV, mParVF, mName, mNameF, mC, mBin, fin1, dat, Sl.dat, cln, clns, dats, mTest, mChain, mAnd, mOr, mNot, mVal, mAndV, mOrV, mNotV, mIfE, mNeg, mTup, mLst, mLstF, mFr, mNil, mCons, mCall, mCallF, callM, argSs, argS, apart, apartE, updE, backAt, conv, mIs, mIsM, BT.is, mCb, mCbF, fLen, fList, fTuple, fInt, fI, mPart, mNoPart, mSl, fSl, mRev, fRev, mSetIx, mMethG, mMeth, fClear, fIsN, fNotN, isNo, asgOk, slotOwn, Sl.put, Sl.mut, Sl.isO, bind_ok, bind_bad, bindS_ok, bindS_bad, then_nx, then_rt, then_bad, if_S, if_B, if_BS, ite_self, List.getElem?_cons_zero, List.getElem?_cons_succ, List.length_cons, List.length_nil, List.map_cons, List.map_nil, List.replicate, List.cons_append, List.nil_append, List.set_cons_zero, List.set_cons_succ, List.mapIdx_cons, List.mapIdx_nil, List.zip_cons_cons, List.zip_nil_right, List.zip_nil_left, List.all_cons, List.all_nil, List.any_cons, List.any_nil, List.headD_cons, List.headD_nil, List.tail_cons, List.tail_nil, Nat.reduceAdd, Nat.reduceSub, Nat.reduceEqDiff, Nat.reduceLeDiff, if_true, if_false, ite_true, ite_false, Bool.false_eq_true, decide_true, decide_false, Bool.and_true, Bool.true_and, Bool.and_false, Bool.false_and, Bool.or_true, Bool.true_or, Bool.or_false, Bool.false_or, Bool.not_true, Bool.not_false, Option.map_some, Option.map_none, Option.bind_some, Option.or_some, Option.or_none, Option.none_or, Option.some_or, and_self, and_true, true_and, ne_eq, not_true_eq_false, not_false_eq_true, List.isEmpty_cons, List.isEmpty_nil, Int.cast_ofNat_Int, beq_self_eq_true, Int.reduceBEq, Int.reduceLT, Int.reduceLE, Int.reduceAdd, Int.reduceSub, Int.reduceEq, Int.reduceNeg, reduceIte, eqA_int, neA_int, eqA_bool, neA_bool, eqA_str, neA_str, eqA_tupE, neA_lstE, fIx_t0, fIx_t1, fIx_l0, fIx_l1, fIx_l2, addI_int, Int.natCast_zero, Int.natCast_one, Bool.not_eq_true, Bool.not_eq_false, e1, e2]) (asgOk_at rfl h3)
theorem st2 {n : Nat} (hP : PenOk n P) (hn : n + 1000 ≤ 268435456) (t : Tr) (hs : t.sz ≤ 16) (hv : ∀ z ∈ t.lv, 0 ≤ z ∧ z < 16) (h4 : asg s4) (h5 : asg s5) (h7 : asg s7) : ∃ (ss : List Int) (P' : PyData) (t7 : Sl),
    lw_2b_2 [.cl S, .ow P, s2, .cl t.enc, s4, s5, s6, s7] = .nx [.cl S, .ow P', s2, .cl t.enc, .cl (sheetD ss), .cl (.str ""), s6, t7] ∧ Sheet t ss ∧ InR ss ∧ asg t7 ∧ PenOk (n + 20) P' := by
  have e1 := law_sides_of_eq t (by omega)
  have rl := rows_len t
  have lt : (tups t.rows).length = t.rows.length := by simp [tups]
  obtain ⟨bs, r, y1, P4, ys, y2, y3, y4, y5, y6, y7⟩ := lcM_ok (vs := [7]) (g := gN 7) (mt := mYes) (me := mCall m__law_one_of [true, false] (mCons (mName 1) (mCons (mFr (mCbF fList (mCons (mName 7) mNil))) mNil))) (ds := tups t.rows)
    (fun i env acc => ∃ (Q : PyData) (ys : List Int), env = [.cl S, .ow Q, s2, .cl t.enc, s4, s5, s6, .un] ∧ PenOk (n + i) Q ∧ acc = ys.map .int ∧ ys.length = i ∧ (∀ (j : Nat) (z : Int) (zs : List Int), ys[j]? = some z → t.rows[j]? = some zs → z ∈ zs) ∧ InR ys) (fun i d env acc hd ⟨Q, ys, he, q1, q2, q3, q4, q5⟩ => by
      subst he q2
      unfold tups at hd
      rw [List.getElem?_map] at hd
      obtain ⟨zs, hzs, rfl⟩ := Option.map_eq_some_iff.mp hd
      have hi : i < t.rows.length := (List.getElem?_eq_some_iff.mp hzs).1
      obtain ⟨hne, hin⟩ := rows_in t zs (List.mem_of_getElem? hzs)
      have zl : zs.length ≤ 1000 := by have := rows_le t zs (List.mem_of_getElem? hzs); omega
      obtain ⟨d, hd2, Q2, e, q⟩ := one_of_p q1 (by omega) (xs := zs.map .int) (by simpa using hne) (by rw [List.length_map]; omega)
      obtain ⟨z, hz, rfl⟩ := List.mem_map.mp hd2
      refine ⟨[.cl S, .ow Q, s2, .cl t.enc, s4, s5, s6, .cl (.tuple (zs.map .int))], rfl, _, rfl, .val (.int z), [.cl S, .ow Q2, s2, .cl t.enc, s4, s5, s6, .cl (.tuple (zs.map .int))], ?_, .int z, rfl, rfl, Q2, ys ++ [z], rfl, q.mono (by omega), by rw [List.map_append]; rfl, by rw [List.length_append, List.length_singleton, q3], fun j y ws hy hw => ?_, fun y hy => ?_⟩
      · simp only [mFn, mDef, entry, ent, outs, outS, mSeq, mNext, mPass, mExpr, mRet, mRetF, mRetN, mRetO, mIf, mSet, mSetF, mSetL, mAsg, gN, gNl, gCn, gT, mPar, mParFF, mParFV, mParVF, mName, mNameF, mC, mBin, fin1, dat, Sl.dat, cln, clns, dats, mTest, mChain, mAnd, mOr, mNot, mVal, mAndV, mOrV, mNotV, mIfE, mNeg, mTup, mLst, mLstF, mFr, mNil, mCons, mCall, mCallF, callM, argSs, argS, apart, apartE, updE, backAt, conv, mIs, mIsM, BT.is, mCb, mCbF, fLen, fList, fTuple, fInt, fI, mPart, mNoPart, mSl, fSl, mRev, fRev, mSetIx, mMethG, mMeth, fClear, fIsN, fNotN, isNo, asgOk, slotOwn, Sl.put, Sl.mut, Sl.isO, bind_ok, bind_bad, bindS_ok, bindS_bad, then_nx, then_rt, then_bad, if_S, if_B, if_BS, ite_self, List.getElem?_cons_zero, List.getElem?_cons_succ, List.length_cons, List.length_nil, List.map_cons, List.map_nil, List.replicate, List.cons_append, List.nil_append, List.set_cons_zero, List.set_cons_succ, List.mapIdx_cons, List.mapIdx_nil, List.zip_cons_cons, List.zip_nil_right, List.zip_nil_left, List.all_cons, List.all_nil, List.any_cons, List.any_nil, List.headD_cons, List.headD_nil, List.tail_cons, List.tail_nil, Nat.reduceAdd, Nat.reduceSub, Nat.reduceEqDiff, Nat.reduceLeDiff, if_true, if_false, ite_true, ite_false, Bool.false_eq_true, decide_true, decide_false, Bool.and_true, Bool.true_and, Bool.and_false, Bool.false_and, Bool.or_true, Bool.true_or, Bool.or_false, Bool.false_or, Bool.not_true, Bool.not_false, Option.map_some, Option.map_none, Option.bind_some, Option.or_some, Option.or_none, Option.none_or, Option.some_or, and_self, and_true, true_and, ne_eq, not_true_eq_false, not_false_eq_true, List.isEmpty_cons, List.isEmpty_nil, Int.cast_ofNat_Int, beq_self_eq_true, Int.reduceBEq, Int.reduceLT, Int.reduceLE, Int.reduceAdd, Int.reduceSub, Int.reduceEq, Int.reduceNeg, reduceIte, eqA_int, neA_int, eqA_bool, neA_bool, eqA_str, neA_str, eqA_tupE, neA_lstE, fIx_t0, fIx_t1, fIx_l0, fIx_l1, fIx_l2, addI_int, Int.natCast_zero, Int.natCast_one, Bool.not_eq_true, Bool.not_eq_false, e]
      · by_cases hj : j < ys.length
        · rw [List.getElem?_append_left hj] at hy
          exact q4 j y ws hy hw
        · rw [List.getElem?_append_right (by omega)] at hy
          have hj2 : j = ys.length := by
            have := (List.getElem?_eq_some_iff.mp hy).1
            simp at this
            omega
          subst hj2
          rw [Nat.sub_self] at hy
          cases hy
          rw [q3, hzs] at hw
          cases hw
          exact hz
      · rcases List.mem_append.mp hy with hy | hy
        · exact q5 y hy
        · have : y = z := by simpa using hy
          subst this
          exact hv y (hin y hz)) (env := [.cl S, .ow P, s2, .cl t.enc, s4, s5, s6, .un]) ⟨P, [], rfl, hP, rfl, rfl, fun j z zs h => by simp at h, fun z h => nomatch h⟩
  subst y2 y4
  rw [lt] at y3 y5
  obtain ⟨t7, ht, g7⟩ : ∃ t, keepS (some s7) = t ∧ asg t := by
    rcases h7 with rfl | ⟨d, rfl⟩ | ⟨d, rfl⟩
    · exact ⟨_, rfl, asg_un⟩
    · exact ⟨_, rfl, asg_cl⟩
    · exact ⟨_, rfl, asg_un⟩
  refine ⟨ys, P4, t7, ?_, ⟨by omega, y6⟩, y7, g7, y3.mono (by omega)⟩
  have c3 : mLcF [7] (mIterL (mCall m__law_sides [false] (mCons (mName 3) mNil))) (gN 7) mYes (mCall m__law_one_of [true, false] (mCons (mName 1) (mCons (mFr (mCbF fList (mCons (mName 7) mNil))) mNil))) [.cl S, .ow P, s2, .cl t.enc, s4, s5, s6, s7] = .ok (.list (ys.map .int)) [.cl S, .ow P4, s2, .cl t.enc, s4, s5, s6, t7] := by
    unfold mLcF
    have er : mIterL (mCall m__law_sides [false] (mCons (mName 3) mNil)) [.cl S, .ow P, s2, .cl t.enc, s4, s5, s6, s7] = .ok (tups t.rows) [.cl S, .ow P, s2, .cl t.enc, s4, s5, s6, s7] := mIterL_of (by simp only [mFn, mDef, entry, ent, outs, outS, mSeq, mNext, mPass, mExpr, mRet, mRetF, mRetN, mRetO, mIf, mSet, mSetF, mSetL, mAsg, gN, gNl, gCn, gT, mPar, mParFF, mParFV, mParVF, mName, mNameF, mC, mBin, fin1, dat, Sl.dat, cln, clns, dats, mTest, mChain, mAnd, mOr, mNot, mVal, mAndV, mOrV, mNotV, mIfE, mNeg, mTup, mLst, mLstF, mFr, mNil, mCons, mCall, mCallF, callM, argSs, argS, apart, apartE, updE, backAt, conv, mIs, mIsM, BT.is, mCb, mCbF, fLen, fList, fTuple, fInt, fI, mPart, mNoPart, mSl, fSl, mRev, fRev, mSetIx, mMethG, mMeth, fClear, fIsN, fNotN, isNo, asgOk, slotOwn, Sl.put, Sl.mut, Sl.isO, bind_ok, bind_bad, bindS_ok, bindS_bad, then_nx, then_rt, then_bad, if_S, if_B, if_BS, ite_self, List.getElem?_cons_zero, List.getElem?_cons_succ, List.length_cons, List.length_nil, List.map_cons, List.map_nil, List.replicate, List.cons_append, List.nil_append, List.set_cons_zero, List.set_cons_succ, List.mapIdx_cons, List.mapIdx_nil, List.zip_cons_cons, List.zip_nil_right, List.zip_nil_left, List.all_cons, List.all_nil, List.any_cons, List.any_nil, List.headD_cons, List.headD_nil, List.tail_cons, List.tail_nil, Nat.reduceAdd, Nat.reduceSub, Nat.reduceEqDiff, Nat.reduceLeDiff, if_true, if_false, ite_true, ite_false, Bool.false_eq_true, decide_true, decide_false, Bool.and_true, Bool.true_and, Bool.and_false, Bool.false_and, Bool.or_true, Bool.true_or, Bool.or_false, Bool.false_or, Bool.not_true, Bool.not_false, Option.map_some, Option.map_none, Option.bind_some, Option.or_some, Option.or_none, Option.none_or, Option.some_or, and_self, and_true, true_and, ne_eq, not_true_eq_false, not_false_eq_true, List.isEmpty_cons, List.isEmpty_nil, Int.cast_ofNat_Int, beq_self_eq_true, Int.reduceBEq, Int.reduceLT, Int.reduceLE, Int.reduceAdd, Int.reduceSub, Int.reduceEq, Int.reduceNeg, reduceIte, eqA_int, neA_int, eqA_bool, neA_bool, eqA_str, neA_str, eqA_tupE, neA_lstE, fIx_t0, fIx_t1, fIx_l0, fIx_l1, fIx_l2, addI_int, Int.natCast_zero, Int.natCast_one, Bool.not_eq_true, Bool.not_eq_false, e1])
    rw [er]
    show (if _ then _ else _) = _
    have a7 : okAll [.cl S, .ow P, s2, .cl t.enc, s4, s5, s6, s7] [7] = true := by
      show (asgOk _ 7 && true) = true
      rw [asgOk_at (s := s7) rfl h7]; rfl
    rw [if_pos ⟨by rw [lt]; omega, a7⟩]
    show (match lcM [7] (gN 7) mYes _ (tups t.rows) [.cl S, .ow P, s2, .cl t.enc, s4, s5, s6, .un] [] with | some (xs, r2) => _ | none => _) = _
    rw [y1, ← ht]
    rfl
  unfold lw_2b_2
  exact mPar_ok (r := [.cl S, .ow P4, s2, .cl t.enc, s4, s5, s6, t7]) (r' := [.cl S, .ow P4, s2, .cl t.enc, s4, s5, s6, t7]) (d := sheetD ys) (d' := .str "") (by unfold sheetD; simp only [mFn, mDef, entry, ent, outs, outS, mSeq, mNext, mPass, mExpr, mRet, mRetF, mRetN, mRetO, mIf, mSet, mSetF, mSetL, mAsg, gN, gNl, gCn, gT, mPar, mParFF, mParFV, mParVF, mName, mNameF, mC, mBin, fin1, dat, Sl.dat, cln, clns, dats, mTest, mChain, mAnd, mOr, mNot, mVal, mAndV, mOrV, mNotV, mIfE, mNeg, mTup, mLst, mLstF, mFr, mNil, mCons, mCall, mCallF, callM, argSs, argS, apart, apartE, updE, backAt, conv, mIs, mIsM, BT.is, mCb, mCbF, fLen, fList, fTuple, fInt, fI, mPart, mNoPart, mSl, fSl, mRev, fRev, mSetIx, mMethG, mMeth, fClear, fIsN, fNotN, isNo, asgOk, slotOwn, Sl.put, Sl.mut, Sl.isO, bind_ok, bind_bad, bindS_ok, bindS_bad, then_nx, then_rt, then_bad, if_S, if_B, if_BS, ite_self, List.getElem?_cons_zero, List.getElem?_cons_succ, List.length_cons, List.length_nil, List.map_cons, List.map_nil, List.replicate, List.cons_append, List.nil_append, List.set_cons_zero, List.set_cons_succ, List.mapIdx_cons, List.mapIdx_nil, List.zip_cons_cons, List.zip_nil_right, List.zip_nil_left, List.all_cons, List.all_nil, List.any_cons, List.any_nil, List.headD_cons, List.headD_nil, List.tail_cons, List.tail_nil, Nat.reduceAdd, Nat.reduceSub, Nat.reduceEqDiff, Nat.reduceLeDiff, if_true, if_false, ite_true, ite_false, Bool.false_eq_true, decide_true, decide_false, Bool.and_true, Bool.true_and, Bool.and_false, Bool.false_and, Bool.or_true, Bool.true_or, Bool.or_false, Bool.false_or, Bool.not_true, Bool.not_false, Option.map_some, Option.map_none, Option.bind_some, Option.or_some, Option.or_none, Option.none_or, Option.some_or, and_self, and_true, true_and, ne_eq, not_true_eq_false, not_false_eq_true, List.isEmpty_cons, List.isEmpty_nil, Int.cast_ofNat_Int, beq_self_eq_true, Int.reduceBEq, Int.reduceLT, Int.reduceLE, Int.reduceAdd, Int.reduceSub, Int.reduceEq, Int.reduceNeg, reduceIte, eqA_int, neA_int, eqA_bool, neA_bool, eqA_str, neA_str, eqA_tupE, neA_lstE, fIx_t0, fIx_t1, fIx_l0, fIx_l1, fIx_l2, addI_int, Int.natCast_zero, Int.natCast_one, Bool.not_eq_true, Bool.not_eq_false, c3]) rfl (asgOk_at rfl h4) (asgOk_at rfl h5)
theorem st3b (xs : List Int) (z : Int) (hx : InR xs) (hz : 0 ≤ z ∧ z < 16) (hl : xs.length ≤ 100) : lw_2b_3b [.cl S, .ow P, s2, s3, s4, .cl (.str (due xs)), .cl (.int z), s7] = .nx [.cl S, .ow P, s2, s3, s4, .cl (.str (due (xs ++ [z]))), .cl (.int z), s7] := by
  obtain ⟨c, e1, e2⟩ := num_dig hz
  have dl := due_len hx
  have nl := num_len hz
  rw [e2, len_app] at nl
  have l1 : (⟨#[c]⟩ : Str).length = 1 := rfl
  have lo : (ones z).length ≤ 1 := by rw [l1] at nl; omega
  unfold lw_2b_3b
  refine mSet_ok (r := [.cl S, .ow P, s2, s3, s4, .cl (.str (due xs)), .cl (.int z), s7]) (d := .str (due (xs ++ [z]))) ?_ rfl
  by_cases h : xs = []
  · subst h
    have e3 : fAdd (.str "") (.str "") = some (.str "") := rfl
    have e4 : fAdd (.str "") (.str (ones z)) = some (.str (ones z)) := by rw [addS (by show 0 + _ ≤ _; omega), nil_str]
    have e5 : fAdd (.str (ones z)) (.str ⟨#[c]⟩) = some (.str (num z)) := by rw [addS (by rw [l1]; omega), e2]
    have e6 : fMulS (.str " ") (.int 0) = some (.str "") := rfl
    rw [due_nil, List.nil_append, due_one]
    by_cases h9 : 9 < z
    · have ho : ones z = "1" := if_pos h9
      rw [ho] at e4 e5
      simp only [mFn, mDef, entry, ent, outs, outS, mSeq, mNext, mPass, mExpr, mRet, mRetF, mRetN, mRetO, mIf, mSet, mSetF, mSetL, mAsg, gN, gNl, gCn, gT, mPar, mParFF, mParFV, mParVF, mName, mNameF, mC, mBin, fin1, dat, Sl.dat, cln, clns, dats, mTest, mChain, mAnd, mOr, mNot, mVal, mAndV, mOrV, mNotV, mIfE, mNeg, mTup, mLst, mLstF, mFr, mNil, mCons, mCall, mCallF, callM, argSs, argS, apart, apartE, updE, backAt, conv, mIs, mIsM, BT.is, mCb, mCbF, fLen, fList, fTuple, fInt, fI, mPart, mNoPart, mSl, fSl, mRev, fRev, mSetIx, mMethG, mMeth, fClear, fIsN, fNotN, isNo, asgOk, slotOwn, Sl.put, Sl.mut, Sl.isO, bind_ok, bind_bad, bindS_ok, bindS_bad, then_nx, then_rt, then_bad, if_S, if_B, if_BS, ite_self, List.getElem?_cons_zero, List.getElem?_cons_succ, List.length_cons, List.length_nil, List.map_cons, List.map_nil, List.replicate, List.cons_append, List.nil_append, List.set_cons_zero, List.set_cons_succ, List.mapIdx_cons, List.mapIdx_nil, List.zip_cons_cons, List.zip_nil_right, List.zip_nil_left, List.all_cons, List.all_nil, List.any_cons, List.any_nil, List.headD_cons, List.headD_nil, List.tail_cons, List.tail_nil, Nat.reduceAdd, Nat.reduceSub, Nat.reduceEqDiff, Nat.reduceLeDiff, if_true, if_false, ite_true, ite_false, Bool.false_eq_true, decide_true, decide_false, Bool.and_true, Bool.true_and, Bool.and_false, Bool.false_and, Bool.or_true, Bool.true_or, Bool.or_false, Bool.false_or, Bool.not_true, Bool.not_false, Option.map_some, Option.map_none, Option.bind_some, Option.or_some, Option.or_none, Option.none_or, Option.some_or, and_self, and_true, true_and, ne_eq, not_true_eq_false, not_false_eq_true, List.isEmpty_cons, List.isEmpty_nil, Int.cast_ofNat_Int, beq_self_eq_true, Int.reduceBEq, Int.reduceLT, Int.reduceLE, Int.reduceAdd, Int.reduceSub, Int.reduceEq, Int.reduceNeg, reduceIte, eqA_int, neA_int, eqA_bool, neA_bool, eqA_str, neA_str, eqA_tupE, neA_lstE, fIx_t0, fIx_t1, fIx_l0, fIx_l1, fIx_l2, addI_int, Int.natCast_zero, Int.natCast_one, Bool.not_eq_true, Bool.not_eq_false, h9, e1, e3, e4, e5, e6]
    · have ho : ones z = "" := if_neg h9
      rw [ho] at e4 e5
      simp only [mFn, mDef, entry, ent, outs, outS, mSeq, mNext, mPass, mExpr, mRet, mRetF, mRetN, mRetO, mIf, mSet, mSetF, mSetL, mAsg, gN, gNl, gCn, gT, mPar, mParFF, mParFV, mParVF, mName, mNameF, mC, mBin, fin1, dat, Sl.dat, cln, clns, dats, mTest, mChain, mAnd, mOr, mNot, mVal, mAndV, mOrV, mNotV, mIfE, mNeg, mTup, mLst, mLstF, mFr, mNil, mCons, mCall, mCallF, callM, argSs, argS, apart, apartE, updE, backAt, conv, mIs, mIsM, BT.is, mCb, mCbF, fLen, fList, fTuple, fInt, fI, mPart, mNoPart, mSl, fSl, mRev, fRev, mSetIx, mMethG, mMeth, fClear, fIsN, fNotN, isNo, asgOk, slotOwn, Sl.put, Sl.mut, Sl.isO, bind_ok, bind_bad, bindS_ok, bindS_bad, then_nx, then_rt, then_bad, if_S, if_B, if_BS, ite_self, List.getElem?_cons_zero, List.getElem?_cons_succ, List.length_cons, List.length_nil, List.map_cons, List.map_nil, List.replicate, List.cons_append, List.nil_append, List.set_cons_zero, List.set_cons_succ, List.mapIdx_cons, List.mapIdx_nil, List.zip_cons_cons, List.zip_nil_right, List.zip_nil_left, List.all_cons, List.all_nil, List.any_cons, List.any_nil, List.headD_cons, List.headD_nil, List.tail_cons, List.tail_nil, Nat.reduceAdd, Nat.reduceSub, Nat.reduceEqDiff, Nat.reduceLeDiff, if_true, if_false, ite_true, ite_false, Bool.false_eq_true, decide_true, decide_false, Bool.and_true, Bool.true_and, Bool.and_false, Bool.false_and, Bool.or_true, Bool.true_or, Bool.or_false, Bool.false_or, Bool.not_true, Bool.not_false, Option.map_some, Option.map_none, Option.bind_some, Option.or_some, Option.or_none, Option.none_or, Option.some_or, and_self, and_true, true_and, ne_eq, not_true_eq_false, not_false_eq_true, List.isEmpty_cons, List.isEmpty_nil, Int.cast_ofNat_Int, beq_self_eq_true, Int.reduceBEq, Int.reduceLT, Int.reduceLE, Int.reduceAdd, Int.reduceSub, Int.reduceEq, Int.reduceNeg, reduceIte, eqA_int, neA_int, eqA_bool, neA_bool, eqA_str, neA_str, eqA_tupE, neA_lstE, fIx_t0, fIx_t1, fIx_l0, fIx_l1, fIx_l2, addI_int, Int.natCast_zero, Int.natCast_one, Bool.not_eq_true, Bool.not_eq_false, h9, e1, e3, e4, e5, e6]
  · have hne := due_ne hx h
    have d1 : decide (due xs = "") = false := decide_eq_false hne
    have e6 : fMulS (.str " ") (.int 1) = some (.str sp) := rfl
    have e3 : fAdd (.str (due xs)) (.str sp) = some (.str (due xs ++ sp)) := addS (by rw [show sp.length = 1 from by decide +kernel]; omega)
    have e4 : fAdd (.str (due xs ++ sp)) (.str (ones z)) = some (.str (due xs ++ sp ++ ones z)) := addS (by rw [len_app, show sp.length = 1 from by decide +kernel]; omega)
    have e5 : fAdd (.str (due xs ++ sp ++ ones z)) (.str ⟨#[c]⟩) = some (.str (due (xs ++ [z]))) := by
      rw [addS (by rw [len_app, len_app, l1, show sp.length = 1 from by decide +kernel]; omega), due_app xs z h, e2]
      simp only [str_assoc]
    by_cases h9 : 9 < z
    · have ho : ones z = "1" := if_pos h9
      rw [ho] at e4 e5
      simp only [mFn, mDef, entry, ent, outs, outS, mSeq, mNext, mPass, mExpr, mRet, mRetF, mRetN, mRetO, mIf, mSet, mSetF, mSetL, mAsg, gN, gNl, gCn, gT, mPar, mParFF, mParFV, mParVF, mName, mNameF, mC, mBin, fin1, dat, Sl.dat, cln, clns, dats, mTest, mChain, mAnd, mOr, mNot, mVal, mAndV, mOrV, mNotV, mIfE, mNeg, mTup, mLst, mLstF, mFr, mNil, mCons, mCall, mCallF, callM, argSs, argS, apart, apartE, updE, backAt, conv, mIs, mIsM, BT.is, mCb, mCbF, fLen, fList, fTuple, fInt, fI, mPart, mNoPart, mSl, fSl, mRev, fRev, mSetIx, mMethG, mMeth, fClear, fIsN, fNotN, isNo, asgOk, slotOwn, Sl.put, Sl.mut, Sl.isO, bind_ok, bind_bad, bindS_ok, bindS_bad, then_nx, then_rt, then_bad, if_S, if_B, if_BS, ite_self, List.getElem?_cons_zero, List.getElem?_cons_succ, List.length_cons, List.length_nil, List.map_cons, List.map_nil, List.replicate, List.cons_append, List.nil_append, List.set_cons_zero, List.set_cons_succ, List.mapIdx_cons, List.mapIdx_nil, List.zip_cons_cons, List.zip_nil_right, List.zip_nil_left, List.all_cons, List.all_nil, List.any_cons, List.any_nil, List.headD_cons, List.headD_nil, List.tail_cons, List.tail_nil, Nat.reduceAdd, Nat.reduceSub, Nat.reduceEqDiff, Nat.reduceLeDiff, if_true, if_false, ite_true, ite_false, Bool.false_eq_true, decide_true, decide_false, Bool.and_true, Bool.true_and, Bool.and_false, Bool.false_and, Bool.or_true, Bool.true_or, Bool.or_false, Bool.false_or, Bool.not_true, Bool.not_false, Option.map_some, Option.map_none, Option.bind_some, Option.or_some, Option.or_none, Option.none_or, Option.some_or, and_self, and_true, true_and, ne_eq, not_true_eq_false, not_false_eq_true, List.isEmpty_cons, List.isEmpty_nil, Int.cast_ofNat_Int, beq_self_eq_true, Int.reduceBEq, Int.reduceLT, Int.reduceLE, Int.reduceAdd, Int.reduceSub, Int.reduceEq, Int.reduceNeg, reduceIte, eqA_int, neA_int, eqA_bool, neA_bool, eqA_str, neA_str, eqA_tupE, neA_lstE, fIx_t0, fIx_t1, fIx_l0, fIx_l1, fIx_l2, addI_int, Int.natCast_zero, Int.natCast_one, Bool.not_eq_true, Bool.not_eq_false, h9, e1, d1, e3, e4, e5, e6]
    · have ho : ones z = "" := if_neg h9
      rw [ho] at e4 e5
      simp only [mFn, mDef, entry, ent, outs, outS, mSeq, mNext, mPass, mExpr, mRet, mRetF, mRetN, mRetO, mIf, mSet, mSetF, mSetL, mAsg, gN, gNl, gCn, gT, mPar, mParFF, mParFV, mParVF, mName, mNameF, mC, mBin, fin1, dat, Sl.dat, cln, clns, dats, mTest, mChain, mAnd, mOr, mNot, mVal, mAndV, mOrV, mNotV, mIfE, mNeg, mTup, mLst, mLstF, mFr, mNil, mCons, mCall, mCallF, callM, argSs, argS, apart, apartE, updE, backAt, conv, mIs, mIsM, BT.is, mCb, mCbF, fLen, fList, fTuple, fInt, fI, mPart, mNoPart, mSl, fSl, mRev, fRev, mSetIx, mMethG, mMeth, fClear, fIsN, fNotN, isNo, asgOk, slotOwn, Sl.put, Sl.mut, Sl.isO, bind_ok, bind_bad, bindS_ok, bindS_bad, then_nx, then_rt, then_bad, if_S, if_B, if_BS, ite_self, List.getElem?_cons_zero, List.getElem?_cons_succ, List.length_cons, List.length_nil, List.map_cons, List.map_nil, List.replicate, List.cons_append, List.nil_append, List.set_cons_zero, List.set_cons_succ, List.mapIdx_cons, List.mapIdx_nil, List.zip_cons_cons, List.zip_nil_right, List.zip_nil_left, List.all_cons, List.all_nil, List.any_cons, List.any_nil, List.headD_cons, List.headD_nil, List.tail_cons, List.tail_nil, Nat.reduceAdd, Nat.reduceSub, Nat.reduceEqDiff, Nat.reduceLeDiff, if_true, if_false, ite_true, ite_false, Bool.false_eq_true, decide_true, decide_false, Bool.and_true, Bool.true_and, Bool.and_false, Bool.false_and, Bool.or_true, Bool.true_or, Bool.or_false, Bool.false_or, Bool.not_true, Bool.not_false, Option.map_some, Option.map_none, Option.bind_some, Option.or_some, Option.or_none, Option.none_or, Option.some_or, and_self, and_true, true_and, ne_eq, not_true_eq_false, not_false_eq_true, List.isEmpty_cons, List.isEmpty_nil, Int.cast_ofNat_Int, beq_self_eq_true, Int.reduceBEq, Int.reduceLT, Int.reduceLE, Int.reduceAdd, Int.reduceSub, Int.reduceEq, Int.reduceNeg, reduceIte, eqA_int, neA_int, eqA_bool, neA_bool, eqA_str, neA_str, eqA_tupE, neA_lstE, fIx_t0, fIx_t1, fIx_l0, fIx_l1, fIx_l2, addI_int, Int.natCast_zero, Int.natCast_one, Bool.not_eq_true, Bool.not_eq_false, h9, e1, d1, e3, e4, e5, e6]
theorem st3 (ss : List Int) (hr : InR ss) (hl : ss.length ≤ 100) (h6 : asg s6) : ∃ t6, lw_2b_3 [.cl S, .ow P, s2, s3, .cl (sheetD ss), .cl (.str ""), s6, s7] = .nx [.cl S, .ow P, s2, s3, .cl (sheetD ss), .cl (.str (due ss)), t6, s7] ∧ asg t6 := by
  have go : ∀ (ys xs : List Int) (s : Sl), xs ++ ys = ss → asg s → ∃ s', forM (gN 6) lw_2b_3b (ys.map .int) [.cl S, .ow P, s2, s3, .cl (sheetD ss), .cl (.str (due xs)), s, s7] = .nx [.cl S, .ow P, s2, s3, .cl (sheetD ss), .cl (.str (due ss)), s', s7] ∧ asg s' := by
    intro ys
    induction ys with
    | nil => intro xs s e hs; rw [List.append_nil] at e; subst e; exact ⟨s, rfl, hs⟩
    | cons y ys ih =>
      intro xs s e hs
      have hx : InR xs := fun z h => hr z (by rw [← e]; exact List.mem_append_left _ h)
      have hy := hr y (by rw [← e]; simp)
      have hxl : xs.length ≤ 100 := by rw [← e, List.length_append] at hl; omega
      obtain ⟨s', e2, hs'⟩ := ih (xs ++ [y]) (.cl (.int y)) (by rw [List.append_assoc]; exact e) asg_cl
      refine ⟨s', ?_, hs'⟩
      rw [List.map_cons]
      exact forM_cons (gN_ok (asgOk_at (s := s) rfl hs)) (st3b S P s2 s3 (.cl (sheetD ss)) s7 xs y hx hy hxl) e2
  obtain ⟨t6, x, h⟩ := go ss [] s6 rfl h6
  rw [due_nil] at x
  refine ⟨t6, ?_, h⟩
  unfold lw_2b_3
  exact mFor_tup (r := [.cl S, .ow P, s2, s3, .cl (sheetD ss), .cl (.str ""), s6, s7]) rfl x
theorem st4 (t : Tr) (ht : t.sz ≤ 16) (ss : List Int) (h : Sheet t ss) (hr : InR ss) (hne : ss ≠ []) : lw_2b_4 [.cl S, .ow P, s2, .cl t.enc, .cl (sheetD ss), .cl (.str (due ss)), s6, s7] = .nx [.cl S, .ow P, s2, .cl t.enc, .cl (sheetD ss), .cl (.str (due ss)), s6, s7] := by
  have rl := rows_len t
  have hl := h.len
  have e1 := write_ok ss hr (by omega)
  have e2 := read_ok t (by omega) ss h hr hne
  have dl := due_len hr
  have p1 : Pl 1000 2 (.str (due ss)) := ⟨by simp only [PyData.bulk]; have : (due ss).cps.size = (due ss).length := rfl; omega, by simp only [PyData.depth]; omega, by simp only [PyData.hasDict]⟩
  have p2 : Pl 1000 2 (sheetD ss) := by
    obtain ⟨a, b, c⟩ := pl_tup (N := 0) (D := 0) (M := 1000) (ds := ss.map .int) (fun x hx => by obtain ⟨z, _, rfl⟩ := List.mem_map.mp hx; exact pl_int) (by rw [List.length_map]; omega)
    exact ⟨a, Nat.le_trans b (by decide), c⟩
  have p3 : Pl 3000 3 (.list [.str (due ss), sheetD ss]) := pl_list (N := 1000) (D := 2) (fun x hx => by
    simp only [List.mem_cons, List.not_mem_nil, or_false] at hx
    rcases hx with rfl | rfl
    · exact p1
    · exact p2) (by show 2 * 1001 ≤ 3000; decide)
  have e3 := same_eq 30 (.list [.str (due ss), sheetD ss]) (by have := p3.2.1; omega) (by have := p3.1; omega) p3.2.2
  unfold lw_2b_4
  simp only [mFn, mDef, entry, ent, outs, outS, mSeq, mNext, mPass, mExpr, mRet, mRetF, mRetN, mRetO, mIf, mSet, mSetF, mSetL, mAsg, gN, gNl, gCn, gT, mPar, mParFF, mParFV, mParVF, mName, mNameF, mC, mBin, fin1, dat, Sl.dat, cln, clns, dats, mTest, mChain, mAnd, mOr, mNot, mVal, mAndV, mOrV, mNotV, mIfE, mNeg, mTup, mLst, mLstF, mFr, mNil, mCons, mCall, mCallF, callM, argSs, argS, apart, apartE, updE, backAt, conv, mIs, mIsM, BT.is, mCb, mCbF, fLen, fList, fTuple, fInt, fI, mPart, mNoPart, mSl, fSl, mRev, fRev, mSetIx, mMethG, mMeth, fClear, fIsN, fNotN, isNo, asgOk, slotOwn, Sl.put, Sl.mut, Sl.isO, bind_ok, bind_bad, bindS_ok, bindS_bad, then_nx, then_rt, then_bad, if_S, if_B, if_BS, ite_self, List.getElem?_cons_zero, List.getElem?_cons_succ, List.length_cons, List.length_nil, List.map_cons, List.map_nil, List.replicate, List.cons_append, List.nil_append, List.set_cons_zero, List.set_cons_succ, List.mapIdx_cons, List.mapIdx_nil, List.zip_cons_cons, List.zip_nil_right, List.zip_nil_left, List.all_cons, List.all_nil, List.any_cons, List.any_nil, List.headD_cons, List.headD_nil, List.tail_cons, List.tail_nil, Nat.reduceAdd, Nat.reduceSub, Nat.reduceEqDiff, Nat.reduceLeDiff, if_true, if_false, ite_true, ite_false, Bool.false_eq_true, decide_true, decide_false, Bool.and_true, Bool.true_and, Bool.and_false, Bool.false_and, Bool.or_true, Bool.true_or, Bool.or_false, Bool.false_or, Bool.not_true, Bool.not_false, Option.map_some, Option.map_none, Option.bind_some, Option.or_some, Option.or_none, Option.none_or, Option.some_or, and_self, and_true, true_and, ne_eq, not_true_eq_false, not_false_eq_true, List.isEmpty_cons, List.isEmpty_nil, Int.cast_ofNat_Int, beq_self_eq_true, Int.reduceBEq, Int.reduceLT, Int.reduceLE, Int.reduceAdd, Int.reduceSub, Int.reduceEq, Int.reduceNeg, reduceIte, eqA_int, neA_int, eqA_bool, neA_bool, eqA_str, neA_str, eqA_tupE, neA_lstE, fIx_t0, fIx_t1, fIx_l0, fIx_l1, fIx_l2, addI_int, Int.natCast_zero, Int.natCast_one, Bool.not_eq_true, Bool.not_eq_false, e1, e2, e3]
end
end DL
namespace DL
open PySem L2
open PyProof.Rows hiding St
def Env50 (S : PyData) (n : Nat) (env : DEnv) : Prop := ∃ P s2 s3 s4 s5 s6 s7, env = [.cl S, .ow P, s2, s3, s4, s5, s6, s7] ∧ PenOk n P ∧ asg s2 ∧ asg s3 ∧ asg s4 ∧ asg s5 ∧ asg s6 ∧ asg s7
theorem turn (S : PyData) {n : Nat} (hn : n + 2000 ≤ 268435456) (env : DEnv) (h : Env50 S n env) : ∃ e2, lw_2b env = .nx e2 ∧ Env50 S (n + 400) e2 := by
  obtain ⟨P, s2, s3, s4, s5, s6, s7, rfl, hP, h2, h3, h4, h5, h6, h7⟩ := h
  obtain ⟨t, k, P1, e1, hp, k1, k2, p1⟩ := st1 S P s2 s3 s4 s5 s6 s7 hP (by omega) h3
  have hz : t.sz = k := by rw [← lv_len, hp.length_eq]; exact upTo_len k
  have hv : ∀ z ∈ t.lv, 0 ≤ z ∧ z < 16 := fun z m => by have := upTo_mem (hp.mem_iff.mp m); omega
  obtain ⟨ss, P2, t7, e2, hs, hr, k7, p2⟩ := st2 S P1 s2 s4 s5 s6 s7 p1 (by omega) t (by omega) hv h4 h5 h7
  have rl := rows_len t
  have hl := hs.len
  obtain ⟨t6, e3, k6⟩ := st3 S P2 s2 (.cl t.enc) s6 t7 ss hr (by omega) h6
  have e4 := st4 S P2 s2 t6 t7 t (by omega) ss hs hr (by rw [← List.length_pos_iff]; omega)
  refine ⟨_, ?_, P2, s2, .cl t.enc, .cl (sheetD ss), .cl (.str (due ss)), t6, t7, rfl, p2.mono (by omega), h2, asg_cl, asg_cl, asg_cl, k6, k7⟩
  unfold lw_2b
  exact sq (Φ := fun o => o = _) e1 (sq (Φ := fun o => o = _) e2 (sq (Φ := fun o => o = _) e3 e4))
/-- THE LAW -/
theorem law_true (zs : List Int) (hz : zs.length ≤ 63) (_ : ∀ z ∈ zs, Builtin.Int.intBits z ≤ 1048576) : ∃ fr as, m_law [.cl (.list (zs.map .int))] = .ok (.bool true) fr as := by
  obtain ⟨cells, eo⟩ := open_ok zs hz
  unfold intsD at eo
  obtain ⟨E, x, hi, hE⟩ := forM_ok' (g := gN 2) (body := lw_2b) (ds := rangeD 0 6) (fun i env => i ≤ 6 ∧ Env50 (.list (zs.map .int)) (400 * i) env)
    (fun i d env hd ⟨hi, hE⟩ => by
      have hi : i < 6 := by
        have := (List.getElem?_eq_some_iff.mp hd).1
        simpa [rangeD] using this
      obtain ⟨P, s2, s3, s4, s5, s6, s7, rfl, hP, h2, hr⟩ := hE
      obtain ⟨e2, x, h⟩ := turn (.list (zs.map .int)) (n := 400 * i) (by omega) _ ⟨P, .cl d, s3, s4, s5, s6, s7, rfl, hP, asg_cl, hr⟩
      exact ⟨_, gN_ok (asgOk_at (s := s2) rfl h2), e2, x, by omega, h⟩)
    (env := [.cl (.list (zs.map .int)), .ow (pen cells 0 0), .un, .un, .un, .un, .un, .un])
    ⟨by omega, _, _, _, _, _, _, _, rfl, ⟨cells, 0, 0, rfl, by omega, by omega, by omega⟩, asg_un, asg_un, asg_un, asg_un, asg_un, asg_un⟩
  obtain ⟨P, s2, s3, s4, s5, s6, s7, rfl, _⟩ := hE
  refine ⟨_, _, mFn_rt (fr := false) (d := .bool true) (r := [.cl (.list (zs.map .int)), .ow P, s2, s3, s4, s5, s6, s7]) rfl ?_⟩
  rw [lw_is]
  unfold lw
  refine sq (Φ := fun o => o = _) (r := [.cl (.list (zs.map .int)), .ow (pen cells 0 0), .un, .un, .un, .un, .un, .un]) ?_ ?_
  · unfold lw_1
    simp only [mFn, mDef, entry, ent, outs, outS, mSeq, mNext, mPass, mExpr, mRet, mRetF, mRetN, mRetO, mIf, mSet, mSetF, mSetL, mAsg, gN, gNl, gCn, gT, mPar, mParFF, mParFV, mParVF, mName, mNameF, mC, mBin, fin1, dat, Sl.dat, cln, clns, dats, mTest, mChain, mAnd, mOr, mNot, mVal, mAndV, mOrV, mNotV, mIfE, mNeg, mTup, mLst, mLstF, mFr, mNil, mCons, mCall, mCallF, callM, argSs, argS, apart, apartE, updE, backAt, conv, mIs, mIsM, BT.is, mCb, mCbF, fLen, fList, fTuple, fInt, fI, mPart, mNoPart, mSl, fSl, mRev, fRev, mSetIx, mMethG, mMeth, fClear, fIsN, fNotN, isNo, asgOk, slotOwn, Sl.put, Sl.mut, Sl.isO, bind_ok, bind_bad, bindS_ok, bindS_bad, then_nx, then_rt, then_bad, if_S, if_B, if_BS, ite_self, List.getElem?_cons_zero, List.getElem?_cons_succ, List.length_cons, List.length_nil, List.map_cons, List.map_nil, List.replicate, List.cons_append, List.nil_append, List.set_cons_zero, List.set_cons_succ, List.mapIdx_cons, List.mapIdx_nil, List.zip_cons_cons, List.zip_nil_right, List.zip_nil_left, List.all_cons, List.all_nil, List.any_cons, List.any_nil, List.headD_cons, List.headD_nil, List.tail_cons, List.tail_nil, Nat.reduceAdd, Nat.reduceSub, Nat.reduceEqDiff, Nat.reduceLeDiff, if_true, if_false, ite_true, ite_false, Bool.false_eq_true, decide_true, decide_false, Bool.and_true, Bool.true_and, Bool.and_false, Bool.false_and, Bool.or_true, Bool.true_or, Bool.or_false, Bool.false_or, Bool.not_true, Bool.not_false, Option.map_some, Option.map_none, Option.bind_some, Option.or_some, Option.or_none, Option.none_or, Option.some_or, and_self, and_true, true_and, ne_eq, not_true_eq_false, not_false_eq_true, List.isEmpty_cons, List.isEmpty_nil, Int.cast_ofNat_Int, beq_self_eq_true, Int.reduceBEq, Int.reduceLT, Int.reduceLE, Int.reduceAdd, Int.reduceSub, Int.reduceEq, Int.reduceNeg, reduceIte, eqA_int, neA_int, eqA_bool, neA_bool, eqA_str, neA_str, eqA_tupE, neA_lstE, fIx_t0, fIx_t1, fIx_l0, fIx_l1, fIx_l2, addI_int, Int.natCast_zero, Int.natCast_one, Bool.not_eq_true, Bool.not_eq_false, eo]
  · exact sq (Φ := fun o => o = _) (r := [.cl (.list (zs.map .int)), .ow P, s2, s3, s4, s5, s6, s7]) x rfl
end DL
namespace DL
open PySem L2 PySem.Spec
open PyProof.Rows hiding St
def topS (i : Nat) : Stmt := PySem.Challenge.pw_poolhopes_k50_sheets_written_and_read.main.body.getD i (.Pass ⟨0, 0, 0, 0⟩)
theorem scN_is_integer : FnScope ["value", "low", "high"] ["value", "low", "high"] (defScope (topS 4)) := ⟨rfl, rfl, rfl, by decide +kernel, rfl, by decide +kernel, by decide +kernel⟩
theorem b_is_integer {P : Program} {w : World} {K : Frag} {mg : Str → Option Value} {base : Heap} (n_bool : mg "bool" = none) (n_int : mg "int" = none) (n_isinstance : mg "isinstance" = none) {f : Addr} (cdv : Value) (A : Around) (outer : List Env) (s : Shared) (H : Hp) (E : XK) (hg0 : A.guards = some []) (hr : Room 0 (A.deeper (envOfC "is_integer" (defScope (topS 4)) s.heap.objs.size f cdv))) :
    DSs (cxOf (L2.CX P w) P w K mg base ["value", "low", "high"] "is_integer" (defScope (topS 4)) f cdv A outer s H E) E (defBody (topS 4)) mb_is_integer := by
  have hg : (cxOf (L2.CX P w) P w K mg base ["value", "low", "high"] "is_integer" (defScope (topS 4)) f cdv A outer s H E).A.guards = some [] := hg0
  have hu : (cxOf (L2.CX P w) P w K mg base ["value", "low", "high"] "is_integer" (defScope (topS 4)) f cdv A outer s H E).A.units + 64 < cLine := hr.units
  have hu6 : (cxOf (L2.CX P w) P w K mg base ["value", "low", "high"] "is_integer" (defScope (topS 4)) f cdv A outer s H E).A.units + 66 < cLine := by have := hr.un; show (A.deeper _).units + 66 < cLine; omega
  have px : Passes (L2.CX P w) (cxOf (L2.CX P w) P w K mg base ["value", "low", "high"] "is_integer" (defScope (topS 4)) f cdv A outer s H E) E := passes_call (takes_of rfl rfl rfl rfl) (fun _ _ _ _ h => h)
  have po : PassesOwn (model P w) (cxOf (L2.CX P w) P w K mg base ["value", "low", "high"] "is_integer" (defScope (topS 4)) f cdv A outer s H E).A (cxOf (L2.CX P w) P w K mg base ["value", "low", "high"] "is_integer" (defScope (topS 4)) f cdv A outer s H E).env (cxOf (L2.CX P w) P w K mg base ["value", "low", "high"] "is_integer" (defScope (topS 4)) f cdv A outer s H E).xe := passes_of rfl
  have nd : (cxOf (L2.CX P w) P w K mg base ["value", "low", "high"] "is_integer" (defScope (topS 4)) f cdv A outer s H E).N.Nodup := scN_is_integer.nd
  exact (dss_one (ds_ret (de_and (de_isT .int n_isinstance n_int q_int (de_name 0 (pe_var (i := 0) rfl (Or.inl rfl)))) (de_and (de_not (de_isT .bool n_isinstance n_bool q_bool (de_name 0 (pe_var (i := 0) rfl (Or.inl rfl))))) (de_one (de_chain op_le op_le sb_le sb_le (de_name 1 (pe_var (i := 1) rfl (Or.inl rfl))) (de_name 0 (pe_var (i := 0) rfl (Or.inl rfl))) (de_name 2 (pe_var (i := 2) rfl (Or.inl rfl)))))))))
theorem k_is_integer {P : Program} {w : World} {K : Frag} {mg : Str → Option Value} {base : Heap} (n_bool : mg "bool" = none) (n_int : mg "int" = none) (n_isinstance : mg "isinstance" = none) {f : Addr} {fd : FuncData} (F : Fun K "is_integer" "is_integer" (topS 4) f fd) (hmg : mg "is_integer" = some (.ref f)) (hk : PySem.W.keepIn K (.ref f) = true) (hb : Binds K fd ["value", "low", "high"] []) : Cal P w K mg base 1 "is_integer" ["value", "low", "high"] m_is_integer := cal_of F hmg hk hb scN_is_integer (by decide) (b_is_integer n_bool n_int n_isinstance)
theorem scN_note_matches : FnScope ["tree", "found", "first", "second"] ["tree", "found"] (defScope (topS 5)) := ⟨rfl, rfl, rfl, by decide +kernel, rfl, by decide +kernel, by decide +kernel⟩
theorem b_note_matches {P : Program} {w : World} {K : Frag} {mg : Str → Option Value} {base : Heap} {self : FnM} {k : Nat} (hk : 0 ≤ k) (c_note_matches : Cal P w K mg base k "note_matches" ["tree", "found"] self) (n_isinstance : mg "isinstance" = none) (n_len : mg "len" = none) (n_tuple : mg "tuple" = none) {f : Addr} (cdv : Value) (A : Around) (outer : List Env) (s : Shared) (H : Hp) (E : XK) (hg0 : A.guards = some []) (hr : Room k (A.deeper (envOfC "note_matches" (defScope (topS 5)) s.heap.objs.size f cdv))) :
    DSs (cxOf (L2.CX P w) P w K mg base ["tree", "found", "first", "second"] "note_matches" (defScope (topS 5)) f cdv A outer s H E) E (defBody (topS 5)) (mb_note_matches self) := by
  have hg : (cxOf (L2.CX P w) P w K mg base ["tree", "found", "first", "second"] "note_matches" (defScope (topS 5)) f cdv A outer s H E).A.guards = some [] := hg0
  have hu : (cxOf (L2.CX P w) P w K mg base ["tree", "found", "first", "second"] "note_matches" (defScope (topS 5)) f cdv A outer s H E).A.units + 64 < cLine := hr.units
  have hu6 : (cxOf (L2.CX P w) P w K mg base ["tree", "found", "first", "second"] "note_matches" (defScope (topS 5)) f cdv A outer s H E).A.units + 66 < cLine := by have := hr.un; show (A.deeper _).units + 66 < cLine; omega
  have px : Passes (L2.CX P w) (cxOf (L2.CX P w) P w K mg base ["tree", "found", "first", "second"] "note_matches" (defScope (topS 5)) f cdv A outer s H E) E := passes_call (takes_of rfl rfl rfl rfl) (fun _ _ _ _ h => h)
  have po : PassesOwn (model P w) (cxOf (L2.CX P w) P w K mg base ["tree", "found", "first", "second"] "note_matches" (defScope (topS 5)) f cdv A outer s H E).A (cxOf (L2.CX P w) P w K mg base ["tree", "found", "first", "second"] "note_matches" (defScope (topS 5)) f cdv A outer s H E).env (cxOf (L2.CX P w) P w K mg base ["tree", "found", "first", "second"] "note_matches" (defScope (topS 5)) f cdv A outer s H E).xe := passes_of rfl
  have nd : (cxOf (L2.CX P w) P w K mg base ["tree", "found", "first", "second"] "note_matches" (defScope (topS 5)) f cdv A outer s H E).N.Nodup := scN_note_matches.nd
  exact (dss_cons (ds_if (dt_not (dt_val (de_isT .tuple n_isinstance n_tuple q_tuple (de_name 0 (pe_var (i := 0) rfl (Or.inl rfl))))))
    (dss_one (ds_ret (de_tup (da_cons de_str (da_cons (de_name 0 (pe_var (i := 0) rfl (Or.inl rfl))) da_nil)))))
    dss_nil)
    (dss_cons (ds_set (de_cal [false, true] c_note_matches hg hr px (da_cons (de_ix (de_name 0 (pe_var (i := 0) rfl (Or.inl rfl))) de_int) (da_cons (de_name 1 (pe_var (i := 1) rfl (Or.inl rfl))) da_nil))) (fun h => ps_set (i := 2) nd rfl (Or.inl rfl) h))
    (dss_cons (ds_set (de_cal [false, true] c_note_matches hg hr px (da_cons (de_ix (de_name 0 (pe_var (i := 0) rfl (Or.inl rfl))) de_int) (da_cons (de_name 1 (pe_var (i := 1) rfl (Or.inl rfl))) da_nil))) (fun h => ps_set (i := 3) nd rfl (Or.inl rfl) h))
    (dss_cons (ds_expr (de_mth sm_append PySem.F.slot_list_append PySem.F.type_list_append mt_append (pe_var (i := 1) rfl (Or.inl rfl)) (da_cons (de_tup (da_cons (de_name 2 (pe_var (i := 2) rfl (Or.inl rfl))) (da_cons (de_name 3 (pe_var (i := 3) rfl (Or.inl rfl))) da_nil))) da_nil)))
    (dss_one (ds_ret (de_tup (da_cons de_str (da_cons (de_sub (de_cbB sc_len call_len_seq n_len q_len (da_cons (de_name 1 (pe_var (i := 1) rfl (Or.inl rfl))) da_nil)) de_int) da_nil)))))))))
theorem r_note_matches {P : Program} {w : World} {K : Frag} {mg : Str → Option Value} {base : Heap} (n_isinstance : mg "isinstance" = none) (n_len : mg "len" = none) (n_tuple : mg "tuple" = none) {f : Addr} {fd : FuncData} (F : Fun K "note_matches" "note_matches" (topS 5) f fd) (hmg : mg "note_matches" = some (.ref f)) (hk : PySem.W.keepIn K (.ref f) = true) (hb : Binds K fd ["tree", "found"] []) : ∀ n, Cal P w K mg base (0 + n) "note_matches" ["tree", "found"] (m_note_matches n)
  | 0 => ⟨f, fd, hmg, hk, hb, ⟨fun vs H Q E ⟨_, _, _, h⟩ => h.elim, fun A outer s H args us vs Q E _ _ _ _ _ ⟨_, _, _, h⟩ => h.elim⟩⟩
  | n + 1 => cal_of F hmg hk hb scN_note_matches (by decide) (b_note_matches (Nat.le_add_right _ _) (r_note_matches n_isinstance n_len n_tuple F hmg hk hb n) n_isinstance n_len n_tuple)
theorem k_note_matches {P : Program} {w : World} {K : Frag} {mg : Str → Option Value} {base : Heap} (n_isinstance : mg "isinstance" = none) (n_len : mg "len" = none) (n_tuple : mg "tuple" = none) {f : Addr} {fd : FuncData} (F : Fun K "note_matches" "note_matches" (topS 5) f fd) (hmg : mg "note_matches" = some (.ref f)) (hk : PySem.W.keepIn K (.ref f) = true) (hb : Binds K fd ["tree", "found"] []) : Cal P w K mg base 30 "note_matches" ["tree", "found"] (m_note_matches 30) := r_note_matches n_isinstance n_len n_tuple F hmg hk hb 30
theorem scN_matches : FnScope ["tree", "found"] ["tree"] (defScope (topS 6)) := ⟨rfl, rfl, rfl, by decide +kernel, rfl, by decide +kernel, by decide +kernel⟩
theorem b_matches {P : Program} {w : World} {K : Frag} {mg : Str → Option Value} {base : Heap} (c_note_matches : Cal P w K mg base 30 "note_matches" ["tree", "found"] (m_note_matches 30)) {f : Addr} (cdv : Value) (A : Around) (outer : List Env) (s : Shared) (H : Hp) (E : XK) (hg0 : A.guards = some []) (hr : Room 30 (A.deeper (envOfC "matches" (defScope (topS 6)) s.heap.objs.size f cdv))) :
    DSs (cxOf (L2.CX P w) P w K mg base ["tree", "found"] "matches" (defScope (topS 6)) f cdv A outer s H E) E (defBody (topS 6)) mb_matches := by
  have hg : (cxOf (L2.CX P w) P w K mg base ["tree", "found"] "matches" (defScope (topS 6)) f cdv A outer s H E).A.guards = some [] := hg0
  have hu : (cxOf (L2.CX P w) P w K mg base ["tree", "found"] "matches" (defScope (topS 6)) f cdv A outer s H E).A.units + 64 < cLine := hr.units
  have hu6 : (cxOf (L2.CX P w) P w K mg base ["tree", "found"] "matches" (defScope (topS 6)) f cdv A outer s H E).A.units + 66 < cLine := by have := hr.un; show (A.deeper _).units + 66 < cLine; omega
  have px : Passes (L2.CX P w) (cxOf (L2.CX P w) P w K mg base ["tree", "found"] "matches" (defScope (topS 6)) f cdv A outer s H E) E := passes_call (takes_of rfl rfl rfl rfl) (fun _ _ _ _ h => h)
  have po : PassesOwn (model P w) (cxOf (L2.CX P w) P w K mg base ["tree", "found"] "matches" (defScope (topS 6)) f cdv A outer s H E).A (cxOf (L2.CX P w) P w K mg base ["tree", "found"] "matches" (defScope (topS 6)) f cdv A outer s H E).env (cxOf (L2.CX P w) P w K mg base ["tree", "found"] "matches" (defScope (topS 6)) f cdv A outer s H E).xe := passes_of rfl
  have nd : (cxOf (L2.CX P w) P w K mg base ["tree", "found"] "matches" (defScope (topS 6)) f cdv A outer s H E).N.Nodup := scN_matches.nd
  exact (dss_cons (ds_setF (df_lst da_nil) (fun h => ps_set (i := 1) nd rfl (Or.inl rfl) h))
    (dss_cons (ds_expr (de_cal [false, true] c_note_matches hg (hr.mono (by decide)) px (da_cons (de_name 0 (pe_var (i := 0) rfl (Or.inl rfl))) (da_cons (de_name 1 (pe_var (i := 1) rfl (Or.inl rfl))) da_nil))))
    (dss_one (ds_retO 1 (pe_var (i := 1) rfl (Or.inl rfl))))))
theorem k_matches {P : Program} {w : World} {K : Frag} {mg : Str → Option Value} {base : Heap} (c_note_matches : Cal P w K mg base 30 "note_matches" ["tree", "found"] (m_note_matches 30)) {f : Addr} {fd : FuncData} (F : Fun K "matches" "matches" (topS 6) f fd) (hmg : mg "matches" = some (.ref f)) (hk : PySem.W.keepIn K (.ref f) = true) (hb : Binds K fd ["tree"] []) : Cal P w K mg base 31 "matches" ["tree"] m_matches := cal_of F hmg hk hb scN_matches (by decide) (b_matches c_note_matches)
theorem scN_sides_of : FnScope ["tree", "found", "parts", "some", "kind", "number"] ["tree"] (defScope (topS 7)) := ⟨rfl, rfl, rfl, by decide +kernel, rfl, by decide +kernel, by decide +kernel⟩
theorem b_sides_of {P : Program} {w : World} {K : Frag} {mg : Str → Option Value} {base : Heap} (c_matches : Cal P w K mg base 31 "matches" ["tree"] m_matches) (n_sorted : mg "sorted" = none) (n_tuple : mg "tuple" = none) {f : Addr} (cdv : Value) (A : Around) (outer : List Env) (s : Shared) (H : Hp) (E : XK) (hg0 : A.guards = some []) (hr : Room 31 (A.deeper (envOfC "sides_of" (defScope (topS 7)) s.heap.objs.size f cdv))) :
    DSs (cxOf (L2.CX P w) P w K mg base ["tree", "found", "parts", "some", "kind", "number"] "sides_of" (defScope (topS 7)) f cdv A outer s H E) E (defBody (topS 7)) mb_sides_of := by
  have hg : (cxOf (L2.CX P w) P w K mg base ["tree", "found", "parts", "some", "kind", "number"] "sides_of" (defScope (topS 7)) f cdv A outer s H E).A.guards = some [] := hg0
  have hu : (cxOf (L2.CX P w) P w K mg base ["tree", "found", "parts", "some", "kind", "number"] "sides_of" (defScope (topS 7)) f cdv A outer s H E).A.units + 64 < cLine := hr.units
  have hu6 : (cxOf (L2.CX P w) P w K mg base ["tree", "found", "parts", "some", "kind", "number"] "sides_of" (defScope (topS 7)) f cdv A outer s H E).A.units + 66 < cLine := by have := hr.un; show (A.deeper _).units + 66 < cLine; omega
  have px : Passes (L2.CX P w) (cxOf (L2.CX P w) P w K mg base ["tree", "found", "parts", "some", "kind", "number"] "sides_of" (defScope (topS 7)) f cdv A outer s H E) E := passes_call (takes_of rfl rfl rfl rfl) (fun _ _ _ _ h => h)
  have po : PassesOwn (model P w) (cxOf (L2.CX P w) P w K mg base ["tree", "found", "parts", "some", "kind", "number"] "sides_of" (defScope (topS 7)) f cdv A outer s H E).A (cxOf (L2.CX P w) P w K mg base ["tree", "found", "parts", "some", "kind", "number"] "sides_of" (defScope (topS 7)) f cdv A outer s H E).env (cxOf (L2.CX P w) P w K mg base ["tree", "found", "parts", "some", "kind", "number"] "sides_of" (defScope (topS 7)) f cdv A outer s H E).xe := passes_of rfl
  have nd : (cxOf (L2.CX P w) P w K mg base ["tree", "found", "parts", "some", "kind", "number"] "sides_of" (defScope (topS 7)) f cdv A outer s H E).N.Nodup := scN_sides_of.nd
  exact (dss_cons (ds_setF (df_lst da_nil) (fun h => ps_set (i := 1) nd rfl (Or.inl rfl) h))
    (dss_cons (ds_forT po (di_seq (de_cal [false] c_matches hg (hr.mono (by decide)) px (da_cons (de_name 0 (pe_var (i := 0) rfl (Or.inl rfl))) da_nil))) (dg_name (pg_name (i := 2) nd rfl (Or.inl rfl)))
    (dss_cons (ds_setF (df_lst da_nil) (fun h => ps_set (i := 3) nd rfl (Or.inl rfl) h))
    (dss_cons (ds_forT po (di_seq (de_name 2 (pe_var (i := 2) rfl (Or.inl rfl)))) (dg_tup rfl (dgs_cons (dg_name (pg_name (i := 4) nd rfl (Or.inl rfl))) (dgs_cons (dg_name (pg_name (i := 5) nd rfl (Or.inl rfl))) dgs_nil)))
    (dss_one (ds_expr (de_mth sm_extend PySem.F.slot_list_extend PySem.F.type_list_extend mt_extD (pe_var (i := 3) rfl (Or.inl rfl)) (da_cons (de_if (dt_cmp (op_eqA hu) sb_eqA (de_name 4 (pe_var (i := 4) rfl (Or.inl rfl))) de_str rfl) (de_lst (da_cons (de_name 5 (pe_var (i := 5) rfl (Or.inl rfl))) da_nil)) (de_ix (de_name 1 (pe_var (i := 1) rfl (Or.inl rfl))) (de_name 5 (pe_var (i := 5) rfl (Or.inl rfl))))) da_nil)))))
    (dss_one (ds_expr (de_mth sm_append PySem.F.slot_list_append PySem.F.type_list_append mt_append (pe_var (i := 1) rfl (Or.inl rfl)) (da_cons (de_cbT sc_tuple call_tuple_of n_tuple q_tuple (da_cons (de_fr (df_cbB sc_sorted cr_sortedI n_sorted q_sorted (da_cons (de_name 3 (pe_var (i := 3) rfl (Or.inl rfl))) da_nil))) da_nil)) da_nil)))))))
    (dss_one (ds_retO 1 (pe_var (i := 1) rfl (Or.inl rfl))))))
theorem k_sides_of {P : Program} {w : World} {K : Frag} {mg : Str → Option Value} {base : Heap} (c_matches : Cal P w K mg base 31 "matches" ["tree"] m_matches) (n_sorted : mg "sorted" = none) (n_tuple : mg "tuple" = none) {f : Addr} {fd : FuncData} (F : Fun K "sides_of" "sides_of" (topS 7) f fd) (hmg : mg "sides_of" = some (.ref f)) (hk : PySem.W.keepIn K (.ref f) = true) (hb : Binds K fd ["tree"] []) : Cal P w K mg base 32 "sides_of" ["tree"] m_sides_of := cal_of F hmg hk hb scN_sides_of (by decide) (b_sides_of c_matches n_sorted n_tuple)
theorem scN_is_sheet : FnScope ["tree", "value", "some", "side", "sides"] ["tree", "value"] (defScope (topS 9)) := ⟨rfl, rfl, rfl, by decide +kernel, rfl, by decide +kernel, by decide +kernel⟩
theorem b_is_sheet {P : Program} {w : World} {K : Frag} {mg : Str → Option Value} {base : Heap} (c_is_integer : Cal P w K mg base 1 "is_integer" ["value", "low", "high"] m_is_integer) (c_sides_of : Cal P w K mg base 32 "sides_of" ["tree"] m_sides_of) (n_all : mg "all" = none) (n_isinstance : mg "isinstance" = none) (n_len : mg "len" = none) (n_tuple : mg "tuple" = none) (n_zip : mg "zip" = none) {f : Addr} (cdv : Value) (A : Around) (outer : List Env) (s : Shared) (H : Hp) (E : XK) (hg0 : A.guards = some []) (hr : Room 32 (A.deeper (envOfC "is_sheet" (defScope (topS 9)) s.heap.objs.size f cdv))) :
    DSs (cxOf (L2.CX P w) P w K mg base ["tree", "value", "some", "side", "sides"] "is_sheet" (defScope (topS 9)) f cdv A outer s H E) E (defBody (topS 9)) mb_is_sheet := by
  have hg : (cxOf (L2.CX P w) P w K mg base ["tree", "value", "some", "side", "sides"] "is_sheet" (defScope (topS 9)) f cdv A outer s H E).A.guards = some [] := hg0
  have hu : (cxOf (L2.CX P w) P w K mg base ["tree", "value", "some", "side", "sides"] "is_sheet" (defScope (topS 9)) f cdv A outer s H E).A.units + 64 < cLine := hr.units
  have hu6 : (cxOf (L2.CX P w) P w K mg base ["tree", "value", "some", "side", "sides"] "is_sheet" (defScope (topS 9)) f cdv A outer s H E).A.units + 66 < cLine := by have := hr.un; show (A.deeper _).units + 66 < cLine; omega
  have px : Passes (L2.CX P w) (cxOf (L2.CX P w) P w K mg base ["tree", "value", "some", "side", "sides"] "is_sheet" (defScope (topS 9)) f cdv A outer s H E) E := passes_call (takes_of rfl rfl rfl rfl) (fun _ _ _ _ h => h)
  have po : PassesOwn (model P w) (cxOf (L2.CX P w) P w K mg base ["tree", "value", "some", "side", "sides"] "is_sheet" (defScope (topS 9)) f cdv A outer s H E).A (cxOf (L2.CX P w) P w K mg base ["tree", "value", "some", "side", "sides"] "is_sheet" (defScope (topS 9)) f cdv A outer s H E).env (cxOf (L2.CX P w) P w K mg base ["tree", "value", "some", "side", "sides"] "is_sheet" (defScope (topS 9)) f cdv A outer s H E).xe := passes_of rfl
  have nd : (cxOf (L2.CX P w) P w K mg base ["tree", "value", "some", "side", "sides"] "is_sheet" (defScope (topS 9)) f cdv A outer s H E).N.Nodup := scN_is_sheet.nd
  exact (dss_cons (ds_set (de_cal [false] c_sides_of hg (hr.mono (by decide)) px (da_cons (de_name 0 (pe_var (i := 0) rfl (Or.inl rfl))) da_nil)) (fun h => ps_set (i := 2) nd rfl (Or.inl rfl) h))
    (dss_cons (ds_if (dt_w (dw_or (dt_not (dt_val (de_isT .tuple n_isinstance n_tuple q_tuple (de_name 1 (pe_var (i := 1) rfl (Or.inl rfl)))))) (dw_or1 (dt_cmp (op_neA hu) sb_neA (de_cbB sc_len call_len_seq n_len q_len (da_cons (de_name 1 (pe_var (i := 1) rfl (Or.inl rfl))) da_nil)) (de_cbB sc_len call_len_seq n_len q_len (da_cons (de_name 2 (pe_var (i := 2) rfl (Or.inl rfl))) da_nil)) rfl))))
    (dss_one (ds_ret de_bl))
    dss_nil)
    (dss_one (ds_ret (de_cbB sc_all (cr_all rfl) n_all q_all (da_cons (de_fr (df_comp (own := [("side", 3), ("sides", 4)]) nd (blkOk_by (N := ["tree", "value", "some", "side", "sides"]) (sc := defScope (topS 9)) (by decide +kernel)) (di_zipS n_zip (da_cons (de_name 1 (pe_var (i := 1) rfl (Or.inl rfl))) (da_cons (de_name 2 (pe_var (i := 2) rfl (Or.inl rfl))) da_nil))) (fun _ _ _ _ _ => (dg_tup rfl (dgs_cons (dg_name (pg_name (i := 3) nd rfl (Or.inl rfl))) (dgs_cons (dg_name (pg_name (i := 4) nd rfl (Or.inl rfl))) dgs_nil)))) (by decide) (fun _ _ _ _ _ => dts_nil) (fun _ _ _ _ _ => (de_and (de_cal [false, false, false] c_is_integer hg (hr.mono (by decide)) passes0 (da_cons (de_name 3 (pe_var (i := 3) rfl (vis_own (by decide +kernel)))) (da_cons de_int (da_cons de_int da_nil)))) (de_one (de_cmp op_in_seq sb_in (de_name 3 (pe_var (i := 3) rfl (vis_own (by decide +kernel)))) (de_name 4 (pe_var (i := 4) rfl (vis_own (by decide +kernel)))) rfl)))))) da_nil))))))
theorem k_is_sheet {P : Program} {w : World} {K : Frag} {mg : Str → Option Value} {base : Heap} (c_is_integer : Cal P w K mg base 1 "is_integer" ["value", "low", "high"] m_is_integer) (c_sides_of : Cal P w K mg base 32 "sides_of" ["tree"] m_sides_of) (n_all : mg "all" = none) (n_isinstance : mg "isinstance" = none) (n_len : mg "len" = none) (n_tuple : mg "tuple" = none) (n_zip : mg "zip" = none) {f : Addr} {fd : FuncData} (F : Fun K "is_sheet" "is_sheet" (topS 9) f fd) (hmg : mg "is_sheet" = some (.ref f)) (hk : PySem.W.keepIn K (.ref f) = true) (hb : Binds K fd ["tree", "value"] []) : Cal P w K mg base 33 "is_sheet" ["tree", "value"] m_is_sheet := cal_of F hmg hk hb scN_is_sheet (by decide) (b_is_sheet c_is_integer c_sides_of n_all n_isinstance n_len n_tuple n_zip)
theorem scN_write_sheet : FnScope ["sheet", "side"] ["sheet"] (defScope (topS 11)) := ⟨rfl, rfl, rfl, by decide +kernel, rfl, by decide +kernel, by decide +kernel⟩
theorem b_write_sheet {P : Program} {w : World} {K : Frag} {mg : Str → Option Value} {base : Heap} (n_str : mg "str" = none) {f : Addr} (cdv : Value) (A : Around) (outer : List Env) (s : Shared) (H : Hp) (E : XK) (hg0 : A.guards = some []) (hr : Room 0 (A.deeper (envOfC "write_sheet" (defScope (topS 11)) s.heap.objs.size f cdv))) :
    DSs (cxOf (L2.CX P w) P w K mg base ["sheet", "side"] "write_sheet" (defScope (topS 11)) f cdv A outer s H E) E (defBody (topS 11)) mb_write_sheet := by
  have hg : (cxOf (L2.CX P w) P w K mg base ["sheet", "side"] "write_sheet" (defScope (topS 11)) f cdv A outer s H E).A.guards = some [] := hg0
  have hu : (cxOf (L2.CX P w) P w K mg base ["sheet", "side"] "write_sheet" (defScope (topS 11)) f cdv A outer s H E).A.units + 64 < cLine := hr.units
  have hu6 : (cxOf (L2.CX P w) P w K mg base ["sheet", "side"] "write_sheet" (defScope (topS 11)) f cdv A outer s H E).A.units + 66 < cLine := by have := hr.un; show (A.deeper _).units + 66 < cLine; omega
  have px : Passes (L2.CX P w) (cxOf (L2.CX P w) P w K mg base ["sheet", "side"] "write_sheet" (defScope (topS 11)) f cdv A outer s H E) E := passes_call (takes_of rfl rfl rfl rfl) (fun _ _ _ _ h => h)
  have po : PassesOwn (model P w) (cxOf (L2.CX P w) P w K mg base ["sheet", "side"] "write_sheet" (defScope (topS 11)) f cdv A outer s H E).A (cxOf (L2.CX P w) P w K mg base ["sheet", "side"] "write_sheet" (defScope (topS 11)) f cdv A outer s H E).env (cxOf (L2.CX P w) P w K mg base ["sheet", "side"] "write_sheet" (defScope (topS 11)) f cdv A outer s H E).xe := passes_of rfl
  have nd : (cxOf (L2.CX P w) P w K mg base ["sheet", "side"] "write_sheet" (defScope (topS 11)) f cdv A outer s H E).N.Nodup := scN_write_sheet.nd
  exact (dss_one (ds_ret (de_vm sm_join PySem.F.slot_str_join PySem.F.type_str_join mt_join de_str (da_cons (de_fr (df_comp (own := [("side", 1)]) nd (blkOk_by (N := ["sheet", "side"]) (sc := defScope (topS 11)) (by decide +kernel)) (di_seq (de_name 0 (pe_var (i := 0) rfl (Or.inl rfl)))) (fun _ _ _ _ _ => (dg_name (pg_name (i := 1) nd rfl (Or.inl rfl)))) (by decide) (fun _ _ _ _ _ => dts_nil) (fun _ _ _ _ _ => (de_cbT sc_str call_strA n_str q_str (da_cons (de_name 1 (pe_var (i := 1) rfl (vis_own (by decide +kernel)))) da_nil))))) da_nil))))
theorem k_write_sheet {P : Program} {w : World} {K : Frag} {mg : Str → Option Value} {base : Heap} (n_str : mg "str" = none) {f : Addr} {fd : FuncData} (F : Fun K "write_sheet" "write_sheet" (topS 11) f fd) (hmg : mg "write_sheet" = some (.ref f)) (hk : PySem.W.keepIn K (.ref f) = true) (hb : Binds K fd ["sheet"] []) : Cal P w K mg base 1 "write_sheet" ["sheet"] m_write_sheet := cal_of F hmg hk hb scN_write_sheet (by decide) (b_write_sheet n_str)
theorem scN_is_number : FnScope ["word", "sign"] ["word"] (defScope (topS 12)) := ⟨rfl, rfl, rfl, by decide +kernel, rfl, by decide +kernel, by decide +kernel⟩
theorem b_is_number {P : Program} {w : World} {K : Frag} {mg : Str → Option Value} {base : Heap} (n_all : mg "all" = none) (n_len : mg "len" = none) {f : Addr} (cdv : Value) (A : Around) (outer : List Env) (s : Shared) (H : Hp) (E : XK) (hg0 : A.guards = some []) (hr : Room 0 (A.deeper (envOfC "is_number" (defScope (topS 12)) s.heap.objs.size f cdv))) :
    DSs (cxOf (L2.CX P w) P w K mg base ["word", "sign"] "is_number" (defScope (topS 12)) f cdv A outer s H E) E (defBody (topS 12)) mb_is_number := by
  have hg : (cxOf (L2.CX P w) P w K mg base ["word", "sign"] "is_number" (defScope (topS 12)) f cdv A outer s H E).A.guards = some [] := hg0
  have hu : (cxOf (L2.CX P w) P w K mg base ["word", "sign"] "is_number" (defScope (topS 12)) f cdv A outer s H E).A.units + 64 < cLine := hr.units
  have hu6 : (cxOf (L2.CX P w) P w K mg base ["word", "sign"] "is_number" (defScope (topS 12)) f cdv A outer s H E).A.units + 66 < cLine := by have := hr.un; show (A.deeper _).units + 66 < cLine; omega
  have px : Passes (L2.CX P w) (cxOf (L2.CX P w) P w K mg base ["word", "sign"] "is_number" (defScope (topS 12)) f cdv A outer s H E) E := passes_call (takes_of rfl rfl rfl rfl) (fun _ _ _ _ h => h)
  have po : PassesOwn (model P w) (cxOf (L2.CX P w) P w K mg base ["word", "sign"] "is_number" (defScope (topS 12)) f cdv A outer s H E).A (cxOf (L2.CX P w) P w K mg base ["word", "sign"] "is_number" (defScope (topS 12)) f cdv A outer s H E).env (cxOf (L2.CX P w) P w K mg base ["word", "sign"] "is_number" (defScope (topS 12)) f cdv A outer s H E).xe := passes_of rfl
  have nd : (cxOf (L2.CX P w) P w K mg base ["word", "sign"] "is_number" (defScope (topS 12)) f cdv A outer s H E).N.Nodup := scN_is_number.nd
  exact (dss_one (ds_ret (de_and (de_chain op_le op_le sb_le sb_le de_int (de_cbB sc_lenA call_lenA n_len q_len (da_cons (de_name 0 (pe_var (i := 0) rfl (Or.inl rfl))) da_nil)) de_int) (de_one (de_cbB sc_all (cr_all rfl) n_all q_all (da_cons (de_fr (df_comp (own := [("sign", 1)]) nd (blkOk_by (N := ["word", "sign"]) (sc := defScope (topS 12)) (by decide +kernel)) (di_str (de_name 0 (pe_var (i := 0) rfl (Or.inl rfl)))) (fun _ _ _ _ _ => (dg_name (pg_name (i := 1) nd rfl (Or.inl rfl)))) (by decide) (fun _ _ _ _ _ => dts_nil) (fun _ _ _ _ _ => (de_cmp op_in_sign sb_inS (de_name 1 (pe_var (i := 1) rfl (vis_own (by decide +kernel)))) de_str rfl)))) da_nil))))))
theorem k_is_number {P : Program} {w : World} {K : Frag} {mg : Str → Option Value} {base : Heap} (n_all : mg "all" = none) (n_len : mg "len" = none) {f : Addr} {fd : FuncData} (F : Fun K "is_number" "is_number" (topS 12) f fd) (hmg : mg "is_number" = some (.ref f)) (hk : PySem.W.keepIn K (.ref f) = true) (hb : Binds K fd ["word"] []) : Cal P w K mg base 1 "is_number" ["word"] m_is_number := cal_of F hmg hk hb scN_is_number (by decide) (b_is_number n_all n_len)
theorem scN_read_sheet : FnScope ["tree", "text", "found", "word"] ["tree", "text"] (defScope (topS 13)) := ⟨rfl, rfl, rfl, by decide +kernel, rfl, by decide +kernel, by decide +kernel⟩
theorem b_read_sheet {P : Program} {w : World} {K : Frag} {mg : Str → Option Value} {base : Heap} (c_is_sheet : Cal P w K mg base 33 "is_sheet" ["tree", "value"] m_is_sheet) (c_write_sheet : Cal P w K mg base 1 "write_sheet" ["sheet"] m_write_sheet) (c_is_number : Cal P w K mg base 1 "is_number" ["word"] m_is_number) (n_all : mg "all" = none) (n_int : mg "int" = none) (n_isinstance : mg "isinstance" = none) (n_str : mg "str" = none) (n_tuple : mg "tuple" = none) {f : Addr} (cdv : Value) (A : Around) (outer : List Env) (s : Shared) (H : Hp) (E : XK) (hg0 : A.guards = some []) (hr : Room 33 (A.deeper (envOfC "read_sheet" (defScope (topS 13)) s.heap.objs.size f cdv))) :
    DSs (cxOf (L2.CX P w) P w K mg base ["tree", "text", "found", "word"] "read_sheet" (defScope (topS 13)) f cdv A outer s H E) E (defBody (topS 13)) mb_read_sheet := by
  have hg : (cxOf (L2.CX P w) P w K mg base ["tree", "text", "found", "word"] "read_sheet" (defScope (topS 13)) f cdv A outer s H E).A.guards = some [] := hg0
  have hu : (cxOf (L2.CX P w) P w K mg base ["tree", "text", "found", "word"] "read_sheet" (defScope (topS 13)) f cdv A outer s H E).A.units + 64 < cLine := hr.units
  have hu6 : (cxOf (L2.CX P w) P w K mg base ["tree", "text", "found", "word"] "read_sheet" (defScope (topS 13)) f cdv A outer s H E).A.units + 66 < cLine := by have := hr.un; show (A.deeper _).units + 66 < cLine; omega
  have px : Passes (L2.CX P w) (cxOf (L2.CX P w) P w K mg base ["tree", "text", "found", "word"] "read_sheet" (defScope (topS 13)) f cdv A outer s H E) E := passes_call (takes_of rfl rfl rfl rfl) (fun _ _ _ _ h => h)
  have po : PassesOwn (model P w) (cxOf (L2.CX P w) P w K mg base ["tree", "text", "found", "word"] "read_sheet" (defScope (topS 13)) f cdv A outer s H E).A (cxOf (L2.CX P w) P w K mg base ["tree", "text", "found", "word"] "read_sheet" (defScope (topS 13)) f cdv A outer s H E).env (cxOf (L2.CX P w) P w K mg base ["tree", "text", "found", "word"] "read_sheet" (defScope (topS 13)) f cdv A outer s H E).xe := passes_of rfl
  have nd : (cxOf (L2.CX P w) P w K mg base ["tree", "text", "found", "word"] "read_sheet" (defScope (topS 13)) f cdv A outer s H E).N.Nodup := scN_read_sheet.nd
  exact (dss_cons (ds_if (dt_w (dw_or (dt_not (dt_val (de_isT .str n_isinstance n_str q_str (de_name 1 (pe_var (i := 1) rfl (Or.inl rfl)))))) (dw_or1 (dt_not (dt_val (de_cbB sc_all (cr_all rfl) n_all q_all (da_cons (de_fr (df_comp (own := [("word", 3)]) nd (blkOk_by (N := ["tree", "text", "found", "word"]) (sc := defScope (topS 13)) (by decide +kernel)) (di_seq (de_fr (df_vm sm_split PySem.F.slot_str_split PySem.F.type_str_split mt_split (de_name 1 (pe_var (i := 1) rfl (Or.inl rfl))) (da_cons de_str da_nil)))) (fun _ _ _ _ _ => (dg_name (pg_name (i := 3) nd rfl (Or.inl rfl)))) (by decide) (fun _ _ _ _ _ => dts_nil) (fun _ _ _ _ _ => (de_cal [false] c_is_number hg (hr.mono (by decide)) passes0 (da_cons (de_name 3 (pe_var (i := 3) rfl (vis_own (by decide +kernel)))) da_nil))))) da_nil)))))))
    (dss_one ds_bad)
    dss_nil)
    (dss_cons (ds_set (de_cbT sc_tuple call_tuple_of n_tuple q_tuple (da_cons (de_fr (df_comp (own := [("word", 3)]) nd (blkOk_by (N := ["tree", "text", "found", "word"]) (sc := defScope (topS 13)) (by decide +kernel)) (di_seq (de_fr (df_vm sm_split PySem.F.slot_str_split PySem.F.type_str_split mt_split (de_name 1 (pe_var (i := 1) rfl (Or.inl rfl))) (da_cons de_str da_nil)))) (fun _ _ _ _ _ => (dg_name (pg_name (i := 3) nd rfl (Or.inl rfl)))) (by decide) (fun _ _ _ _ _ => dts_nil) (fun _ _ _ _ _ => (de_cbT sc_intA call_intA n_int q_int (da_cons (de_name 3 (pe_var (i := 3) rfl (vis_own (by decide +kernel)))) da_nil))))) da_nil)) (fun h => ps_set (i := 2) nd rfl (Or.inl rfl) h))
    (dss_cons (ds_if (dt_w (dw_or (dt_not (dt_val (de_cal [false, false] c_is_sheet hg (hr.mono (by decide)) px (da_cons (de_name 0 (pe_var (i := 0) rfl (Or.inl rfl))) (da_cons (de_name 2 (pe_var (i := 2) rfl (Or.inl rfl))) da_nil))))) (dw_or1 (dt_cmp (op_neA hu) sb_neA (de_cal [false] c_write_sheet hg (hr.mono (by decide)) px (da_cons (de_name 2 (pe_var (i := 2) rfl (Or.inl rfl))) da_nil)) (de_name 1 (pe_var (i := 1) rfl (Or.inl rfl))) rfl))))
    (dss_one ds_bad)
    dss_nil)
    (dss_one (ds_ret (de_name 2 (pe_var (i := 2) rfl (Or.inl rfl))))))))
theorem k_read_sheet {P : Program} {w : World} {K : Frag} {mg : Str → Option Value} {base : Heap} (c_is_sheet : Cal P w K mg base 33 "is_sheet" ["tree", "value"] m_is_sheet) (c_write_sheet : Cal P w K mg base 1 "write_sheet" ["sheet"] m_write_sheet) (c_is_number : Cal P w K mg base 1 "is_number" ["word"] m_is_number) (n_all : mg "all" = none) (n_int : mg "int" = none) (n_isinstance : mg "isinstance" = none) (n_str : mg "str" = none) (n_tuple : mg "tuple" = none) {f : Addr} {fd : FuncData} (F : Fun K "read_sheet" "read_sheet" (topS 13) f fd) (hmg : mg "read_sheet" = some (.ref f)) (hk : PySem.W.keepIn K (.ref f) = true) (hb : Binds K fd ["tree", "text"] []) : Cal P w K mg base 34 "read_sheet" ["tree", "text"] m_read_sheet := cal_of F hmg hk hb scN_read_sheet (by decide) (b_read_sheet c_is_sheet c_write_sheet c_is_number n_all n_int n_isinstance n_str n_tuple)
theorem scN__law_open : FnScope ["script", "cells", "k", "cell"] ["script"] (defScope (topS 15)) := ⟨rfl, rfl, rfl, by decide +kernel, rfl, by decide +kernel, by decide +kernel⟩
theorem b__law_open {P : Program} {w : World} {K : Frag} {mg : Str → Option Value} {base : Heap} (n_enumerate : mg "enumerate" = none) (n_int : mg "int" = none) (n_list : mg "list" = none) {f : Addr} (cdv : Value) (A : Around) (outer : List Env) (s : Shared) (H : Hp) (E : XK) (hg0 : A.guards = some []) (hr : Room 0 (A.deeper (envOfC "_law_open" (defScope (topS 15)) s.heap.objs.size f cdv))) :
    DSs (cxOf (L2.CX P w) P w K mg base ["script", "cells", "k", "cell"] "_law_open" (defScope (topS 15)) f cdv A outer s H E) E (defBody (topS 15)) mb__law_open := by
  have hg : (cxOf (L2.CX P w) P w K mg base ["script", "cells", "k", "cell"] "_law_open" (defScope (topS 15)) f cdv A outer s H E).A.guards = some [] := hg0
  have hu : (cxOf (L2.CX P w) P w K mg base ["script", "cells", "k", "cell"] "_law_open" (defScope (topS 15)) f cdv A outer s H E).A.units + 64 < cLine := hr.units
  have hu6 : (cxOf (L2.CX P w) P w K mg base ["script", "cells", "k", "cell"] "_law_open" (defScope (topS 15)) f cdv A outer s H E).A.units + 66 < cLine := by have := hr.un; show (A.deeper _).units + 66 < cLine; omega
  have px : Passes (L2.CX P w) (cxOf (L2.CX P w) P w K mg base ["script", "cells", "k", "cell"] "_law_open" (defScope (topS 15)) f cdv A outer s H E) E := passes_call (takes_of rfl rfl rfl rfl) (fun _ _ _ _ h => h)
  have po : PassesOwn (model P w) (cxOf (L2.CX P w) P w K mg base ["script", "cells", "k", "cell"] "_law_open" (defScope (topS 15)) f cdv A outer s H E).A (cxOf (L2.CX P w) P w K mg base ["script", "cells", "k", "cell"] "_law_open" (defScope (topS 15)) f cdv A outer s H E).env (cxOf (L2.CX P w) P w K mg base ["script", "cells", "k", "cell"] "_law_open" (defScope (topS 15)) f cdv A outer s H E).xe := passes_of rfl
  have nd : (cxOf (L2.CX P w) P w K mg base ["script", "cells", "k", "cell"] "_law_open" (defScope (topS 15)) f cdv A outer s H E).N.Nodup := scN__law_open.nd
  exact (dss_cons (ds_setF (df_cbT sc_list call_list_of n_list q_list (da_cons (de_slice (de_name 0 (pe_var (i := 0) rfl (Or.inl rfl))) dp_none (dp_some de_int)) da_nil)) (fun h => ps_set (i := 1) nd rfl (Or.inl rfl) h))
    (dss_cons (ds_forT po (di_enum n_enumerate (da_cons (de_slice (de_name 0 (pe_var (i := 0) rfl (Or.inl rfl))) (dp_some de_int) (dp_some de_int)) da_nil)) (dg_tup rfl (dgs_cons (dg_name (pg_name (i := 2) nd rfl (Or.inl rfl))) (dgs_cons (dg_name (pg_name (i := 3) nd rfl (Or.inl rfl))) dgs_nil)))
    (dss_one (ds_setix (pe_var (i := 1) rfl (Or.inl rfl)) (de_add (de_ix (de_name 1 (pe_var (i := 1) rfl (Or.inl rfl))) (de_mod (de_cbT sc_int call_int1 n_int q_int (da_cons (de_name 2 (pe_var (i := 2) rfl (Or.inl rfl))) da_nil)) de_int)) (de_name 3 (pe_var (i := 3) rfl (Or.inl rfl)))) (de_mod (de_cbT sc_int call_int1 n_int q_int (da_cons (de_name 2 (pe_var (i := 2) rfl (Or.inl rfl))) da_nil)) de_int) (fun h h2 h3 => ps_asg h (pg_sub h2 h3 set_list)))))
    (dss_one (ds_retF (df_lst (da_cons (de_nameF 1 (pe_var (i := 1) rfl (Or.inl rfl))) (da_cons de_int (da_cons de_int da_nil))))))))
theorem k__law_open {P : Program} {w : World} {K : Frag} {mg : Str → Option Value} {base : Heap} (n_enumerate : mg "enumerate" = none) (n_int : mg "int" = none) (n_list : mg "list" = none) {f : Addr} {fd : FuncData} (F : Fun K "_law_open" "_law_open" (topS 15) f fd) (hmg : mg "_law_open" = some (.ref f)) (hk : PySem.W.keepIn K (.ref f) = true) (hb : Binds K fd ["script"] []) : Cal P w K mg base 1 "_law_open" ["script"] m__law_open := cal_of F hmg hk hb scN__law_open (by decide) (b__law_open n_enumerate n_int n_list)
theorem scN__law_spread : FnScope ["cell", "at", "primes", "one", "two", "three"] ["cell", "at"] (defScope (topS 16)) := ⟨rfl, rfl, rfl, by decide +kernel, rfl, by decide +kernel, by decide +kernel⟩
theorem b__law_spread {P : Program} {w : World} {K : Frag} {mg : Str → Option Value} {base : Heap} (n_int : mg "int" = none) {f : Addr} (cdv : Value) (A : Around) (outer : List Env) (s : Shared) (H : Hp) (E : XK) (hg0 : A.guards = some []) (hr : Room 0 (A.deeper (envOfC "_law_spread" (defScope (topS 16)) s.heap.objs.size f cdv))) :
    DSs (cxOf (L2.CX P w) P w K mg base ["cell", "at", "primes", "one", "two", "three"] "_law_spread" (defScope (topS 16)) f cdv A outer s H E) E (defBody (topS 16)) mb__law_spread := by
  have hg : (cxOf (L2.CX P w) P w K mg base ["cell", "at", "primes", "one", "two", "three"] "_law_spread" (defScope (topS 16)) f cdv A outer s H E).A.guards = some [] := hg0
  have hu : (cxOf (L2.CX P w) P w K mg base ["cell", "at", "primes", "one", "two", "three"] "_law_spread" (defScope (topS 16)) f cdv A outer s H E).A.units + 64 < cLine := hr.units
  have hu6 : (cxOf (L2.CX P w) P w K mg base ["cell", "at", "primes", "one", "two", "three"] "_law_spread" (defScope (topS 16)) f cdv A outer s H E).A.units + 66 < cLine := by have := hr.un; show (A.deeper _).units + 66 < cLine; omega
  have px : Passes (L2.CX P w) (cxOf (L2.CX P w) P w K mg base ["cell", "at", "primes", "one", "two", "three"] "_law_spread" (defScope (topS 16)) f cdv A outer s H E) E := passes_call (takes_of rfl rfl rfl rfl) (fun _ _ _ _ h => h)
  have po : PassesOwn (model P w) (cxOf (L2.CX P w) P w K mg base ["cell", "at", "primes", "one", "two", "three"] "_law_spread" (defScope (topS 16)) f cdv A outer s H E).A (cxOf (L2.CX P w) P w K mg base ["cell", "at", "primes", "one", "two", "three"] "_law_spread" (defScope (topS 16)) f cdv A outer s H E).env (cxOf (L2.CX P w) P w K mg base ["cell", "at", "primes", "one", "two", "three"] "_law_spread" (defScope (topS 16)) f cdv A outer s H E).xe := passes_of rfl
  have nd : (cxOf (L2.CX P w) P w K mg base ["cell", "at", "primes", "one", "two", "three"] "_law_spread" (defScope (topS 16)) f cdv A outer s H E).N.Nodup := scN__law_spread.nd
  exact (dss_cons (ds_if (dt_cmp op_ge sb_ge (de_name 0 (pe_var (i := 0) rfl (Or.inl rfl))) (de_pow de_int de_int) rfl)
    (dss_one (ds_ret (de_name 0 (pe_var (i := 0) rfl (Or.inl rfl)))))
    dss_nil)
    (dss_cons (ds_set (de_lst (da_cons de_int (da_cons de_int (da_cons de_int (da_cons de_int (da_cons de_int (da_cons de_int (da_cons de_int (da_cons de_int da_nil))))))))) (fun h => ps_set (i := 2) nd rfl (Or.inl rfl) h))
    (dss_cons (ds_set (de_add (de_name 2 (pe_var (i := 2) rfl (Or.inl rfl))) (de_lst (da_cons de_int (da_cons de_int (da_cons de_int (da_cons de_int (da_cons de_int da_nil))))))) (fun h => ps_set (i := 2) nd rfl (Or.inl rfl) h))
    (dss_cons (ds_set (de_add (de_add (de_mul (de_mod (de_cbT sc_int call_int1 n_int q_int (da_cons (de_name 0 (pe_var (i := 0) rfl (Or.inl rfl))) da_nil)) de_int) (de_add (de_mul de_int (de_name 1 (pe_var (i := 1) rfl (Or.inl rfl)))) de_int)) (de_mul (de_name 1 (pe_var (i := 1) rfl (Or.inl rfl))) de_int)) de_int) (fun h => ps_set (i := 3) nd rfl (Or.inl rfl) h))
    (dss_cons (ds_set (de_mod (de_cbT sc_int call_int1 n_int q_int (da_cons (de_pow (de_name 3 (pe_var (i := 3) rfl (Or.inl rfl))) de_int) da_nil)) (de_ix (de_name 2 (pe_var (i := 2) rfl (Or.inl rfl))) (de_mod (de_cbT sc_int call_int1 n_int q_int (da_cons (de_name 1 (pe_var (i := 1) rfl (Or.inl rfl))) da_nil)) de_int))) (fun h => ps_set (i := 3) nd rfl (Or.inl rfl) h))
    (dss_cons (ds_set (de_mod (de_cbT sc_int call_int1 n_int q_int (da_cons (de_pow (de_add (de_add (de_mul (de_name 3 (pe_var (i := 3) rfl (Or.inl rfl))) (de_add (de_name 1 (pe_var (i := 1) rfl (Or.inl rfl))) de_int)) (de_mod (de_cbT sc_int call_int1 n_int q_int (da_cons (de_name 0 (pe_var (i := 0) rfl (Or.inl rfl))) da_nil)) de_int)) de_int) de_int) da_nil)) (de_ix (de_name 2 (pe_var (i := 2) rfl (Or.inl rfl))) (de_mod (de_cbT sc_int call_int1 n_int q_int (da_cons (de_add (de_name 1 (pe_var (i := 1) rfl (Or.inl rfl))) de_int) da_nil)) de_int))) (fun h => ps_set (i := 4) nd rfl (Or.inl rfl) h))
    (dss_cons (ds_set (de_mod (de_cbT sc_int call_int1 n_int q_int (da_cons (de_pow (de_add (de_add (de_name 4 (pe_var (i := 4) rfl (Or.inl rfl))) (de_mod (de_cbT sc_int call_int1 n_int q_int (da_cons (de_name 3 (pe_var (i := 3) rfl (Or.inl rfl))) da_nil)) de_int)) (de_name 1 (pe_var (i := 1) rfl (Or.inl rfl)))) de_int) da_nil)) (de_ix (de_name 2 (pe_var (i := 2) rfl (Or.inl rfl))) (de_mod (de_cbT sc_int call_int1 n_int q_int (da_cons (de_add (de_name 1 (pe_var (i := 1) rfl (Or.inl rfl))) de_int) da_nil)) de_int))) (fun h => ps_set (i := 5) nd rfl (Or.inl rfl) h))
    (dss_one (ds_ret (de_add (de_mul (de_add (de_mul (de_name 3 (pe_var (i := 3) rfl (Or.inl rfl))) de_int) (de_name 4 (pe_var (i := 4) rfl (Or.inl rfl)))) de_int) (de_name 5 (pe_var (i := 5) rfl (Or.inl rfl)))))))))))))
theorem k__law_spread {P : Program} {w : World} {K : Frag} {mg : Str → Option Value} {base : Heap} (n_int : mg "int" = none) {f : Addr} {fd : FuncData} (F : Fun K "_law_spread" "_law_spread" (topS 16) f fd) (hmg : mg "_law_spread" = some (.ref f)) (hk : PySem.W.keepIn K (.ref f) = true) (hb : Binds K fd ["cell", "at"] []) : Cal P w K mg base 1 "_law_spread" ["cell", "at"] m__law_spread := cal_of F hmg hk hb scN__law_spread (by decide) (b__law_spread n_int)
theorem scN__law_take : FnScope ["pen", "amount", "at", "cell", "found"] ["pen", "amount"] (defScope (topS 17)) := ⟨rfl, rfl, rfl, by decide +kernel, rfl, by decide +kernel, by decide +kernel⟩
theorem b__law_take {P : Program} {w : World} {K : Frag} {mg : Str → Option Value} {base : Heap} (c__law_spread : Cal P w K mg base 1 "_law_spread" ["cell", "at"] m__law_spread) (n_int : mg "int" = none) (n_len : mg "len" = none) {f : Addr} (cdv : Value) (A : Around) (outer : List Env) (s : Shared) (H : Hp) (E : XK) (hg0 : A.guards = some []) (hr : Room 1 (A.deeper (envOfC "_law_take" (defScope (topS 17)) s.heap.objs.size f cdv))) :
    DSs (cxOf (L2.CX P w) P w K mg base ["pen", "amount", "at", "cell", "found"] "_law_take" (defScope (topS 17)) f cdv A outer s H E) E (defBody (topS 17)) mb__law_take := by
  have hg : (cxOf (L2.CX P w) P w K mg base ["pen", "amount", "at", "cell", "found"] "_law_take" (defScope (topS 17)) f cdv A outer s H E).A.guards = some [] := hg0
  have hu : (cxOf (L2.CX P w) P w K mg base ["pen", "amount", "at", "cell", "found"] "_law_take" (defScope (topS 17)) f cdv A outer s H E).A.units + 64 < cLine := hr.units
  have hu6 : (cxOf (L2.CX P w) P w K mg base ["pen", "amount", "at", "cell", "found"] "_law_take" (defScope (topS 17)) f cdv A outer s H E).A.units + 66 < cLine := by have := hr.un; show (A.deeper _).units + 66 < cLine; omega
  have px : Passes (L2.CX P w) (cxOf (L2.CX P w) P w K mg base ["pen", "amount", "at", "cell", "found"] "_law_take" (defScope (topS 17)) f cdv A outer s H E) E := passes_call (takes_of rfl rfl rfl rfl) (fun _ _ _ _ h => h)
  have po : PassesOwn (model P w) (cxOf (L2.CX P w) P w K mg base ["pen", "amount", "at", "cell", "found"] "_law_take" (defScope (topS 17)) f cdv A outer s H E).A (cxOf (L2.CX P w) P w K mg base ["pen", "amount", "at", "cell", "found"] "_law_take" (defScope (topS 17)) f cdv A outer s H E).env (cxOf (L2.CX P w) P w K mg base ["pen", "amount", "at", "cell", "found"] "_law_take" (defScope (topS 17)) f cdv A outer s H E).xe := passes_of rfl
  have nd : (cxOf (L2.CX P w) P w K mg base ["pen", "amount", "at", "cell", "found"] "_law_take" (defScope (topS 17)) f cdv A outer s H E).N.Nodup := scN__law_take.nd
  exact (dss_cons (ds_if (dt_cmp op_lt sb_lt (de_ix (de_name 0 (pe_var (i := 0) rfl (Or.inl rfl))) de_int) (de_name 1 (pe_var (i := 1) rfl (Or.inl rfl))) rfl)
    (dss_cons (ds_set (de_ix (de_name 0 (pe_var (i := 0) rfl (Or.inl rfl))) de_int) (fun h => ps_set (i := 2) nd rfl (Or.inl rfl) h))
    (dss_cons (ds_set de_int (fun h => ps_set (i := 3) nd rfl (Or.inl rfl) h))
    (dss_cons (ds_if (dt_cmp op_lt sb_lt (de_name 2 (pe_var (i := 2) rfl (Or.inl rfl))) (de_cbB sc_len call_len_seq n_len q_len (da_cons (de_ix (de_name 0 (pe_var (i := 0) rfl (Or.inl rfl))) de_int) da_nil)) rfl)
    (dss_one (ds_set (de_ix (de_ix (de_name 0 (pe_var (i := 0) rfl (Or.inl rfl))) de_int) (de_name 2 (pe_var (i := 2) rfl (Or.inl rfl)))) (fun h => ps_set (i := 3) nd rfl (Or.inl rfl) h)))
    (dss_one (ds_if (dt_cmp op_gt sb_gt (de_cbB sc_len call_len_seq n_len q_len (da_cons (de_ix (de_name 0 (pe_var (i := 0) rfl (Or.inl rfl))) de_int) da_nil)) de_int rfl)
    (dss_one (ds_set (de_mod (de_cbT sc_int call_int1 n_int q_int (da_cons (de_ix (de_ix (de_name 0 (pe_var (i := 0) rfl (Or.inl rfl))) de_int) (de_mod (de_cbT sc_int call_int1 n_int q_int (da_cons (de_add (de_mul (de_name 2 (pe_var (i := 2) rfl (Or.inl rfl))) de_int) de_int) da_nil)) (de_cbB sc_len call_len_seq n_len q_len (da_cons (de_ix (de_name 0 (pe_var (i := 0) rfl (Or.inl rfl))) de_int) da_nil)))) da_nil)) (de_add (de_pow de_int de_int) (de_name 2 (pe_var (i := 2) rfl (Or.inl rfl))))) (fun h => ps_set (i := 3) nd rfl (Or.inl rfl) h)))
    dss_nil)))
    (dss_cons (ds_setix (pe_var (i := 0) rfl (Or.inl rfl)) (de_add (de_name 2 (pe_var (i := 2) rfl (Or.inl rfl))) de_int) de_int (fun h h2 h3 => ps_asg h (pg_sub h2 h3 set_list)))
    (dss_one (ds_setix (pe_var (i := 0) rfl (Or.inl rfl)) (de_cal [false, false] c__law_spread hg (hr.mono (by decide)) px (da_cons (de_name 3 (pe_var (i := 3) rfl (Or.inl rfl))) (da_cons (de_name 2 (pe_var (i := 2) rfl (Or.inl rfl))) da_nil))) de_int (fun h h2 h3 => ps_asg h (pg_sub h2 h3 set_list))))))))
    dss_nil)
    (dss_cons (ds_set (de_mod (de_cbT sc_int call_int1 n_int q_int (da_cons (de_ix (de_name 0 (pe_var (i := 0) rfl (Or.inl rfl))) de_int) da_nil)) (de_name 1 (pe_var (i := 1) rfl (Or.inl rfl)))) (fun h => ps_set (i := 4) nd rfl (Or.inl rfl) h))
    (dss_cons (ds_setix (pe_var (i := 0) rfl (Or.inl rfl)) (de_div (de_ix (de_name 0 (pe_var (i := 0) rfl (Or.inl rfl))) de_int) (de_name 1 (pe_var (i := 1) rfl (Or.inl rfl)))) de_int (fun h h2 h3 => ps_asg h (pg_sub h2 h3 set_list)))
    (dss_one (ds_ret (de_name 4 (pe_var (i := 4) rfl (Or.inl rfl))))))))
theorem k__law_take {P : Program} {w : World} {K : Frag} {mg : Str → Option Value} {base : Heap} (c__law_spread : Cal P w K mg base 1 "_law_spread" ["cell", "at"] m__law_spread) (n_int : mg "int" = none) (n_len : mg "len" = none) {f : Addr} {fd : FuncData} (F : Fun K "_law_take" "_law_take" (topS 17) f fd) (hmg : mg "_law_take" = some (.ref f)) (hk : PySem.W.keepIn K (.ref f) = true) (hb : Binds K fd ["pen", "amount"] []) : Cal P w K mg base 2 "_law_take" ["pen", "amount"] m__law_take := cal_of F hmg hk hb scN__law_take (by decide) (b__law_take c__law_spread n_int n_len)
theorem scN__law_same : FnScope ["found", "due", "one", "other"] ["found", "due"] (defScope (topS 18)) := ⟨rfl, rfl, rfl, by decide +kernel, rfl, by decide +kernel, by decide +kernel⟩
theorem b__law_same {P : Program} {w : World} {K : Frag} {mg : Str → Option Value} {base : Heap} {self : FnM} {k : Nat} (hk : 0 ≤ k) (c__law_same : Cal P w K mg base k "_law_same" ["found", "due"] self) (n_bool : mg "bool" = none) (n_int : mg "int" = none) (n_isinstance : mg "isinstance" = none) (n_len : mg "len" = none) (n_list : mg "list" = none) (n_str : mg "str" = none) (n_tuple : mg "tuple" = none) (n_zip : mg "zip" = none) {f : Addr} (cdv : Value) (A : Around) (outer : List Env) (s : Shared) (H : Hp) (E : XK) (hg0 : A.guards = some []) (hr : Room k (A.deeper (envOfC "_law_same" (defScope (topS 18)) s.heap.objs.size f cdv))) :
    DSs (cxOf (L2.CX P w) P w K mg base ["found", "due", "one", "other"] "_law_same" (defScope (topS 18)) f cdv A outer s H E) E (defBody (topS 18)) (mb__law_same self) := by
  have hg : (cxOf (L2.CX P w) P w K mg base ["found", "due", "one", "other"] "_law_same" (defScope (topS 18)) f cdv A outer s H E).A.guards = some [] := hg0
  have hu : (cxOf (L2.CX P w) P w K mg base ["found", "due", "one", "other"] "_law_same" (defScope (topS 18)) f cdv A outer s H E).A.units + 64 < cLine := hr.units
  have hu6 : (cxOf (L2.CX P w) P w K mg base ["found", "due", "one", "other"] "_law_same" (defScope (topS 18)) f cdv A outer s H E).A.units + 66 < cLine := by have := hr.un; show (A.deeper _).units + 66 < cLine; omega
  have px : Passes (L2.CX P w) (cxOf (L2.CX P w) P w K mg base ["found", "due", "one", "other"] "_law_same" (defScope (topS 18)) f cdv A outer s H E) E := passes_call (takes_of rfl rfl rfl rfl) (fun _ _ _ _ h => h)
  have po : PassesOwn (model P w) (cxOf (L2.CX P w) P w K mg base ["found", "due", "one", "other"] "_law_same" (defScope (topS 18)) f cdv A outer s H E).A (cxOf (L2.CX P w) P w K mg base ["found", "due", "one", "other"] "_law_same" (defScope (topS 18)) f cdv A outer s H E).env (cxOf (L2.CX P w) P w K mg base ["found", "due", "one", "other"] "_law_same" (defScope (topS 18)) f cdv A outer s H E).xe := passes_of rfl
  have nd : (cxOf (L2.CX P w) P w K mg base ["found", "due", "one", "other"] "_law_same" (defScope (topS 18)) f cdv A outer s H E).N.Nodup := scN__law_same.nd
  exact (dss_cons (ds_if (dt_w (dw_or (dt_cmp op_isN sb_isN (de_name 1 (pe_var (i := 1) rfl (Or.inl rfl))) de_non rfl) (dw_or1 (dt_cmp op_isN sb_isN (de_name 0 (pe_var (i := 0) rfl (Or.inl rfl))) de_non rfl))))
    (dss_one (ds_ret (de_and (de_cmp op_isN sb_isN (de_name 1 (pe_var (i := 1) rfl (Or.inl rfl))) de_non rfl) (de_one (de_cmp op_isN sb_isN (de_name 0 (pe_var (i := 0) rfl (Or.inl rfl))) de_non rfl)))))
    dss_nil)
    (dss_cons (ds_if (dt_w (dw_or (dt_val (de_isT .bool n_isinstance n_bool q_bool (de_name 1 (pe_var (i := 1) rfl (Or.inl rfl))))) (dw_or1 (dt_val (de_isT .bool n_isinstance n_bool q_bool (de_name 0 (pe_var (i := 0) rfl (Or.inl rfl))))))))
    (dss_one (ds_ret (de_and (de_isT .bool n_isinstance n_bool q_bool (de_name 1 (pe_var (i := 1) rfl (Or.inl rfl)))) (de_and (de_isT .bool n_isinstance n_bool q_bool (de_name 0 (pe_var (i := 0) rfl (Or.inl rfl)))) (de_one (de_cmp (op_eqA hu) sb_eqA (de_name 0 (pe_var (i := 0) rfl (Or.inl rfl))) (de_name 1 (pe_var (i := 1) rfl (Or.inl rfl))) rfl))))))
    dss_nil)
    (dss_cons (ds_if (dt_val (de_isTs [.int, .str] n_isinstance (pa_cons (pe_bltn (v := .ty "int") (by rfl) n_int q_int rfl) (pa_cons (pe_bltn (v := .ty "str") (by rfl) n_str q_str rfl) pa_nil)) (de_name 1 (pe_var (i := 1) rfl (Or.inl rfl)))))
    (dss_cons (ds_if (dt_cmp (op_neA hu) sb_neA (de_isT .int n_isinstance n_int q_int (de_name 0 (pe_var (i := 0) rfl (Or.inl rfl)))) (de_isT .int n_isinstance n_int q_int (de_name 1 (pe_var (i := 1) rfl (Or.inl rfl)))) rfl)
    (dss_one (ds_ret de_bl))
    dss_nil)
    (dss_one (ds_ret (de_and (de_isTs [.int, .str] n_isinstance (pa_cons (pe_bltn (v := .ty "int") (by rfl) n_int q_int rfl) (pa_cons (pe_bltn (v := .ty "str") (by rfl) n_str q_str rfl) pa_nil)) (de_name 0 (pe_var (i := 0) rfl (Or.inl rfl)))) (de_one (de_cmp (op_eqA hu) sb_eqA (de_name 0 (pe_var (i := 0) rfl (Or.inl rfl))) (de_name 1 (pe_var (i := 1) rfl (Or.inl rfl))) rfl))))))
    dss_nil)
    (dss_cons (ds_if (dt_w (dw_or (dt_cmp (op_neA hu) sb_neA (de_isT .tuple n_isinstance n_tuple q_tuple (de_name 1 (pe_var (i := 1) rfl (Or.inl rfl)))) (de_isT .tuple n_isinstance n_tuple q_tuple (de_name 0 (pe_var (i := 0) rfl (Or.inl rfl)))) rfl) (dw_or1 (dt_cmp (op_neA hu) sb_neA (de_isT .list n_isinstance n_list q_list (de_name 1 (pe_var (i := 1) rfl (Or.inl rfl)))) (de_isT .list n_isinstance n_list q_list (de_name 0 (pe_var (i := 0) rfl (Or.inl rfl)))) rfl))))
    (dss_one (ds_ret de_bl))
    dss_nil)
    (dss_cons (ds_if (dt_cmp (op_neA hu) sb_neA (de_cbB sc_len call_len_seq n_len q_len (da_cons (de_name 0 (pe_var (i := 0) rfl (Or.inl rfl))) da_nil)) (de_cbB sc_len call_len_seq n_len q_len (da_cons (de_name 1 (pe_var (i := 1) rfl (Or.inl rfl))) da_nil)) rfl)
    (dss_one (ds_ret de_bl))
    dss_nil)
    (dss_one (ds_ret (de_cmp op_notIn_seq sb_in de_bl (de_fr (df_comp (own := [("one", 2), ("other", 3)]) nd (blkOk_by (N := ["found", "due", "one", "other"]) (sc := defScope (topS 18)) (by decide +kernel)) (di_zip n_zip (da_cons (de_name 0 (pe_var (i := 0) rfl (Or.inl rfl))) (da_cons (de_name 1 (pe_var (i := 1) rfl (Or.inl rfl))) da_nil))) (fun _ _ _ _ _ => (dg_tup rfl (dgs_cons (dg_name (pg_name (i := 2) nd rfl (Or.inl rfl))) (dgs_cons (dg_name (pg_name (i := 3) nd rfl (Or.inl rfl))) dgs_nil)))) (by decide) (fun _ _ _ _ _ => dts_nil) (fun _ _ _ _ _ => (de_cal [false, false] c__law_same hg hr passes0 (da_cons (de_name 2 (pe_var (i := 2) rfl (vis_own (by decide +kernel)))) (da_cons (de_name 3 (pe_var (i := 3) rfl (vis_own (by decide +kernel)))) da_nil)))))) rfl))))))))
theorem r__law_same {P : Program} {w : World} {K : Frag} {mg : Str → Option Value} {base : Heap} (n_bool : mg "bool" = none) (n_int : mg "int" = none) (n_isinstance : mg "isinstance" = none) (n_len : mg "len" = none) (n_list : mg "list" = none) (n_str : mg "str" = none) (n_tuple : mg "tuple" = none) (n_zip : mg "zip" = none) {f : Addr} {fd : FuncData} (F : Fun K "_law_same" "_law_same" (topS 18) f fd) (hmg : mg "_law_same" = some (.ref f)) (hk : PySem.W.keepIn K (.ref f) = true) (hb : Binds K fd ["found", "due"] []) : ∀ n, Cal P w K mg base (0 + n) "_law_same" ["found", "due"] (m__law_same n)
  | 0 => ⟨f, fd, hmg, hk, hb, ⟨fun vs H Q E ⟨_, _, _, h⟩ => h.elim, fun A outer s H args us vs Q E _ _ _ _ _ ⟨_, _, _, h⟩ => h.elim⟩⟩
  | n + 1 => cal_of F hmg hk hb scN__law_same (by decide) (b__law_same (Nat.le_add_right _ _) (r__law_same n_bool n_int n_isinstance n_len n_list n_str n_tuple n_zip F hmg hk hb n) n_bool n_int n_isinstance n_len n_list n_str n_tuple n_zip)
theorem k__law_same {P : Program} {w : World} {K : Frag} {mg : Str → Option Value} {base : Heap} (n_bool : mg "bool" = none) (n_int : mg "int" = none) (n_isinstance : mg "isinstance" = none) (n_len : mg "len" = none) (n_list : mg "list" = none) (n_str : mg "str" = none) (n_tuple : mg "tuple" = none) (n_zip : mg "zip" = none) {f : Addr} {fd : FuncData} (F : Fun K "_law_same" "_law_same" (topS 18) f fd) (hmg : mg "_law_same" = some (.ref f)) (hk : PySem.W.keepIn K (.ref f) = true) (hb : Binds K fd ["found", "due"] []) : Cal P w K mg base 30 "_law_same" ["found", "due"] (m__law_same 30) := r__law_same n_bool n_int n_isinstance n_len n_list n_str n_tuple n_zip F hmg hk hb 30
theorem scN__law_one_of : FnScope ["pen", "some"] ["pen", "some"] (defScope (topS 19)) := ⟨rfl, rfl, rfl, by decide +kernel, rfl, by decide +kernel, by decide +kernel⟩
theorem b__law_one_of {P : Program} {w : World} {K : Frag} {mg : Str → Option Value} {base : Heap} (c__law_take : Cal P w K mg base 2 "_law_take" ["pen", "amount"] m__law_take) (n_len : mg "len" = none) {f : Addr} (cdv : Value) (A : Around) (outer : List Env) (s : Shared) (H : Hp) (E : XK) (hg0 : A.guards = some []) (hr : Room 2 (A.deeper (envOfC "_law_one_of" (defScope (topS 19)) s.heap.objs.size f cdv))) :
    DSs (cxOf (L2.CX P w) P w K mg base ["pen", "some"] "_law_one_of" (defScope (topS 19)) f cdv A outer s H E) E (defBody (topS 19)) mb__law_one_of := by
  have hg : (cxOf (L2.CX P w) P w K mg base ["pen", "some"] "_law_one_of" (defScope (topS 19)) f cdv A outer s H E).A.guards = some [] := hg0
  have hu : (cxOf (L2.CX P w) P w K mg base ["pen", "some"] "_law_one_of" (defScope (topS 19)) f cdv A outer s H E).A.units + 64 < cLine := hr.units
  have hu6 : (cxOf (L2.CX P w) P w K mg base ["pen", "some"] "_law_one_of" (defScope (topS 19)) f cdv A outer s H E).A.units + 66 < cLine := by have := hr.un; show (A.deeper _).units + 66 < cLine; omega
  have px : Passes (L2.CX P w) (cxOf (L2.CX P w) P w K mg base ["pen", "some"] "_law_one_of" (defScope (topS 19)) f cdv A outer s H E) E := passes_call (takes_of rfl rfl rfl rfl) (fun _ _ _ _ h => h)
  have po : PassesOwn (model P w) (cxOf (L2.CX P w) P w K mg base ["pen", "some"] "_law_one_of" (defScope (topS 19)) f cdv A outer s H E).A (cxOf (L2.CX P w) P w K mg base ["pen", "some"] "_law_one_of" (defScope (topS 19)) f cdv A outer s H E).env (cxOf (L2.CX P w) P w K mg base ["pen", "some"] "_law_one_of" (defScope (topS 19)) f cdv A outer s H E).xe := passes_of rfl
  have nd : (cxOf (L2.CX P w) P w K mg base ["pen", "some"] "_law_one_of" (defScope (topS 19)) f cdv A outer s H E).N.Nodup := scN__law_one_of.nd
  exact (dss_one (ds_ret (de_ix (de_name 1 (pe_var (i := 1) rfl (Or.inl rfl))) (de_cal [true, false] c__law_take hg (hr.mono (by decide)) px (da_cons (de_name 0 (pe_var (i := 0) rfl (Or.inl rfl))) (da_cons (de_cbB sc_len call_len_seq n_len q_len (da_cons (de_name 1 (pe_var (i := 1) rfl (Or.inl rfl))) da_nil)) da_nil))))))
theorem k__law_one_of {P : Program} {w : World} {K : Frag} {mg : Str → Option Value} {base : Heap} (c__law_take : Cal P w K mg base 2 "_law_take" ["pen", "amount"] m__law_take) (n_len : mg "len" = none) {f : Addr} {fd : FuncData} (F : Fun K "_law_one_of" "_law_one_of" (topS 19) f fd) (hmg : mg "_law_one_of" = some (.ref f)) (hk : PySem.W.keepIn K (.ref f) = true) (hb : Binds K fd ["pen", "some"] []) : Cal P w K mg base 3 "_law_one_of" ["pen", "some"] m__law_one_of := cal_of F hmg hk hb scN__law_one_of (by decide) (b__law_one_of c__law_take n_len)
theorem scN__law_grown : FnScope ["pen", "sides", "way", "many"] ["pen", "sides", "way"] (defScope (topS 20)) := ⟨rfl, rfl, rfl, by decide +kernel, rfl, by decide +kernel, by decide +kernel⟩
theorem b__law_grown {P : Program} {w : World} {K : Frag} {mg : Str → Option Value} {base : Heap} {self : FnM} {k : Nat} (hk : 2 ≤ k) (c__law_grown : Cal P w K mg base k "_law_grown" ["pen", "sides", "way"] self) (c__law_take : Cal P w K mg base 2 "_law_take" ["pen", "amount"] m__law_take) (n_len : mg "len" = none) {f : Addr} (cdv : Value) (A : Around) (outer : List Env) (s : Shared) (H : Hp) (E : XK) (hg0 : A.guards = some []) (hr : Room k (A.deeper (envOfC "_law_grown" (defScope (topS 20)) s.heap.objs.size f cdv))) :
    DSs (cxOf (L2.CX P w) P w K mg base ["pen", "sides", "way", "many"] "_law_grown" (defScope (topS 20)) f cdv A outer s H E) E (defBody (topS 20)) (mb__law_grown self) := by
  have hg : (cxOf (L2.CX P w) P w K mg base ["pen", "sides", "way", "many"] "_law_grown" (defScope (topS 20)) f cdv A outer s H E).A.guards = some [] := hg0
  have hu : (cxOf (L2.CX P w) P w K mg base ["pen", "sides", "way", "many"] "_law_grown" (defScope (topS 20)) f cdv A outer s H E).A.units + 64 < cLine := hr.units
  have hu6 : (cxOf (L2.CX P w) P w K mg base ["pen", "sides", "way", "many"] "_law_grown" (defScope (topS 20)) f cdv A outer s H E).A.units + 66 < cLine := by have := hr.un; show (A.deeper _).units + 66 < cLine; omega
  have px : Passes (L2.CX P w) (cxOf (L2.CX P w) P w K mg base ["pen", "sides", "way", "many"] "_law_grown" (defScope (topS 20)) f cdv A outer s H E) E := passes_call (takes_of rfl rfl rfl rfl) (fun _ _ _ _ h => h)
  have po : PassesOwn (model P w) (cxOf (L2.CX P w) P w K mg base ["pen", "sides", "way", "many"] "_law_grown" (defScope (topS 20)) f cdv A outer s H E).A (cxOf (L2.CX P w) P w K mg base ["pen", "sides", "way", "many"] "_law_grown" (defScope (topS 20)) f cdv A outer s H E).env (cxOf (L2.CX P w) P w K mg base ["pen", "sides", "way", "many"] "_law_grown" (defScope (topS 20)) f cdv A outer s H E).xe := passes_of rfl
  have nd : (cxOf (L2.CX P w) P w K mg base ["pen", "sides", "way", "many"] "_law_grown" (defScope (topS 20)) f cdv A outer s H E).N.Nodup := scN__law_grown.nd
  exact (dss_cons (ds_if (dt_cmp (op_eqA hu) sb_eqA (de_cbB sc_len call_len_seq n_len q_len (da_cons (de_name 1 (pe_var (i := 1) rfl (Or.inl rfl))) da_nil)) de_int rfl)
    (dss_one (ds_ret (de_ix (de_name 1 (pe_var (i := 1) rfl (Or.inl rfl))) de_int)))
    dss_nil)
    (dss_cons (ds_set (de_ix (de_lst (da_cons (de_div (de_cbB sc_len call_len_seq n_len q_len (da_cons (de_name 1 (pe_var (i := 1) rfl (Or.inl rfl))) da_nil)) de_int) (da_cons (de_sub (de_cbB sc_len call_len_seq n_len q_len (da_cons (de_name 1 (pe_var (i := 1) rfl (Or.inl rfl))) da_nil)) de_int) (da_cons (de_add de_int (de_cal [true, false] c__law_take hg (hr.mono (Nat.le_trans (by decide) hk)) px (da_cons (de_name 0 (pe_var (i := 0) rfl (Or.inl rfl))) (da_cons (de_sub (de_cbB sc_len call_len_seq n_len q_len (da_cons (de_name 1 (pe_var (i := 1) rfl (Or.inl rfl))) da_nil)) de_int) da_nil)))) da_nil)))) (de_name 2 (pe_var (i := 2) rfl (Or.inl rfl)))) (fun h => ps_set (i := 3) nd rfl (Or.inl rfl) h))
    (dss_one (ds_ret (de_tup (da_cons (de_cal [true, false, false] c__law_grown hg hr px (da_cons (de_name 0 (pe_var (i := 0) rfl (Or.inl rfl))) (da_cons (de_slice (de_name 1 (pe_var (i := 1) rfl (Or.inl rfl))) dp_none (dp_some (de_name 3 (pe_var (i := 3) rfl (Or.inl rfl))))) (da_cons (de_name 2 (pe_var (i := 2) rfl (Or.inl rfl))) da_nil)))) (da_cons (de_cal [true, false, false] c__law_grown hg hr px (da_cons (de_name 0 (pe_var (i := 0) rfl (Or.inl rfl))) (da_cons (de_slice (de_name 1 (pe_var (i := 1) rfl (Or.inl rfl))) (dp_some (de_name 3 (pe_var (i := 3) rfl (Or.inl rfl)))) dp_none) (da_cons (de_name 2 (pe_var (i := 2) rfl (Or.inl rfl))) da_nil)))) da_nil)))))))
theorem r__law_grown {P : Program} {w : World} {K : Frag} {mg : Str → Option Value} {base : Heap} (c__law_take : Cal P w K mg base 2 "_law_take" ["pen", "amount"] m__law_take) (n_len : mg "len" = none) {f : Addr} {fd : FuncData} (F : Fun K "_law_grown" "_law_grown" (topS 20) f fd) (hmg : mg "_law_grown" = some (.ref f)) (hk : PySem.W.keepIn K (.ref f) = true) (hb : Binds K fd ["pen", "sides", "way"] []) : ∀ n, Cal P w K mg base (2 + n) "_law_grown" ["pen", "sides", "way"] (m__law_grown n)
  | 0 => ⟨f, fd, hmg, hk, hb, ⟨fun vs H Q E ⟨_, _, _, h⟩ => h.elim, fun A outer s H args us vs Q E _ _ _ _ _ ⟨_, _, _, h⟩ => h.elim⟩⟩
  | n + 1 => cal_of F hmg hk hb scN__law_grown (by decide) (b__law_grown (Nat.le_add_right _ _) (r__law_grown c__law_take n_len F hmg hk hb n) c__law_take n_len)
theorem k__law_grown {P : Program} {w : World} {K : Frag} {mg : Str → Option Value} {base : Heap} (c__law_take : Cal P w K mg base 2 "_law_take" ["pen", "amount"] m__law_take) (n_len : mg "len" = none) {f : Addr} {fd : FuncData} (F : Fun K "_law_grown" "_law_grown" (topS 20) f fd) (hmg : mg "_law_grown" = some (.ref f)) (hk : PySem.W.keepIn K (.ref f) = true) (hb : Binds K fd ["pen", "sides", "way"] []) : Cal P w K mg base 32 "_law_grown" ["pen", "sides", "way"] (m__law_grown 30) := r__law_grown c__law_take n_len F hmg hk hb 30
theorem scN__law_draw_tree : FnScope ["pen", "many", "sides", "rest"] ["pen", "many"] (defScope (topS 21)) := ⟨rfl, rfl, rfl, by decide +kernel, rfl, by decide +kernel, by decide +kernel⟩
theorem b__law_draw_tree {P : Program} {w : World} {K : Frag} {mg : Str → Option Value} {base : Heap} (c__law_take : Cal P w K mg base 2 "_law_take" ["pen", "amount"] m__law_take) (c__law_one_of : Cal P w K mg base 3 "_law_one_of" ["pen", "some"] m__law_one_of) (c__law_grown : Cal P w K mg base 32 "_law_grown" ["pen", "sides", "way"] (m__law_grown 30)) (n_len : mg "len" = none) (n_list : mg "list" = none) (n_range : mg "range" = none) {f : Addr} (cdv : Value) (A : Around) (outer : List Env) (s : Shared) (H : Hp) (E : XK) (hg0 : A.guards = some []) (hr : Room 32 (A.deeper (envOfC "_law_draw_tree" (defScope (topS 21)) s.heap.objs.size f cdv))) :
    DSs (cxOf (L2.CX P w) P w K mg base ["pen", "many", "sides", "rest"] "_law_draw_tree" (defScope (topS 21)) f cdv A outer s H E) E (defBody (topS 21)) mb__law_draw_tree := by
  have hg : (cxOf (L2.CX P w) P w K mg base ["pen", "many", "sides", "rest"] "_law_draw_tree" (defScope (topS 21)) f cdv A outer s H E).A.guards = some [] := hg0
  have hu : (cxOf (L2.CX P w) P w K mg base ["pen", "many", "sides", "rest"] "_law_draw_tree" (defScope (topS 21)) f cdv A outer s H E).A.units + 64 < cLine := hr.units
  have hu6 : (cxOf (L2.CX P w) P w K mg base ["pen", "many", "sides", "rest"] "_law_draw_tree" (defScope (topS 21)) f cdv A outer s H E).A.units + 66 < cLine := by have := hr.un; show (A.deeper _).units + 66 < cLine; omega
  have px : Passes (L2.CX P w) (cxOf (L2.CX P w) P w K mg base ["pen", "many", "sides", "rest"] "_law_draw_tree" (defScope (topS 21)) f cdv A outer s H E) E := passes_call (takes_of rfl rfl rfl rfl) (fun _ _ _ _ h => h)
  have po : PassesOwn (model P w) (cxOf (L2.CX P w) P w K mg base ["pen", "many", "sides", "rest"] "_law_draw_tree" (defScope (topS 21)) f cdv A outer s H E).A (cxOf (L2.CX P w) P w K mg base ["pen", "many", "sides", "rest"] "_law_draw_tree" (defScope (topS 21)) f cdv A outer s H E).env (cxOf (L2.CX P w) P w K mg base ["pen", "many", "sides", "rest"] "_law_draw_tree" (defScope (topS 21)) f cdv A outer s H E).xe := passes_of rfl
  have nd : (cxOf (L2.CX P w) P w K mg base ["pen", "many", "sides", "rest"] "_law_draw_tree" (defScope (topS 21)) f cdv A outer s H E).N.Nodup := scN__law_draw_tree.nd
  exact (dss_cons (ds_par2FF (i := 2) (j := 3) nd (df_lst da_nil) (df_lrg1 rfl n_list n_range (de_name 1 (pe_var (i := 1) rfl (Or.inl rfl)))))
    (dss_cons (ds_while 1000 (dt_cmp (op_neA hu) sb_neA (de_name 3 (pe_var (i := 3) rfl (Or.inl rfl))) (de_lst da_nil) rfl)
    (dss_one (ds_expr (de_mth sm_append PySem.F.slot_list_append PySem.F.type_list_append mt_append (pe_var (i := 2) rfl (Or.inl rfl)) (da_cons (de_mth sm_popAt PySem.F.slot_list_pop PySem.F.type_list_pop mt_popAt (pe_var (i := 3) rfl (Or.inl rfl)) (da_cons (de_cal [true, false] c__law_take hg (hr.mono (by decide)) px (da_cons (de_name 0 (pe_var (i := 0) rfl (Or.inl rfl))) (da_cons (de_cbB sc_len call_len_seq n_len q_len (da_cons (de_name 3 (pe_var (i := 3) rfl (Or.inl rfl))) da_nil)) da_nil))) da_nil)) da_nil)))) po)
    (dss_one (ds_ret (de_cal [true, false, false] c__law_grown hg (hr.mono (by decide)) px (da_cons (de_name 0 (pe_var (i := 0) rfl (Or.inl rfl))) (da_cons (de_name 2 (pe_var (i := 2) rfl (Or.inl rfl))) (da_cons (de_cal [true, false] c__law_one_of hg (hr.mono (by decide)) px (da_cons (de_name 0 (pe_var (i := 0) rfl (Or.inl rfl))) (da_cons (de_lst (da_cons de_int (da_cons de_int (da_cons de_int (da_cons de_int da_nil))))) da_nil))) da_nil))))))))
theorem k__law_draw_tree {P : Program} {w : World} {K : Frag} {mg : Str → Option Value} {base : Heap} (c__law_take : Cal P w K mg base 2 "_law_take" ["pen", "amount"] m__law_take) (c__law_one_of : Cal P w K mg base 3 "_law_one_of" ["pen", "some"] m__law_one_of) (c__law_grown : Cal P w K mg base 32 "_law_grown" ["pen", "sides", "way"] (m__law_grown 30)) (n_len : mg "len" = none) (n_list : mg "list" = none) (n_range : mg "range" = none) {f : Addr} {fd : FuncData} (F : Fun K "_law_draw_tree" "_law_draw_tree" (topS 21) f fd) (hmg : mg "_law_draw_tree" = some (.ref f)) (hk : PySem.W.keepIn K (.ref f) = true) (hb : Binds K fd ["pen", "many"] []) : Cal P w K mg base 33 "_law_draw_tree" ["pen", "many"] m__law_draw_tree := cal_of F hmg hk hb scN__law_draw_tree (by decide) (b__law_draw_tree c__law_take c__law_one_of c__law_grown n_len n_list n_range)
theorem scN__law_note : FnScope ["tree", "found", "first", "second"] ["tree", "found"] (defScope (topS 22)) := ⟨rfl, rfl, rfl, by decide +kernel, rfl, by decide +kernel, by decide +kernel⟩
theorem b__law_note {P : Program} {w : World} {K : Frag} {mg : Str → Option Value} {base : Heap} {self : FnM} {k : Nat} (hk : 0 ≤ k) (c__law_note : Cal P w K mg base k "_law_note" ["tree", "found"] self) (n_int : mg "int" = none) (n_isinstance : mg "isinstance" = none) (n_len : mg "len" = none) {f : Addr} (cdv : Value) (A : Around) (outer : List Env) (s : Shared) (H : Hp) (E : XK) (hg0 : A.guards = some []) (hr : Room k (A.deeper (envOfC "_law_note" (defScope (topS 22)) s.heap.objs.size f cdv))) :
    DSs (cxOf (L2.CX P w) P w K mg base ["tree", "found", "first", "second"] "_law_note" (defScope (topS 22)) f cdv A outer s H E) E (defBody (topS 22)) (mb__law_note self) := by
  have hg : (cxOf (L2.CX P w) P w K mg base ["tree", "found", "first", "second"] "_law_note" (defScope (topS 22)) f cdv A outer s H E).A.guards = some [] := hg0
  have hu : (cxOf (L2.CX P w) P w K mg base ["tree", "found", "first", "second"] "_law_note" (defScope (topS 22)) f cdv A outer s H E).A.units + 64 < cLine := hr.units
  have hu6 : (cxOf (L2.CX P w) P w K mg base ["tree", "found", "first", "second"] "_law_note" (defScope (topS 22)) f cdv A outer s H E).A.units + 66 < cLine := by have := hr.un; show (A.deeper _).units + 66 < cLine; omega
  have px : Passes (L2.CX P w) (cxOf (L2.CX P w) P w K mg base ["tree", "found", "first", "second"] "_law_note" (defScope (topS 22)) f cdv A outer s H E) E := passes_call (takes_of rfl rfl rfl rfl) (fun _ _ _ _ h => h)
  have po : PassesOwn (model P w) (cxOf (L2.CX P w) P w K mg base ["tree", "found", "first", "second"] "_law_note" (defScope (topS 22)) f cdv A outer s H E).A (cxOf (L2.CX P w) P w K mg base ["tree", "found", "first", "second"] "_law_note" (defScope (topS 22)) f cdv A outer s H E).env (cxOf (L2.CX P w) P w K mg base ["tree", "found", "first", "second"] "_law_note" (defScope (topS 22)) f cdv A outer s H E).xe := passes_of rfl
  have nd : (cxOf (L2.CX P w) P w K mg base ["tree", "found", "first", "second"] "_law_note" (defScope (topS 22)) f cdv A outer s H E).N.Nodup := scN__law_note.nd
  exact (dss_cons (ds_if (dt_val (de_isT .int n_isinstance n_int q_int (de_name 0 (pe_var (i := 0) rfl (Or.inl rfl)))))
    (dss_one (ds_ret (de_tup (da_cons de_str (da_cons (de_name 0 (pe_var (i := 0) rfl (Or.inl rfl))) da_nil)))))
    dss_nil)
    (dss_cons (ds_par2 (i := 2) (j := 3) nd (de_cal [false, true] c__law_note hg hr px (da_cons (de_ix (de_name 0 (pe_var (i := 0) rfl (Or.inl rfl))) de_int) (da_cons (de_name 1 (pe_var (i := 1) rfl (Or.inl rfl))) da_nil))) (de_cal [false, true] c__law_note hg hr px (da_cons (de_ix (de_name 0 (pe_var (i := 0) rfl (Or.inl rfl))) de_int) (da_cons (de_name 1 (pe_var (i := 1) rfl (Or.inl rfl))) da_nil))))
    (dss_cons (ds_expr (de_mth sm_append PySem.F.slot_list_append PySem.F.type_list_append mt_append (pe_var (i := 1) rfl (Or.inl rfl)) (da_cons (de_tup (da_cons (de_name 2 (pe_var (i := 2) rfl (Or.inl rfl))) (da_cons (de_name 3 (pe_var (i := 3) rfl (Or.inl rfl))) da_nil))) da_nil)))
    (dss_one (ds_ret (de_tup (da_cons de_str (da_cons (de_sub (de_cbB sc_len call_len_seq n_len q_len (da_cons (de_name 1 (pe_var (i := 1) rfl (Or.inl rfl))) da_nil)) de_int) da_nil))))))))
theorem r__law_note {P : Program} {w : World} {K : Frag} {mg : Str → Option Value} {base : Heap} (n_int : mg "int" = none) (n_isinstance : mg "isinstance" = none) (n_len : mg "len" = none) {f : Addr} {fd : FuncData} (F : Fun K "_law_note" "_law_note" (topS 22) f fd) (hmg : mg "_law_note" = some (.ref f)) (hk : PySem.W.keepIn K (.ref f) = true) (hb : Binds K fd ["tree", "found"] []) : ∀ n, Cal P w K mg base (0 + n) "_law_note" ["tree", "found"] (m__law_note n)
  | 0 => ⟨f, fd, hmg, hk, hb, ⟨fun vs H Q E ⟨_, _, _, h⟩ => h.elim, fun A outer s H args us vs Q E _ _ _ _ _ ⟨_, _, _, h⟩ => h.elim⟩⟩
  | n + 1 => cal_of F hmg hk hb scN__law_note (by decide) (b__law_note (Nat.le_add_right _ _) (r__law_note n_int n_isinstance n_len F hmg hk hb n) n_int n_isinstance n_len)
theorem k__law_note {P : Program} {w : World} {K : Frag} {mg : Str → Option Value} {base : Heap} (n_int : mg "int" = none) (n_isinstance : mg "isinstance" = none) (n_len : mg "len" = none) {f : Addr} {fd : FuncData} (F : Fun K "_law_note" "_law_note" (topS 22) f fd) (hmg : mg "_law_note" = some (.ref f)) (hk : PySem.W.keepIn K (.ref f) = true) (hb : Binds K fd ["tree", "found"] []) : Cal P w K mg base 30 "_law_note" ["tree", "found"] (m__law_note 30) := r__law_note n_int n_isinstance n_len F hmg hk hb 30
theorem scN__law_matches : FnScope ["tree", "found"] ["tree"] (defScope (topS 23)) := ⟨rfl, rfl, rfl, by decide +kernel, rfl, by decide +kernel, by decide +kernel⟩
theorem b__law_matches {P : Program} {w : World} {K : Frag} {mg : Str → Option Value} {base : Heap} (c__law_note : Cal P w K mg base 30 "_law_note" ["tree", "found"] (m__law_note 30)) {f : Addr} (cdv : Value) (A : Around) (outer : List Env) (s : Shared) (H : Hp) (E : XK) (hg0 : A.guards = some []) (hr : Room 30 (A.deeper (envOfC "_law_matches" (defScope (topS 23)) s.heap.objs.size f cdv))) :
    DSs (cxOf (L2.CX P w) P w K mg base ["tree", "found"] "_law_matches" (defScope (topS 23)) f cdv A outer s H E) E (defBody (topS 23)) mb__law_matches := by
  have hg : (cxOf (L2.CX P w) P w K mg base ["tree", "found"] "_law_matches" (defScope (topS 23)) f cdv A outer s H E).A.guards = some [] := hg0
  have hu : (cxOf (L2.CX P w) P w K mg base ["tree", "found"] "_law_matches" (defScope (topS 23)) f cdv A outer s H E).A.units + 64 < cLine := hr.units
  have hu6 : (cxOf (L2.CX P w) P w K mg base ["tree", "found"] "_law_matches" (defScope (topS 23)) f cdv A outer s H E).A.units + 66 < cLine := by have := hr.un; show (A.deeper _).units + 66 < cLine; omega
  have px : Passes (L2.CX P w) (cxOf (L2.CX P w) P w K mg base ["tree", "found"] "_law_matches" (defScope (topS 23)) f cdv A outer s H E) E := passes_call (takes_of rfl rfl rfl rfl) (fun _ _ _ _ h => h)
  have po : PassesOwn (model P w) (cxOf (L2.CX P w) P w K mg base ["tree", "found"] "_law_matches" (defScope (topS 23)) f cdv A outer s H E).A (cxOf (L2.CX P w) P w K mg base ["tree", "found"] "_law_matches" (defScope (topS 23)) f cdv A outer s H E).env (cxOf (L2.CX P w) P w K mg base ["tree", "found"] "_law_matches" (defScope (topS 23)) f cdv A outer s H E).xe := passes_of rfl
  have nd : (cxOf (L2.CX P w) P w K mg base ["tree", "found"] "_law_matches" (defScope (topS 23)) f cdv A outer s H E).N.Nodup := scN__law_matches.nd
  exact (dss_cons (ds_setF (df_lst da_nil) (fun h => ps_set (i := 1) nd rfl (Or.inl rfl) h))
    (dss_cons (ds_expr (de_cal [false, true] c__law_note hg (hr.mono (by decide)) px (da_cons (de_name 0 (pe_var (i := 0) rfl (Or.inl rfl))) (da_cons (de_name 1 (pe_var (i := 1) rfl (Or.inl rfl))) da_nil))))
    (dss_one (ds_retO 1 (pe_var (i := 1) rfl (Or.inl rfl))))))
theorem k__law_matches {P : Program} {w : World} {K : Frag} {mg : Str → Option Value} {base : Heap} (c__law_note : Cal P w K mg base 30 "_law_note" ["tree", "found"] (m__law_note 30)) {f : Addr} {fd : FuncData} (F : Fun K "_law_matches" "_law_matches" (topS 23) f fd) (hmg : mg "_law_matches" = some (.ref f)) (hk : PySem.W.keepIn K (.ref f) = true) (hb : Binds K fd ["tree"] []) : Cal P w K mg base 31 "_law_matches" ["tree"] m__law_matches := cal_of F hmg hk hb scN__law_matches (by decide) (b__law_matches c__law_note)
theorem scN__law_sides : FnScope ["tree", "found", "parts", "some", "kind", "one"] ["tree"] (defScope (topS 24)) := ⟨rfl, rfl, rfl, by decide +kernel, rfl, by decide +kernel, by decide +kernel⟩
theorem b__law_sides {P : Program} {w : World} {K : Frag} {mg : Str → Option Value} {base : Heap} (c__law_matches : Cal P w K mg base 31 "_law_matches" ["tree"] m__law_matches) (n_list : mg "list" = none) (n_sorted : mg "sorted" = none) (n_tuple : mg "tuple" = none) {f : Addr} (cdv : Value) (A : Around) (outer : List Env) (s : Shared) (H : Hp) (E : XK) (hg0 : A.guards = some []) (hr : Room 31 (A.deeper (envOfC "_law_sides" (defScope (topS 24)) s.heap.objs.size f cdv))) :
    DSs (cxOf (L2.CX P w) P w K mg base ["tree", "found", "parts", "some", "kind", "one"] "_law_sides" (defScope (topS 24)) f cdv A outer s H E) E (defBody (topS 24)) mb__law_sides := by
  have hg : (cxOf (L2.CX P w) P w K mg base ["tree", "found", "parts", "some", "kind", "one"] "_law_sides" (defScope (topS 24)) f cdv A outer s H E).A.guards = some [] := hg0
  have hu : (cxOf (L2.CX P w) P w K mg base ["tree", "found", "parts", "some", "kind", "one"] "_law_sides" (defScope (topS 24)) f cdv A outer s H E).A.units + 64 < cLine := hr.units
  have hu6 : (cxOf (L2.CX P w) P w K mg base ["tree", "found", "parts", "some", "kind", "one"] "_law_sides" (defScope (topS 24)) f cdv A outer s H E).A.units + 66 < cLine := by have := hr.un; show (A.deeper _).units + 66 < cLine; omega
  have px : Passes (L2.CX P w) (cxOf (L2.CX P w) P w K mg base ["tree", "found", "parts", "some", "kind", "one"] "_law_sides" (defScope (topS 24)) f cdv A outer s H E) E := passes_call (takes_of rfl rfl rfl rfl) (fun _ _ _ _ h => h)
  have po : PassesOwn (model P w) (cxOf (L2.CX P w) P w K mg base ["tree", "found", "parts", "some", "kind", "one"] "_law_sides" (defScope (topS 24)) f cdv A outer s H E).A (cxOf (L2.CX P w) P w K mg base ["tree", "found", "parts", "some", "kind", "one"] "_law_sides" (defScope (topS 24)) f cdv A outer s H E).env (cxOf (L2.CX P w) P w K mg base ["tree", "found", "parts", "some", "kind", "one"] "_law_sides" (defScope (topS 24)) f cdv A outer s H E).xe := passes_of rfl
  have nd : (cxOf (L2.CX P w) P w K mg base ["tree", "found", "parts", "some", "kind", "one"] "_law_sides" (defScope (topS 24)) f cdv A outer s H E).N.Nodup := scN__law_sides.nd
  exact (dss_cons (ds_setF (df_lst da_nil) (fun h => ps_set (i := 1) nd rfl (Or.inl rfl) h))
    (dss_cons (ds_forT po (di_seq (de_cal [false] c__law_matches hg (hr.mono (by decide)) px (da_cons (de_name 0 (pe_var (i := 0) rfl (Or.inl rfl))) da_nil))) (dg_name (pg_name (i := 2) nd rfl (Or.inl rfl)))
    (dss_cons (ds_set (de_lst da_nil) (fun h => ps_set (i := 3) nd rfl (Or.inl rfl) h))
    (dss_cons (ds_forT po (di_seq (de_name 2 (pe_var (i := 2) rfl (Or.inl rfl)))) (dg_tup rfl (dgs_cons (dg_name (pg_name (i := 4) nd rfl (Or.inl rfl))) (dgs_cons (dg_name (pg_name (i := 5) nd rfl (Or.inl rfl))) dgs_nil)))
    (dss_one (ds_set (de_add (de_name 3 (pe_var (i := 3) rfl (Or.inl rfl))) (de_if (dt_cmp (op_eqA hu) sb_eqA (de_name 4 (pe_var (i := 4) rfl (Or.inl rfl))) de_str rfl) (de_lst (da_cons (de_name 5 (pe_var (i := 5) rfl (Or.inl rfl))) da_nil)) (de_fr (df_cbT sc_list call_list_of n_list q_list (da_cons (de_ix (de_name 1 (pe_var (i := 1) rfl (Or.inl rfl))) (de_name 5 (pe_var (i := 5) rfl (Or.inl rfl)))) da_nil))))) (fun h => ps_set (i := 3) nd rfl (Or.inl rfl) h))))
    (dss_one (ds_expr (de_mth sm_append PySem.F.slot_list_append PySem.F.type_list_append mt_append (pe_var (i := 1) rfl (Or.inl rfl)) (da_cons (de_cbT sc_tuple call_tuple_of n_tuple q_tuple (da_cons (de_fr (df_cbB sc_sorted cr_sortedI n_sorted q_sorted (da_cons (de_name 3 (pe_var (i := 3) rfl (Or.inl rfl))) da_nil))) da_nil)) da_nil)))))))
    (dss_one (ds_retO 1 (pe_var (i := 1) rfl (Or.inl rfl))))))
theorem k__law_sides {P : Program} {w : World} {K : Frag} {mg : Str → Option Value} {base : Heap} (c__law_matches : Cal P w K mg base 31 "_law_matches" ["tree"] m__law_matches) (n_list : mg "list" = none) (n_sorted : mg "sorted" = none) (n_tuple : mg "tuple" = none) {f : Addr} {fd : FuncData} (F : Fun K "_law_sides" "_law_sides" (topS 24) f fd) (hmg : mg "_law_sides" = some (.ref f)) (hk : PySem.W.keepIn K (.ref f) = true) (hb : Binds K fd ["tree"] []) : Cal P w K mg base 32 "_law_sides" ["tree"] m__law_sides := cal_of F hmg hk hb scN__law_sides (by decide) (b__law_sides c__law_matches n_list n_sorted n_tuple)
theorem scN_law : FnScope ["script", "pen", "turn", "tree", "sheet", "due", "side", "sides"] ["script"] (defScope (topS 25)) := ⟨rfl, rfl, rfl, by decide +kernel, rfl, by decide +kernel, by decide +kernel⟩
theorem b_law {P : Program} {w : World} {K : Frag} {mg : Str → Option Value} {base : Heap} (c_write_sheet : Cal P w K mg base 1 "write_sheet" ["sheet"] m_write_sheet) (c_read_sheet : Cal P w K mg base 34 "read_sheet" ["tree", "text"] m_read_sheet) (c__law_open : Cal P w K mg base 1 "_law_open" ["script"] m__law_open) (c__law_take : Cal P w K mg base 2 "_law_take" ["pen", "amount"] m__law_take) (c__law_same : Cal P w K mg base 30 "_law_same" ["found", "due"] (m__law_same 30)) (c__law_one_of : Cal P w K mg base 3 "_law_one_of" ["pen", "some"] m__law_one_of) (c__law_draw_tree : Cal P w K mg base 33 "_law_draw_tree" ["pen", "many"] m__law_draw_tree) (c__law_sides : Cal P w K mg base 32 "_law_sides" ["tree"] m__law_sides) (n_int : mg "int" = none) (n_list : mg "list" = none) (n_range : mg "range" = none) (n_tuple : mg "tuple" = none) {f : Addr} (cdv : Value) (A : Around) (outer : List Env) (s : Shared) (H : Hp) (E : XK) (hg0 : A.guards = some []) (hr : Room 34 (A.deeper (envOfC "law" (defScope (topS 25)) s.heap.objs.size f cdv))) :
    DSs (cxOf (L2.CX P w) P w K mg base ["script", "pen", "turn", "tree", "sheet", "due", "side", "sides"] "law" (defScope (topS 25)) f cdv A outer s H E) E (defBody (topS 25)) mb_law := by
  have hg : (cxOf (L2.CX P w) P w K mg base ["script", "pen", "turn", "tree", "sheet", "due", "side", "sides"] "law" (defScope (topS 25)) f cdv A outer s H E).A.guards = some [] := hg0
  have hu : (cxOf (L2.CX P w) P w K mg base ["script", "pen", "turn", "tree", "sheet", "due", "side", "sides"] "law" (defScope (topS 25)) f cdv A outer s H E).A.units + 64 < cLine := hr.units
  have hu6 : (cxOf (L2.CX P w) P w K mg base ["script", "pen", "turn", "tree", "sheet", "due", "side", "sides"] "law" (defScope (topS 25)) f cdv A outer s H E).A.units + 66 < cLine := by have := hr.un; show (A.deeper _).units + 66 < cLine; omega
  have px : Passes (L2.CX P w) (cxOf (L2.CX P w) P w K mg base ["script", "pen", "turn", "tree", "sheet", "due", "side", "sides"] "law" (defScope (topS 25)) f cdv A outer s H E) E := passes_call (takes_of rfl rfl rfl rfl) (fun _ _ _ _ h => h)
  have po : PassesOwn (model P w) (cxOf (L2.CX P w) P w K mg base ["script", "pen", "turn", "tree", "sheet", "due", "side", "sides"] "law" (defScope (topS 25)) f cdv A outer s H E).A (cxOf (L2.CX P w) P w K mg base ["script", "pen", "turn", "tree", "sheet", "due", "side", "sides"] "law" (defScope (topS 25)) f cdv A outer s H E).env (cxOf (L2.CX P w) P w K mg base ["script", "pen", "turn", "tree", "sheet", "due", "side", "sides"] "law" (defScope (topS 25)) f cdv A outer s H E).xe := passes_of rfl
  have nd : (cxOf (L2.CX P w) P w K mg base ["script", "pen", "turn", "tree", "sheet", "due", "side", "sides"] "law" (defScope (topS 25)) f cdv A outer s H E).N.Nodup := scN_law.nd
  exact (dss_cons (ds_setF (df_cal [false] c__law_open hg (hr.mono (by decide)) px (da_cons (de_name 0 (pe_var (i := 0) rfl (Or.inl rfl))) da_nil)) (fun h => ps_set (i := 1) nd rfl (Or.inr rfl) h))
    (dss_cons (ds_forT po (di_range1 n_range (da_cons de_int da_nil)) (dg_name (pg_name (i := 2) nd rfl (Or.inl rfl)))
    (dss_cons (ds_set (de_cal [true, false] c__law_draw_tree hg (hr.mono (by decide)) px (da_cons (de_name 1 (pe_var (i := 1) rfl (Or.inr (Or.inl rfl)))) (da_cons (de_add de_int (de_cal [true, false] c__law_take hg (hr.mono (by decide)) px (da_cons (de_name 1 (pe_var (i := 1) rfl (Or.inr (Or.inl rfl)))) (da_cons de_int da_nil)))) da_nil))) (fun h => ps_set (i := 3) nd rfl (Or.inl rfl) h))
    (dss_cons (ds_par2 (i := 4) (j := 5) nd (de_cbT sc_tuple call_tuple_of n_tuple q_tuple (da_cons (de_fr (df_comp (own := [("sides", 7)]) nd (blkOk_by (N := ["script", "pen", "turn", "tree", "sheet", "due", "side", "sides"]) (sc := defScope (topS 25)) (by decide +kernel)) (di_seq (de_cal [false] c__law_sides hg (hr.mono (by decide)) px (da_cons (de_name 3 (pe_var (i := 3) rfl (Or.inl rfl))) da_nil))) (fun _ _ _ _ _ => (dg_name (pg_name (i := 7) nd rfl (Or.inl rfl)))) (by decide) (fun _ _ _ _ _ => dts_nil) (fun _ _ _ _ _ => (de_cal [true, false] c__law_one_of hg (hr.mono (by decide)) passes0 (da_cons (de_name 1 (pe_var (i := 1) rfl (vis_free (by decide +kernel)))) (da_cons (de_fr (df_cbT sc_list call_list_of n_list q_list (da_cons (de_name 7 (pe_var (i := 7) rfl (vis_own (by decide +kernel)))) da_nil))) da_nil)))))) da_nil)) de_str)
    (dss_cons (ds_forT po (di_seq (de_name 4 (pe_var (i := 4) rfl (Or.inl rfl)))) (dg_name (pg_name (i := 6) nd rfl (Or.inl rfl)))
    (dss_one (ds_set (de_add (de_add (de_add (de_name 5 (pe_var (i := 5) rfl (Or.inl rfl))) (de_bin op_mulS sb_mulS de_str (de_cbT sc_int call_int1 n_int q_int (da_cons (de_cmp (op_neA hu) sb_neA (de_name 5 (pe_var (i := 5) rfl (Or.inl rfl))) de_str rfl) da_nil)))) (de_if (dt_cmp op_gt sb_gt (de_name 6 (pe_var (i := 6) rfl (Or.inl rfl))) de_int rfl) de_str de_str)) (de_ix de_str (de_mod (de_cbT sc_int call_int1 n_int q_int (da_cons (de_name 6 (pe_var (i := 6) rfl (Or.inl rfl))) da_nil)) de_int))) (fun h => ps_set (i := 5) nd rfl (Or.inl rfl) h))))
    (dss_one (ds_if (dt_not (dt_val (de_cal [false, false] c__law_same hg (hr.mono (by decide)) px (da_cons (de_lst (da_cons (de_cal [false] c_write_sheet hg (hr.mono (by decide)) px (da_cons (de_name 4 (pe_var (i := 4) rfl (Or.inl rfl))) da_nil)) (da_cons (de_cal [false, false] c_read_sheet hg (hr.mono (by decide)) px (da_cons (de_name 3 (pe_var (i := 3) rfl (Or.inl rfl))) (da_cons (de_name 5 (pe_var (i := 5) rfl (Or.inl rfl))) da_nil))) da_nil))) (da_cons (de_lst (da_cons (de_name 5 (pe_var (i := 5) rfl (Or.inl rfl))) (da_cons (de_name 4 (pe_var (i := 4) rfl (Or.inl rfl))) da_nil))) da_nil)))))
    (dss_one (ds_ret de_bl))
    dss_nil))))))
    (dss_one (ds_ret de_bl))))
theorem k_law {P : Program} {w : World} {K : Frag} {mg : Str → Option Value} {base : Heap} (c_write_sheet : Cal P w K mg base 1 "write_sheet" ["sheet"] m_write_sheet) (c_read_sheet : Cal P w K mg base 34 "read_sheet" ["tree", "text"] m_read_sheet) (c__law_open : Cal P w K mg base 1 "_law_open" ["script"] m__law_open) (c__law_take : Cal P w K mg base 2 "_law_take" ["pen", "amount"] m__law_take) (c__law_same : Cal P w K mg base 30 "_law_same" ["found", "due"] (m__law_same 30)) (c__law_one_of : Cal P w K mg base 3 "_law_one_of" ["pen", "some"] m__law_one_of) (c__law_draw_tree : Cal P w K mg base 33 "_law_draw_tree" ["pen", "many"] m__law_draw_tree) (c__law_sides : Cal P w K mg base 32 "_law_sides" ["tree"] m__law_sides) (n_int : mg "int" = none) (n_list : mg "list" = none) (n_range : mg "range" = none) (n_tuple : mg "tuple" = none) {f : Addr} {fd : FuncData} (F : Fun K "law" "law" (topS 25) f fd) (hmg : mg "law" = some (.ref f)) (hk : PySem.W.keepIn K (.ref f) = true) (hb : Binds K fd ["script"] []) : Cal P w K mg base 35 "law" ["script"] m_law := cal_of F hmg hk hb scN_law (by decide) (b_law c_write_sheet c_read_sheet c__law_open c__law_take c__law_same c__law_one_of c__law_draw_tree c__law_sides n_int n_list n_range n_tuple)
theorem all_mk {l : PySem.W.OpenLaw} {w : World} {K : Frag} {h : Heap} {mg : Str → Option Value} {fa : Addr} (X : K.In h) (G : h.Ns mainGlobals mg) (hfa : mg "law" = some (.ref fa))
    {f4 : Addr} {od4 an4 : Option Addr} {sl4 : Array (Option Value)} {oc4 kV4 dc4 pm4 cd4 ct4 : Value}
    (a4 : PySem.W.nsIn K mainGlobals "is_integer" = some (some (.ref f4))) (l4 : K.lookup f4 = some ⟨oc4, od4, .func (PySem.W.fnOf "is_integer" "is_integer" (defArgs (topS 4)) (defBody (topS 4)) (defScope (topS 4)) .none kV4 dc4 pm4 an4 cd4 ct4), sl4⟩) (c4 : PySem.W.codeIn K cd4 "is_integer" = true) (k4 : PySem.W.keepIn K (.ref f4) = true)
    {f5 : Addr} {od5 an5 : Option Addr} {sl5 : Array (Option Value)} {oc5 kV5 dc5 pm5 cd5 ct5 : Value}
    (a5 : PySem.W.nsIn K mainGlobals "note_matches" = some (some (.ref f5))) (l5 : K.lookup f5 = some ⟨oc5, od5, .func (PySem.W.fnOf "note_matches" "note_matches" (defArgs (topS 5)) (defBody (topS 5)) (defScope (topS 5)) .none kV5 dc5 pm5 an5 cd5 ct5), sl5⟩) (c5 : PySem.W.codeIn K cd5 "note_matches" = true) (k5 : PySem.W.keepIn K (.ref f5) = true)
    {f6 : Addr} {od6 an6 : Option Addr} {sl6 : Array (Option Value)} {oc6 kV6 dc6 pm6 cd6 ct6 : Value}
    (a6 : PySem.W.nsIn K mainGlobals "matches" = some (some (.ref f6))) (l6 : K.lookup f6 = some ⟨oc6, od6, .func (PySem.W.fnOf "matches" "matches" (defArgs (topS 6)) (defBody (topS 6)) (defScope (topS 6)) .none kV6 dc6 pm6 an6 cd6 ct6), sl6⟩) (c6 : PySem.W.codeIn K cd6 "matches" = true) (k6 : PySem.W.keepIn K (.ref f6) = true)
    {f7 : Addr} {od7 an7 : Option Addr} {sl7 : Array (Option Value)} {oc7 kV7 dc7 pm7 cd7 ct7 : Value}
    (a7 : PySem.W.nsIn K mainGlobals "sides_of" = some (some (.ref f7))) (l7 : K.lookup f7 = some ⟨oc7, od7, .func (PySem.W.fnOf "sides_of" "sides_of" (defArgs (topS 7)) (defBody (topS 7)) (defScope (topS 7)) .none kV7 dc7 pm7 an7 cd7 ct7), sl7⟩) (c7 : PySem.W.codeIn K cd7 "sides_of" = true) (k7 : PySem.W.keepIn K (.ref f7) = true)
    {f9 : Addr} {od9 an9 : Option Addr} {sl9 : Array (Option Value)} {oc9 kV9 dc9 pm9 cd9 ct9 : Value}
    (a9 : PySem.W.nsIn K mainGlobals "is_sheet" = some (some (.ref f9))) (l9 : K.lookup f9 = some ⟨oc9, od9, .func (PySem.W.fnOf "is_sheet" "is_sheet" (defArgs (topS 9)) (defBody (topS 9)) (defScope (topS 9)) .none kV9 dc9 pm9 an9 cd9 ct9), sl9⟩) (c9 : PySem.W.codeIn K cd9 "is_sheet" = true) (k9 : PySem.W.keepIn K (.ref f9) = true)
    {f11 : Addr} {od11 an11 : Option Addr} {sl11 : Array (Option Value)} {oc11 kV11 dc11 pm11 cd11 ct11 : Value}
    (a11 : PySem.W.nsIn K mainGlobals "write_sheet" = some (some (.ref f11))) (l11 : K.lookup f11 = some ⟨oc11, od11, .func (PySem.W.fnOf "write_sheet" "write_sheet" (defArgs (topS 11)) (defBody (topS 11)) (defScope (topS 11)) .none kV11 dc11 pm11 an11 cd11 ct11), sl11⟩) (c11 : PySem.W.codeIn K cd11 "write_sheet" = true) (k11 : PySem.W.keepIn K (.ref f11) = true)
    {f12 : Addr} {od12 an12 : Option Addr} {sl12 : Array (Option Value)} {oc12 kV12 dc12 pm12 cd12 ct12 : Value}
    (a12 : PySem.W.nsIn K mainGlobals "is_number" = some (some (.ref f12))) (l12 : K.lookup f12 = some ⟨oc12, od12, .func (PySem.W.fnOf "is_number" "is_number" (defArgs (topS 12)) (defBody (topS 12)) (defScope (topS 12)) .none kV12 dc12 pm12 an12 cd12 ct12), sl12⟩) (c12 : PySem.W.codeIn K cd12 "is_number" = true) (k12 : PySem.W.keepIn K (.ref f12) = true)
    {f13 : Addr} {od13 an13 : Option Addr} {sl13 : Array (Option Value)} {oc13 kV13 dc13 pm13 cd13 ct13 : Value}
    (a13 : PySem.W.nsIn K mainGlobals "read_sheet" = some (some (.ref f13))) (l13 : K.lookup f13 = some ⟨oc13, od13, .func (PySem.W.fnOf "read_sheet" "read_sheet" (defArgs (topS 13)) (defBody (topS 13)) (defScope (topS 13)) .none kV13 dc13 pm13 an13 cd13 ct13), sl13⟩) (c13 : PySem.W.codeIn K cd13 "read_sheet" = true) (k13 : PySem.W.keepIn K (.ref f13) = true)
    {f15 : Addr} {od15 an15 : Option Addr} {sl15 : Array (Option Value)} {oc15 kV15 dc15 pm15 cd15 ct15 : Value}
    (a15 : PySem.W.nsIn K mainGlobals "_law_open" = some (some (.ref f15))) (l15 : K.lookup f15 = some ⟨oc15, od15, .func (PySem.W.fnOf "_law_open" "_law_open" (defArgs (topS 15)) (defBody (topS 15)) (defScope (topS 15)) .none kV15 dc15 pm15 an15 cd15 ct15), sl15⟩) (c15 : PySem.W.codeIn K cd15 "_law_open" = true) (k15 : PySem.W.keepIn K (.ref f15) = true)
    {f16 : Addr} {od16 an16 : Option Addr} {sl16 : Array (Option Value)} {oc16 kV16 dc16 pm16 cd16 ct16 : Value}
    (a16 : PySem.W.nsIn K mainGlobals "_law_spread" = some (some (.ref f16))) (l16 : K.lookup f16 = some ⟨oc16, od16, .func (PySem.W.fnOf "_law_spread" "_law_spread" (defArgs (topS 16)) (defBody (topS 16)) (defScope (topS 16)) .none kV16 dc16 pm16 an16 cd16 ct16), sl16⟩) (c16 : PySem.W.codeIn K cd16 "_law_spread" = true) (k16 : PySem.W.keepIn K (.ref f16) = true)
    {f17 : Addr} {od17 an17 : Option Addr} {sl17 : Array (Option Value)} {oc17 kV17 dc17 pm17 cd17 ct17 : Value}
    (a17 : PySem.W.nsIn K mainGlobals "_law_take" = some (some (.ref f17))) (l17 : K.lookup f17 = some ⟨oc17, od17, .func (PySem.W.fnOf "_law_take" "_law_take" (defArgs (topS 17)) (defBody (topS 17)) (defScope (topS 17)) .none kV17 dc17 pm17 an17 cd17 ct17), sl17⟩) (c17 : PySem.W.codeIn K cd17 "_law_take" = true) (k17 : PySem.W.keepIn K (.ref f17) = true)
    {f18 : Addr} {od18 an18 : Option Addr} {sl18 : Array (Option Value)} {oc18 kV18 dc18 pm18 cd18 ct18 : Value}
    (a18 : PySem.W.nsIn K mainGlobals "_law_same" = some (some (.ref f18))) (l18 : K.lookup f18 = some ⟨oc18, od18, .func (PySem.W.fnOf "_law_same" "_law_same" (defArgs (topS 18)) (defBody (topS 18)) (defScope (topS 18)) .none kV18 dc18 pm18 an18 cd18 ct18), sl18⟩) (c18 : PySem.W.codeIn K cd18 "_law_same" = true) (k18 : PySem.W.keepIn K (.ref f18) = true)
    {f19 : Addr} {od19 an19 : Option Addr} {sl19 : Array (Option Value)} {oc19 kV19 dc19 pm19 cd19 ct19 : Value}
    (a19 : PySem.W.nsIn K mainGlobals "_law_one_of" = some (some (.ref f19))) (l19 : K.lookup f19 = some ⟨oc19, od19, .func (PySem.W.fnOf "_law_one_of" "_law_one_of" (defArgs (topS 19)) (defBody (topS 19)) (defScope (topS 19)) .none kV19 dc19 pm19 an19 cd19 ct19), sl19⟩) (c19 : PySem.W.codeIn K cd19 "_law_one_of" = true) (k19 : PySem.W.keepIn K (.ref f19) = true)
    {f20 : Addr} {od20 an20 : Option Addr} {sl20 : Array (Option Value)} {oc20 kV20 dc20 pm20 cd20 ct20 : Value}
    (a20 : PySem.W.nsIn K mainGlobals "_law_grown" = some (some (.ref f20))) (l20 : K.lookup f20 = some ⟨oc20, od20, .func (PySem.W.fnOf "_law_grown" "_law_grown" (defArgs (topS 20)) (defBody (topS 20)) (defScope (topS 20)) .none kV20 dc20 pm20 an20 cd20 ct20), sl20⟩) (c20 : PySem.W.codeIn K cd20 "_law_grown" = true) (k20 : PySem.W.keepIn K (.ref f20) = true)
    {f21 : Addr} {od21 an21 : Option Addr} {sl21 : Array (Option Value)} {oc21 kV21 dc21 pm21 cd21 ct21 : Value}
    (a21 : PySem.W.nsIn K mainGlobals "_law_draw_tree" = some (some (.ref f21))) (l21 : K.lookup f21 = some ⟨oc21, od21, .func (PySem.W.fnOf "_law_draw_tree" "_law_draw_tree" (defArgs (topS 21)) (defBody (topS 21)) (defScope (topS 21)) .none kV21 dc21 pm21 an21 cd21 ct21), sl21⟩) (c21 : PySem.W.codeIn K cd21 "_law_draw_tree" = true) (k21 : PySem.W.keepIn K (.ref f21) = true)
    {f22 : Addr} {od22 an22 : Option Addr} {sl22 : Array (Option Value)} {oc22 kV22 dc22 pm22 cd22 ct22 : Value}
    (a22 : PySem.W.nsIn K mainGlobals "_law_note" = some (some (.ref f22))) (l22 : K.lookup f22 = some ⟨oc22, od22, .func (PySem.W.fnOf "_law_note" "_law_note" (defArgs (topS 22)) (defBody (topS 22)) (defScope (topS 22)) .none kV22 dc22 pm22 an22 cd22 ct22), sl22⟩) (c22 : PySem.W.codeIn K cd22 "_law_note" = true) (k22 : PySem.W.keepIn K (.ref f22) = true)
    {f23 : Addr} {od23 an23 : Option Addr} {sl23 : Array (Option Value)} {oc23 kV23 dc23 pm23 cd23 ct23 : Value}
    (a23 : PySem.W.nsIn K mainGlobals "_law_matches" = some (some (.ref f23))) (l23 : K.lookup f23 = some ⟨oc23, od23, .func (PySem.W.fnOf "_law_matches" "_law_matches" (defArgs (topS 23)) (defBody (topS 23)) (defScope (topS 23)) .none kV23 dc23 pm23 an23 cd23 ct23), sl23⟩) (c23 : PySem.W.codeIn K cd23 "_law_matches" = true) (k23 : PySem.W.keepIn K (.ref f23) = true)
    {f24 : Addr} {od24 an24 : Option Addr} {sl24 : Array (Option Value)} {oc24 kV24 dc24 pm24 cd24 ct24 : Value}
    (a24 : PySem.W.nsIn K mainGlobals "_law_sides" = some (some (.ref f24))) (l24 : K.lookup f24 = some ⟨oc24, od24, .func (PySem.W.fnOf "_law_sides" "_law_sides" (defArgs (topS 24)) (defBody (topS 24)) (defScope (topS 24)) .none kV24 dc24 pm24 an24 cd24 ct24), sl24⟩) (c24 : PySem.W.codeIn K cd24 "_law_sides" = true) (k24 : PySem.W.keepIn K (.ref f24) = true)
    {f25 : Addr} {od25 an25 : Option Addr} {sl25 : Array (Option Value)} {oc25 kV25 dc25 pm25 cd25 ct25 : Value}
    (a25 : PySem.W.nsIn K mainGlobals "law" = some (some (.ref f25))) (l25 : K.lookup f25 = some ⟨oc25, od25, .func (PySem.W.fnOf "law" "law" (defArgs (topS 25)) (defBody (topS 25)) (defScope (topS 25)) .none kV25 dc25 pm25 an25 cd25 ct25), sl25⟩) (c25 : PySem.W.codeIn K cd25 "law" = true) (k25 : PySem.W.keepIn K (.ref f25) = true)
    (z_all : PySem.W.nsIn K mainGlobals "all" = some none)
    (z_bool : PySem.W.nsIn K mainGlobals "bool" = some none)
    (z_enumerate : PySem.W.nsIn K mainGlobals "enumerate" = some none)
    (z_int : PySem.W.nsIn K mainGlobals "int" = some none)
    (z_isinstance : PySem.W.nsIn K mainGlobals "isinstance" = some none)
    (z_len : PySem.W.nsIn K mainGlobals "len" = some none)
    (z_list : PySem.W.nsIn K mainGlobals "list" = some none)
    (z_range : PySem.W.nsIn K mainGlobals "range" = some none)
    (z_sorted : PySem.W.nsIn K mainGlobals "sorted" = some none)
    (z_str : PySem.W.nsIn K mainGlobals "str" = some none)
    (z_tuple : PySem.W.nsIn K mainGlobals "tuple" = some none)
    (z_zip : PySem.W.nsIn K mainGlobals "zip" = some none)
    : ∃ fd : FuncData, (∀ (s : Shared) (v : Value), BindsTo s fd ⟨[v], []⟩ [("script", v)]) ∧ ∀ base : Heap, K.In base → base.Ns mainGlobals mg → base.NoDigits → FnG l.prog w K mg base 35 fa fd ["script"] (spD K mg m_law) := by
  have e := hfa.symm.trans (PySem.W.mg_of X G a25)
  cases e
  refine ⟨PySem.W.fnOf "law" "law" (defArgs (topS 25)) (defBody (topS 25)) (defScope (topS 25)) .none kV25 dc25 pm25 an25 cd25 ct25, fun s v => .of_eq rfl, fun base _ _ hD => ?_⟩
  have n_all := PySem.W.mg_none_of X G z_all
  have n_bool := PySem.W.mg_none_of X G z_bool
  have n_enumerate := PySem.W.mg_none_of X G z_enumerate
  have n_int := PySem.W.mg_none_of X G z_int
  have n_isinstance := PySem.W.mg_none_of X G z_isinstance
  have n_len := PySem.W.mg_none_of X G z_len
  have n_list := PySem.W.mg_none_of X G z_list
  have n_range := PySem.W.mg_none_of X G z_range
  have n_sorted := PySem.W.mg_none_of X G z_sorted
  have n_str := PySem.W.mg_none_of X G z_str
  have n_tuple := PySem.W.mg_none_of X G z_tuple
  have n_zip := PySem.W.mg_none_of X G z_zip
  have F4 := fun_mk (st := topS 4) l4 c4 k4
  have b4 := F4.binds (ps := ["value", "low", "high"]) fun _ _ _ _ _ _ us hl => match us, hl with | [_, _, _], _ => rfl
  have c_is_integer : Cal l.prog w K mg base 1 "is_integer" ["value", "low", "high"] m_is_integer := k_is_integer n_bool n_int n_isinstance F4 (PySem.W.mg_of X G a4) k4 b4
  have F5 := fun_mk (st := topS 5) l5 c5 k5
  have b5 := F5.binds (ps := ["tree", "found"]) fun _ _ _ _ _ _ us hl => match us, hl with | [_, _], _ => rfl
  have c_note_matches : Cal l.prog w K mg base 30 "note_matches" ["tree", "found"] (m_note_matches 30) := k_note_matches n_isinstance n_len n_tuple F5 (PySem.W.mg_of X G a5) k5 b5
  have F6 := fun_mk (st := topS 6) l6 c6 k6
  have b6 := F6.binds (ps := ["tree"]) fun _ _ _ _ _ _ us hl => match us, hl with | [_], _ => rfl
  have c_matches : Cal l.prog w K mg base 31 "matches" ["tree"] m_matches := k_matches c_note_matches F6 (PySem.W.mg_of X G a6) k6 b6
  have F7 := fun_mk (st := topS 7) l7 c7 k7
  have b7 := F7.binds (ps := ["tree"]) fun _ _ _ _ _ _ us hl => match us, hl with | [_], _ => rfl
  have c_sides_of : Cal l.prog w K mg base 32 "sides_of" ["tree"] m_sides_of := k_sides_of c_matches n_sorted n_tuple F7 (PySem.W.mg_of X G a7) k7 b7
  have F9 := fun_mk (st := topS 9) l9 c9 k9
  have b9 := F9.binds (ps := ["tree", "value"]) fun _ _ _ _ _ _ us hl => match us, hl with | [_, _], _ => rfl
  have c_is_sheet : Cal l.prog w K mg base 33 "is_sheet" ["tree", "value"] m_is_sheet := k_is_sheet c_is_integer c_sides_of n_all n_isinstance n_len n_tuple n_zip F9 (PySem.W.mg_of X G a9) k9 b9
  have F11 := fun_mk (st := topS 11) l11 c11 k11
  have b11 := F11.binds (ps := ["sheet"]) fun _ _ _ _ _ _ us hl => match us, hl with | [_], _ => rfl
  have c_write_sheet : Cal l.prog w K mg base 1 "write_sheet" ["sheet"] m_write_sheet := k_write_sheet n_str F11 (PySem.W.mg_of X G a11) k11 b11
  have F12 := fun_mk (st := topS 12) l12 c12 k12
  have b12 := F12.binds (ps := ["word"]) fun _ _ _ _ _ _ us hl => match us, hl with | [_], _ => rfl
  have c_is_number : Cal l.prog w K mg base 1 "is_number" ["word"] m_is_number := k_is_number n_all n_len F12 (PySem.W.mg_of X G a12) k12 b12
  have F13 := fun_mk (st := topS 13) l13 c13 k13
  have b13 := F13.binds (ps := ["tree", "text"]) fun _ _ _ _ _ _ us hl => match us, hl with | [_, _], _ => rfl
  have c_read_sheet : Cal l.prog w K mg base 34 "read_sheet" ["tree", "text"] m_read_sheet := k_read_sheet c_is_sheet c_write_sheet c_is_number n_all n_int n_isinstance n_str n_tuple F13 (PySem.W.mg_of X G a13) k13 b13
  have F15 := fun_mk (st := topS 15) l15 c15 k15
  have b15 := F15.binds (ps := ["script"]) fun _ _ _ _ _ _ us hl => match us, hl with | [_], _ => rfl
  have c__law_open : Cal l.prog w K mg base 1 "_law_open" ["script"] m__law_open := k__law_open n_enumerate n_int n_list F15 (PySem.W.mg_of X G a15) k15 b15
  have F16 := fun_mk (st := topS 16) l16 c16 k16
  have b16 := F16.binds (ps := ["cell", "at"]) fun _ _ _ _ _ _ us hl => match us, hl with | [_, _], _ => rfl
  have c__law_spread : Cal l.prog w K mg base 1 "_law_spread" ["cell", "at"] m__law_spread := k__law_spread n_int F16 (PySem.W.mg_of X G a16) k16 b16
  have F17 := fun_mk (st := topS 17) l17 c17 k17
  have b17 := F17.binds (ps := ["pen", "amount"]) fun _ _ _ _ _ _ us hl => match us, hl with | [_, _], _ => rfl
  have c__law_take : Cal l.prog w K mg base 2 "_law_take" ["pen", "amount"] m__law_take := k__law_take c__law_spread n_int n_len F17 (PySem.W.mg_of X G a17) k17 b17
  have F18 := fun_mk (st := topS 18) l18 c18 k18
  have b18 := F18.binds (ps := ["found", "due"]) fun _ _ _ _ _ _ us hl => match us, hl with | [_, _], _ => rfl
  have c__law_same : Cal l.prog w K mg base 30 "_law_same" ["found", "due"] (m__law_same 30) := k__law_same n_bool n_int n_isinstance n_len n_list n_str n_tuple n_zip F18 (PySem.W.mg_of X G a18) k18 b18
  have F19 := fun_mk (st := topS 19) l19 c19 k19
  have b19 := F19.binds (ps := ["pen", "some"]) fun _ _ _ _ _ _ us hl => match us, hl with | [_, _], _ => rfl
  have c__law_one_of : Cal l.prog w K mg base 3 "_law_one_of" ["pen", "some"] m__law_one_of := k__law_one_of c__law_take n_len F19 (PySem.W.mg_of X G a19) k19 b19
  have F20 := fun_mk (st := topS 20) l20 c20 k20
  have b20 := F20.binds (ps := ["pen", "sides", "way"]) fun _ _ _ _ _ _ us hl => match us, hl with | [_, _, _], _ => rfl
  have c__law_grown : Cal l.prog w K mg base 32 "_law_grown" ["pen", "sides", "way"] (m__law_grown 30) := k__law_grown c__law_take n_len F20 (PySem.W.mg_of X G a20) k20 b20
  have F21 := fun_mk (st := topS 21) l21 c21 k21
  have b21 := F21.binds (ps := ["pen", "many"]) fun _ _ _ _ _ _ us hl => match us, hl with | [_, _], _ => rfl
  have c__law_draw_tree : Cal l.prog w K mg base 33 "_law_draw_tree" ["pen", "many"] m__law_draw_tree := k__law_draw_tree c__law_take c__law_one_of c__law_grown n_len n_list n_range F21 (PySem.W.mg_of X G a21) k21 b21
  have F22 := fun_mk (st := topS 22) l22 c22 k22
  have b22 := F22.binds (ps := ["tree", "found"]) fun _ _ _ _ _ _ us hl => match us, hl with | [_, _], _ => rfl
  have c__law_note : Cal l.prog w K mg base 30 "_law_note" ["tree", "found"] (m__law_note 30) := k__law_note n_int n_isinstance n_len F22 (PySem.W.mg_of X G a22) k22 b22
  have F23 := fun_mk (st := topS 23) l23 c23 k23
  have b23 := F23.binds (ps := ["tree"]) fun _ _ _ _ _ _ us hl => match us, hl with | [_], _ => rfl
  have c__law_matches : Cal l.prog w K mg base 31 "_law_matches" ["tree"] m__law_matches := k__law_matches c__law_note F23 (PySem.W.mg_of X G a23) k23 b23
  have F24 := fun_mk (st := topS 24) l24 c24 k24
  have b24 := F24.binds (ps := ["tree"]) fun _ _ _ _ _ _ us hl => match us, hl with | [_], _ => rfl
  have c__law_sides : Cal l.prog w K mg base 32 "_law_sides" ["tree"] m__law_sides := k__law_sides c__law_matches n_list n_sorted n_tuple F24 (PySem.W.mg_of X G a24) k24 b24
  have F25 := fun_mk (st := topS 25) l25 c25 k25
  have b25 := F25.binds (ps := ["script"]) fun _ _ _ _ _ _ us hl => match us, hl with | [_], _ => rfl
  exact fnD_of F25 scN_law (by decide) (b_law c_write_sheet c_read_sheet c__law_open c__law_take c__law_same c__law_one_of c__law_draw_tree c__law_sides n_int n_list n_range n_tuple)
end DL
open PySem PySem.W PyProof.Rows in
set_option maxRecDepth 100000 in
set_option maxHeartbeats 0 in
theorem PySem.Challenge.cw_poolhopes_k50_sheets_written_and_read_holds : PySem.Challenge.rw_poolhopes_k50_sheets_written_and_read.Holds := by
  w_on; o_law; k_head; (case hw => w_witness2)
  k_fill
  refine DL.walkG (l := PySem.Challenge.rw_poolhopes_k50_sheets_written_and_read) (n := 63) (k := 35) (xN := "script") (ml := DL.m_law) rfl (by decide) rfl ⟨rfl, by decide, by decide⟩ (fun w h Y => PySem.W.kIn_of Y) ?F DL.law_true
  case F =>
    intro w mg fa h KX G hmg
    refine' DL.all_mk KX G hmg ?a4 ?l4 ?c4 ?k4 ?a5 ?l5 ?c5 ?k5 ?a6 ?l6 ?c6 ?k6 ?a7 ?l7 ?c7 ?k7 ?a9 ?l9 ?c9 ?k9 ?a11 ?l11 ?c11 ?k11 ?a12 ?l12 ?c12 ?k12 ?a13 ?l13 ?c13 ?k13 ?a15 ?l15 ?c15 ?k15 ?a16 ?l16 ?c16 ?k16 ?a17 ?l17 ?c17 ?k17 ?a18 ?l18 ?c18 ?k18 ?a19 ?l19 ?c19 ?k19 ?a20 ?l20 ?c20 ?k20 ?a21 ?l21 ?c21 ?k21 ?a22 ?l22 ?c22 ?k22 ?a23 ?l23 ?c23 ?k23 ?a24 ?l24 ?c24 ?k24 ?a25 ?l25 ?c25 ?k25 ?z_all ?z_bool ?z_enumerate ?z_int ?z_isinstance ?z_len ?z_list ?z_range ?z_sorted ?z_str ?z_tuple ?z_zip
    (case a4 => k_is)
    (case l4 => k_is)
    (case c4 => k_is)
    (case k4 => k_is)
    (case a5 => k_is)
    (case l5 => k_is)
    (case c5 => k_is)
    (case k5 => k_is)
    (case a6 => k_is)
    (case l6 => k_is)
    (case c6 => k_is)
    (case k6 => k_is)
    (case a7 => k_is)
    (case l7 => k_is)
    (case c7 => k_is)
    (case k7 => k_is)
    (case a9 => k_is)
    (case l9 => k_is)
    (case c9 => k_is)
    (case k9 => k_is)
    (case a11 => k_is)
    (case l11 => k_is)
    (case c11 => k_is)
    (case k11 => k_is)
    (case a12 => k_is)
    (case l12 => k_is)
    (case c12 => k_is)
    (case k12 => k_is)
    (case a13 => k_is)
    (case l13 => k_is)
    (case c13 => k_is)
    (case k13 => k_is)
    (case a15 => k_is)
    (case l15 => k_is)
    (case c15 => k_is)
    (case k15 => k_is)
    (case a16 => k_is)
    (case l16 => k_is)
    (case c16 => k_is)
    (case k16 => k_is)
    (case a17 => k_is)
    (case l17 => k_is)
    (case c17 => k_is)
    (case k17 => k_is)
    (case a18 => k_is)
    (case l18 => k_is)
    (case c18 => k_is)
    (case k18 => k_is)
    (case a19 => k_is)
    (case l19 => k_is)
    (case c19 => k_is)
    (case k19 => k_is)
    (case a20 => k_is)
    (case l20 => k_is)
    (case c20 => k_is)
    (case k20 => k_is)
    (case a21 => k_is)
    (case l21 => k_is)
    (case c21 => k_is)
    (case k21 => k_is)
    (case a22 => k_is)
    (case l22 => k_is)
    (case c22 => k_is)
    (case k22 => k_is)
    (case a23 => k_is)
    (case l23 => k_is)
    (case c23 => k_is)
    (case k23 => k_is)
    (case a24 => k_is)
    (case l24 => k_is)
    (case c24 => k_is)
    (case k24 => k_is)
    (case a25 => k_is)
    (case l25 => k_is)
    (case c25 => k_is)
    (case k25 => k_is)
    (case z_all => k_is)
    (case z_bool => k_is)
    (case z_enumerate => k_is)
    (case z_int => k_is)
    (case z_isinstance => k_is)
    (case z_len => k_is)
    (case z_list => k_is)
    (case z_range => k_is)
    (case z_sorted => k_is)
    (case z_str => k_is)
    (case z_tuple => k_is)
    (case z_zip => k_is)
