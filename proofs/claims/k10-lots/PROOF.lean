import PyProof.Rows.All
import Wide.All
import OpenK.AllK
import Wide.FinOn
import HandS.ForMost
import HandS.Wide
import HandS.WideBits
import HandS.TupAny
import HandS.TupMul
import HandS.Style
import HandS.Deep
import PyProof.WalkInts
import PyProof.Rows.SumAny
import HandS.SortInts
import HandS.IsInst
import HandS.SetFor
import KE.SortData
import HandS.Zip
import HandS.Rev
import HandS.RevRange
import KE.GoesEnum
import HandS.DictComp
import PyProof.FactsAll.tuple_2
import HandS.EndBits
import PySem.Challenge.RW_sumwright_k10_lots_of_many_things
set_option Elab.async false
set_option linter.all false
set_option maxRecDepth 100000
set_option maxHeartbeats 4000000
/-! DCore: data D over the hand layer: frozen data, owned lists, the law's state; canonical readings of expressions and statements over data. -/
namespace DL
open PySem L2

/-- plain data; sta: the law's state object -/
inductive D where
  | non | bl (b : Bool) | int (i : Int) | str (x : Str) | lst (ds : List D) | tup (ds : List D) | sta

abbrev ZZ := Option (Addr × Addr)

mutual
inductive Rp (Z : ZZ) (F : Hp) : V → D → Prop
  | non : Rp Z F .non .non
  | bl (b : Bool) : Rp Z F (.bl b) (.bl b)
  | int (i : Int) : Rp Z F (.int i) (.int i)
  | str (x : Str) : Rp Z F (.str x) (.str x)
  | lst {a : Addr} {xs : List V} {ds : List D} : F a = some (.lst xs) → RpA Z F xs ds → Rp Z F (.ref a) (.lst ds)
  | tup {a : Addr} {xs : List V} {ds : List D} : F a = some (.tup xs) → RpA Z F xs ds → Rp Z F (.ref a) (.tup ds)
  | sta {s c : Addr} : Z = some (s, c) → Rp Z F (.ref s) .sta
inductive RpA (Z : ZZ) (F : Hp) : List V → List D → Prop
  | nil : RpA Z F [] []
  | cons {v : V} {vs : List V} {d : D} {ds : List D} : Rp Z F v d → RpA Z F vs ds → RpA Z F (v :: vs) (d :: ds)
end

mutual
theorem Rp.mono {Z : ZZ} {F F' : Hp} (s : Same F F') : ∀ {v : V} {d : D}, Rp Z F v d → Rp Z F' v d
  | _, _, .non => .non
  | _, _, .bl b => .bl b
  | _, _, .int i => .int i
  | _, _, .str x => .str x
  | _, _, .lst h r => .lst (s _ _ h) (RpA.mono s r)
  | _, _, .tup h r => .tup (s _ _ h) (RpA.mono s r)
  | _, _, .sta h => .sta h
theorem RpA.mono {Z : ZZ} {F F' : Hp} (s : Same F F') : ∀ {vs : List V} {ds : List D}, RpA Z F vs ds → RpA Z F' vs ds
  | _, _, .nil => .nil
  | _, _, .cons h r => .cons (Rp.mono s h) (RpA.mono s r)
end
section
variable {Z : ZZ} {F : Hp}
theorem RpA.length : ∀ {vs : List V} {ds : List D}, RpA Z F vs ds → vs.length = ds.length
  | _, _, .nil => rfl
  | _, _, .cons _ r => congrArg (· + 1) r.length
theorem RpA.get : ∀ {vs : List V} {ds : List D} {i : Nat} {d : D}, RpA Z F vs ds → ds[i]? = some d → ∃ v, vs[i]? = some v ∧ Rp Z F v d
  | _, _, i, d, .nil, e => by simp at e
  | _, _, 0, d, .cons h _, e => by
    simp at e
    subst e
    exact ⟨_, rfl, h⟩
  | _, _, i + 1, d, .cons _ r, e => by
    obtain ⟨v, h1, h2⟩ := RpA.get (i := i) (d := d) r (by simpa using e)
    exact ⟨v, by simpa using h1, h2⟩
theorem RpA.getV : ∀ {vs : List V} {ds : List D} {i : Nat} {v : V}, RpA Z F vs ds → vs[i]? = some v → ∃ d, ds[i]? = some d ∧ Rp Z F v d
  | _, _, i, v, .nil, e => by simp at e
  | _, _, 0, v, .cons h _, e => by
    simp at e
    subst e
    exact ⟨_, rfl, h⟩
  | _, _, i + 1, v, .cons _ r, e => by
    obtain ⟨d, h1, h2⟩ := RpA.getV (i := i) (v := v) r (by simpa using e)
    exact ⟨d, by simpa using h1, h2⟩
theorem RpA.append : ∀ {vs ws : List V} {ds es : List D}, RpA Z F vs ds → RpA Z F ws es → RpA Z F (vs ++ ws) (ds ++ es)
  | _, _, _, _, .nil, s => s
  | _, _, _, _, .cons h r, s => .cons h (RpA.append r s)
theorem RpA.one {v : V} {d : D} (h : Rp Z F v d) : RpA Z F [v] [d] := .cons h .nil
theorem RpA.take : ∀ {vs : List V} {ds : List D} (n : Nat), RpA Z F vs ds → RpA Z F (vs.take n) (ds.take n)
  | _, _, 0, _ => .nil
  | _, _, _ + 1, .nil => .nil
  | _, _, n + 1, .cons h r => .cons h (RpA.take n r)
theorem RpA.drop : ∀ {vs : List V} {ds : List D} (n : Nat), RpA Z F vs ds → RpA Z F (vs.drop n) (ds.drop n)
  | _, _, 0, r => r
  | _, _, _ + 1, .nil => .nil
  | _, _, n + 1, .cons _ r => RpA.drop n r
theorem RpA.set {v : V} {d : D} (h : Rp Z F v d) : ∀ {vs : List V} {ds : List D} (i : Nat), RpA Z F vs ds → RpA Z F (vs.set i v) (ds.set i d)
  | _, _, _, .nil => .nil
  | _, _, 0, .cons _ r => .cons h r
  | _, _, i + 1, .cons q r => .cons q (RpA.set h i r)
theorem RpA.eraseIdx : ∀ {vs : List V} {ds : List D} (i : Nat), RpA Z F vs ds → RpA Z F (vs.eraseIdx i) (ds.eraseIdx i)
  | _, _, _, .nil => .nil
  | _, _, 0, .cons _ r => r
  | _, _, i + 1, .cons q r => .cons q (RpA.eraseIdx i r)
theorem RpA.reverse : ∀ {vs : List V} {ds : List D}, RpA Z F vs ds → RpA Z F vs.reverse ds.reverse
  | _, _, .nil => .nil
  | _, _, .cons h r => by
    rw [List.reverse_cons, List.reverse_cons]
    exact (RpA.reverse r).append (.one h)
theorem RpA.dropLast {vs : List V} {ds : List D} (r : RpA Z F vs ds) : RpA Z F vs.dropLast ds.dropLast := by
  rw [List.dropLast_eq_take, List.dropLast_eq_take, r.length]
  exact r.take _
theorem RpA.ints (ns : List Int) : RpA Z F (ns.map V.int) (ns.map D.int) := by
  induction ns with
  | nil => exact .nil
  | cons n r ih => exact .cons (.int n) ih
theorem RpA.ints_eq : ∀ {vs : List V} {ns : List Int}, RpA Z F vs (ns.map D.int) → vs = ns.map V.int
  | _, [], .nil => rfl
  | _, n :: r, .cons h t => by
    cases h
    rw [RpA.ints_eq t]
    rfl
theorem Rp.int_eq {v : V} {i : Int} (h : Rp Z F v (.int i)) : v = .int i := by cases h; rfl
theorem Rp.bl_eq {v : V} {b : Bool} (h : Rp Z F v (.bl b)) : v = .bl b := by cases h; rfl
theorem Rp.non_eq {v : V} (h : Rp Z F v .non) : v = .non := by cases h; rfl
theorem Rp.str_eq {v : V} {x : Str} (h : Rp Z F v (.str x)) : v = .str x := by cases h; rfl
end

/-- what an owned object holds -/
inductive OC where
  | lst (ds : List D) | dk (kvs : List (Key × D)) | dt (kvs : List (List Key × D))
def RpO (Z : ZZ) (F : Hp) : HO → OC → Prop
  | .lst xs, .lst ds => RpA Z F xs ds
  | .dK kvs, .dk kds => Paired (fun (p : Key × V) (q : Key × D) => p.1 = q.1 ∧ Rp Z F p.2 q.2) kvs kds
  | .dT kvs, .dt kds => Paired (fun (p : List Key × V) (q : List Key × D) => p.1 = q.1 ∧ Rp Z F p.2 q.2) kvs kds
  | _, _ => False
theorem RpO.mono {Z : ZZ} {F F' : Hp} (s : Same F F') : ∀ {o : HO} {c : OC}, RpO Z F o c → RpO Z F' o c := by
  intro o c h
  cases o <;> cases c <;> first
    | exact (show False from h).elim
    | exact RpA.mono s h
    | exact Paired.mapP h fun p q z => ⟨z.1, Rp.mono s z.2⟩
theorem RpO.lst_of {Z : ZZ} {F : Hp} {o : HO} {ds : List D} (h : RpO Z F o (.lst ds)) : ∃ xs, o = .lst xs ∧ RpA Z F xs ds := by
  cases o <;> first
    | exact ⟨_, rfl, h⟩
    | exact (show False from h).elim

inductive Cel where
  | un | d (d : D) | own (c : OC)
abbrev SE := List Cel
inductive Val where
  | dat (d : D) | new (c : OC) | loc (i : Nat)

/-- the place in the heap: the law's state, the heap at the entry and its frozen part -/
structure Bas where
  Z : ZZ
  F0 : Hp
  H0 : Hp
def ZA (Z : ZZ) (a : Addr) : Prop := ∃ s c, Z = some (s, c) ∧ (a = s ∨ a = c)
def StOk (Z : ZZ) (H : Hp) : Prop := ∀ s c, Z = some (s, c) → s ≠ c ∧ ∃ (m : Int) (cells : List Int), H s = some (.lst [.ref c, .int m]) ∧ H c = some (.lst (cells.map V.int)) ∧ (0 ≤ m ∧ m < 4294967296) ∧ ∀ x ∈ cells, 0 ≤ x
theorem StOk.there {Z : ZZ} {H : Hp} (h : StOk Z H) {a : Addr} (z : ZA Z a) : ∃ o, H a = some o := by
  obtain ⟨s, c, e, q⟩ := z
  obtain ⟨_, m, cells, h1, h2, _⟩ := h s c e
  rcases q with q | q
  · rw [q]; exact ⟨_, h1⟩
  · rw [q]; exact ⟨_, h2⟩
theorem StOk.keep {Z : ZZ} {H H' : Hp} (h : StOk Z H) (k : ∀ a o, ZA Z a → H a = some o → H' a = some o) : StOk Z H' := fun s c e => by
  obtain ⟨ne, m, cells, h1, h2, h3⟩ := h s c e
  exact ⟨ne, m, cells, k _ _ ⟨s, c, e, .inl rfl⟩ h1, k _ _ ⟨s, c, e, .inr rfl⟩ h2, h3⟩
theorem StOk.none {H : Hp} : StOk none H := fun _ _ e => by cases e

def Owns (env : SE) (σ : St) (a : Addr) : Prop := ∃ (i : Nat) (c : OC), env[i]? = some (.own c) ∧ σ[i]? = some (some (.ref a))

structure Hld (B : Bas) (env : SE) (σ : St) (F H : Hp) : Prop where
  len : env.length = σ.length
  sub : Same F H
  exF : Same B.F0 F
  keep : ∀ a o, B.H0 a = some o → ¬ ZA B.Z a → H a = some o
  out : ∀ a o, B.H0 a = some o → B.F0 a = none → F a = none
  zok : StOk B.Z H
  zin : ∀ a, ZA B.Z a → ∃ o, B.H0 a = some o
  znf : ∀ a, ZA B.Z a → F a = none
  dat : ∀ (i : Nat) (d : D), env[i]? = some (.d d) → ∃ v, σ[i]? = some (some v) ∧ Rp B.Z F v d
  own : ∀ (i : Nat) (c : OC), env[i]? = some (.own c) → ∃ o ho, σ[i]? = some (some (.ref o)) ∧ F o = none ∧ B.H0 o = none ∧ H o = some ho ∧ RpO B.Z F ho c
  sep : ∀ (i j : Nat) (o : Addr) (c c' : OC), env[i]? = some (.own c) → env[j]? = some (.own c') → σ[i]? = some (some (.ref o)) → σ[j]? = some (some (.ref o)) → i = j

structure Mov (B : Bas) (env env' : SE) (σ : St) (F H F' H' : Hp) : Prop where
  ex : Same F F'
  keep : ∀ a o, H a = some o → ¬ ZA B.Z a → ¬ Owns env σ a → H' a = some o
  out : ∀ a o, H a = some o → F a = none → ¬ ZA B.Z a → ¬ Owns env σ a → F' a = none
  own : ∀ a, Owns env' σ a → Owns env σ a
  there : ∀ a o, H a = some o → ∃ o', H' a = some o'

def VR (B : Bas) (σ : St) (F' H H' : Hp) (v : V) : Val → Prop
  | .dat d => Rp B.Z F' v d
  | .loc i => σ[i]? = some (some v)
  | .new c => ∃ p ho, v = .ref p ∧ H p = none ∧ F' p = none ∧ H' p = some ho ∧ RpO B.Z F' ho c

/-- what a value shows at the top, the heap read as it stands -/
def RW (Z : ZZ) (F H : Hp) (v : V) : D → Prop
  | .lst ds => ∃ a xs, v = .ref a ∧ H a = some (.lst xs) ∧ RpA Z F xs ds
  | d => Rp Z F v d
theorem RW.tup {Z : ZZ} {F H : Hp} {v : V} {ds : List D} (h : RW Z F H v (.tup ds)) : ∃ a xs, v = .ref a ∧ F a = some (.tup xs) ∧ RpA Z F xs ds := by
  cases (show Rp Z F v (.tup ds) from h) with
  | tup e r => exact ⟨_, _, rfl, e, r⟩
theorem RW.of {Z : ZZ} {F H : Hp} {v : V} {d : D} (s : Same F H) (h : Rp Z F v d) : RW Z F H v d := by
  cases h with
  | lst e r => exact ⟨_, _, rfl, s _ _ e, r⟩
  | tup e r => exact Rp.tup e r
  | non => exact Rp.non
  | bl b => exact Rp.bl b
  | int i => exact Rp.int i
  | str x => exact Rp.str x
  | sta e => exact Rp.sta e

section
variable {B : Bas} {env env' env1 env2 : SE} {σ : St} {F H F' H' F1 H1 F2 H2 : Hp} {v : V} {x : Val}
theorem Hld.own_no (G : Hld B env σ F H) {a : Addr} (h : Owns env σ a) : F a = none ∧ B.H0 a = none ∧ ¬ ZA B.Z a ∧ ∃ ho, H a = some ho := by
  obtain ⟨i, c, e1, e2⟩ := h
  obtain ⟨o, ho, e3, h1, h2, h3, _⟩ := G.own i c e1
  rw [e2] at e3
  cases e3
  refine ⟨h1, h2, fun z => ?_, _, h3⟩
  obtain ⟨u, q⟩ := G.zin a z
  rw [h2] at q
  cases q
theorem Mov.refl : Mov B env env σ F H F H := ⟨Same.refl F, fun _ _ h _ _ => h, fun _ _ _ h _ _ => h, fun _ h => h, fun _ o h => ⟨o, h⟩⟩
theorem Mov.trans (s : Mov B env env1 σ F H F1 H1) (t : Mov B env1 env2 σ F1 H1 F2 H2) : Mov B env env2 σ F H F2 H2 where
  ex := s.ex.trans t.ex
  keep := fun a o h z n => t.keep a o (s.keep a o h z n) z fun q => n (s.own a q)
  out := fun a o h f z n => t.out a o (s.keep a o h z n) (s.out a o h f z n) z fun q => n (s.own a q)
  own := fun a h => s.own a (t.own a h)
  there := fun a o h => by
    obtain ⟨o1, h1⟩ := s.there a o h
    exact t.there a o1 h1
/-- a value in flight stays what it is -/
theorem VR.shift (G : Hld B env σ F H) (s : Mov B env env1 σ F H F1 H1) (t : Mov B env1 env2 σ F1 H1 F2 H2) (r : VR B σ F1 H H1 v x) : VR B σ F2 H H2 v x := by
  cases x with
  | dat d => exact Rp.mono t.ex r
  | loc i => exact r
  | new c =>
    obtain ⟨p, ho, e, h0, hf, h1, hr⟩ := r
    have nz : ¬ ZA B.Z p := fun z => by
      obtain ⟨o, q⟩ := G.zok.there z
      rw [h0] at q
      cases q
    have no : ¬ Owns env1 σ p := fun z => by
      obtain ⟨_, _, _, ho, q⟩ := G.own_no (s.own p z)
      rw [h0] at q
      cases q
    exact ⟨p, ho, e, h0, t.out p _ h1 hf nz no, t.keep p _ h1 nz no, RpO.mono t.ex hr⟩
/-- the start moved back -/
theorem VR.back (s : Mov B env env1 σ F H F1 H1) (r : VR B σ F2 H1 H2 v x) : VR B σ F2 H H2 v x := by
  cases x with
  | dat d => exact r
  | loc i => exact r
  | new c =>
    obtain ⟨p, ho, e, h0, q⟩ := r
    refine ⟨p, ho, e, ?_, q⟩
    cases h : H p with
    | none => rfl
    | some o =>
      obtain ⟨o', h'⟩ := s.there p o h
      rw [h0] at h'
      cases h'

/-- frozen at the end: a new object, or an owned one -/
def asL (i : Nat) (env : SE) (k : D → SE → Prop) : Option Cel → Prop
  | some (.own (.lst ds)) => k (.lst ds) (env.set i (.d (.lst ds)))
  | some (.d d) => k d env
  | _ => False
def asD : Val → SE → (D → SE → Prop) → Prop
  | .dat d, env, k => k d env
  | .new (.lst ds), env, k => k (.lst ds) env
  | .new _, _, _ => False
  | .loc i, env, k => asL i env k env[i]?
/-- looked at, not frozen -/
def vwL (k : D → Prop) : Option Cel → Prop
  | some (.own (.lst ds)) => k (.lst ds)
  | some (.d d) => k d
  | _ => False
def vw : Val → SE → (D → Prop) → Prop
  | .dat d, _, k => k d
  | .new (.lst ds), _, k => k (.lst ds)
  | .new _, _, _ => False
  | .loc i, env, k => vwL k env[i]?
theorem vwL_out {k : D → Prop} {o : Option Cel} (h : vwL k o) : (∃ ds, o = some (.own (.lst ds)) ∧ k (.lst ds)) ∨ ∃ d, o = some (.d d) ∧ k d := by
  cases o with
  | none => exact (show False from h).elim
  | some c =>
    cases c with
    | un => exact (show False from h).elim
    | d d => exact .inr ⟨d, rfl, h⟩
    | own oc =>
      cases oc with
      | lst ds => exact .inl ⟨ds, rfl, h⟩
      | dk _ => exact (show False from h).elim
      | dt _ => exact (show False from h).elim
theorem asL_out {i : Nat} {env : SE} {k : D → SE → Prop} {o : Option Cel} (h : asL i env k o) : (∃ ds, o = some (.own (.lst ds)) ∧ k (.lst ds) (env.set i (.d (.lst ds)))) ∨ ∃ d, o = some (.d d) ∧ k d env := by
  cases o with
  | none => exact (show False from h).elim
  | some c =>
    cases c with
    | un => exact (show False from h).elim
    | d d => exact .inr ⟨d, rfl, h⟩
    | own oc =>
      cases oc with
      | lst ds => exact .inl ⟨ds, rfl, h⟩
      | dk _ => exact (show False from h).elim
      | dt _ => exact (show False from h).elim
theorem set_get {env : SE} {i j : Nat} {c c' : Cel} (q : (env.set i c)[j]? = some c') : (i = j ∧ c' = c) ∨ (i ≠ j ∧ env[j]? = some c') := by
  by_cases e : i = j
  · subst e
    by_cases l : i < env.length
    · rw [List.getElem?_set_self l] at q
      exact .inl ⟨rfl, (Option.some.inj q).symm⟩
    · rw [List.getElem?_eq_none (by rw [List.length_set]; omega)] at q
      cases q
  · rw [List.getElem?_set_ne e] at q
    exact .inr ⟨e, q⟩

theorem vw_ok {k : D → Prop} (G : Hld B env σ F H) (r : VR B σ F H1 H v x) (h : vw x env k) : ∃ d, RW B.Z F H v d ∧ k d := by
  cases x with
  | dat d => exact ⟨d, RW.of G.sub r, h⟩
  | new c =>
    cases c with
    | lst ds =>
      obtain ⟨p, ho, e, h0, hf, h1, hr⟩ := r
      obtain ⟨xs, rfl, ra⟩ := RpO.lst_of hr
      exact ⟨.lst ds, ⟨p, xs, e, h1, ra⟩, h⟩
    | dk _ => exact (show False from h).elim
    | dt _ => exact (show False from h).elim
  | loc i =>
    have r' : σ[i]? = some (some v) := r
    rcases vwL_out h with ⟨ds, e, h⟩ | ⟨d, e, h⟩
    · obtain ⟨o, ho, e1, _, _, h3, hr⟩ := G.own i _ e
      obtain ⟨xs, rfl, ra⟩ := RpO.lst_of hr
      rw [e1] at r'
      cases r'
      exact ⟨.lst ds, ⟨o, xs, rfl, h3, ra⟩, h⟩
    · obtain ⟨w, e1, hw⟩ := G.dat i _ e
      rw [e1] at r'
      cases r'
      exact ⟨d, RW.of G.sub hw, h⟩

/-- a foreign object goes into the frozen part -/
theorem Hld.freeze {p : Addr} {ho : HO} (G : Hld B env σ F H) (hf : F p = none) (h0 : B.H0 p = none) (hp : H p = some ho) (no : ¬ Owns env σ p) : Hld B env σ (upd F p ho) H where
  len := G.len
  sub := fun a o e => by
    by_cases q : a = p
    · rw [q, upd_same] at e
      rw [q, ← e, hp]
    · rw [upd_ne q] at e
      exact G.sub a o e
  exF := fun a o e => by
    rw [upd_ne (ne_of_none (G.exF a o e) hf)]
    exact G.exF a o e
  keep := G.keep
  out := fun a o e n => by
    rw [upd_ne (ne_of_none e h0)]
    exact G.out a o e n
  zok := G.zok
  zin := G.zin
  znf := fun a z => by
    obtain ⟨o, q⟩ := G.zin a z
    rw [upd_ne (ne_of_none q h0)]
    exact G.znf a z
  dat := fun i d e => by
    obtain ⟨w, e1, hw⟩ := G.dat i d e
    exact ⟨w, e1, Rp.mono (fun a o e => by rw [upd_ne (ne_of_none e hf)]; exact e) hw⟩
  own := fun i c e => by
    obtain ⟨o, ho', e1, h1, h2, h3, hr⟩ := G.own i c e
    have ne : o ≠ p := fun z => no (z ▸ ⟨i, c, e, e1⟩)
    exact ⟨o, ho', e1, by rw [upd_ne ne]; exact h1, h2, h3, RpO.mono (fun a o e => by rw [upd_ne (ne_of_none e hf)]; exact e) hr⟩
  sep := G.sep

theorem same_upd {F : Hp} {p : Addr} {o : HO} (h : F p = none) : Same F (upd F p o) := fun a u e => by
  rw [upd_ne (ne_of_none e h)]
  exact e

/-- an owned slot becomes data -/
theorem Hld.thaw {i : Nat} {ds : List D} {o : Addr} {xs : List V} (G : Hld B env σ F H) (e : env[i]? = some (.own (.lst ds))) (es : σ[i]? = some (some (.ref o))) (hf : F o = none) (h0 : B.H0 o = none) (ho : H o = some (.lst xs)) (ra : RpA B.Z F xs ds) :
    Hld B (env.set i (.d (.lst ds))) σ (upd F o (.lst xs)) H := by
  have hil : i < env.length := (List.getElem?_eq_some_iff.mp e).1
  have sm := same_upd (o := .lst xs) hf
  have G1 : Hld B (env.set i .un) σ F H := by
    refine ⟨by rw [List.length_set]; exact G.len, G.sub, G.exF, G.keep, G.out, G.zok, G.zin, G.znf, fun j d q => ?_, fun j c q => ?_, fun j k u c c' q q' => ?_⟩
    · rcases set_get q with ⟨_, z⟩ | ⟨_, z⟩
      · cases z
      · exact G.dat j d z
    · rcases set_get q with ⟨_, z⟩ | ⟨_, z⟩
      · cases z
      · exact G.own j c z
    · rcases set_get q with ⟨_, z⟩ | ⟨_, z⟩
      · cases z
      · rcases set_get q' with ⟨_, z'⟩ | ⟨_, z'⟩
        · cases z'
        · exact G.sep j k u c c' z z'
  have no : ¬ Owns (env.set i .un) σ o := fun ⟨j, c, q1, q2⟩ => by
    rcases set_get q1 with ⟨_, z⟩ | ⟨ne, z⟩
    · cases z
    · exact ne (G.sep i j o _ _ e z es q2)
  have G2 := G1.freeze hf h0 ho no
  refine ⟨by rw [List.length_set]; exact G.len, G2.sub, G2.exF, G2.keep, G2.out, G2.zok, G2.zin, G2.znf, fun j d q => ?_, fun j c q => ?_, fun j k u c c' q q' => ?_⟩
  · rcases set_get q with ⟨ej, z⟩ | ⟨nj, z⟩
    · cases z
      subst ej
      exact ⟨_, es, .lst upd_same (RpA.mono sm ra)⟩
    · exact G2.dat j d (by rw [List.getElem?_set_ne nj]; exact z)
  · rcases set_get q with ⟨_, z⟩ | ⟨nj, z⟩
    · cases z
    · exact G2.own j c (by rw [List.getElem?_set_ne nj]; exact z)
  · rcases set_get q with ⟨_, z⟩ | ⟨_, z⟩
    · cases z
    · rcases set_get q' with ⟨_, z'⟩ | ⟨_, z'⟩
      · cases z'
      · exact G.sep j k u c c' z z'

theorem asD_ok {k : D → SE → Prop} (G : Hld B env σ F H) (s : Mov B env env1 σ F H F1 H1) (G1 : Hld B env1 σ F1 H1) (r : VR B σ F1 H H1 v x) (h : asD x env1 k) :
    ∃ d env2 F2, k d env2 ∧ Mov B env env2 σ F H F2 H1 ∧ Hld B env2 σ F2 H1 ∧ Rp B.Z F2 v d := by
  cases x with
  | dat d => exact ⟨d, env1, F1, h, s, G1, r⟩
  | new c =>
    cases c with
    | lst ds =>
      obtain ⟨p, ho, e, h0, hf, h1, hr⟩ := r
      obtain ⟨xs, rfl, ra⟩ := RpO.lst_of hr
      have no : ¬ Owns env1 σ p := fun z => by
        obtain ⟨_, _, _, ho, q⟩ := G.own_no (s.own p z)
        rw [h0] at q
        cases q
      have nz : ¬ ZA B.Z p := fun z => by
        obtain ⟨o, q⟩ := G.zok.there z
        rw [h0] at q
        cases q
      have hb : B.H0 p = none := by
        cases q : B.H0 p with
        | none => rfl
        | some o =>
          have := G.keep p o q nz
          rw [h0] at this
          cases this
      refine ⟨_, env1, upd F1 p (.lst xs), h, ⟨s.ex.trans (same_upd hf), s.keep, fun a o e f z n => ?_, s.own, s.there⟩, G1.freeze hf hb h1 no, by rw [e]; exact .lst upd_same (RpA.mono (same_upd hf) ra)⟩
      rw [upd_ne (ne_of_none e h0)]
      exact s.out a o e f z n
    | dk _ => exact (show False from h).elim
    | dt _ => exact (show False from h).elim
  | loc i =>
    have r' : σ[i]? = some (some v) := r
    rcases asL_out h with ⟨ds, e, h⟩ | ⟨d, e, h⟩
    · obtain ⟨o, ho, e1, h1, h2, h3, hr⟩ := G1.own i _ e
      obtain ⟨xs, rfl, ra⟩ := RpO.lst_of hr
      have ow : Owns env σ o := s.own o ⟨i, _, e, e1⟩
      refine ⟨_, _, upd F1 o (.lst xs), h, ⟨s.ex.trans (same_upd h1), s.keep, fun a u q f z n => ?_, fun a ⟨j, c, q1, q2⟩ => ?_, s.there⟩, G1.thaw e e1 h1 h2 h3 ra, ?_⟩
      · have ne : a ≠ o := fun z => n (z ▸ ow)
        rw [upd_ne ne]
        exact s.out a u q f z n
      · rcases set_get q1 with ⟨_, z⟩ | ⟨_, z⟩
        · cases z
        · exact s.own a ⟨j, c, z, q2⟩
      · rw [e1] at r'
        cases r'
        exact .lst upd_same (RpA.mono (same_upd h1) ra)
    · obtain ⟨w, e1, hw⟩ := G1.dat i _ e
      rw [e1] at r'
      cases r'
      exact ⟨d, env1, F1, h, s, G1, hw⟩
end

/-- a frame laid out before the walk goes on -/
def frc : SE → (SE → Prop) → Prop
  | [], k => k []
  | c :: r, k => frc r fun r' => k (c :: r')
theorem frc_eq : ∀ (e : SE) (k : SE → Prop), frc e k = k e
  | [], _ => rfl
  | c :: r, k => frc_eq r fun r' => k (c :: r')
theorem frc_out {e : SE} {k : SE → Prop} (h : frc e k) : k e := frc_eq e k ▸ h
/-- two ways -/
def bc (b : Bool) (p q : Prop) : Prop := (b = true → p) ∧ (b = false → q)
theorem bcT {p q : Prop} (h : bc true p q) : p := h.1 rfl
theorem bcF {p q : Prop} (h : bc false p q) : q := h.2 rfl
theorem bcN {p q : Prop} {b : Bool} (h : bc b q p) : bc (!b) p q := by
  cases b
  · exact ⟨fun _ => h.2 rfl, fun e => (nomatch e)⟩
  · exact ⟨fun e => (nomatch e), fun _ => h.1 rfl⟩
/-- a bool -/
def blV (x : Val) (k : Bool → Prop) : Prop := match x with
  | .dat (.bl b) => k b
  | _ => False
/-! ### canonical readings -/
abbrev TDE := SE → (Val → SE → Prop) → Prop
abbrev TDT := SE → (Bool → SE → Prop) → Prop
abbrev TDA := SE → (List D → SE → Prop) → Prop
def cE (t : TDE) : TE := fun σ H Q => ∃ (B : Bas) (env : SE) (F : Hp), Hld B env σ F H ∧ ∃ Q' : Val → SE → Prop, t env Q' ∧ ∀ x env' v F' H', Q' x env' → Mov B env env' σ F H F' H' → Hld B env' σ F' H' → VR B σ F' H H' v x → Q v H'
def cT (t : TDT) : TT := fun σ H Q => ∃ (B : Bas) (env : SE) (F : Hp), Hld B env σ F H ∧ ∃ Q' : Bool → SE → Prop, t env Q' ∧ ∀ b env' F' H', Q' b env' → Mov B env env' σ F H F' H' → Hld B env' σ F' H' → Q b H'
def cA (t : TDA) : TA := fun σ H Q => ∃ (B : Bas) (env : SE) (F : Hp), Hld B env σ F H ∧ ∃ Q' : List D → SE → Prop, t env Q' ∧ ∀ ds env' vs F' H', Q' ds env' → Mov B env env' σ F H F' H' → Hld B env' σ F' H' → RpA B.Z F' vs ds → Q vs H'
structure DEnds where
  nx : SE → Prop
  rt : Val → Prop
  bk : SE → Prop := fun _ => False
  ct : SE → Prop := fun _ => False
abbrev TDS := DEnds → SE → Prop
/-- what a return hands on -/
def VT (B : Bas) (F' H' : Hp) (v : V) : Val → Prop
  | .dat d => Rp B.Z F' v d
  | .loc _ => False
  | .new c => ∃ p ho, v = .ref p ∧ B.H0 p = none ∧ F' p = none ∧ H' p = some ho ∧ RpO B.Z F' ho c
structure EOk (B : Bas) (E : DEnds) (D : Ends) : Prop where
  nx : ∀ env σ F H, E.nx env → Hld B env σ F H → D.nx σ H
  rt : ∀ x v env σ F H, E.rt x → Hld B env σ F H → VT B F H v x → D.rt v H
  bk : ∀ env σ F H, E.bk env → Hld B env σ F H → D.bk σ H
  ct : ∀ env σ F H, E.ct env → Hld B env σ F H → D.ct σ H
def cS (t : TDS) : TS := fun D σ H => ∃ (B : Bas) (env : SE) (F : Hp), Hld B env σ F H ∧ ∃ E : DEnds, t E env ∧ EOk B E D

/-- another reading -/
theorem PE.imp {X : Cx} {e : Expr} {t u : TE} (h : PE X e t) (k : ∀ σ H Q, u σ H Q → t σ H Q) : PE X e u := ⟨fun pins s σ H Q I q => h.run pins s σ H Q I (k σ H Q q)⟩
theorem PT.imp {X : Cx} {e : Expr} {t u : TT} (h : PT X e t) (k : ∀ σ H Q, u σ H Q → t σ H Q) : PT X e u := ⟨fun pins s σ H Q I q => h.run pins s σ H Q I (k σ H Q q)⟩
theorem PW.imp {X : Cx} {e : Expr} {t u : TT} (h : PW X e t) (k : ∀ σ H Q, u σ H Q → t σ H Q) : PW X e u := ⟨fun wh pins s σ H Q I q => h.run wh pins s σ H Q I (k σ H Q q)⟩
theorem PA.imp {X : Cx} {es : List Expr} {t u : TA} (h : PA X es t) (k : ∀ σ H Q, u σ H Q → t σ H Q) : PA X es u := ⟨fun pos pins s σ H Q I q => h.run pos pins s σ H Q I (k σ H Q q)⟩
theorem PS.imp {X : Cx} {st : Stmt} {t u : TS} (h : PS X st t) (k : ∀ D σ H, u D σ H → t D σ H) : PS X st u := ⟨fun pins s σ H D I q => h.run pins s σ H D I (k D σ H q)⟩
theorem PSs.imp {X : Cx} {st : List Stmt} {t u : TS} (h : PSs X st t) (k : ∀ D σ H, u D σ H → t D σ H) : PSs X st u := ⟨fun pins s σ H D I q => h.run pins s σ H D I (k D σ H q)⟩
end DL

/-! DRules: expressions over data. -/
namespace DL
open PySem L2

/-! ### allocation -/
section
variable {B : Bas} {env env1 : SE} {σ : L2.St} {F H F1 H1 : Hp}
theorem Hld.base_none (G : Hld B env σ F H) {p : Addr} (h : H p = none) : B.H0 p = none ∧ F p = none ∧ ¬ ZA B.Z p ∧ ¬ Owns env σ p := by
  have nz : ¬ ZA B.Z p := fun z => by
    obtain ⟨o, q⟩ := G.zok.there z
    rw [h] at q
    cases q
  refine ⟨?_, ?_, nz, fun z => ?_⟩
  · cases q : B.H0 p with
    | none => rfl
    | some o =>
      have := G.keep p o q nz
      rw [h] at this
      cases this
  · cases q : F p with
    | none => rfl
    | some o =>
      have := G.sub p o q
      rw [h] at this
      cases this
  · obtain ⟨_, _, _, ho, q⟩ := G.own_no z
    rw [h] at q
    cases q
/-- a new object that is nothing's yet -/
theorem Hld.alloc (G : Hld B env σ F H) {p : Addr} {o : HO} (h : H p = none) : Hld B env σ F (upd H p o) where
  len := G.len
  sub := fun a u e => same_upd h a u (G.sub a u e)
  exF := G.exF
  keep := fun a u e z => same_upd h a u (G.keep a u e z)
  out := G.out
  zok := G.zok.keep fun a u _ e => same_upd h a u e
  zin := G.zin
  znf := G.znf
  dat := G.dat
  own := fun i c e => by
    obtain ⟨q, ho, e1, h1, h2, h3, hr⟩ := G.own i c e
    exact ⟨q, ho, e1, h1, h2, same_upd h _ _ h3, hr⟩
  sep := G.sep
theorem Mov.alloc {p : Addr} {o : HO} (h : H p = none) : Mov B env env σ F H F (upd H p o) :=
  ⟨Same.refl F, fun a u e _ _ => same_upd h a u e, fun _ _ _ f _ _ => f, fun _ z => z, fun a u e => ⟨u, same_upd h a u e⟩⟩
/-- .. frozen at once -/
theorem Hld.allocF (G : Hld B env σ F H) {p : Addr} {o : HO} (h : H p = none) : Hld B env σ (upd F p o) (upd H p o) := by
  obtain ⟨h0, hf, nz, no⟩ := G.base_none h
  exact (G.alloc h).freeze hf h0 upd_same no
theorem Mov.allocF (G : Hld B env σ F H) {p : Addr} {o : HO} (h : H p = none) : Mov B env env σ F H (upd F p o) (upd H p o) := by
  obtain ⟨h0, hf, nz, no⟩ := G.base_none h
  exact ⟨same_upd hf, fun a u e _ _ => same_upd h a u e, fun a u e f _ _ => by rw [upd_ne (ne_of_none e h)]; exact f, fun _ z => z, fun a u e => ⟨u, same_upd h a u e⟩⟩
end

/-! ### operations by data -/
abbrev G2 := D → D → (Val → Prop) → Prop
abbrev G1 := D → (Val → Prop) → Prop
abbrev GN := List D → (Val → Prop) → Prop
/-- what the end of an operation is handed: a value, the heap grown -/
def Fin (B : Bas) (env : SE) (σ : L2.St) (F H : Hp) (K : Val → Prop) (Q : VK) : Prop := ∀ x u F' H', K x → Mov B env env σ F H F' H' → Hld B env σ F' H' → VR B σ F' H H' u x → Q u H'
def OpD (r : R2) (g : G2) : Prop := ∀ (B : Bas) env σ F H v w d e K Q, Hld B env σ F H → RW B.Z F H v d → RW B.Z F H w e → g d e K → Fin B env σ F H K Q → r v w H Q
def OpD1 (r : V → Hp → VK → Prop) (g : G1) : Prop := ∀ (B : Bas) env σ F H v d K Q, Hld B env σ F H → RW B.Z F H v d → g d K → Fin B env σ F H K Q → r v H Q
def OpDN (r : List V → Hp → VK → Prop) (g : GN) : Prop := ∀ (B : Bas) env σ F H vs ds K Q, Hld B env σ F H → RpA B.Z F vs ds → g ds K → Fin B env σ F H K Q → r vs H Q
/-- one argument, looked at -/
def OpDC (r : List V → Hp → VK → Prop) (g : G1) : Prop := ∀ (B : Bas) env σ F H v d K Q, Hld B env σ F H → RW B.Z F H v d → g d K → Fin B env σ F H K Q → r [v] H Q
section
variable {B : Bas} {env : SE} {σ : L2.St} {F H : Hp} {K : Val → Prop} {Q : VK}
theorem Fin.dat (f : Fin B env σ F H K Q) (G : Hld B env σ F H) {u : V} {d : D} (k : K (.dat d)) (h : Rp B.Z F u d) : Q u H := f _ _ _ _ k Mov.refl G h
theorem Fin.lst (f : Fin B env σ F H K Q) (G : Hld B env σ F H) {xs : List V} {ds : List D} (k : K (.new (.lst ds))) (h : RpA B.Z F xs ds) : ∀ p, H p = none → Q (.ref p) (upd H p (.lst xs)) := fun p hp =>
  f _ _ _ _ k (Mov.alloc hp) (G.alloc hp) ⟨p, _, rfl, hp, (G.base_none hp).2.1, upd_same, h⟩
theorem Fin.tup (f : Fin B env σ F H K Q) (G : Hld B env σ F H) {xs : List V} {ds : List D} (k : K (.dat (.tup ds))) (h : RpA B.Z F xs ds) : ∀ p, H p = none → Q (.ref p) (upd H p (.tup xs)) := fun p hp =>
  f _ _ _ _ k (Mov.allocF G hp) (G.allocF hp) (.tup upd_same (RpA.mono (same_upd (G.base_none hp).2.1) h))
theorem Fin.dk (f : Fin B env σ F H K Q) (G : Hld B env σ F H) {xs : List (Key × V)} {ds : List (Key × D)} (k : K (.new (.dk ds))) (h : RpO B.Z F (.dK xs) (.dk ds)) : ∀ p, H p = none → Q (.ref p) (upd H p (.dK xs)) := fun p hp =>
  f _ _ _ _ k (Mov.alloc hp) (G.alloc hp) ⟨p, _, rfl, hp, (G.base_none hp).2.1, upd_same, h⟩
end

/-! ### names and constants -/
def dVarL (i : Nat) (env : SE) (Q : Val → SE → Prop) : Option Cel → Prop
  | some (.d d) => Q (.dat d) env
  | some (.own _) => Q (.loc i) env
  | _ => False
def dVar (i : Nat) : TDE := fun env Q => dVarL i env Q env[i]?
def dC (d : D) : TDE := fun env Q => Q (.dat d) env
section
variable {X : Cx} {B : Bas}
theorem de_of {e : Expr} {t : TE} {u : TDE} (h : PE X e t) (k : ∀ (B : Bas) env σ F H Q' Q, Hld B env σ F H → u env Q' → (∀ x env' v F' H', Q' x env' → Mov B env env' σ F H F' H' → Hld B env' σ F' H' → VR B σ F' H H' v x → Q v H') → t σ H Q) : PE X e (cE u) :=
  PE.imp h fun σ H Q ⟨B, env, F, G, Q', q, f⟩ => k B env σ F H Q' Q G q f
theorem de_var (i : Nat) {x : Str} {pos : Pos} (hN : X.N[i]? = some x := by rfl) (hv : Vis X.env.scope x := by first | exact Or.inl rfl | exact Or.inr (Or.inl rfl) | exact Or.inr (Or.inr rfl)) (hd : (x == ("__debug__" : Str)) = false := by decide)
    (hcd : (x == ("__classdict__" : Str)) = false := by decide) : PE X (.Name x pos) (cE (dVar i)) :=
  de_of (pe_var hN hv hd hcd) fun B env σ F H Q' Q G q f => by
    unfold dVar at q
    cases e : env[i]? with
    | none =>
      rw [e] at q
      exact (show False from q).elim
    | some c =>
      rw [e] at q
      cases c with
      | un => exact (show False from q).elim
      | d d =>
        obtain ⟨v, e1, hv⟩ := G.dat i d e
        exact ⟨v, e1, f (.dat d) env v F H q Mov.refl G hv⟩
      | own c =>
        obtain ⟨o, ho, e1, _⟩ := G.own i c e
        exact ⟨.ref o, e1, f (.loc i) env (.ref o) F H q Mov.refl G e1⟩
theorem de_int {i j pos} : PE X (.Constant (.int i) j pos) (cE (dC (.int i))) := de_of pe_int fun B env σ F H Q' Q G q f => f _ env _ F H q Mov.refl G (Rp.int i)
theorem de_bl {b j pos} : PE X (.Constant (.bool b) j pos) (cE (dC (.bl b))) := de_of pe_bl fun B env σ F H Q' Q G q f => f _ env _ F H q Mov.refl G (Rp.bl b)
theorem de_non {j pos} : PE X (.Constant .none j pos) (cE (dC .non)) := de_of pe_non fun B env σ F H Q' Q G q f => f _ env _ F H q Mov.refl G Rp.non
theorem de_str {x j pos} : PE X (.Constant (.str x) j pos) (cE (dC (.str x))) := de_of pe_str fun B env σ F H Q' Q G q f => f _ env _ F H q Mov.refl G (Rp.str x)
/-- a module's constant int -/
theorem de_globI {x : Str} {i : Int} {t : Tok} {pos : Pos} (hg : Gl X x) (hm : X.mg x = some (.int i t)) (hd : (x == ("__debug__" : Str)) = false := by decide) : PE X (.Name x pos) (cE (dC (.int i))) :=
  de_of (pe_glob hg hm (v := .int i) ⟨t, rfl⟩ hd) fun B env σ F H Q' Q G q f => f _ env _ F H q Mov.refl G (Rp.int i)
end

/-! ### two operands, one operand -/
def dBin (g : G2) (ta tb : TDE) : TDE := fun env Q => ta env fun x e1 => tb e1 fun y e2 => vw x e2 fun d => vw y e2 fun e => g d e fun z => Q z e2
def dUn (g : G1) (ta : TDE) : TDE := fun env Q => ta env fun x e1 => vw x e1 fun d => g d fun z => Q z e1
section
variable {X : Cx} {B : Bas} {a b c : Expr} {ta tb tc : TDE} {r : R2} {g : G2} {pos : Pos}
theorem bin_ok (hd : OpD r g) (σ : L2.St) (H : Hp) (Q : VK) (h : cE (dBin g ta tb) σ H Q) : tOp r (cE ta) (cE tb) σ H Q := by
  obtain ⟨B, env, F, G, Q', q, f⟩ := h
  refine ⟨B, env, F, G, _, q, fun x e1 v F1 H1 q1 s1 G1 r1 => ⟨B, e1, F1, G1, _, q1, fun y e2 w F2 H2 q2 s2 G2 r2 => ?_⟩⟩
  obtain ⟨d, rd, q3⟩ := vw_ok G2 (VR.shift G s1 s2 r1) q2
  obtain ⟨e, re, q4⟩ := vw_ok G2 (VR.back s1 r2) q3
  exact hd B e2 σ F2 H2 v w d e _ Q G2 rd re q4 fun z u F3 H3 k s3 G3 r3 => f z e2 u F3 H3 k ((s1.trans s2).trans s3) G3 (VR.back (s1.trans s2) r3)
theorem de_bin {op : Operator} (ho : OpR X (binaryOp op) r) (hd : OpD r g) (ha : PE X a (cE ta)) (hb : PE X b (cE tb)) : PE X (.BinOp a op b pos) (cE (dBin g ta tb)) := PE.imp (pe_op ho ha hb) (bin_ok hd)
theorem de_cmp {op : CmpOp} (ho : OpR X (compareOp op) r) (hd : OpD r g) (hm : behindInMarks op b = false) (ha : PE X a (cE ta)) (hb : PE X b (cE tb)) : PE X (.Compare a [op] [b] pos) (cE (dBin g ta tb)) := PE.imp (pe_cmpR ho ha hb hm) (bin_ok hd)
theorem de_ix (hr : IxR X r) (hd : OpD r g) (ha : PE X a (cE ta)) (hb : PE X b (cE tb)) (hs : PlainIx b := by intro _ _; rfl) : PE X (.Subscript a b pos) (cE (dBin g ta tb)) := PE.imp (pe_ix hr ha hb hs) (bin_ok hd)
theorem un_ok {r : V → Hp → VK → Prop} {g : G1} (hd : OpD1 r g) (σ : L2.St) (H : Hp) (Q : VK) (h : cE (dUn g ta) σ H Q) : tUn r (cE ta) σ H Q := by
  obtain ⟨B, env, F, G, Q', q, f⟩ := h
  refine ⟨B, env, F, G, _, q, fun x e1 v F1 H1 q1 s1 G1 r1 => ?_⟩
  obtain ⟨d, rd, q3⟩ := vw_ok G1 r1 q1
  exact hd B e1 σ F1 H1 v d _ Q G1 rd q3 fun z u F3 H3 k s3 G3 r3 => f z e1 u F3 H3 k (s1.trans s3) G3 (VR.back s1 r3)
theorem de_un {op : UnaryOp} {r : V → Hp → VK → Prop} {g : G1} (ho : UnR X (unaryOp op) r) (hd : OpD1 r g) (ha : PE X a (cE ta)) : PE X (.UnaryOp op a pos) (cE (dUn g ta)) := PE.imp (pe_un ho ha) (un_ok hd)
/-- a test: an expression's truth -/
def truD : D → (Bool → Prop) → Prop
  | .non, k => k false
  | .bl b, k => k b
  | .int i, k => k (i != 0)
  | .str y, k => y.length ≤ sizeLine ∧ k ((y.length : Int) != 0)
  | .lst ds, k => k (!ds.isEmpty)
  | .tup ds, k => k (!ds.isEmpty)
  | .sta, _ => False
def dTru (ta : TDE) : TDT := fun env Q => ta env fun x e1 => vw x e1 fun d => truD d fun b => Q b e1
theorem RpA.isEmpty {Z : ZZ} {F : Hp} {vs : List V} {ds : List D} (h : RpA Z F vs ds) : vs.isEmpty = ds.isEmpty := by cases h <;> rfl
theorem truD_ok {K : PySem.W.Frag} {Z : ZZ} {F H : Hp} {v : V} {d : D} {k : Bool → Prop} (sm : Same F H) (r : RW Z F H v d) (h : truD d k) : ∃ b, TruV K v H b ∧ k b := by
  cases d with
  | non => cases r; exact ⟨false, rfl, h⟩
  | bl b => cases r; exact ⟨b, rfl, h⟩
  | int i => cases r; exact ⟨_, rfl, h⟩
  | str y => cases r; exact ⟨_, ⟨h.1, rfl⟩, h.2⟩
  | lst ds =>
    obtain ⟨p, xs, rfl, e, ra⟩ := r
    exact ⟨_, .inl ⟨xs, SqL.of e, rfl⟩, by rw [ra.isEmpty]; exact h⟩
  | tup ds =>
    obtain ⟨p, xs, rfl, e, ra⟩ := r.tup
    exact ⟨_, .inr (.inl ⟨xs, SqT.of (sm _ _ e), rfl⟩), by rw [ra.isEmpty]; exact h⟩
  | sta => exact (show False from h).elim
theorem dt_of {e : Expr} {t : TT} {u : TDT} (h : PT X e t) (k : ∀ (B : Bas) env σ F H Q' Q, Hld B env σ F H → u env Q' → (∀ b env' F' H', Q' b env' → Mov B env env' σ F H F' H' → Hld B env' σ F' H' → Q b H') → t σ H Q) : PT X e (cT u) :=
  PT.imp h fun σ H Q ⟨B, env, F, G, Q', q, f⟩ => k B env σ F H Q' Q G q f
/-- any expression that is no comparison, no and, or, not -/
theorem dt_val (ha : PE X a (cE ta)) (he : ∀ whole, isTrue a X.env whole = (do let v ← whole; standAt a.pos; holding [v] (truthy v)) := by intro _; rfl) : PT X a (cT (dTru ta)) :=
  dt_of (pt_truth ha he) fun B env σ F H Q' Q G q f => ⟨B, env, F, G, _, q, fun x e1 v F1 H1 q1 s1 G1 r1 => by
    obtain ⟨d, rd, q2⟩ := vw_ok G1 r1 q1
    obtain ⟨b, tb, q3⟩ := truD_ok G1.sub rd q2
    exact ⟨b, tb, f b e1 F1 H1 q3 s1 G1⟩⟩
/-- a comparison as a test -/
def dTB (ta : TDE) : TDT := fun env Q => ta env fun x e1 => blV x fun b => Q b e1
theorem tb_ok (σ : L2.St) (H : Hp) (Q : Bool → Hp → Prop) (h : cT (dTB ta) σ H Q) : cE ta σ H fun x H' => ∃ k, x = .bl k ∧ Q k H' := by
  obtain ⟨B, env, F, G, Q', q, f⟩ := h
  refine ⟨B, env, F, G, _, q, fun x e1 v F1 H1 q1 s1 G1 r1 => ?_⟩
  cases x with
  | dat d =>
    cases d with
    | bl b => exact ⟨b, Rp.bl_eq r1, f b e1 F1 H1 q1 s1 G1⟩
    | _ => exact (show False from q1).elim
  | _ => exact (show False from q1).elim
theorem dt_cmp {op : CmpOp} (ho : OpR X (compareOp op) r) (hd : OpD r g) (hm : behindInMarks op b = false) (ha : PE X a (cE ta)) (hb : PE X b (cE tb)) : PT X (.Compare a [op] [b] pos) (cT (dTB (dBin g ta tb))) :=
  PT.imp (pt_cmpR ho ha hb hm) fun σ H Q h => bin_ok hd σ H _ (tb_ok σ H Q h)
/-! ### chains -/
def dChain (g g' : G2) (ta tb tc : TDE) : TDE := fun env Q => ta env fun x e1 => tb e1 fun y e2 => vw x e2 fun d => vw y e2 fun e => g d e fun z => blV z fun b => bc b (tc e2 fun w e3 => vw y e3 fun e' => vw w e3 fun f => g' e' f fun z' => Q z' e3) (Q (.dat (.bl false)) e2)
theorem chain_ok {r' : R2} {g' : G2} (hd : OpD r g) (hd' : OpD r' g') (σ : L2.St) (H : Hp) (Q : VK) (h : cE (dChain g g' ta tb tc) σ H Q) : tChain r r' (cE ta) (cE tb) (cE tc) σ H Q := by
  obtain ⟨B, env, F, G, Q', q, f⟩ := h
  refine ⟨B, env, F, G, _, q, fun x e1 v F1 H1 q1 s1 G1 r1 => ⟨B, e1, F1, G1, _, q1, fun y e2 w F2 H2 q2 s2 G2 r2 => ?_⟩⟩
  obtain ⟨d, rd, q3⟩ := vw_ok G2 (VR.shift G s1 s2 r1) q2
  obtain ⟨e, re, q4⟩ := vw_ok G2 (VR.back s1 r2) q3
  refine hd B e2 σ F2 H2 v w d e _ _ G2 rd re q4 fun z u F3 H3 k s3 G3 r3 => ?_
  cases z with
  | dat dd =>
    cases dd with
    | bl b =>
      refine ⟨b, Rp.bl_eq r3, ?_⟩
      cases b with
      | true =>
        rw [if_pos rfl]
        refine ⟨B, e2, F3, G3, _, bcT k, fun y' e4 w' F4 H4 q5 s4 G4 r4 => ?_⟩
        have s12 := s1.trans s2
        obtain ⟨e', re', q6⟩ := vw_ok G4 (VR.shift G s12 (s3.trans s4) (VR.back s1 r2)) q5
        obtain ⟨f', rf', q7⟩ := vw_ok G4 (VR.back (s12.trans s3) r4) q6
        exact hd' B e4 σ F4 H4 w w' e' f' _ Q G4 re' rf' q7 fun z2 u2 F5 H5 k5 s5 G5 r5 => f z2 e4 u2 F5 H5 k5 (((s12.trans s3).trans s4).trans s5) G5 (VR.back ((s12.trans s3).trans s4) r5)
      | false =>
        rw [if_neg Bool.false_ne_true]
        exact f _ e2 _ F3 H3 (bcF k) ((s1.trans s2).trans s3) G3 (Rp.bl false)
    | _ => exact (show False from k).elim
  | _ => exact (show False from k).elim
theorem de_chain {op op' : CmpOp} {r' : R2} {g' : G2} (ho : OpR X (compareOp op) r) (hd : OpD r g) (ho' : OpR X (compareOp op') r') (hd' : OpD r' g') (ha : PE X a (cE ta)) (hb : PE X b (cE tb)) (hc : PE X c (cE tc))
    (hm : lastMarks [op, op'] [b, c] = false := by with_unfolding_all rfl) : PE X (.Compare a [op, op'] [b, c] pos) (cE (dChain g g' ta tb tc)) := PE.imp (pe_chain ho ho' ha hb hc hm) (chain_ok hd hd')
theorem dt_chain {op op' : CmpOp} {r' : R2} {g' : G2} (ho : OpR X (compareOp op) r) (hd : OpD r g) (ho' : OpR X (compareOp op') r') (hd' : OpD r' g') (ha : PE X a (cE ta)) (hb : PE X b (cE tb)) (hc : PE X c (cE tc))
    (hm : lastMarks [op, op'] [b, c] = false := by with_unfolding_all rfl) : PT X (.Compare a [op, op'] [b, c] pos) (cT (dTB (dChain g g' ta tb tc))) :=
  PT.imp (pt_chain ho ho' ha hb hc hm) fun σ H Q h => chain_ok hd hd' σ H _ (tb_ok σ H Q h)

/-! ### and, or, not, if .. else -/
def dAnd (t u : TDT) : TDT := fun env Q => t env fun b e1 => bc b (u e1 Q) (Q false e1)
def dOr (t u : TDT) : TDT := fun env Q => t env fun b e1 => bc b (Q true e1) (u e1 Q)
def dNot (t : TDT) : TDT := fun env Q => t env fun b e1 => Q (!b) e1
variable {tt tu : TDT} {rest : List Expr}
theorem dw_and1 (ha : PT X a (cT tt)) : PW X (.BoolOp .And [a] pos) (cT tt) := pw_and1 ha
theorem dw_or1 (ha : PT X a (cT tt)) : PW X (.BoolOp .Or [a] pos) (cT tt) := pw_or1 ha
theorem and_ok (σ : L2.St) (H : Hp) (Q : Bool → Hp → Prop) (h : cT (dAnd tt tu) σ H Q) : tAnd (cT tt) (cT tu) σ H Q := by
  obtain ⟨B, env, F, G, Q', q, f⟩ := h
  refine ⟨B, env, F, G, _, q, fun b e1 F1 H1 q1 s1 G1 => ?_⟩
  cases b with
  | true =>
    rw [if_pos rfl]
    exact ⟨B, e1, F1, G1, Q', bcT q1, fun b e2 F2 H2 q2 s2 G2 => f b e2 F2 H2 q2 (s1.trans s2) G2⟩
  | false =>
    rw [if_neg Bool.false_ne_true]
    exact f _ e1 F1 H1 (bcF q1) s1 G1
theorem or_ok (σ : L2.St) (H : Hp) (Q : Bool → Hp → Prop) (h : cT (dOr tt tu) σ H Q) : tOr (cT tt) (cT tu) σ H Q := by
  obtain ⟨B, env, F, G, Q', q, f⟩ := h
  refine ⟨B, env, F, G, _, q, fun b e1 F1 H1 q1 s1 G1 => ?_⟩
  cases b with
  | true =>
    rw [if_pos rfl]
    exact f _ e1 F1 H1 (bcT q1) s1 G1
  | false =>
    rw [if_neg Bool.false_ne_true]
    exact ⟨B, e1, F1, G1, Q', bcF q1, fun b e2 F2 H2 q2 s2 G2 => f b e2 F2 H2 q2 (s1.trans s2) G2⟩
theorem dw_and (ha : PT X a (cT tt)) (hb : PW X (.BoolOp .And (b :: rest) pos) (cT tu)) : PW X (.BoolOp .And (a :: b :: rest) pos) (cT (dAnd tt tu)) := PW.imp (pw_and ha hb) and_ok
theorem dw_or (ha : PT X a (cT tt)) (hb : PW X (.BoolOp .Or (b :: rest) pos) (cT tu)) : PW X (.BoolOp .Or (a :: b :: rest) pos) (cT (dOr tt tu)) := PW.imp (pw_or ha hb) or_ok
theorem dt_bool {op : BoolOp} {es : List Expr} (h : PW X (.BoolOp op es pos) (cT tt)) : PT X (.BoolOp op es pos) (cT tt) := PW.pt h
theorem dt_not (ha : PT X a (cT tt)) : PT X (.UnaryOp .Not a pos) (cT (dNot tt)) := PT.imp (pt_not ha) fun σ H Q ⟨B, env, F, G, Q', q, f⟩ => ⟨B, env, F, G, _, q, fun b e1 F1 H1 q1 s1 G1 => f _ e1 F1 H1 q1 s1 G1⟩
/-- as values: all but the last a bool -/
theorem blV_ok {σ : L2.St} {F H H' : Hp} {v : V} {x : Val} {k : Bool → Prop} (r : VR B σ F H H' v x) (h : blV x k) : ∃ b, v = .bl b ∧ x = .dat (.bl b) ∧ k b := by
  cases x with
  | dat d =>
    cases d with
    | bl b => exact ⟨b, Rp.bl_eq r, rfl, h⟩
    | _ => exact (show False from h).elim
  | _ => exact (show False from h).elim
def dAndV (ta tb : TDE) : TDE := fun env Q => ta env fun x e1 => blV x fun b => bc b (tb e1 Q) (Q (.dat (.bl false)) e1)
def dOrV (ta tb : TDE) : TDE := fun env Q => ta env fun x e1 => blV x fun b => bc b (Q (.dat (.bl true)) e1) (tb e1 Q)
def dNotV (ta : TDE) : TDE := fun env Q => ta env fun x e1 => blV x fun b => Q (.dat (.bl (!b))) e1
theorem de_one {op} (h : PE X a (cE ta)) : PE X (.BoolOp op [a] pos) (cE ta) := pe_one h
theorem de_and (ha : PE X a (cE ta)) (hb : PE X (.BoolOp .And (b :: rest) pos) (cE tb)) : PE X (.BoolOp .And (a :: b :: rest) pos) (cE (dAndV ta tb)) :=
  PE.imp (pe_and ha hb) fun σ H Q ⟨B, env, F, G, Q', q, f⟩ => ⟨B, env, F, G, _, q, fun x e1 v F1 H1 q1 s1 G1 r1 => by
    obtain ⟨c, e, _, q2⟩ := blV_ok r1 q1
    refine ⟨c, e, ?_⟩
    cases c with
    | true =>
      rw [if_pos rfl]
      exact ⟨B, e1, F1, G1, Q', bcT q2, fun y e2 w F2 H2 q3 s2 G2 r2 => f y e2 w F2 H2 q3 (s1.trans s2) G2 (VR.back s1 r2)⟩
    | false =>
      rw [if_neg Bool.false_ne_true]
      exact f _ e1 _ F1 H1 (bcF q2) s1 G1 (Rp.bl false)⟩
theorem de_or (ha : PE X a (cE ta)) (hb : PE X (.BoolOp .Or (b :: rest) pos) (cE tb)) : PE X (.BoolOp .Or (a :: b :: rest) pos) (cE (dOrV ta tb)) :=
  PE.imp (pe_or ha hb) fun σ H Q ⟨B, env, F, G, Q', q, f⟩ => ⟨B, env, F, G, _, q, fun x e1 v F1 H1 q1 s1 G1 r1 => by
    obtain ⟨c, e, _, q2⟩ := blV_ok r1 q1
    refine ⟨c, e, ?_⟩
    cases c with
    | false =>
      rw [if_neg Bool.false_ne_true]
      exact ⟨B, e1, F1, G1, Q', bcF q2, fun y e2 w F2 H2 q3 s2 G2 r2 => f y e2 w F2 H2 q3 (s1.trans s2) G2 (VR.back s1 r2)⟩
    | true =>
      rw [if_pos rfl]
      exact f _ e1 _ F1 H1 (bcT q2) s1 G1 (Rp.bl true)⟩
theorem de_not (ha : PE X a (cE ta)) : PE X (.UnaryOp .Not a pos) (cE (dNotV ta)) :=
  PE.imp (pe_not ha) fun σ H Q ⟨B, env, F, G, Q', q, f⟩ => ⟨B, env, F, G, _, q, fun x e1 v F1 H1 q1 s1 G1 r1 => by
    obtain ⟨c, e, _, q2⟩ := blV_ok r1 q1
    exact ⟨c, e, f _ e1 _ F1 H1 q2 s1 G1 (Rp.bl _)⟩⟩
def dIf (t : TDT) (ta tb : TDE) : TDE := fun env Q => t env fun b e1 => bc b (ta e1 Q) (tb e1 Q)
theorem de_if (hc : PT X c (cT tt)) (ha : PE X a (cE ta)) (hb : PE X b (cE tb)) : PE X (.IfExp c a b pos) (cE (dIf tt ta tb)) :=
  PE.imp (pe_ifExp hc ha hb) fun σ H Q ⟨B, env, F, G, Q', q, f⟩ => ⟨B, env, F, G, _, q, fun b e1 F1 H1 q1 s1 G1 => by
    cases b with
    | true =>
      rw [if_pos rfl]
      exact ⟨B, e1, F1, G1, Q', bcT q1, fun y e2 w F2 H2 q3 s2 G2 r2 => f y e2 w F2 H2 q3 (s1.trans s2) G2 (VR.back s1 r2)⟩
    | false =>
      rw [if_neg Bool.false_ne_true]
      exact ⟨B, e1, F1, G1, Q', bcF q1, fun y e2 w F2 H2 q3 s2 G2 r2 => f y e2 w F2 H2 q3 (s1.trans s2) G2 (VR.back s1 r2)⟩⟩
end

/-! ### argument lists, displays -/
def dNil : TDA := fun env Q => Q [] env
def dCons (ta : TDE) (tr : TDA) : TDA := fun env Q => ta env fun x e1 => asD x e1 fun d e2 => tr e2 fun ds e3 => Q (d :: ds) e3
section
variable {X : Cx} {B : Bas} {e : Expr} {es : List Expr} {te : TDE} {t : TDA} {pos : Pos}
theorem da_nil : PA X [] (cA dNil) := PA.imp pa_nil fun σ H Q ⟨B, env, F, G, Q', q, f⟩ => f _ env _ F H q Mov.refl G .nil
theorem da_cons (ha : PE X e (cE te)) (hr : PA X es (cA t)) (hs : starEach (e :: es) X.env = (false, eval e X.env) :: starEach es X.env := by rfl) : PA X (e :: es) (cA (dCons te t)) :=
  PA.imp (pa_cons ha hr hs) fun σ H Q ⟨B, env, F, G, Q', q, f⟩ => ⟨B, env, F, G, _, q, fun x e1 v F1 H1 q1 s1 G1 r1 => by
    obtain ⟨d, e2, F2, q2, s2, G2, rd⟩ := asD_ok G s1 G1 r1 q1
    exact ⟨B, e2, F2, G2, _, q2, fun ds e3 vs F3 H3 q3 s3 G3 r3 => f _ e3 _ F3 H3 q3 (s2.trans s3) G3 (.cons (Rp.mono s3.ex rd) r3)⟩⟩
def dTup (t : TDA) : TDE := fun env Q => t env fun ds e1 => ds.length ≤ sizeLine ∧ Q (.dat (.tup ds)) e1
def dLst (t : TDA) : TDE := fun env Q => t env fun ds e1 => ds.length ≤ sizeLine ∧ Q (.new (.lst ds)) e1
theorem de_tup {x1} (h : PA X es (cA t)) : PE X (.Tuple es x1 pos) (cE (dTup t)) :=
  de_of (pe_tup h) fun B env σ F H Q' Q G q f => ⟨B, env, F, G, _, q, fun ds e1 vs F1 H1 ⟨hz, q1⟩ s1 G1 r1 => ⟨by rw [r1.length]; exact hz, fun p hp =>
    f _ e1 _ _ _ q1 (s1.trans (Mov.allocF G1 hp)) (G1.allocF hp) (.tup upd_same (RpA.mono (same_upd (G1.base_none hp).2.1) r1))⟩⟩
theorem de_lst (h : PA X es (cA t)) : PE X (.List es pos) (cE (dLst t)) :=
  de_of (pe_lst h) fun B env σ F H Q' Q G q f => ⟨B, env, F, G, _, q, fun ds e1 vs F1 H1 ⟨hz, q1⟩ s1 G1 r1 => ⟨by rw [r1.length]; exact hz, fun p hp => by
    refine f _ e1 _ F1 _ q1 (s1.trans (Mov.alloc hp)) (G1.alloc hp) ⟨p, _, rfl, ?_, (G1.base_none hp).2.1, upd_same, r1⟩
    cases hh : H p with
    | none => rfl
    | some o =>
      obtain ⟨o', h'⟩ := s1.there p o hh
      rw [hp] at h'
      cases h'⟩⟩

/-! ### built-ins -/
def dCall (g : GN) (t : TDA) : TDE := fun env Q => t env fun ds e1 => g ds fun z => Q z e1
theorem call_ok {r : List V → Hp → VK → Prop} {g : GN} (hd : OpDN r g) (σ : L2.St) (H : Hp) (Q : VK) (h : cE (dCall g t) σ H Q) : tCB r (cA t) σ H Q := by
  obtain ⟨B, env, F, G, Q', q, f⟩ := h
  exact ⟨B, env, F, G, _, q, fun ds e1 vs F1 H1 q1 s1 G1 r1 => hd B e1 σ F1 H1 vs ds _ Q G1 r1 q1 fun z u F3 H3 k s3 G3 r3 => f z e1 u F3 H3 k (s1.trans s3) G3 (VR.back s1 r3)⟩
theorem de_callB {x : Str} {p : Pos} {id : String} {r : List V → Hp → VK → Prop} {g : GN} (hc : CallR X (.builtin id) r) (hd : OpDN r g) (hg : Gl X x) (hm : X.mg x = none) (hv : bootBuiltins x = some (.builtin id)) (ha : PA X (e :: es) (cA t)) (hn : x ≠ "__name__" := by decide) (hdb : (x == ("__debug__" : Str)) = false := by decide)
    (he : starEach (e :: es) X.env = (false, eval e X.env) :: starEach es X.env := by rfl) (hpl : (backTo pos (starEach es X.env)).any (·.1) = false := by rfl) : PE X (.Call (.Name x p) (e :: es) [] pos) (cE (dCall g t)) :=
  PE.imp (pe_callB hc hg hm hv ha hn hdb he hpl) (call_ok hd)
theorem de_callTy {x : Str} {p : Pos} {T : String} {r : List V → Hp → VK → Prop} {g : GN} (hc : CallR X (.type T) r) (hd : OpDN r g) (hg : Gl X x) (hm : X.mg x = none) (hv : bootBuiltins x = some (.type T)) (ha : PA X (e :: es) (cA t)) (hn : x ≠ "__name__" := by decide) (hdb : (x == ("__debug__" : Str)) = false := by decide)
    (he : starEach (e :: es) X.env = (false, eval e X.env) :: starEach es X.env := by rfl) (hpl : (backTo pos (starEach es X.env)).any (·.1) = false := by rfl) : PE X (.Call (.Name x p) (e :: es) [] pos) (cE (dCall g t)) :=
  PE.imp (pe_callTy hc hg hm hv ha hn hdb he hpl) (call_ok hd)
/-- one argument, looked at only -/
theorem call1_ok {r : List V → Hp → VK → Prop} {g : G1} (hd : OpDC r g) (σ : L2.St) (H : Hp) (Q : VK) (h : cE (dUn g te) σ H Q) : tCB r (tCons (cE te) tNil) σ H Q := by
  obtain ⟨B, env, F, G, Q', q, f⟩ := h
  refine ⟨B, env, F, G, _, q, fun x e1 v F1 H1 q1 s1 G1 r1 => ?_⟩
  obtain ⟨d, rd, q3⟩ := vw_ok G1 r1 q1
  exact hd B e1 σ F1 H1 v d _ Q G1 rd q3 fun z u F3 H3 k s3 G3 r3 => f z e1 u F3 H3 k (s1.trans s3) G3 (VR.back s1 r3)
theorem de_callB1 {x : Str} {p : Pos} {id : String} {r : List V → Hp → VK → Prop} {g : G1} (hc : CallR X (.builtin id) r) (hd : OpDC r g) (hg : Gl X x) (hm : X.mg x = none) (hv : bootBuiltins x = some (.builtin id)) (ha : PE X e (cE te)) (hn : x ≠ "__name__" := by decide) (hdb : (x == ("__debug__" : Str)) = false := by decide)
    (he : starEach [e] X.env = (false, eval e X.env) :: starEach [] X.env := by rfl) (hpl : (backTo pos (starEach [] X.env)).any (·.1) = false := by rfl) : PE X (.Call (.Name x p) [e] [] pos) (cE (dUn g te)) :=
  PE.imp (pe_callB hc hg hm hv (pa_cons ha pa_nil he) hn hdb he hpl) (call1_ok hd)
theorem de_callTy1 {x : Str} {p : Pos} {T : String} {r : List V → Hp → VK → Prop} {g : G1} (hc : CallR X (.type T) r) (hd : OpDC r g) (hg : Gl X x) (hm : X.mg x = none) (hv : bootBuiltins x = some (.type T)) (ha : PE X e (cE te)) (hn : x ≠ "__name__" := by decide) (hdb : (x == ("__debug__" : Str)) = false := by decide)
    (he : starEach [e] X.env = (false, eval e X.env) :: starEach [] X.env := by rfl) (hpl : (backTo pos (starEach [] X.env)).any (·.1) = false := by rfl) : PE X (.Call (.Name x p) [e] [] pos) (cE (dUn g te)) :=
  PE.imp (pe_callTy hc hg hm hv (pa_cons ha pa_nil he) hn hdb he hpl) (call1_ok hd)
end
end DL

/-! DTup: what the layer lacks over tuples: tuple * int for every count, sum, max, min of a tuple, chains of three comparisons. -/
namespace L2
open PySem PySem.Spec PyProof.Rows
/-! ### tuple * int, every count -/
theorem tuple_mul_same (l : Addr) (items : Array Value) (n : Nat) (dd : Option Addr) (sl : Array (Option Value)) (x : Int) (u : Tok) (c0 : (decide (x < -(2 ^ 63)) || decide (x ≥ 2 ^ 63)) = false) (c1 : (items.isEmpty || x == 1) = true) :
    Meets (Builtin.«tuple.__mul__» ⟨[.ref l, .int x u], []⟩) (fun _ R s => s.heap.get? l = some { cls := .type "tuple", dict := dd, data := .seq items n, slots := sl } ∧ R (.ok (.ret (Value.ref l))) s) :=
  .of_wp fun prog w A R s h => by
    obtain ⟨hp, g, d, tk, os⟩ := s
    obtain ⟨hl, h⟩ := h
    have f1 := AutoSeq1.idx_int
    wp_walk using wpAny_loadPart' hl
    repeat (first
      | (refine wpAny_ite_false (decide_eq_false (by rw [c0]; exact Bool.false_ne_true)) ?_; wp_walk using wpAny_loadPart' hl)
      | (refine wpAny_ite_true (decide_eq_true c1) ?_; wp_walk using wpAny_loadPart' hl))
    exact ⟨_, rfl, h⟩
theorem tuple_mul_nil (l : Addr) (items : Array Value) (n : Nat) (dd : Option Addr) (sl : Array (Option Value)) (x : Int) (u : Tok) (c0 : (decide (x < -(2 ^ 63)) || decide (x ≥ 2 ^ 63)) = false) (c1 : (items.isEmpty || x == 1) = false) (c2 : (decide (x ≤ 0) || items.isEmpty) = true) :
    Meets (Builtin.«tuple.__mul__» ⟨[.ref l, .int x u], []⟩) (fun _ R s => s.heap.get? l = some { cls := .type "tuple", dict := dd, data := .seq items n, slots := sl } ∧
      R (.ok (.ret (Value.ref s.heap.objs.size))) { s with heap := s.heap.push { cls := Value.type "tuple", data := Data.seq #[] }, toks := s.toks }) :=
  .of_wp fun prog w A R s h => by
    obtain ⟨hp, g, d, tk, os⟩ := s
    obtain ⟨hl, h⟩ := h
    have f1 := AutoSeq1.idx_int
    wp_walk using wpAny_loadPart' hl
    repeat (first
      | (refine wpAny_ite_false (decide_eq_false (by rw [c0]; exact Bool.false_ne_true)) ?_; wp_walk using wpAny_loadPart' hl)
      | (refine wpAny_ite_false (decide_eq_false (by rw [c1]; exact Bool.false_ne_true)) ?_; wp_walk using wpAny_loadPart' hl)
      | (refine wpAny_ite_true (decide_eq_true c2) ?_; wp_walk using wpAny_loadPart' hl))
    exact ⟨_, rfl, h⟩
def rRepA (K : PySem.W.Frag) : R2 := fun x y H Q => ∃ l k xs, x = .ref l ∧ y = .int k ∧ SqT K H l xs ∧ -(2 ^ 63) ≤ k ∧ k < 2 ^ 63 ∧ xs.length * k.toNat ≤ sizeLine ∧ (xs = [] ∨ k = 1 → Q (.ref l) H) ∧
  (¬ (xs = [] ∨ k = 1) → ∀ p, H p = none → Q (.ref p) (upd H p (.tup (List.replicate k.toNat xs).flatten)))
section
variable {X : Cx}
theorem op_repA : OpR X (binaryOp .Mult) (rRepA X.K) := by
  intro pins s σ H x y v u Q I rx ry h
  obtain ⟨l, k, xs, rfl, rfl, hT, h1, h2, hz, qs, qn⟩ := h
  cases rx
  obtain ⟨t, rfl⟩ := ry
  obtain ⟨its, r, ⟨⟨cls, dd, data, sl⟩, ho, hc, n, hd⟩, hs⟩ := I.tuple hT
  simp only at hc hd
  subst hc hd
  have hle : its.length = xs.length := r.length.symm
  have c0 : (decide (k < -(2 ^ 63)) || decide (k ≥ 2 ^ 63)) = false := by
    rw [decide_eq_false (by omega), decide_eq_false (by omega)] <;> rfl
  have emp : its.toArray.isEmpty = true ↔ xs = [] := by
    cases r with
    | nil => simp
    | cons a b => simp
  have hsz0 : its.toArray.size = xs.length := by rw [List.size_toArray, hle]
  by_cases e1 : xs = [] ∨ k = 1
  · have c1 : (its.toArray.isEmpty || k == 1) = true := by
      rcases e1 with e | e
      · rw [emp.mpr e, Bool.true_or]
      · rw [e]
        simp
    refine wpAny_binaryOp_repeat_ref (T := "tuple") (U := "int") (by decide) ⟨_, ho, rfl⟩ (fun s' => typeIs_int s' k t) noFill_tuple_mul F.fills_int_mul F.slot_int_rmul repeat_tuple F.slot_int_index.lookup
      (call_meets F.slot_int_rmul (typeIs_int s k t) F.entry_int_rmul (F.args_int_rmul_2 _ _) (int_rmul_tuple k t l its.toArray n dd sl)
        ⟨ho, rfl, ⟨_, ho, rfl⟩, call_meets F.slot_tuple_mul ⟨_, ho, rfl⟩ F.entry_tuple_mul (F.args_tuple_mul_2 _ _) (tuple_mul_same l its.toArray n dd sl k t c0 c1) ⟨ho, ?_⟩⟩)
    exact ⟨.ref l, H, I, rfl, qs e1⟩
  · have c1 : (its.toArray.isEmpty || k == 1) = false := by
      rw [Bool.or_eq_false_iff]
      refine ⟨?_, beq_eq_false_iff_ne.mpr fun z => e1 (.inr z)⟩
      cases hh : its.toArray.isEmpty with
      | false => rfl
      | true => exact absurd (.inl (emp.mp hh)) e1
    have hi : its.toArray.isEmpty = false := (Bool.or_eq_false_iff.mp c1).1
    have flen : (List.replicate k.toNat its).flatten.length ≤ sizeLine := by
      rw [PyProof.Rows.lm_len_rep_flat, hle, Nat.mul_comm]
      exact hz
    have flenX : (List.replicate k.toNat xs).flatten.length ≤ sizeLine := by
      rw [PyProof.Rows.lm_len_rep_flat, Nat.mul_comm]
      exact hz
    by_cases e2 : k ≤ 0
    · have c2 : (decide (k ≤ 0) || its.toArray.isEmpty) = true := by rw [decide_eq_true e2, Bool.true_or]
      refine wpAny_binaryOp_repeat_ref (T := "tuple") (U := "int") (by decide) ⟨_, ho, rfl⟩ (fun s' => typeIs_int s' k t) noFill_tuple_mul F.fills_int_mul F.slot_int_rmul repeat_tuple F.slot_int_index.lookup
        (call_meets F.slot_int_rmul (typeIs_int s k t) F.entry_int_rmul (F.args_int_rmul_2 _ _) (int_rmul_tuple k t l its.toArray n dd sl)
          ⟨ho, rfl, ⟨_, ho, rfl⟩, call_meets F.slot_tuple_mul ⟨_, ho, rfl⟩ F.entry_tuple_mul (F.args_tuple_mul_2 _ _) (tuple_mul_nil l its.toArray n dd sl k t c0 c1 c2) ⟨ho, ?_⟩⟩)
      have q := qn e1 s.heap.objs.size (I.hok.fresh (Nat.le_refl _))
      have ek : k.toNat = 0 := by omega
      rw [ek] at q
      refine ⟨.ref s.heap.objs.size, _, I.laid (t' := s.toks) (o := .tup []) (fun b ob q => Heap.get?_push_of_some _ q) (Nat.le_refl _) ?_, rfl, q⟩
      exact ⟨Nat.zero_le _, [], .nil, IsTup.new _ _⟩
    · have c2 : (decide (k ≤ 0) || its.toArray.isEmpty) = false := by
        rw [hi, Bool.or_false]
        exact decide_eq_false e2
      have ek : ((k.toNat : Nat) : Int) = k := Int.toNat_of_nonneg (by omega)
      have hm : ((its.toArray.size : Nat) : Int) * k ≤ 16777216 := by
        rw [hsz0, ← ek, ← Int.natCast_mul]
        rw [sizeLine_eq] at hz
        omega
      have c4 : Builtin.Tuple.tupleTooMany (((its.toArray.size : Nat) : Int) * k) = false := by
        unfold Builtin.Tuple.tupleTooMany
        rw [sizeLine_eq]
        exact decide_eq_false (by omega)
      refine wpAny_binaryOp_repeat_ref (T := "tuple") (U := "int") (by decide) ⟨_, ho, rfl⟩ (fun s' => typeIs_int s' k t) noFill_tuple_mul F.fills_int_mul F.slot_int_rmul repeat_tuple F.slot_int_index.lookup
        (call_meets F.slot_int_rmul (typeIs_int s k t) F.entry_int_rmul (F.args_int_rmul_2 _ _) (int_rmul_tuple k t l its.toArray n dd sl)
          ⟨ho, rfl, ⟨_, ho, rfl⟩, call_meets F.slot_tuple_mul ⟨_, ho, rfl⟩ F.entry_tuple_mul (F.args_tuple_mul_2 _ _) (tuple_mulW l its.toArray n dd sl k t c0 c1 c2 (by omega) c4 (by rw [size_rep, List.size_toArray]; exact flen)) ⟨ho, ?_⟩⟩)
      rw [size_rep]
      refine ⟨.ref s.heap.objs.size, _, I.laid (t' := s.toks) (o := .tup (List.replicate k.toNat xs).flatten) (fun b ob q => Heap.get?_push_of_some _ q) (Nat.le_refl _) ?_, rfl, qn e1 _ (I.hok.fresh (Nat.le_refl _))⟩
      exact ⟨flenX, _, r.rep k.toNat, IsTup.new _ _⟩

/-! ### sum, max, min of a tuple of ints -/
theorem iter_tup {A : Around} {E : Value → Shared → Prop} {prog : Program} {w : World} {s : Shared} {l : Addr} {items : Array Value} {Q : Value → Shared → Prop} (hl : s.heap.IsTuple l items)
    (h : ∀ s₂ : Shared, s₂ = { s with heap := s.heap.push { cls := .type "tuple_iterator", data := .fields #[.ref l, .int 0 0] } } →
      (s₂.heap.IsTupleIter s.heap.objs.size l 0 ∧ s₂.heap.IsTuple l items) → (∀ b ∈ [s.heap.objs.size, l], b < s₂.heap.objs.size) → l ≠ s.heap.objs.size → Q (.ref s.heap.objs.size) s₂) : wpAny (model prog w) A (pyIter (.ref l)) Q E s := by
  have hlt : l < s.heap.objs.size := by obtain ⟨_, e, _⟩ := hl; exact Heap.lt_size e
  refine wpAny_pyIter_tuple hl (h _ rfl ⟨⟨_, Heap.get?_push_size _ rfl, rfl, rfl⟩, hl.push _⟩ (fun b hb => ?_) (Nat.ne_of_lt hlt))
  show b < (s.heap.push _).objs.size
  rw [Heap.size_push]
  rcases List.mem_cons.mp hb with rfl | hb
  · exact Nat.lt_succ_self _
  · rcases List.mem_cons.mp hb with rfl | hb
    · exact Nat.lt_succ_of_lt hlt
    · cases hb
theorem old_keptT {s : Shared} {l : Addr} {h' : Heap} (hk : ∀ b o, b ∉ [s.heap.objs.size] → (s.heap.push { cls := .type "tuple_iterator", data := .fields #[.ref l, .int 0 0] }).get? b = some o → h'.get? b = some o) :
    ∀ b o, s.heap.get? b = some o → h'.get? b = some o := fun b o e => by
  refine hk b o (fun hm => ?_) (Heap.get?_push_of_some _ e)
  rcases List.mem_cons.mp hm with e1 | hm
  · exact absurd (e1 ▸ Heap.lt_size e) (Nat.lt_irrefl _)
  · cases hm
section
variable {prog : Program} {w : World} {A : Around} {E : Value → Shared → Prop} {s : Shared} {l : Addr} {its : List Value} {ns : List Int} {Q : Value → Shared → Prop}
theorem sum_rawT (hh : A.handled = none) (hl : s.heap.IsTuple l its.toArray) (hi : IntsAre its ns)
    (h : ∀ h' tk t', (∀ b o, s.heap.get? b = some o → h'.get? b = some o) → Q (.int ns.sum t') { s with heap := h', toks := tk }) : wpAny (model prog w) A (call (.builtin "sum") [.ref l]) Q E s := by
  obtain ⟨xs, e⟩ := hi.allInts.items
  have hn : numsOf (intItems xs).toList = ns := by rw [← e]; exact hi.numsOf
  rw [nums_intItems] at hn
  rw [e] at hl
  refine call_sum_walkG (iter_tup hl fun s₂ e st hfp hlI => ?_)
  subst e
  refine ⟨_, _, _, _, _, _, numAt xs, rfl, Walks.tuple (A := A.in1) hh _ l hlI (intItems xs), st, hfp, (fun _ _ => intItems_at), fun h' tk t' hk => ?_⟩
  have := h h' tk t' (old_keptT hk)
  rw [show (intItems xs).size = xs.size by simp [intItems], preSum_eq, List.take_of_length_le (by simp), hn]; exact this
theorem max_rawT (hh : A.handled = none) (hl : s.heap.IsTuple l its.toArray) (hi : IntsAre its ns) (hne : 0 < ns.length)
    (h : ∀ h' tk M t', (∀ b o, s.heap.get? b = some o → h'.get? b = some o) → M ∈ ns → (∀ a, a ∈ ns → a ≤ M) → Q (.int M t') { s with heap := h', toks := tk }) : wpAny (model prog w) A (call (.builtin "max") [.ref l]) Q E s := by
  obtain ⟨xs, e⟩ := hi.allInts.items
  have hn : numsOf (intItems xs).toList = ns := by rw [← e]; exact hi.numsOf
  rw [nums_intItems] at hn
  subst hn
  rw [e] at hl
  have hsz : 0 < xs.size := by simpa using hne
  refine call_max_walk (iter_tup hl fun s₂ e st hfp hlI => ?_)
  subst e
  refine ⟨_, _, _, _, _, _, _, rfl, Walks.tuple (A := A.in1) hh _ l hlI (intItems xs), st, hfp, by simpa [intItems] using hsz, CmpOf.ints_gt (numAt xs) (fun _ _ => intItems_at), fun v h' tk hv hk => ?_⟩
  rw [show (intItems xs).size = xs.size by simp [intItems]] at hv
  obtain ⟨t, rfl⟩ := intItems_at hv
  obtain ⟨h1, h2⟩ := argBest_gt (numAt xs) (xs.size - 1)
  refine h h' tk _ t (old_keptT hk) ?_ fun a ha => ?_
  · rw [numAt_eq]; exact PySem.getD_mem (by rw [List.length_map, Array.length_toList]; omega)
  · obtain ⟨j, hj, rfl⟩ := mem_getD ha
    rw [List.length_map, Array.length_toList] at hj
    rw [← numAt_eq]; exact h2 j (by omega)
theorem min_rawT (hh : A.handled = none) (hl : s.heap.IsTuple l its.toArray) (hi : IntsAre its ns) (hne : 0 < ns.length)
    (h : ∀ h' tk M t', (∀ b o, s.heap.get? b = some o → h'.get? b = some o) → M ∈ ns → (∀ a, a ∈ ns → M ≤ a) → Q (.int M t') { s with heap := h', toks := tk }) : wpAny (model prog w) A (call (.builtin "min") [.ref l]) Q E s := by
  obtain ⟨xs, e⟩ := hi.allInts.items
  have hn : numsOf (intItems xs).toList = ns := by rw [← e]; exact hi.numsOf
  rw [nums_intItems] at hn
  subst hn
  rw [e] at hl
  have hsz : 0 < xs.size := by simpa using hne
  refine call_min_walk (iter_tup hl fun s₂ e st hfp hlI => ?_)
  subst e
  refine ⟨_, _, _, _, _, _, _, rfl, Walks.tuple (A := A.in1) hh _ l hlI (intItems xs), st, hfp, by simpa [intItems] using hsz, CmpOf.ints_lt (numAt xs) (fun _ _ => intItems_at), fun v h' tk hv hk => ?_⟩
  rw [show (intItems xs).size = xs.size by simp [intItems]] at hv
  obtain ⟨t, rfl⟩ := intItems_at hv
  obtain ⟨h1, h2⟩ := argBest_lt (numAt xs) (xs.size - 1)
  refine h h' tk _ t (old_keptT hk) ?_ fun a ha => ?_
  · rw [numAt_eq]; exact PySem.getD_mem (by rw [List.length_map, Array.length_toList]; omega)
  · obtain ⟨j, hj, rfl⟩ := mem_getD ha
    rw [List.length_map, Array.length_toList] at hj
    rw [← numAt_eq]; exact h2 j (by omega)
end
def rSumT (K : PySem.W.Frag) : List V → Hp → VK → Prop := fun vs H Q => ∃ (a : Addr) (ns : List Int), vs = [V.ref a] ∧ SqT K H a (ns.map V.int) ∧ Q (.int ns.sum) H
def rMaxT (K : PySem.W.Frag) : List V → Hp → VK → Prop := fun vs H Q => ∃ (a : Addr) (ns : List Int), vs = [V.ref a] ∧ SqT K H a (ns.map V.int) ∧ 0 < ns.length ∧ ∀ m, m ∈ ns → (∀ y, y ∈ ns → y ≤ m) → Q (.int m) H
def rMinT (K : PySem.W.Frag) : List V → Hp → VK → Prop := fun vs H Q => ∃ (a : Addr) (ns : List Int), vs = [V.ref a] ∧ SqT K H a (ns.map V.int) ∧ 0 < ns.length ∧ ∀ m, m ∈ ns → (∀ y, y ∈ ns → m ≤ y) → Q (.int m) H
theorem cr_sumT (hc : X.calm = true) : CallR X (.builtin "sum") (rSumT X.K) := by
  intro pins s σ H vs us Q I r h
  obtain ⟨a, ns, rfl, hs, q⟩ := h
  obtain ⟨its, rv, hl, _⟩ := I.tuple hs
  rw [Vals.ref1 r]
  exact sum_rawT (I.ok.hd hc) (show s.heap.IsTuple a its.toArray from hl) rv.ints fun h' tk t' hk => ⟨.int _, H, I.kept hk, ⟨_, rfl⟩, q⟩
theorem cr_maxT (hc : X.calm = true) : CallR X (.builtin "max") (rMaxT X.K) := by
  intro pins s σ H vs us Q I r h
  obtain ⟨a, ns, rfl, hs, hne, q⟩ := h
  obtain ⟨its, rv, hl, _⟩ := I.tuple hs
  rw [Vals.ref1 r]
  exact max_rawT (I.ok.hd hc) (show s.heap.IsTuple a its.toArray from hl) rv.ints hne fun h' tk m t' hk h1 h2 => ⟨.int _, H, I.kept hk, ⟨_, rfl⟩, q m h1 h2⟩
theorem cr_minT (hc : X.calm = true) : CallR X (.builtin "min") (rMinT X.K) := by
  intro pins s σ H vs us Q I r h
  obtain ⟨a, ns, rfl, hs, hne, q⟩ := h
  obtain ⟨its, rv, hl, _⟩ := I.tuple hs
  rw [Vals.ref1 r]
  exact min_rawT (I.ok.hd hc) (show s.heap.IsTuple a its.toArray from hl) rv.ints hne fun h' tk m t' hk h1 h2 => ⟨.int _, H, I.kept hk, ⟨_, rfl⟩, q m h1 h2⟩

/-! ### a op b op c op d -/
section
variable {a b c d : Expr} {ta tb tc td : TE} {pos : Pos}
def tChain3 (r r' r'' : R2) (ta tb tc td : TE) : TE := fun σ H Q => ta σ H fun x H1 => tb σ H1 fun y H2 => r x y H2 fun z H3 => ∃ k, z = .bl k ∧
  (if k = true then tc σ H3 fun w' H4 => r' y w' H4 fun z2 H5 => ∃ k2, z2 = .bl k2 ∧ (if k2 = true then td σ H5 fun v' H6 => r'' w' v' H6 Q else Q (.bl false) H5) else Q (.bl false) H3)
theorem pe_chain3 {op op' op'' : CmpOp} {r r' r'' : R2} (ho : OpR X (compareOp op) r) (ho' : OpR X (compareOp op') r') (ho'' : OpR X (compareOp op'') r'') (ha : PE X a ta) (hb : PE X b tb) (hc : PE X c tc) (hd : PE X d td)
    (hm : lastMarks [op, op', op''] [b, c, d] = false := by with_unfolding_all rfl) : PE X (.Compare a [op, op', op''] [b, c, d] pos) (tChain3 r r' r'' ta tb tc td) := by
  refine ⟨fun pins s σ H Q I h => ?_⟩
  refine Compare_chain (thn (ha.run pins s σ H _ I h) fun v s1 ⟨x, H1, I1, r1, q1⟩ => chain_link (thn (hb.run pins s1 σ H1 _ I1 q1) fun u s2 ⟨y, H2, I2, r2, q2⟩ =>
    thn (ho pins s2 σ H2 x y v u _ I2 r1 r2 q2) fun d1 s3 ⟨z, H3, I3, r3, k, e, q3⟩ => ?_)) hm
  subst e
  cases r3
  refine wpAny_truthy_bool ?_
  cases k with
  | false => exact ite_ff ⟨.bl false, H3, I3, rfl, q3⟩
  | true =>
    refine ite_tt (chain_link (thn (hc.run pins s3 σ H3 _ I3 q3) fun w' s4 ⟨z', H4, I4, r4, q4⟩ => thn (ho' pins s4 σ H4 y z' u w' _ I4 r2 r4 q4) fun d2 s5 ⟨z5, H5, I5, r5, k2, e2, q5⟩ => ?_))
    subst e2
    cases r5
    refine wpAny_truthy_bool ?_
    cases k2 with
    | false => exact ite_ff ⟨.bl false, H5, I5, rfl, q5⟩
    | true => exact ite_tt (chain_last (thn (hd.run pins s5 σ H5 _ I5 q5) fun v' s6 ⟨z6, H6, I6, r6, q6⟩ => ho'' pins s6 σ H6 z' z6 w' v' Q I6 r4 r6 q6))
theorem pt_chain3 {op op' op'' : CmpOp} {r r' r'' : R2} (ho : OpR X (compareOp op) r) (ho' : OpR X (compareOp op') r') (ho'' : OpR X (compareOp op'') r'') (ha : PE X a ta) (hb : PE X b tb) (hc : PE X c tc) (hd : PE X d td)
    (hm : lastMarks [op, op', op''] [b, c, d] = false := by with_unfolding_all rfl) : PT X (.Compare a [op, op', op''] [b, c, d] pos) (tTest (tChain3 r r' r'' ta tb tc td)) := by
  refine ⟨fun pins s σ H Q I h => ?_⟩
  refine isTrue_chain (thn (ha.run pins s σ H _ I h) fun v s1 ⟨x, H1, I1, r1, q1⟩ => test_link (thn (hb.run pins s1 σ H1 _ I1 q1) fun u s2 ⟨y, H2, I2, r2, q2⟩ =>
    thn (ho pins s2 σ H2 x y v u _ I2 r1 r2 q2) fun d1 s3 ⟨z, H3, I3, r3, k, e, q3⟩ => ?_)) hm
  subst e
  cases r3
  refine wpAny_truthy_bool ?_
  cases k with
  | false =>
    obtain ⟨k', e', q'⟩ := q3
    cases e'
    exact ite_ff ⟨H3, I3, q'⟩
  | true =>
    refine ite_tt (test_link (thn (hc.run pins s3 σ H3 _ I3 q3) fun w' s4 ⟨z', H4, I4, r4, q4⟩ => thn (ho' pins s4 σ H4 y z' u w' _ I4 r2 r4 q4) fun d2 s5 ⟨z5, H5, I5, r5, k2, e2, q5⟩ => ?_))
    subst e2
    cases r5
    refine wpAny_truthy_bool ?_
    cases k2 with
    | false =>
      obtain ⟨k', e', q'⟩ := q5
      cases e'
      exact ite_ff ⟨H5, I5, q'⟩
    | true =>
      refine ite_tt (test_last (thn (hd.run pins s5 σ H5 _ I5 q5) fun v' s6 ⟨z6, H6, I6, r6, q6⟩ => thn (ho'' pins s6 σ H6 z' z6 w' v' _ I6 r4 r6 q6) fun d3 s7 ⟨z7, H7, I7, r7, k3, e3, q7⟩ => ?_))
      subst e3
      cases r7
      exact wpAny_truthy_bool ⟨H7, I7, q7⟩
end
end
end L2

/-! DOps: the operations by data. -/
namespace DL
open PySem L2

theorem sz {n : Nat} (h : n ≤ 10000000) : n ≤ sizeLine := Nat.le_trans h (by rw [sizeLine_eq]; decide)
theorem szl {n : Nat} (h : n < 10000000) : n < sizeLine := Nat.lt_of_lt_of_le h (by rw [sizeLine_eq]; decide)

/-! ### numbers and +, * -/
def gI (C : Int → Int → Prop) (f : Int → Int → D) : G2
  | .int i, .int j, k => C i j ∧ k (.dat (f i j))
  | _, _, _ => False
def gI0 (f : Int → Int → D) : G2
  | .int i, .int j, k => k (.dat (f i j))
  | _, _, _ => False
abbrev gSub : G2 := gI0 fun i j => .int (i - j)
abbrev gLt : G2 := gI0 fun i j => .bl (decide (i < j))
abbrev gLe : G2 := gI0 fun i j => .bl (decide (i ≤ j))
abbrev gGt : G2 := gI0 fun i j => .bl (decide (j < i))
abbrev gGe : G2 := gI0 fun i j => .bl (decide (j ≤ i))
/-- // by a positive divisor -/
def CD (_ j : Int) : Prop := 0 < j ∧ (j < 1073741824 ∨ j.natAbs.log2 < 9000)
abbrev gDiv : G2 := gI CD fun i j => .int (i / j)
abbrev gMod : G2 := gI (fun _ j => 0 < j) fun i j => .int (i % j)
abbrev gPow : G2 := gI CPow fun i j => .int (i ^ j.toNat)
abbrev gShl : G2 := gI CPow fun i j => .int (i * 2 ^ j.toNat)
abbrev gBand : G2 := gI0 fun i j => .int (Builtin.bitAnd i j)
def CM (i j : Int) : Prop := CMul i j ∨ CMulW i j
def gAdd : G2
  | .int i, .int j, k => k (.dat (.int (i + j)))
  | .lst a, .lst b, k => a.length + b.length ≤ 10000000 ∧ k (.new (.lst (a ++ b)))
  | .tup a, .tup b, k => a.length + b.length ≤ 10000000 ∧ k (.dat (.tup (a ++ b)))
  | .str a, .str b, k => a.length + b.length ≤ 10000000 ∧ k (.dat (.str (a ++ b)))
  | _, _, _ => False
def gMul : G2
  | .int i, .int j, k => CM i j ∧ k (.dat (.int (i * j)))
  | .lst a, .int n, k => (n < 10000000 ∧ -10000000 ≤ n ∧ a.length * n.toNat ≤ 10000000) ∧ k (.new (.lst (List.replicate n.toNat a).flatten))
  | .tup a, .int n, k => (n < 10000000 ∧ -10000000 ≤ n ∧ a.length * n.toNat ≤ 10000000) ∧ k (.dat (.tup (List.replicate n.toNat a).flatten))
  | _, _, _ => False
section
variable {B : Bas} {K : PySem.W.Frag}
theorem rw_int {Z : ZZ} {F H : Hp} {v : V} {i : Int} (r : RW Z F H v (.int i)) : v = .int i := Rp.int_eq r
theorem od_I0 {f : Int → Int → D} {g : Int → Int → V} (hf : ∀ Z F i j, Rp Z F (g i j) (f i j)) : OpD (rI0 g) (gI0 f) := fun B env σ F H v w d e K Q G rd re h fin => by
  cases d <;> first | exact (show False from h).elim | skip
  cases e <;> first | exact (show False from h).elim | skip
  exact ⟨_, _, rw_int rd, rw_int re, fin.dat G h (hf _ _ _ _)⟩
theorem od_I {C : Int → Int → Prop} {f : Int → Int → D} {g : Int → Int → V} (hf : ∀ Z F i j, Rp Z F (g i j) (f i j)) : OpD (rI C g) (gI C f) := fun B env σ F H v w d e K Q G rd re h fin => by
  cases d <;> first | exact (show False from h).elim | skip
  cases e <;> first | exact (show False from h).elim | skip
  obtain ⟨c, h⟩ := h
  exact ⟨_, _, rw_int rd, rw_int re, c, fin.dat G h (hf _ _ _ _)⟩
theorem od_sub : OpD (rI0 fun i j => .int (i - j)) gSub := od_I0 fun _ _ _ _ => .int _
theorem od_lt : OpD (rI0 fun i j => .bl (decide (i < j))) gLt := od_I0 fun _ _ _ _ => .bl _
theorem od_le : OpD (rI0 fun i j => .bl (decide (i ≤ j))) gLe := od_I0 fun _ _ _ _ => .bl _
theorem od_gt : OpD (rI0 fun i j => .bl (decide (j < i))) gGt := od_I0 fun _ _ _ _ => .bl _
theorem od_ge : OpD (rI0 fun i j => .bl (decide (j ≤ i))) gGe := od_I0 fun _ _ _ _ => .bl _
theorem od_mod : OpD (rI (fun _ j => 0 < j) fun i j => .int (i % j)) gMod := od_I fun _ _ _ _ => .int _
theorem od_pow : OpD (rI CPow fun i j => .int (i ^ j.toNat)) gPow := od_I fun _ _ _ _ => .int _
theorem od_shl : OpD (rI CPow fun i j => .int (i * 2 ^ j.toNat)) gShl := od_I fun _ _ _ _ => .int _
theorem od_and : OpD (rI0 fun i j => .int (Builtin.bitAnd i j)) gBand := od_I0 fun _ _ _ _ => .int _
def rDiv : R2 := fun x y H Q => rI CDiv (fun i j => .int (i / j)) x y H Q ∨ rI CDivW (fun i j => .int (i / j)) x y H Q
theorem op_div {X : Cx} : OpR X (binaryOp .FloorDiv) rDiv := op_fdiv.or op_fdivW
theorem od_div : OpD rDiv gDiv := fun B env σ F H v w d e K Q G rd re h fin => by
  cases d <;> first | exact (show False from h).elim | skip
  cases e <;> first | exact (show False from h).elim | skip
  obtain ⟨⟨c1, c2⟩, h⟩ := h
  rcases c2 with c2 | c2
  · exact .inl ⟨_, _, rw_int rd, rw_int re, ⟨c1, c2⟩, fin.dat G h (.int _)⟩
  · exact .inr ⟨_, _, rw_int rd, rw_int re, ⟨c1, c2⟩, fin.dat G h (.int _)⟩
def rAdd (K : PySem.W.Frag) : R2 := fun x y H Q => rI0 (fun i j => .int (i + j)) x y H Q ∨ rCat x y H Q ∨ rCatA K x y H Q ∨ ∃ i j, x = .str i ∧ y = .str j ∧ i.length + j.length ≤ sizeLine ∧ Q (.str (i ++ j)) H
theorem op_addD {X : Cx} : OpR X (binaryOp .Add) (rAdd X.K) := op_add.or (op_cat.or (op_catA.or op_add_str))
theorem RpA.nil_iff {Z : ZZ} {F : Hp} {vs : List V} {ds : List D} (h : RpA Z F vs ds) : vs = [] ↔ ds = [] := by cases h <;> simp
theorem Fin.tupRef {env : SE} {σ : L2.St} {F H : Hp} {k : Val → Prop} {Q : VK} (f : Fin B env σ F H k Q) (G : Hld B env σ F H) {a : Addr} {xs : List V} {ds : List D} (q : k (.dat (.tup ds))) (e : H a = some (.tup xs)) (h : RpA B.Z F xs ds) (hF : F a = some (.tup xs)) : Q (.ref a) H := f.dat G q (.tup hF h)
/-- a tuple that stands in the heap is data: what is looked at is either data already or .. -/
theorem od_add : OpD (rAdd K) gAdd := fun B env σ F H v w d e K' Q G rd re h fin => by
  cases d <;> first | exact (show False from h).elim | skip
  all_goals cases e <;> first | exact (show False from h).elim | skip
  · exact .inl ⟨_, _, rw_int rd, rw_int re, fin.dat G h (.int _)⟩
  · cases rd
    cases re
    exact .inr (.inr (.inr ⟨_, _, rfl, rfl, sz h.1, fin.dat G h.2 (.str _)⟩))
  · obtain ⟨a, xs, rfl, ha, ra⟩ := rd
    obtain ⟨b, ys, rfl, hb, rb⟩ := re
    exact .inr (.inl ⟨a, b, xs, ys, rfl, rfl, ha, hb, by rw [ra.length, rb.length]; exact sz h.1, fin.lst G h.2 (ra.append rb)⟩)
  · obtain ⟨a, xs, rfl, ha, ra⟩ := rd.tup
    obtain ⟨b, ys, rfl, hb, rb⟩ := re.tup
    refine .inr (.inr (.inl ⟨a, b, xs, ys, rfl, rfl, SqT.of (G.sub _ _ ha), SqT.of (G.sub _ _ hb), by rw [ra.length, rb.length]; exact sz h.1, fun e0 => ?_, fun _ e0 => ?_, fun _ _ => fin.tup G h.2 (ra.append rb)⟩))
    · have e1 := ra.nil_iff.mp e0
      subst e1
      exact fin.dat G h.2 (.tup hb rb)
    · have e1 := rb.nil_iff.mp e0
      subst e1
      have q := h.2
      rw [List.append_nil] at q
      exact fin.dat G q (.tup ha ra)
theorem RpA.rep {Z : ZZ} {F : Hp} {vs : List V} {ds : List D} (h : RpA Z F vs ds) : ∀ n : Nat, RpA Z F (List.replicate n vs).flatten (List.replicate n ds).flatten
  | 0 => .nil
  | n + 1 => by
    rw [List.replicate_succ, List.replicate_succ, List.flatten_cons, List.flatten_cons]
    exact h.append (RpA.rep h n)
def rMul (K : PySem.W.Frag) : R2 := fun x y H Q => rI CMul (fun i j => .int (i * j)) x y H Q ∨ rI CMulW (fun i j => .int (i * j)) x y H Q ∨ rRep x y H Q ∨ rRepA K x y H Q
theorem op_mulD {X : Cx} : OpR X (binaryOp .Mult) (rMul X.K) := op_mul.or (op_mulW.or (op_rep.or op_repA))
theorem od_mul : OpD (rMul K) gMul := fun B env σ F H v w d e K' Q G rd re h fin => by
  cases d <;> first | exact (show False from h).elim | skip
  all_goals cases e <;> first | exact (show False from h).elim | skip
  · obtain ⟨c, h⟩ := h
    rcases c with c | c
    · exact .inl ⟨_, _, rw_int rd, rw_int re, c, fin.dat G h (.int _)⟩
    · exact .inr (.inl ⟨_, _, rw_int rd, rw_int re, c, fin.dat G h (.int _)⟩)
  · obtain ⟨a, xs, rfl, ha, ra⟩ := rd
    obtain ⟨⟨c1, c2, c3⟩, h⟩ := h
    exact .inr (.inr (.inl ⟨a, _, xs, rfl, rw_int re, ha, by omega, by omega, by rw [ra.length]; exact sz c3, fin.lst G h (ra.rep _)⟩))
  · obtain ⟨a, xs, rfl, ha, ra⟩ := rd.tup
    obtain ⟨⟨c1, c2, c3⟩, h⟩ := h
    refine .inr (.inr (.inr ⟨a, _, xs, rfl, rw_int re, SqT.of (G.sub _ _ ha), by omega, by omega, by rw [ra.length]; exact sz c3, fun e0 => ?_, fun _ => fin.tup G h (ra.rep _)⟩))
    rename_i ds n
    have e1 : (List.replicate n.toNat ds).flatten = ds := by
      rcases e0 with e0 | e0
      · have e1 := ra.nil_iff.mp e0
        subst e1
        simp
      · subst e0
        simp
    rw [e1] at h
    exact fin.dat G h (.tup ha ra)
def gNeg : G1
  | .int i, k => k (.dat (.int (-i)))
  | _, _ => False
theorem od_neg : OpD1 (rU fun i => .int (-i)) gNeg := fun B env σ F H v d K Q G rd h fin => by
  cases d <;> first | exact (show False from h).elim | skip
  exact ⟨_, rw_int rd, fin.dat G h (.int _)⟩

/-! ### == and != of data -/
mutual
def D.py : D → PyData
  | .non => .none
  | .bl b => .bool b
  | .int i => .int i
  | .str x => .str x
  | .lst ds => .list (D.pyA ds)
  | .tup ds => .tuple (D.pyA ds)
  | .sta => .none
def D.pyA : List D → List PyData
  | [] => []
  | d :: ds => d.py :: D.pyA ds
end
/-- plain data of a depth -/
inductive Shp : Nat → D → Prop
  | non {n : Nat} : Shp n .non
  | bl {n : Nat} (b : Bool) : Shp n (.bl b)
  | int {n : Nat} (i : Int) : Shp n (.int i)
  | str {n : Nat} {x : Str} (h : PySem.PyData.strOk x = true) : Shp n (.str x)
  | lst {n : Nat} {ds : List D} (h : ∀ d ∈ ds, Shp n d) : Shp (n + 1) (.lst ds)
  | tup {n : Nat} {ds : List D} (h : ∀ d ∈ ds, Shp n d) : Shp (n + 1) (.tup ds)
theorem D.pyA_map : ∀ ds : List D, D.pyA ds = ds.map D.py
  | [] => rfl
  | d :: ds => by rw [D.pyA, D.pyA_map ds]; rfl
theorem Shp.lay_all {n : Nat} : ∀ {ds : List D}, (∀ d ∈ ds, d.py.canLay0 = true ∧ d.py.depth ≤ n) → PyData.canLayAll0 (D.pyA ds) = true ∧ PyData.depthAll (D.pyA ds) ≤ n
  | [], _ => ⟨rfl, Nat.zero_le _⟩
  | d :: ds, h => by
    obtain ⟨a1, a2⟩ := h d List.mem_cons_self
    obtain ⟨b1, b2⟩ := Shp.lay_all (n := n) (ds := ds) fun e he => h e (List.mem_cons_of_mem _ he)
    rw [D.pyA, PyData.canLayAll0, PyData.depthAll, a1, b1]
    exact ⟨rfl, Nat.max_le.mpr ⟨a2, b2⟩⟩
theorem Shp.lay {n : Nat} {d : D} (h : Shp n d) : d.py.canLay0 = true ∧ d.py.depth ≤ n := by
  induction h with
  | non => exact ⟨rfl, Nat.zero_le _⟩
  | bl b => exact ⟨rfl, Nat.zero_le _⟩
  | int i => exact ⟨rfl, Nat.zero_le _⟩
  | str h => exact ⟨h, Nat.zero_le _⟩
  | lst h ih =>
    obtain ⟨a, b⟩ := Shp.lay_all ih
    rw [D.py, PyData.canLay0, PyData.depth]
    exact ⟨a, Nat.succ_le_succ b⟩
  | tup h ih =>
    obtain ⟨a, b⟩ := Shp.lay_all ih
    rw [D.py, PyData.canLay0, PyData.depth]
    exact ⟨a, Nat.succ_le_succ b⟩
theorem Shp.shaped {d : D} (h : Shp 60 d) : SeqAt.shaped d.py = true := by
  obtain ⟨a, b⟩ := h.lay
  unfold SeqAt.shaped
  rw [a, decide_eq_true (show d.py.depth ≤ 64 by omega)]
  rfl
mutual
theorem Shp.dp {Z : ZZ} {F H : Hp} (s : Same F H) : ∀ {v : V} {d : D}, Rp Z F v d → (d.py.canLay0 = true → ∀ n, Shp n d → Dp K H v d.py)
  | _, _, .non, _, _, _ => .non
  | _, _, .bl b, _, _, _ => .bl b
  | _, _, .int i, _, _, _ => .int i
  | _, _, .str x, _, _, _ => .str x
  | _, _, .lst (ds := ds) h r, _, _, q => by
    rw [D.py]
    cases q with
    | lst q => exact .lst (SqL.of (s _ _ h)) (Shp.dpA s r _ q)
  | _, _, .tup h r, _, _, q => by
    rw [D.py]
    cases q with
    | tup q => exact .tup (SqT.of (s _ _ h)) (Shp.dpA s r _ q)
theorem Shp.dpA {Z : ZZ} {F H : Hp} (s : Same F H) : ∀ {vs : List V} {ds : List D}, RpA Z F vs ds → ∀ n, (∀ d ∈ ds, Shp n d) → DpAll K H vs (D.pyA ds)
  | _, _, .nil, _, _ => .nil
  | _, _, .cons h r, n, q => by
    rw [D.pyA]
    exact .cons (Shp.dp s h (q _ List.mem_cons_self).lay.1 n (q _ List.mem_cons_self)) (Shp.dpA s r n fun d hd => q d (List.mem_cons_of_mem _ hd))
end
theorem Shp.dpW {F H : Hp} {v : V} {d : D} {n : Nat} (q : Shp n d) (s : Same F H) (r : RW B.Z F H v d) : Dp K H v d.py := by
  cases q with
  | lst h =>
    obtain ⟨a, xs, rfl, e, ra⟩ := r
    rw [D.py]
    exact .lst (SqL.of e) (Shp.dpA s ra _ h)
  | tup h =>
    obtain ⟨a, xs, rfl, e, ra⟩ := r.tup
    rw [D.py]
    exact .tup (SqT.of (s _ _ e)) (Shp.dpA s ra _ h)
  | non => cases r; exact .non
  | bl b => cases r; exact .bl b
  | int i => cases r; exact .int i
  | str h => cases r; exact .str _
def deq (d e : D) : Bool := PyData.eqv d.py e.py
def gEq : G2
  | .int i, .int j, k => k (.dat (.bl (decide (i = j))))
  | d, e, k => (Shp 60 d ∧ Shp 60 e) ∧ k (.dat (.bl (deq d e)))
def gNe : G2
  | .int i, .int j, k => k (.dat (.bl (!decide (i = j))))
  | d, e, k => (Shp 60 d ∧ Shp 60 e) ∧ k (.dat (.bl (!deq d e)))
theorem deq_int (i j : Int) : deq (.int i) (.int j) = decide (i = j) := by
  unfold deq
  rw [D.py, D.py, PyData.eqv]
  rfl
theorem gEq_out {d e : D} {k : Val → Prop} (h : gEq d e k) : (Shp 60 d ∧ Shp 60 e) ∧ k (.dat (.bl (deq d e))) := by
  unfold gEq at h
  split at h
  · rw [deq_int]
    exact ⟨⟨.int _, .int _⟩, h⟩
  · exact h
theorem gNe_out {d e : D} {k : Val → Prop} (h : gNe d e k) : (Shp 60 d ∧ Shp 60 e) ∧ k (.dat (.bl (!deq d e))) := by
  unfold gNe at h
  split at h
  · rw [deq_int]
    exact ⟨⟨.int _, .int _⟩, h⟩
  · exact h
theorem od_eq : OpD (rEqD K) gEq := fun B env σ F H v w d e K' Q G rd re h fin => by
  obtain ⟨⟨a, b⟩, h⟩ := gEq_out h
  exact ⟨_, _, a.dpW G.sub rd, b.dpW G.sub re, a.shaped, b.shaped, fin.dat G h (.bl _)⟩
theorem od_ne : OpD (rNeD K) gNe := fun B env σ F H v w d e K' Q G rd re h fin => by
  obtain ⟨⟨a, b⟩, h⟩ := gNe_out h
  exact ⟨_, _, a.dpW G.sub rd, b.dpW G.sub re, a.shaped, b.shaped, fin.dat G h (.bl _)⟩
def gIsN : G2
  | .non, .non, k => k (.dat (.bl true))
  | .bl a, .bl b, k => k (.dat (.bl (decide (a = b))))
  | .sta, _, _ => False
  | _, .non, k => k (.dat (.bl false))
  | _, _, _ => False
def gIsNotN : G2
  | .non, .non, k => k (.dat (.bl false))
  | .bl a, .bl b, k => k (.dat (.bl (!decide (a = b))))
  | .sta, _, _ => False
  | _, .non, k => k (.dat (.bl true))
  | _, _, _ => False
def rIsD : R2 := fun x y H Q => (y = .non ∧ Q (.bl (decide (x = .non))) H) ∨ rIsB x y H Q
def rIsNotD : R2 := fun x y H Q => (y = .non ∧ Q (.bl (!decide (x = .non))) H) ∨ rNotB x y H Q
theorem op_isD {X : Cx} : OpR X (compareOp .Is) rIsD := op_isN.or op_isBl
theorem op_isNotD {X : Cx} : OpR X (compareOp .IsNot) rIsNotD := op_notN.or op_notBl
theorem rw_nn {F H : Hp} {v : V} {d : D} (r : RW B.Z F H v d) (h : d ≠ .non) (h2 : d ≠ .sta) : v ≠ .non := by
  cases d with
  | lst ds =>
    obtain ⟨a, xs, rfl, _⟩ := r
    exact fun z => nomatch z
  | non => exact absurd rfl h
  | sta => exact absurd rfl h2
  | bl b => cases r; exact fun z => nomatch z
  | int b => cases r; exact fun z => nomatch z
  | str b => cases r; exact fun z => nomatch z
  | tup b => cases r; exact fun z => nomatch z
theorem od_is : OpD rIsD gIsN := fun B env σ F H v w d e K' Q G rd re h fin => by
  cases d <;> cases e <;> first
    | exact (show False from h).elim
    | (cases rd; cases re; exact .inr ⟨_, _, rfl, rfl, fin.dat G h (.bl _)⟩)
    | (cases rd; cases re; exact .inl ⟨rfl, fin.dat G h (.bl _)⟩)
    | (have n := rw_nn rd (fun z => nomatch z) (fun z => nomatch z); cases re; refine .inl ⟨rfl, ?_⟩; rw [decide_eq_false n]; exact fin.dat G h (.bl _))
theorem od_isNot : OpD rIsNotD gIsNotN := fun B env σ F H v w d e K' Q G rd re h fin => by
  cases d <;> cases e <;> first
    | exact (show False from h).elim
    | (cases rd; cases re; exact .inr ⟨_, _, rfl, rfl, fin.dat G h (.bl _)⟩)
    | (cases rd; cases re; exact .inl ⟨rfl, fin.dat G h (.bl _)⟩)
    | (have n := rw_nn rd (fun z => nomatch z) (fun z => nomatch z); cases re; refine .inl ⟨rfl, ?_⟩; rw [decide_eq_false n]; exact fin.dat G h (.bl _))
end
end DL

/-! DSort: sorted of a list of any alike data, any length, with and without reverse. -/
namespace L2
open PySem PySem.W PyProof.Rows
section
variable {X : Cx}
def rSortD (K : PySem.W.Frag) : List V → Hp → VK → Prop := fun vs H Q => ∃ (a : Addr) (ps : List (V × PyData)), vs = [V.ref a] ∧ SqL K H a (ps.map Prod.fst) ∧ (∀ p ∈ ps, Dp K H p.1 p.2) ∧ AllAlike (ps.map Prod.snd) ∧ Sortable (ps.map Prod.snd) ∧ (∀ p ∈ ps, p.2.depth ≤ 60) ∧
  ∀ p, H p = none → Q (.ref p) (upd H p (.lst ((ps.mergeSort (dataLe false Prod.snd)).map Prod.fst)))
theorem each_vals {h : Heap} : ∀ {ps : List (V × PyData)} {us : List Value}, Vals (ps.map Prod.fst) us → EachIs (fun (u : Value) (p : V × PyData) => RelV p.1 u) us ps
  | [], _, .nil => .nil
  | _ :: _, _, .cons r t => .cons r (each_vals (h := h) t)
theorem vals_each : ∀ {ps : List (V × PyData)} {us : List Value}, EachIs (fun (u : Value) (p : V × PyData) => RelV p.1 u) us ps → Vals (ps.map Prod.fst) us
  | _, _, .nil => .nil
  | _, _, .cons r t => .cons r (vals_each t)
theorem each_reads {pins : List (Addr × Obj)} {σ : L2.St} {H : Hp} {s : Shared} (I : Inv X pins σ H s) : ∀ {ps : List (V × PyData)} {us : List Value}, Vals (ps.map Prod.fst) us → (∀ p ∈ ps, Dp X.K H p.1 p.2) → EachIs (fun (u : Value) (p : V × PyData) => ∃ as, Reads s.heap u p.2 as) us ps
  | [], _, .nil, _ => .nil
  | p :: ps, _, .cons r t, h => .cons (Dp.reads I p.2 p.1 _ (h p List.mem_cons_self) r) (each_reads I t fun q hq => h q (List.mem_cons_of_mem _ hq))
theorem cr_sortD (hu : X.A.units + 64 < cLine) : CallR X (.builtin "sorted") (rSortD X.K) := by
  intro pins s σ H vs us Q I r h
  obtain ⟨a, ps, rfl, hs, hd, hal, hk, hdep, q⟩ := h
  obtain ⟨its, rv, hl, hz⟩ := I.list hs
  rw [Vals.ref1 r]
  refine sorted_data (enc := Prod.snd) (R := fun u p => RelV p.1 u) hl.isList (each_vals (h := s.heap) rv) (each_reads I rv hd) hal hk (by rw [List.length_map] at hz; exact hz) (fun b hb => ?_) fun out ho eo => ?_
  · have := hdep b hb
    omega
  · obtain ⟨ep, he'⟩ := PyProof.Rows.sortedAll_at s.heap its out.toArray
    refine ⟨.ref _, upd H (s.heap.objs.size + 1) (.lst ((ps.mergeSort (dataLe false Prod.snd)).map Prod.fst)), I.laid (t' := s.toks) (fun _ _ => PyProof.Rows.sortedAll_old) (Nat.le_succ _) ⟨?_, out, ep, vals_each eo, he'⟩, rfl, q _ (I.hok.fresh (Nat.le_succ _))⟩
    rw [List.length_map, List.length_mergeSort]
    rw [List.length_map] at hz
    exact hz
end
theorem dataLe_tups {β : Type} (x : β → List Int) : dataLe false (fun b => .tuple ((x b).map .int)) = fun p q => decide (x p ≤ x q) := dataLe_rows x
end L2

/-! DOps2: subscripts, slices, in, built-ins, by data. -/
namespace DL
open PySem L2
section
variable {B : Bas} {K : PySem.W.Frag} {X : Cx}
/-! ### a[i] -/
def gIx : G2
  | .lst ds, .int i, k => ∃ d, atI ds i = some d ∧ k (.dat d)
  | .tup ds, .int i, k => ∃ d, atI ds i = some d ∧ k (.dat d)
  | _, _, _ => False
theorem atI_rp {Z : ZZ} {F : Hp} {xs : List V} {ds : List D} {i : Int} {d : D} (r : RpA Z F xs ds) (h : atI ds i = some d) : ∃ v, atI xs i = some v ∧ Rp Z F v d := by
  unfold atI at h ⊢
  rw [r.length]
  cases e : ixN ds.length i with
  | none =>
    rw [e] at h
    cases h
  | some j =>
    rw [e] at h
    obtain ⟨v, h1, h2⟩ := r.get (show ds[j]? = some d from h)
    exact ⟨v, h1, h2⟩
theorem od_ix : OpD (rIx K) gIx := fun B env σ F H v w d e K' Q G rd re h fin => by
  cases d <;> first | exact (show False from h).elim | skip
  all_goals cases e <;> first | exact (show False from h).elim | skip
  · obtain ⟨a, xs, rfl, ha, ra⟩ := rd
    obtain ⟨d, h1, h2⟩ := h
    obtain ⟨u, h3, h4⟩ := atI_rp ra h1
    exact .inl ⟨a, xs, _, u, rfl, rw_int re, SqL.of ha, h3, fin.dat G h2 h4⟩
  · obtain ⟨a, xs, rfl, ha, ra⟩ := rd.tup
    obtain ⟨d, h1, h2⟩ := h
    obtain ⟨u, h3, h4⟩ := atI_rp ra h1
    exact .inr (.inl ⟨a, xs, _, u, rfl, rw_int re, SqT.of (G.sub _ _ ha), h3, fin.dat G h2 h4⟩)

/-! ### a[lo:hi] -/
abbrev TDO := SE → (Option Int → SE → Prop) → Prop
def cO (t : TDO) : TO := fun σ H Q => ∃ (B : Bas) (env : SE) (F : Hp), Hld B env σ F H ∧ ∃ Q' : Option Int → SE → Prop, t env Q' ∧ ∀ o env' F' H', Q' o env' → Mov B env env' σ F H F' H' → Hld B env' σ F' H' → Q o H'
def dNoPart : TDO := fun env Q => Q none env
def dPart (t : TDE) : TDO := fun env Q => t env fun x e1 => match x with
  | .dat (.int i) => Q (some i) e1
  | _ => False
theorem PO.imp {e : Option Expr} {t u : TO} (h : PO X e t) (k : ∀ σ H Q, u σ H Q → t σ H Q) : PO X e u := ⟨fun pins s σ H Q I q => h.run pins s σ H Q I (k σ H Q q)⟩
theorem do_none : PO X none (cO dNoPart) := PO.imp po_none fun σ H Q ⟨B, env, F, G, Q', q, f⟩ => f _ env F H q Mov.refl G
theorem do_some {e : Expr} {t : TDE} (h : PE X e (cE t)) : PO X (some e) (cO (dPart t)) := PO.imp (po_some h) fun σ H Q ⟨B, env, F, G, Q', q, f⟩ => ⟨B, env, F, G, _, q, fun x e1 v F1 H1 q1 s1 G1 r1 => by
  cases x with
  | dat d =>
    cases d with
    | int i => exact ⟨i, Rp.int_eq r1, f _ e1 F1 H1 q1 s1 G1⟩
    | _ => exact (show False from q1).elim
  | _ => exact (show False from q1).elim⟩
def cutD (ds : List D) (lo hi : Option Int) : List D := (ds.drop (HT.sIx ds.length 0 lo)).take (HT.sIx ds.length ds.length hi - HT.sIx ds.length 0 lo)
def gSl (lo hi : Option Int) : G1
  | .lst ds, k => k (.new (.lst (cutD ds lo hi)))
  | .tup ds, k => k (.dat (.tup (cutD ds lo hi)))
  | _, _ => False
def dSl (te : TDE) (tl th : TDO) : TDE := fun env Q => te env fun x e1 => tl e1 fun lo e2 => th e2 fun hi e3 => vw x e3 fun d => gSl lo hi d fun z => Q z e3
def rSlD (K : PySem.W.Frag) : V → Option Int → Option Int → Hp → VK → Prop := fun x lo hi H Q => rSlL K x lo hi H Q ∨ rSlA K x lo hi H Q
theorem sl_D : SlR X (rSlD X.K) := sl_list.or sl_tupA
theorem cut_rp {Z : ZZ} {F : Hp} {xs : List V} {ds : List D} (lo hi : Option Int) (r : RpA Z F xs ds) : RpA Z F (cutV xs lo hi) (cutD ds lo hi) := by
  unfold cutV cutD
  rw [r.length]
  exact (r.drop _).take _
theorem de_slice {e : Expr} {lo hi : Option Expr} {te : TDE} {tl th : TDO} {pos p2 : Pos} (he : PE X e (cE te)) (hl : PO X lo (cO tl)) (hu : PO X hi (cO th)) : PE X (.Subscript e (.Slice lo hi none p2) pos) (cE (dSl te tl th)) :=
  PE.imp (pe_slice sl_D he hl hu) fun σ H Q ⟨B, env, F, G, Q', q, f⟩ => ⟨B, env, F, G, _, q, fun x e1 v F1 H1 q1 s1 G1 r1 => ⟨B, e1, F1, G1, _, q1, fun l e2 F2 H2 q2 s2 G2 => ⟨B, e2, F2, G2, _, q2, fun u e3 F3 H3 q3 s3 G3 => by
    obtain ⟨d, rd, q4⟩ := vw_ok G3 (VR.shift G s1 (s2.trans s3) r1) q3
    have s13 := (s1.trans s2).trans s3
    have fin : Fin B e3 σ F3 H3 (fun z => Q' z e3) Q := fun z u F4 H4 k s4 G4 r4 => f z e3 u F4 H4 k (s13.trans s4) G4 (VR.back s13 r4)
    cases d <;> first | exact (show False from q4).elim | skip
    · obtain ⟨a, xs, rfl, ha, ra⟩ := rd
      exact .inl ⟨a, xs, rfl, SqL.of ha, fin.lst G3 q4 (cut_rp l u ra)⟩
    · rename_i ds
      obtain ⟨a, xs, rfl, ha, ra⟩ := rd.tup
      refine .inr ⟨a, xs, rfl, SqT.of (G3.sub _ _ ha), fun hw => ?_, fun _ => fin.tup G3 q4 (cut_rp l u ra)⟩
      have e0 : cutD ds l u = ds := by
        unfold cutD
        rw [← ra.length, hw.1, hw.2]
        rw [Nat.sub_zero, List.drop_zero, ra.length, List.take_length]
      have q5 : Q' (.dat (.tup (cutD ds l u))) e3 := q4
      rw [e0] at q5
      exact fin.dat G3 q5 (.tup ha ra)⟩⟩⟩
/-- xs[::-1] of a list -/
def gRevL : G1
  | .lst ds, k => k (.new (.lst ds.reverse))
  | _, _ => False
theorem de_revL {e : Expr} {te : TDE} {k : Nat} {p1 p2 p3 pos : Pos} (he : PE X e (cE te)) : PE X (.Subscript e (.Slice none none (some (.UnaryOp .USub (.Constant (.int 1) k p1) p2)) p3) pos) (cE (dUn gRevL te)) :=
  PE.imp (pe_revL he) fun σ H Q ⟨B, env, F, G, Q', q, f⟩ => ⟨B, env, F, G, _, q, fun x e1 v F1 H1 q1 s1 G1 r1 => by
    obtain ⟨d, rd, q4⟩ := vw_ok G1 r1 q1
    have fin : Fin B e1 σ F1 H1 (fun z => Q' z e1) Q := fun z u F4 H4 k s4 G4 r4 => f z e1 u F4 H4 k (s1.trans s4) G4 (VR.back s1 r4)
    cases d <;> first | exact (show False from q4).elim | skip
    obtain ⟨a, xs, rfl, ha, ra⟩ := rd
    exact ⟨a, xs, rfl, SqL.of ha, fin.lst G1 q4 ra.reverse⟩⟩

/-! ### x in xs -/
def flatD : D → Bool
  | .non => true
  | .bl _ => true
  | .int _ => true
  | .str _ => true
  | _ => false
theorem flat_eqV {Z : ZZ} {F : Hp} {v w : V} {d e : D} (r : Rp Z F v d) (q : Rp Z F w e) (f : flatD d = true) (g : flatD e = true) : flatV v = true ∧ eqV v w = deq d e := by
  unfold deq
  cases r <;> first | exact absurd (show false = true from f) Bool.false_ne_true | skip
  all_goals cases q <;> first | exact absurd (show false = true from g) Bool.false_ne_true | skip
  all_goals exact ⟨rfl, by simp only [D.py, PyData.eqv, eqV] <;> first | rfl | (congr 1)⟩
theorem flat_V {Z : ZZ} {F : Hp} {v : V} {d : D} (r : Rp Z F v d) (f : flatD d = true) : flatV v = true := by
  cases r <;> first | rfl | exact absurd (show false = true from f) Bool.false_ne_true
theorem flat_in {Z : ZZ} {F : Hp} {w : V} {e : D} (q : Rp Z F w e) (g : flatD e = true) : ∀ {vs : List V} {ds : List D}, RpA Z F vs ds → ds.all flatD = true → vs.all flatV = true ∧ inV w vs = ds.any fun z => deq z e
  | _, _, .nil, _ => ⟨rfl, rfl⟩
  | _, _, .cons (v := v) (vs := vs) (d := d) (ds := ds) h r, f => by
    rw [List.all_cons, Bool.and_eq_true] at f
    obtain ⟨a, b⟩ := flat_in q g r f.2
    obtain ⟨c1, c2⟩ := flat_eqV h q f.1 g
    refine ⟨by rw [List.all_cons, c1, a]; rfl, ?_⟩
    show (eqV v w || vs.any fun y => eqV y w) = (deq d e || ds.any fun z => deq z e)
    rw [c2]
    exact congrArg _ b
/-- an item equal to x -/
def memD (x : D) (ds : List D) : Bool := ds.any fun z => deq z x
def gIn : G2
  | x, .lst ds, k => ((flatD x = true ∧ ds.all flatD = true) ∨ (Shp 60 x ∧ ∀ d ∈ ds, Shp 59 d)) ∧ k (.dat (.bl (memD x ds)))
  | x, .tup ds, k => (flatD x = true ∧ ds.all flatD = true) ∧ k (.dat (.bl (memD x ds)))
  | _, _, _ => False
def gNotIn : G2
  | x, .lst ds, k => ((flatD x = true ∧ ds.all flatD = true) ∨ (Shp 60 x ∧ ∀ d ∈ ds, Shp 59 d)) ∧ k (.dat (.bl (!memD x ds)))
  | x, .tup ds, k => (flatD x = true ∧ ds.all flatD = true) ∧ k (.dat (.bl (!memD x ds)))
  | _, _, _ => False
def rInAll (K : PySem.W.Frag) : R2 := fun x y H Q => rIn K false x y H Q ∨ rInD K x y H Q
def rNotInAll (K : PySem.W.Frag) : R2 := fun x y H Q => rIn K true x y H Q ∨ rNotInD K x y H Q
theorem op_inAll (hu : X.A.units + 65 < cLine) : OpR X (compareOp .In) (rInAll X.K) := op_in_seq.or (op_inD hu)
theorem op_notInAll (hu : X.A.units + 65 < cLine) : OpR X (compareOp .NotIn) (rNotInAll X.K) := op_notIn_seq.or (op_notInD hu)
theorem rw_flat {Z : ZZ} {F H : Hp} {v : V} {d : D} (r : RW Z F H v d) (f : flatD d = true) : Rp Z F v d := by
  cases d <;> first | exact r | exact absurd (show false = true from f) Bool.false_ne_true
theorem memD_py (x : D) : ∀ ds : List D, ((D.pyA ds).any fun z => PyData.eqv z x.py) = memD x ds
  | [] => rfl
  | d :: ds => by
    rw [D.pyA]
    show (PyData.eqv d.py x.py || (D.pyA ds).any fun z => PyData.eqv z x.py) = (deq d x || memD x ds)
    rw [memD_py x ds]
    rfl
theorem od_in : OpD (rInAll K) gIn := fun B env σ F H v w d e K' Q G rd re h fin => by
  have h' : (∃ ds, e = .lst ds ∧ ((flatD d = true ∧ ds.all flatD = true) ∨ (Shp 60 d ∧ ∀ d ∈ ds, Shp 59 d)) ∧ K' (.dat (.bl (memD d ds)))) ∨ ∃ ds, e = .tup ds ∧ (flatD d = true ∧ ds.all flatD = true) ∧ K' (.dat (.bl (memD d ds))) := by
    cases e <;> first
      | exact .inl ⟨_, rfl, by cases d <;> exact h⟩
      | exact .inr ⟨_, rfl, by cases d <;> exact h⟩
      | (cases d <;> exact (show False from h).elim)
  rcases h' with ⟨ds, rfl, h, k⟩ | ⟨ds, rfl, h, k⟩
  · rcases h with ⟨h1, h2⟩ | ⟨h1, h2⟩
    · obtain ⟨a, xs, rfl, ha, ra⟩ := re
      have r := rw_flat rd h1
      obtain ⟨q1, q2⟩ := flat_in r h1 ra h2
      refine .inl ⟨a, xs, rfl, .inl (SqL.of ha), flat_V r h1, q1, ?_⟩
      rw [if_neg Bool.false_ne_true, q2]
      exact fin.dat G k (.bl _)
    · have e1 := (Shp.lst h2).dpW (K := K) G.sub re
      refine .inr ⟨_, D.pyA ds, h1.dpW G.sub rd, (by rw [D.py] at e1; exact e1), h1.shaped, (by have := (Shp.lst h2).shaped; rw [D.py] at this; exact this), ?_⟩
      rw [memD_py]
      exact fin.dat G k (.bl _)
  · obtain ⟨a, xs, rfl, ha, ra⟩ := re.tup
    have r := rw_flat rd h.1
    obtain ⟨q1, q2⟩ := flat_in r h.1 ra h.2
    refine .inl ⟨a, xs, rfl, .inr (SqT.of (G.sub _ _ ha)), flat_V r h.1, q1, ?_⟩
    rw [if_neg Bool.false_ne_true, q2]
    exact fin.dat G k (.bl _)
theorem od_notIn : OpD (rNotInAll K) gNotIn := fun B env σ F H v w d e K' Q G rd re h fin => by
  have h' : (∃ ds, e = .lst ds ∧ ((flatD d = true ∧ ds.all flatD = true) ∨ (Shp 60 d ∧ ∀ d ∈ ds, Shp 59 d)) ∧ K' (.dat (.bl (!memD d ds)))) ∨ ∃ ds, e = .tup ds ∧ (flatD d = true ∧ ds.all flatD = true) ∧ K' (.dat (.bl (!memD d ds))) := by
    cases e <;> first
      | exact .inl ⟨_, rfl, by cases d <;> exact h⟩
      | exact .inr ⟨_, rfl, by cases d <;> exact h⟩
      | (cases d <;> exact (show False from h).elim)
  rcases h' with ⟨ds, rfl, h, k⟩ | ⟨ds, rfl, h, k⟩
  · rcases h with ⟨h1, h2⟩ | ⟨h1, h2⟩
    · obtain ⟨a, xs, rfl, ha, ra⟩ := re
      have r := rw_flat rd h1
      obtain ⟨q1, q2⟩ := flat_in r h1 ra h2
      refine .inl ⟨a, xs, rfl, .inl (SqL.of ha), flat_V r h1, q1, ?_⟩
      rw [if_pos rfl, q2]
      exact fin.dat G k (.bl _)
    · have e1 := (Shp.lst h2).dpW (K := K) G.sub re
      refine .inr ⟨_, D.pyA ds, h1.dpW G.sub rd, (by rw [D.py] at e1; exact e1), h1.shaped, (by have := (Shp.lst h2).shaped; rw [D.py] at this; exact this), ?_⟩
      rw [memD_py]
      exact fin.dat G k (.bl _)
  · obtain ⟨a, xs, rfl, ha, ra⟩ := re.tup
    have r := rw_flat rd h.1
    obtain ⟨q1, q2⟩ := flat_in r h.1 ra h.2
    refine .inl ⟨a, xs, rfl, .inr (SqT.of (G.sub _ _ ha)), flat_V r h.1, q1, ?_⟩
    rw [if_pos rfl, q2]
    exact fin.dat G k (.bl _)

/-! ### built-ins of one argument -/
def gLen : G1
  | .lst ds, k => k (.dat (.int ds.length))
  | .tup ds, k => k (.dat (.int ds.length))
  | _, _ => False
theorem od_len : OpDC (fun xs H Q => ∃ p ys, xs = [.ref p] ∧ (SqL K H p ys ∨ SqT K H p ys) ∧ Q (.int ys.length) H) gLen := fun B env σ F H v d K' Q G rd h fin => by
  cases d <;> first | exact (show False from h).elim | skip
  · obtain ⟨a, xs, rfl, ha, ra⟩ := rd
    exact ⟨a, xs, rfl, .inl (SqL.of ha), by rw [ra.length]; exact fin.dat G h (.int _)⟩
  · obtain ⟨a, xs, rfl, ha, ra⟩ := rd.tup
    exact ⟨a, xs, rfl, .inr (SqT.of (G.sub _ _ ha)), by rw [ra.length]; exact fin.dat G h (.int _)⟩
def gList : G1
  | .lst ds, k => k (.new (.lst ds))
  | .tup ds, k => k (.new (.lst ds))
  | _, _ => False
theorem od_list : OpDC (fun xs H Q => ∃ p ys, xs = [.ref p] ∧ (SqL K H p ys ∨ SqT K H p ys) ∧ ∀ l, H l = none → Q (.ref l) (upd H l (.lst ys))) gList := fun B env σ F H v d K' Q G rd h fin => by
  cases d <;> first | exact (show False from h).elim | skip
  · obtain ⟨a, xs, rfl, ha, ra⟩ := rd
    exact ⟨a, xs, rfl, .inl (SqL.of ha), fin.lst G h ra⟩
  · obtain ⟨a, xs, rfl, ha, ra⟩ := rd.tup
    exact ⟨a, xs, rfl, .inr (SqT.of (G.sub _ _ ha)), fin.lst G h ra⟩
def gTuple : G1
  | .lst ds, k => k (.dat (.tup ds))
  | .tup ds, k => k (.dat (.tup ds))
  | _, _ => False
theorem od_tuple : OpDC (fun xs H Q => ∃ p ys, xs = [.ref p] ∧ ((SqL K H p ys ∧ ∀ l, H l = none → Q (.ref l) (upd H l (.tup ys))) ∨ (SqT K H p ys ∧ Q (.ref p) H))) gTuple := fun B env σ F H v d K' Q G rd h fin => by
  cases d <;> first | exact (show False from h).elim | skip
  · obtain ⟨a, xs, rfl, ha, ra⟩ := rd
    exact ⟨a, xs, rfl, .inl ⟨SqL.of ha, fin.tup G h ra⟩⟩
  · obtain ⟨a, xs, rfl, ha, ra⟩ := rd.tup
    exact ⟨a, xs, rfl, .inr ⟨SqT.of (G.sub _ _ ha), fin.dat G h (.tup ha ra)⟩⟩
def gInt : G1
  | .int i, k => k (.dat (.int i))
  | .bl b, k => k (.dat (.int (if b then 1 else 0)))
  | _, _ => False
theorem od_int : OpDC (fun xs H Q => (∃ i, xs = [.int i] ∧ Q (.int i) H) ∨ ∃ k, xs = [.bl k] ∧ Q (.int (if k then 1 else 0)) H) gInt := fun B env σ F H v d K' Q G rd h fin => by
  cases d <;> first | exact (show False from h).elim | skip
  · cases rd
    exact .inr ⟨_, rfl, fin.dat G h (.int _)⟩
  · cases rd
    exact .inl ⟨_, rfl, fin.dat G h (.int _)⟩
def gAbs : G1
  | .int i, k => k (.dat (.int (if i < 0 then -i else i)))
  | _, _ => False
theorem od_abs : OpDC (fun xs H Q => ∃ i, xs = [.int i] ∧ Q (.int (if i < 0 then -i else i)) H) gAbs := fun B env σ F H v d K' Q G rd h fin => by
  cases d <;> first | exact (show False from h).elim | skip
  cases rd
  exact ⟨_, rfl, fin.dat G h (.int _)⟩
def gSum : G1
  | .lst ds, k => ∃ ns : List Int, ds = ns.map D.int ∧ k (.dat (.int ns.sum))
  | .tup ds, k => ∃ ns : List Int, ds = ns.map D.int ∧ k (.dat (.int ns.sum))
  | _, _ => False
def rSumA (K : PySem.W.Frag) : List V → Hp → VK → Prop := fun vs H Q => rSum K vs H Q ∨ rSumT K vs H Q
theorem cr_sumA (hc : X.calm = true) : CallR X (.builtin "sum") (rSumA X.K) := (cr_sum hc).or (cr_sumT hc)
theorem od_sum : OpDC (rSumA K) gSum := fun B env σ F H v d K' Q G rd h fin => by
  cases d <;> first | exact (show False from h).elim | skip
  · obtain ⟨a, xs, rfl, ha, ra⟩ := rd
    obtain ⟨ns, rfl, h⟩ := h
    have e := ra.ints_eq
    subst e
    exact .inl ⟨a, ns, rfl, SqL.of ha, fin.dat G h (.int _)⟩
  · obtain ⟨a, xs, rfl, ha, ra⟩ := rd.tup
    obtain ⟨ns, rfl, h⟩ := h
    have e := ra.ints_eq
    subst e
    exact .inr ⟨a, ns, rfl, SqT.of (G.sub _ _ ha), fin.dat G h (.int _)⟩
def gMax : G1
  | .lst ds, k => ∃ ns : List Int, ds = ns.map D.int ∧ 0 < ns.length ∧ ∀ m : Int, m ∈ ns → (∀ y, y ∈ ns → y ≤ m) → k (.dat (.int m))
  | .tup ds, k => ∃ ns : List Int, ds = ns.map D.int ∧ 0 < ns.length ∧ ∀ m : Int, m ∈ ns → (∀ y, y ∈ ns → y ≤ m) → k (.dat (.int m))
  | _, _ => False
def gMin : G1
  | .lst ds, k => ∃ ns : List Int, ds = ns.map D.int ∧ 0 < ns.length ∧ ∀ m : Int, m ∈ ns → (∀ y, y ∈ ns → m ≤ y) → k (.dat (.int m))
  | .tup ds, k => ∃ ns : List Int, ds = ns.map D.int ∧ 0 < ns.length ∧ ∀ m : Int, m ∈ ns → (∀ y, y ∈ ns → m ≤ y) → k (.dat (.int m))
  | _, _ => False
def rMaxA (K : PySem.W.Frag) : List V → Hp → VK → Prop := fun vs H Q => rMax K vs H Q ∨ rMaxT K vs H Q
def rMinA (K : PySem.W.Frag) : List V → Hp → VK → Prop := fun vs H Q => rMin K vs H Q ∨ rMinT K vs H Q
theorem cr_maxA (hc : X.calm = true) : CallR X (.builtin "max") (rMaxA X.K) := (cr_max hc).or (cr_maxT hc)
theorem cr_minA (hc : X.calm = true) : CallR X (.builtin "min") (rMinA X.K) := (cr_min hc).or (cr_minT hc)
theorem od_max : OpDC (rMaxA K) gMax := fun B env σ F H v d K' Q G rd h fin => by
  cases d <;> first | exact (show False from h).elim | skip
  · obtain ⟨a, xs, rfl, ha, ra⟩ := rd
    obtain ⟨ns, rfl, hl, h⟩ := h
    have e := ra.ints_eq
    subst e
    exact .inl ⟨a, ns, rfl, SqL.of ha, hl, fun m h1 h2 => fin.dat G (h m h1 h2) (.int _)⟩
  · obtain ⟨a, xs, rfl, ha, ra⟩ := rd.tup
    obtain ⟨ns, rfl, hl, h⟩ := h
    have e := ra.ints_eq
    subst e
    exact .inr ⟨a, ns, rfl, SqT.of (G.sub _ _ ha), hl, fun m h1 h2 => fin.dat G (h m h1 h2) (.int _)⟩
theorem od_min : OpDC (rMinA K) gMin := fun B env σ F H v d K' Q G rd h fin => by
  cases d <;> first | exact (show False from h).elim | skip
  · obtain ⟨a, xs, rfl, ha, ra⟩ := rd
    obtain ⟨ns, rfl, hl, h⟩ := h
    have e := ra.ints_eq
    subst e
    exact .inl ⟨a, ns, rfl, SqL.of ha, hl, fun m h1 h2 => fin.dat G (h m h1 h2) (.int _)⟩
  · obtain ⟨a, xs, rfl, ha, ra⟩ := rd.tup
    obtain ⟨ns, rfl, hl, h⟩ := h
    have e := ra.ints_eq
    subst e
    exact .inr ⟨a, ns, rfl, SqT.of (G.sub _ _ ha), hl, fun m h1 h2 => fin.dat G (h m h1 h2) (.int _)⟩
/-- max(a, b), min(a, b) -/
def gMax2 : GN
  | [.int i, .int j], k => k (.dat (.int (if j > i then j else i)))
  | _, _ => False
def gMin2 : GN
  | [.int i, .int j], k => k (.dat (.int (if j < i then j else i)))
  | _, _ => False
theorem RpA.int2 {Z : ZZ} {F : Hp} {vs : List V} {i j : Int} (h : RpA Z F vs [.int i, .int j]) : vs = [.int i, .int j] := by
  cases h with
  | cons a r =>
    cases r with
    | cons b r =>
      cases r
      cases a
      cases b
      rfl
theorem od_max2 : OpDN (fun xs H Q => ∃ i j, xs = [.int i, .int j] ∧ Q (.int (if j > i then j else i)) H) gMax2 := fun B env σ F H vs ds K' Q G r h fin => by
  unfold gMax2 at h
  split at h
  · exact ⟨_, _, r.int2, fin.dat G h (.int _)⟩
  · exact h.elim
theorem od_min2 : OpDN (fun xs H Q => ∃ i j, xs = [.int i, .int j] ∧ Q (.int (if j < i then j else i)) H) gMin2 := fun B env σ F H vs ds K' Q G r h fin => by
  unfold gMin2 at h
  split at h
  · exact ⟨_, _, r.int2, fin.dat G h (.int _)⟩
  · exact h.elim
/-- sorted of a list of alike data -/
def SortOk (ds : List D) : Prop := PySem.W.AllAlike (ds.map D.py) ∧ PySem.W.Sortable (ds.map D.py) ∧ ∀ d ∈ ds, Shp 59 d
def sortD (ds : List D) : List D := ds.mergeSort (PySem.W.dataLe false D.py)
def gSort : G1
  | .lst ds, k => SortOk ds ∧ k (.new (.lst (sortD ds)))
  | _, _ => False
theorem rpA_zip {Z : ZZ} {F : Hp} : ∀ {ps : List (V × D)}, (∀ p ∈ ps, Rp Z F p.1 p.2) → RpA Z F (ps.map Prod.fst) (ps.map Prod.snd)
  | [], _ => .nil
  | p :: ps, h => .cons (h p List.mem_cons_self) (rpA_zip fun q hq => h q (List.mem_cons_of_mem _ hq))
theorem zip_rpA {Z : ZZ} {F : Hp} : ∀ {vs : List V} {ds : List D}, RpA Z F vs ds → ∃ ps : List (V × D), vs = ps.map Prod.fst ∧ ds = ps.map Prod.snd ∧ ∀ p ∈ ps, Rp Z F p.1 p.2
  | _, _, .nil => ⟨[], rfl, rfl, fun _ h => absurd h (by simp)⟩
  | _, _, .cons (v := v) (d := d) h r => by
    obtain ⟨ps, e1, e2, e3⟩ := zip_rpA r
    refine ⟨(v, d) :: ps, by rw [e1]; rfl, by rw [e2]; rfl, fun p hp => ?_⟩
    rcases List.mem_cons.mp hp with rfl | hp
    · exact h
    · exact e3 p hp
theorem od_sort : OpDC (rSortD K) gSort := fun B env σ F H v d K' Q G rd h fin => by
  cases d <;> first | exact (show False from h).elim | skip
  rename_i ds
  obtain ⟨a, xs, rfl, ha, ra⟩ := rd
  obtain ⟨⟨h1, h2, h3⟩, h⟩ := h
  obtain ⟨ps, e1, e2, e3⟩ := zip_rpA ra
  have em : ds.map D.py = (ps.map fun p => (p.1, p.2.py)).map Prod.snd := by
    rw [e2, List.map_map, List.map_map]
    rfl
  have mem : ∀ p ∈ ps, p.2 ∈ ds := fun p hp => by
    rw [e2]
    exact List.mem_map_of_mem hp
  refine ⟨a, ps.map fun p => (p.1, p.2.py), rfl, ?_, fun p hp => ?_, by rw [← em]; exact h1, by rw [← em]; exact h2, fun p hp => ?_, ?_⟩
  · rw [List.map_map]
    rw [e1] at ha
    exact SqL.of ha
  · obtain ⟨q, hq, rfl⟩ := List.mem_map.mp hp
    exact (h3 _ (mem q hq)).dpW G.sub (RW.of G.sub (e3 q hq))
  · obtain ⟨q, hq, rfl⟩ := List.mem_map.mp hp
    have := (h3 _ (mem q hq)).lay.2
    show q.2.py.depth ≤ 60
    omega
  · have s1 : ((ps.map fun p => (p.1, p.2.py)).mergeSort (PySem.W.dataLe false Prod.snd)).map Prod.fst = (ps.mergeSort (PySem.W.dataLe false fun p => p.2.py)).map Prod.fst := by
      rw [← PySem.W.sort_maps (r := PySem.W.dataLe false fun p : V × D => p.2.py) (s := PySem.W.dataLe false (Prod.snd : V × PyData → PyData)) (fun p : V × D => (p.1, p.2.py)) (fun _ _ _ _ => rfl), List.map_map]
      rfl
    have s2 : sortD ds = (ps.mergeSort (PySem.W.dataLe false fun p => p.2.py)).map Prod.snd := by
      unfold sortD
      rw [e2, PySem.W.sort_maps (r := PySem.W.dataLe false fun p : V × D => p.2.py) (s := PySem.W.dataLe false D.py) (Prod.snd : V × D → D) (fun _ _ _ _ => rfl)]
    rw [s1]
    rw [s2] at h
    exact fin.lst G h (rpA_zip fun p hp => e3 p ((List.mergeSort_perm _ _).mem_iff.mp hp))
end
end DL

/-! DStm: statements over data. -/
namespace DL
open PySem L2
section
variable {B : Bas} {env env1 env' : SE} {σ : L2.St} {F H F' H' : Hp}

/-! ### storing into slots -/
theorem getE {α : Type} {l : List α} {i j : Nat} {x y : α} (q : (l.set i x)[j]? = some y) : (i = j ∧ y = x) ∨ (i ≠ j ∧ l[j]? = some y) := by
  by_cases e : i = j
  · subst e
    by_cases l' : i < l.length
    · rw [List.getElem?_set_self l'] at q
      exact .inl ⟨rfl, (Option.some.inj q).symm⟩
    · rw [List.getElem?_eq_none (by rw [List.length_set]; omega)] at q
      cases q
  · rw [List.getElem?_set_ne e] at q
    exact .inr ⟨e, q⟩
theorem set_at {α : Type} {l : List α} {i j : Nat} {x y z : α} (q : (l.set i x)[j]? = some y) (e : i = j) : (l.set i z)[j]? = some z := by
  subst e
  by_cases l' : i < l.length
  · exact List.getElem?_set_self l'
  · rw [List.getElem?_eq_none (by rw [List.length_set]; omega)] at q
    cases q
theorem Hld.setCell (G : Hld B env σ F H) (i : Nat) (c : Cel) (v : Option V)
    (hd : ∀ d, c = .d d → ∃ w, v = some w ∧ Rp B.Z F w d)
    (ho : ∀ oc, c = .own oc → ∃ p ho, v = some (.ref p) ∧ F p = none ∧ B.H0 p = none ∧ H p = some ho ∧ RpO B.Z F ho oc ∧ ∀ j c', j ≠ i → env[j]? = some (.own c') → σ[j]? ≠ some (some (.ref p))) : Hld B (env.set i c) (σ.set i v) F H := by
  have hl := G.len
  have at_ : ∀ {j : Nat} {c' : Cel}, (env.set i c)[j]? = some c' → i = j → (σ.set i v)[j]? = some v := fun {j c'} q e => by
    subst e
    have h1 : i < env.length := by
      have := (List.getElem?_eq_some_iff.mp q).1
      rwa [List.length_set] at this
    exact List.getElem?_set_self (by omega)
  refine ⟨by rw [List.length_set, List.length_set]; exact hl, G.sub, G.exF, G.keep, G.out, G.zok, G.zin, G.znf, fun j d q => ?_, fun j oc q => ?_, fun j k u c1 c2 q1 q2 e1 e2 => ?_⟩
  · rcases getE q with ⟨e, z⟩ | ⟨ne, z⟩
    · obtain ⟨w, e1, r⟩ := hd d z.symm
      refine ⟨w, ?_, r⟩
      rw [at_ q e, e1]
    · rw [List.getElem?_set_ne ne]
      exact G.dat j d z
  · rcases getE q with ⟨e, z⟩ | ⟨ne, z⟩
    · obtain ⟨p, ho, e1, h1, h2, h3, h4, _⟩ := ho oc z.symm
      refine ⟨p, ho, ?_, h1, h2, h3, h4⟩
      rw [at_ q e, e1]
    · rw [List.getElem?_set_ne ne]
      exact G.own j oc z
  · rcases getE q1 with ⟨ei, z1⟩ | ⟨ni, z1⟩
    · rcases getE q2 with ⟨ek, z2⟩ | ⟨nk, z2⟩
      · omega
      · exfalso
        obtain ⟨p, hoo, ep, _, _, _, _, far⟩ := ho c1 z1.symm
        rw [at_ q1 ei, ep] at e1
        cases e1
        rw [List.getElem?_set_ne nk] at e2
        exact far k c2 (Ne.symm nk) z2 e2
    · rcases getE q2 with ⟨ek, z2⟩ | ⟨nk, z2⟩
      · exfalso
        obtain ⟨p, hoo, ep, _, _, _, _, far⟩ := ho c2 z2.symm
        rw [at_ q2 ek, ep] at e2
        cases e2
        rw [List.getElem?_set_ne ni] at e1
        exact far j c1 (Ne.symm ni) z1 e1
      · rw [List.getElem?_set_ne ni] at e1
        rw [List.getElem?_set_ne nk] at e2
        exact G.sep j k u c1 c2 z1 z2 e1 e2
theorem Hld.setD (G : Hld B env σ F H) (i : Nat) {d : D} {v : V} (r : Rp B.Z F v d) : Hld B (env.set i (.d d)) (σ.set i (some v)) F H :=
  G.setCell i (.d d) (some v) (fun d' e => by cases e; exact ⟨v, rfl, r⟩) fun oc e => by cases e
theorem Hld.setU (G : Hld B env σ F H) (i : Nat) (v : Option V) : Hld B (env.set i .un) (σ.set i v) F H :=
  G.setCell i .un v (fun d' e => by cases e) fun oc e => by cases e
theorem Hld.setO (G : Hld B env σ F H) (i : Nat) {oc : OC} {p : Addr} {ho : HO} (hf : F p = none) (h0 : B.H0 p = none) (hp : H p = some ho) (r : RpO B.Z F ho oc) (no : ¬ Owns env σ p) : Hld B (env.set i (.own oc)) (σ.set i (some (.ref p))) F H :=
  G.setCell i (.own oc) (some (.ref p)) (fun d' e => by cases e) fun oc' e => by
    cases e
    exact ⟨p, ho, rfl, hf, h0, hp, r, fun j c' _ q z => no ⟨j, c', q, z⟩⟩
/-- an owned object changes -/
theorem Hld.mut (G : Hld B env σ F H) {i : Nat} {oc oc' : OC} {o : Addr} {ho : HO} (e : env[i]? = some (.own oc)) (es : σ[i]? = some (some (.ref o))) (r : RpO B.Z F ho oc') : Hld B (env.set i (.own oc')) σ F (upd H o ho) := by
  obtain ⟨hf, h0, nz, u, hu⟩ := G.own_no ⟨i, oc, e, es⟩
  refine ⟨by rw [List.length_set]; exact G.len, fun a x q => ?_, G.exF, fun a x q z => ?_, G.out, G.zok.keep fun a x z q => ?_, G.zin, G.znf, fun j d q => ?_, fun j c q => ?_, fun j k a c1 c2 q1 q2 e1 e2 => ?_⟩
  · rw [upd_ne (ne_of_none q hf)]
    exact G.sub a x q
  · rw [upd_ne (ne_of_none q h0)]
    exact G.keep a x q z
  · have ne : a ≠ o := fun w => by
      subst w
      exact nz z
    rw [upd_ne ne]
    exact q
  · rcases getE q with ⟨_, z⟩ | ⟨_, z⟩
    · cases z
    · exact G.dat j d z
  · rcases getE q with ⟨ej, z⟩ | ⟨nj, z⟩
    · cases z
      subst ej
      exact ⟨o, ho, es, hf, h0, upd_same, r⟩
    · obtain ⟨p, hp, e1, h1, h2, h3, h4⟩ := G.own j c z
      have ne : p ≠ o := fun w => nj (G.sep i j o _ _ e z es (w ▸ e1))
      exact ⟨p, hp, e1, h1, h2, by rw [upd_ne ne]; exact h3, h4⟩
  · have back : ∀ {j : Nat} {c : OC}, (env.set i (.own oc'))[j]? = some (.own c) → ∃ c', env[j]? = some (.own c') := fun {j c} q => by
      rcases getE q with ⟨ej, _⟩ | ⟨_, z⟩
      · subst ej; exact ⟨_, e⟩
      · exact ⟨_, z⟩
    obtain ⟨c1', z1⟩ := back q1
    obtain ⟨c2', z2⟩ := back q2
    exact G.sep j k a c1' c2' z1 z2 e1 e2

/-- a value goes into a slot -/
def setL (i j : Nat) (env : SE) (k : SE → Prop) (x : Val) : Prop := asD x env fun d e => k (e.set i (.d d))
def setV (i : Nat) : Val → SE → (SE → Prop) → Prop
  | .dat d, env, k => k (env.set i (.d d))
  | .new c, env, k => k (env.set i (.own c))
  | .loc j, env, k => asL j env (fun d e => k (e.set i (.d d))) env[j]?
theorem setV_ok {x : Val} {v : V} {k : SE → Prop} {i : Nat} (G : Hld B env σ F H) (s : Mov B env env1 σ F H F' H') (G1 : Hld B env1 σ F' H') (r : VR B σ F' H H' v x) (h : setV i x env1 k) : ∃ e2 F2, k e2 ∧ Hld B e2 (σ.set i (some v)) F2 H' := by
  cases x with
  | dat d => exact ⟨_, F', h, G1.setD i r⟩
  | new c =>
    obtain ⟨p, ho, rfl, h0, hf, h1, hr⟩ := r
    refine ⟨_, F', h, G1.setO i hf (G.base_none h0).1 h1 hr fun z => ?_⟩
    exact (G.base_none h0).2.2.2 (s.own p z)
  | loc j =>
    obtain ⟨d, e2, F2, q, s2, G2, rd⟩ := asD_ok (x := .loc j) G s G1 r (show asD (.loc j) env1 (fun d e => k (e.set i (.d d))) from h)
    exact ⟨_, F2, q, G2.setD i rd⟩
end

/-! ### statements -/
theorem ds_of {X : Cx} {st : Stmt} {t : TS} {u : TDS} (h : PS X st t) (k : ∀ (B : Bas) env σ F H E D, Hld B env σ F H → u E env → EOk B E D → t D σ H) : PS X st (cS u) :=
  PS.imp h fun D σ H ⟨B, env, F, G, E, q, ok⟩ => k B env σ F H E D G q ok
section
variable {X : Cx} {B : Bas} {e : Expr} {te : TDE} {pos : Pos} {st : Stmt} {rest : List Stmt} {t u : TDS}
def dNext : TDS := fun E env => E.nx env
def dSeq (t u : TDS) : TDS := fun E env => t { E with nx := fun e => frc e (u E) } env
theorem EOk.seq {E : DEnds} {D : Ends} {u : TDS} (ok : EOk B E D) : EOk B { E with nx := fun e => frc e (u E) } { D with nx := cS u D } := ⟨fun env σ F H h G => ⟨B, env, F, G, E, frc_out h, ok⟩, ok.rt, ok.bk, ok.ct⟩
theorem dss_nil : PSs X [] (cS dNext) := PSs.imp pss_nil fun D σ H ⟨B, env, F, G, E, q, ok⟩ => ok.nx env σ F H q G
theorem dss_cons (h1 : PS X st (cS t)) (h2 : PSs X rest (cS u)) : PSs X (st :: rest) (cS (dSeq t u)) :=
  PSs.imp (pss_cons h1 h2) fun D σ H ⟨B, env, F, G, E, q, ok⟩ => ⟨B, env, F, G, _, q, ok.seq⟩
theorem dss_one (h1 : PS X st (cS t)) : PSs X [st] (cS t) := pss_one h1
theorem ds_pass : PS X (.Pass pos) (cS dNext) := ds_of ps_pass fun B env σ F H E D G q ok => ok.nx env σ F H q G
def dBrk : TDS := fun E env => E.bk env
def dCnt : TDS := fun E env => E.ct env
theorem ds_break : PS X (.Break pos) (cS dBrk) := ds_of ps_break fun B env σ F H E D G q ok => ok.bk env σ F H q G
theorem ds_cont : PS X (.Continue pos) (cS dCnt) := ds_of ps_continue fun B env σ F H E D G q ok => ok.ct env σ F H q G
theorem ds_doc {x j pos pos'} : PS X (.Expr (.Constant (.str x) j pos) pos') (cS dNext) := ds_of ps_doc fun B env σ F H E D G q ok => ok.nx env σ F H q G
def dNever : TDS := fun _ _ => False
theorem ds_never : PS X st (cS dNever) := ds_of ps_never fun B env σ F H E D G q ok => q
def dDrop (te : TDE) : TDS := fun E env => te env fun _ e1 => E.nx e1
theorem ds_expr (he : PE X e (cE te)) (hs : swapsWith e none pos.line X.env = pure false := by rfl) : PS X (.Expr e pos) (cS (dDrop te)) :=
  ds_of (ps_expr he hs) fun B env σ F H E D G q ok => ⟨B, env, F, G, _, q, fun x e1 v F1 H1 q1 s1 G1 r1 => ok.nx e1 σ F1 H1 q1 G1⟩
/-- return e -/
def retL (k : Val → Prop) : Option Cel → Prop
  | some (.own c) => k (.new c)
  | some (.d d) => k (.dat d)
  | _ => False
def retV (k : Val → Prop) : Val → SE → Prop
  | .dat d, _ => k (.dat d)
  | .new c, _ => k (.new c)
  | .loc i, env => retL k env[i]?
def dRet (te : TDE) : TDS := fun E env => te env (retV E.rt)
theorem retV_ok {env env1 : SE} {σ : L2.St} {F H F1 H1 : Hp} {x : Val} {v : V} {E : DEnds} {D : Ends} (ok : EOk B E D) (G : Hld B env σ F H) (s1 : Mov B env env1 σ F H F1 H1) (G1 : Hld B env1 σ F1 H1) (r1 : VR B σ F1 H H1 v x) (q1 : retV E.rt x env1) : D.rt v H1 := by
  cases x with
  | dat d => exact ok.rt _ v env1 σ F1 H1 q1 G1 r1
  | new c =>
    obtain ⟨p, ho, rfl, h0, hf, h1, hr⟩ := r1
    exact ok.rt _ _ env1 σ F1 H1 q1 G1 ⟨p, ho, rfl, (G.base_none h0).1, hf, h1, hr⟩
  | loc i =>
    have q2 : retL E.rt env1[i]? := q1
    have r2 : σ[i]? = some (some v) := r1
    cases e : env1[i]? with
    | none =>
      rw [e] at q2
      exact (show False from q2).elim
    | some c =>
      rw [e] at q2
      cases c with
      | un => exact (show False from q2).elim
      | d d =>
        obtain ⟨w, e1, rw_⟩ := G1.dat i d e
        rw [r2] at e1
        cases e1
        exact ok.rt _ v env1 σ F1 H1 q2 G1 rw_
      | own c =>
        obtain ⟨o, ho, e1, h1, h2, h3, h4⟩ := G1.own i c e
        rw [r2] at e1
        cases e1
        exact ok.rt _ _ env1 σ F1 H1 q2 G1 ⟨o, ho, rfl, h2, h1, h3, h4⟩
theorem ds_ret (he : PE X e (cE te)) : PS X (.Return (some e) pos) (cS (dRet te)) :=
  ds_of (ps_ret he) fun B env σ F H E D G q ok => ⟨B, env, F, G, _, q, fun x e1 v F1 H1 q1 s1 G1 r1 => retV_ok ok G s1 G1 r1 q1⟩
def dRetN : TDS := fun E _ => E.rt (.dat .non)
theorem ds_retN : PS X (.Return none pos) (cS dRetN) := ds_of ps_retN fun B env σ F H E D G q ok => ok.rt _ _ env σ F H q G Rp.non
def dIfS (c : TDT) (t u : TDS) : TDS := fun E env => c env fun b e1 => bc b (t E e1) (u E e1)
theorem ds_if {c : Expr} {a b : List Stmt} {tc : TDT} (hc : PT X c (cT tc)) (ha : PSs X a (cS t)) (hb : PSs X b (cS u)) : PS X (.If c a b pos) (cS (dIfS tc t u)) :=
  ds_of (ps_if hc ha hb) fun B env σ F H E D G q ok => ⟨B, env, F, G, _, q, fun b e1 F1 H1 q1 s1 G1 => by
    cases b with
    | true =>
      rw [if_pos rfl]
      exact ⟨B, e1, F1, G1, E, bcT q1, ok⟩
    | false =>
      rw [if_neg Bool.false_ne_true]
      exact ⟨B, e1, F1, G1, E, bcF q1, ok⟩⟩
/-- x = e -/
def dSet (i : Nat) (te : TDE) : TDS := fun E env => te env fun x e1 => setV i x e1 E.nx
theorem set_ok {i : Nat} (σ : L2.St) (H : Hp) (D : Ends) (h : cS (dSet i te) D σ H) : tAsg (cE te) (gName i) D σ H := by
  obtain ⟨B, env, F, G, E, q, ok⟩ := h
  refine ⟨B, env, F, G, _, q, fun x e1 v F1 H1 q1 s1 G1 r1 => ?_⟩
  obtain ⟨e2, F2, q2, G2⟩ := setV_ok G s1 G1 r1 q1
  exact ok.nx e2 _ F2 H1 q2 G2
theorem ds_set (i : Nat) {x : Str} {pos' : Pos} (hN : X.N.Nodup) (he : PE X e (cE te)) (hi : X.N[i]? = some x := by rfl) (hx : Loc X.env.scope x := by first | exact Or.inl rfl | exact Or.inr rfl) (hs : swapsWith e (some (.Name x pos')) pos.line X.env = pure false := by rfl) (hf : X.fn x = true ∨ X.env.scope.names.lookup x = some .local := by first | exact .inl rfl | exact .inr rfl | assumption) :
    PS X (.Assign [.Name x pos'] e pos) (cS (dSet i te)) := PS.imp (ps_set (i := i) hN hi hx he hs hf) fun D σ H h => set_ok σ H D h
end

/-! ### while -/
section
variable {X : Cx} {B : Bas} {pos : Pos}
def dWhile (c : TDT) (tb : TDS) : TDS := fun E env => ∃ (I : SE → Prop) (m : SE → Nat), I env ∧ ∀ e, I e → c e fun b e1 => bc b (tb { E with nx := fun e' => I e' ∧ m e' < m e, ct := fun e' => I e' ∧ m e' < m e, bk := E.nx } e1) (E.nx e1)
theorem ds_while {c : Expr} {body : List Stmt} {tc : TDT} {tb : TDS} (hp : PassesOwn (model X.prog X.w) X.A X.env X.xe) (hc : PT X c (cT tc)) (hb : PSs X body (cS tb)) : PS X (.While c body [] pos) (cS (dWhile tc tb)) :=
  ds_of (ps_while hp hc hb) fun B env σ F H E D G q ok => by
    obtain ⟨I, m, i0, turn⟩ := q
    refine ⟨fun n σ H => ∃ (env : SE) (F : Hp), Hld B env σ F H ∧ I env ∧ n = m env, ⟨_, env, F, G, i0, rfl⟩, fun n σ H ⟨env, F, G, i, en⟩ => ⟨B, env, F, G, _, turn env i, fun b e1 F1 H1 q1 s1 G1 => ?_⟩⟩
    subst en
    cases b with
    | true =>
      rw [if_pos rfl]
      exact ⟨fun σ' H' => ∃ (env' : SE) (F' : Hp), Hld B env' σ' F' H' ∧ I env' ∧ m env' < m env, fun σ' H' ⟨env', F', G', i', l⟩ => ⟨_, l, env', F', G', i', rfl⟩, B, e1, F1, G1, _, bcT q1,
        ⟨fun env' σ' F' H' h G' => ⟨env', F', G', h.1, h.2⟩, ok.rt, fun env' σ' F' H' h G' => ok.nx env' σ' F' H' h G', fun env' σ' F' H' h G' => ⟨env', F', G', h.1, h.2⟩⟩⟩
    | false =>
      rw [if_neg Bool.false_ne_true]
      exact ok.nx e1 σ F1 H1 (bcF q1) G1
end

/-! ### targets: a name, names -/
def setAllD : List Nat → List D → SE → SE
  | i :: is, d :: ds, env => setAllD is ds (env.set i (.d d))
  | _, _, env => env
def setAllV : List Nat → List V → L2.St → L2.St
  | i :: is, v :: vs, σ => setAllV is vs (σ.set i (some v))
  | _, _, σ => σ
theorem Hld.setAll {B : Bas} {F H : Hp} : ∀ (is : List Nat) {env : SE} {σ : L2.St} {vs : List V} {ds : List D}, Hld B env σ F H → RpA B.Z F vs ds → Hld B (setAllD is ds env) (setAllV is vs σ) F H
  | [], _, _, _, _, G, _ => by
    unfold setAllD setAllV
    exact G
  | i :: is, _, _, _, _, G, .nil => by
    unfold setAllD setAllV
    exact G
  | i :: is, _, _, _, _, G, .cons h r => by
    unfold setAllD setAllV
    exact Hld.setAll is (G.setD i h) r
abbrev TDG := D → SE → (SE → Prop) → Prop
def dgN (i : Nat) : TDG := fun d env k => k (env.set i (.d d))
def dgT (is : List Nat) : TDG := fun d env k => match d with
  | .tup ds => ds.length = is.length ∧ k (setAllD is ds env)
  | _ => False
/-- a target's reading, kept with the slots that it sets -/
structure TgOk (K : PySem.W.Frag) (is : List Nat) (g : TG) (dg : TDG) : Prop where
  run : ∀ (B : Bas) env σ F H v d k (Q : L2.St → Hp → Prop), Hld B env σ F H → Rp B.Z F v d → dg d env k → (∀ env' σ', k env' → Hld B env' σ' F H → (∀ vs : List Nat, (∀ i ∈ is, i ∈ vs) → wipe σ' vs = wipe σ vs) → (∀ j, j ∉ is → env'[j]? = env[j]?) → (∀ j ∈ is, ∀ c, env'[j]? ≠ some (Cel.own c)) → Q σ' H) → g v σ H Q
theorem wipe_set {vs : List Nat} {i : Nat} {v : Option V} : ∀ {σ : L2.St}, i ∈ vs → wipe (σ.set i v) vs = wipe σ vs := by
  induction vs with
  | nil => intro σ h; cases h
  | cons j vs ih =>
    intro σ h
    unfold wipe
    by_cases hm : i ∈ vs
    · rw [ih hm]
    · have e : i = j := by
        rcases List.mem_cons.mp h with e | e
        · exact e
        · exact absurd e hm
      subst e
      have : ∀ {σ : L2.St}, i ∉ vs → (wipe (σ.set i v) vs) = (wipe σ vs).set i v := by
        clear h ih
        intro σ h
        induction vs with
        | nil => rfl
        | cons k vs ih =>
          unfold wipe
          rw [List.mem_cons, not_or] at h
          rw [ih h.2 h.2, List.set_comm _ _ h.1]
      rw [this hm, List.set_set]
theorem tg_name {K : PySem.W.Frag} (i : Nat) : TgOk K [i] (gName i) (dgN i) := ⟨fun B env σ F H v d k Q G r h f =>
  f _ _ h (G.setD i r) (fun vs hv => wipe_set (hv i List.mem_cons_self)) (fun j hj => List.getElem?_set_ne fun e => hj (by rw [e]; exact List.mem_cons_self)) fun j hj c q => by
    have ej : j = i := by simpa using hj
    rcases getE q with ⟨_, z⟩ | ⟨nj, _⟩
    · cases z
    · exact nj ej.symm⟩
def gAll (is : List Nat) : TGs := fun vs σ H Q => vs.length = is.length ∧ Q (setAllV is vs σ) H
theorem pgs_nilA {X : Cx} : PGs X [] (gAll []) := ⟨fun pins s σ H vs us Q I r h => pgs_nil.run pins s σ H vs us Q I r (by
  obtain ⟨h1, h2⟩ := h
  cases vs with
  | nil => exact ⟨rfl, h2⟩
  | cons _ _ => simp at h1)⟩
theorem pgs_consA {X : Cx} {e : Expr} {es : List Expr} {i : Nat} {is : List Nat} (h1 : PG X e (gName i)) (h2 : PGs X es (gAll is)) (hs : (assignEach (e :: es) X.env).map (·.2) = assign e X.env :: (assignEach es X.env).map (·.2) := by rfl) : PGs X (e :: es) (gAll (i :: is)) := ⟨fun pins s σ H vs us Q I r h =>
  (pgs_cons h1 h2 hs).run pins s σ H vs us Q I r (by
    obtain ⟨h1, h2⟩ := h
    cases vs with
    | nil => simp at h1
    | cons v r' => exact ⟨v, r', rfl, by simpa using h1, h2⟩)⟩
def gFlat (K : PySem.W.Frag) (is : List Nat) : TG := gTup K is.length (gAll is)
theorem setAllV_wipe : ∀ (is : List Nat) (vs : List V) (σ : L2.St) (ws : List Nat), (∀ i ∈ is, i ∈ ws) → wipe (setAllV is vs σ) ws = wipe σ ws
  | [], _, _, _, _ => by unfold setAllV; rfl
  | i :: is, [], _, _, _ => by unfold setAllV; rfl
  | i :: is, v :: vs, σ, ws, h => by
    unfold setAllV
    rw [setAllV_wipe is vs _ ws fun j hj => h j (List.mem_cons_of_mem _ hj), wipe_set (h i List.mem_cons_self)]
theorem setAllD_out : ∀ (is : List Nat) (ds : List D) (env : SE) (j : Nat), j ∉ is → (setAllD is ds env)[j]? = env[j]?
  | [], _, _, _, _ => by unfold setAllD; rfl
  | i :: is, [], _, _, _ => by unfold setAllD; rfl
  | i :: is, d :: ds, env, j, h => by
    unfold setAllD
    rw [List.mem_cons, not_or] at h
    rw [setAllD_out is ds _ j h.2, List.getElem?_set_ne fun e => h.1 e.symm]
theorem setAllD_in : ∀ (is : List Nat) (ds : List D) (env : SE) (j : Nat) (c : OC), j ∈ is → is.length ≤ ds.length → (setAllD is ds env)[j]? ≠ some (.own c)
  | [], _, _, _, _, h, _ => absurd h (by simp)
  | i :: is, [], _, _, _, _, hl => absurd hl (by simp)
  | i :: is, d :: ds, env, j, c, h, hl => by
    unfold setAllD
    by_cases hm : j ∈ is
    · exact setAllD_in is ds _ j c hm (by simpa using hl)
    · rw [setAllD_out is ds _ j hm]
      have ej : j = i := by
        rcases List.mem_cons.mp h with e | e
        · exact e
        · exact absurd e hm
      intro q
      rcases getE q with ⟨_, z⟩ | ⟨nj, _⟩
      · cases z
      · exact nj ej.symm
theorem tg_tup {K : PySem.W.Frag} (is : List Nat) : TgOk K is (gFlat K is) (dgT is) := ⟨fun B env σ F H v d k Q G r h f => by
  cases d <;> first | exact (show False from h).elim | skip
  cases r with
  | tup e ra =>
    obtain ⟨hl, h⟩ := h
    exact ⟨_, _, rfl, SqT.of (G.sub _ _ e), by rw [ra.length]; exact hl, by rw [ra.length]; exact hl, f _ _ h (G.setAll is ra) (fun vs hv => setAllV_wipe is _ σ vs hv) (fun j hj => setAllD_out is _ env j hj) fun j hj c q => setAllD_in is _ env j c hj (by rw [hl]; exact Nat.le_refl _) q⟩⟩
section
variable {X : Cx} {B : Bas} {pos : Pos}
/-- names = data -/
def dAsgT (te : TDE) (dg : TDG) : TDS := fun E env => te env fun x e1 => asD x e1 fun d e2 => dg d e2 E.nx
theorem ds_asgT {tg e : Expr} {te : TDE} {g : TG} {dg : TDG} {is : List Nat} (he : PE X e (cE te)) (hg : PG X tg g) (hk : TgOk X.K is g dg) (hs : swapsWithSole [tg] e pos.line X.env = pure false := by rfl) (hw : swappedStores [tg] e X.env = pure none := by rfl)
    (h1 : (assignEach [tg] X.env).map (·.2) = [assign tg X.env] := by rfl) : PS X (.Assign [tg] e pos) (cS (dAsgT te dg)) :=
  ds_of (ps_asg he hg hs hw h1) fun B env σ F H E D G q ok => ⟨B, env, F, G, _, q, fun x e1 v F1 H1 q1 s1 G1 r1 => by
    obtain ⟨d, e2, F2, q2, s2, G2, rd⟩ := asD_ok G s1 G1 r1 q1
    exact hk.run B e2 σ F2 H1 v d E.nx D.nx G2 rd q2 fun env' σ' h' G' _ _ _ => ok.nx env' σ' F2 H1 h' G'⟩
end
end DL

/-! DStm2: several values at once; owned lists changed. -/
namespace DL
open PySem L2
/-! ### a, b = x, y -/
def isNew : Val → Bool
  | .new _ => true
  | _ => false
def VRs (B : Bas) (F' H H' : Hp) : List V → List Val → Prop
  | [], [] => True
  | v :: vs, x :: xs => (match x with
    | .dat d => Rp B.Z F' v d
    | .new c => (∃ p ho, v = .ref p ∧ H p = none ∧ F' p = none ∧ H' p = some ho ∧ RpO B.Z F' ho c) ∧ ∀ q ∈ vs.zip xs, isNew q.2 = true → q.1 ≠ v
    | .loc _ => False) ∧ VRs B F' H H' vs xs
  | _, _ => False
theorem VRs.length {B : Bas} {F' H H' : Hp} : ∀ {vs : List V} {xs : List Val}, VRs B F' H H' vs xs → vs.length = xs.length
  | [], [], _ => rfl
  | _ :: _, _ :: _, h => congrArg (· + 1) (VRs.length h.2)
  | [], _ :: _, h => h.elim
  | _ :: _, [], h => h.elim
theorem VRs.back {B : Bas} {env env1 : SE} {σ : L2.St} {F H F1 H1 F2 H2 : Hp} (s : Mov B env env1 σ F H F1 H1) : ∀ {vs : List V} {xs : List Val}, VRs B F2 H1 H2 vs xs → VRs B F2 H H2 vs xs
  | [], [], _ => trivial
  | v :: vs, x :: xs, h => by
    refine ⟨?_, VRs.back s h.2⟩
    cases x with
    | dat d => exact h.1
    | new c =>
      obtain ⟨a, b⟩ := (show (∃ p ho, v = .ref p ∧ H1 p = none ∧ F2 p = none ∧ H2 p = some ho ∧ RpO B.Z F2 ho c) ∧ ∀ q ∈ vs.zip xs, isNew q.2 = true → q.1 ≠ v from h.1)
      exact ⟨VR.back (x := .new c) s a, b⟩
    | loc i => exact h.1
  | [], _ :: _, h => h.elim
  | _ :: _, [], h => h.elim
/-- all new ones lie beyond the heap H -/
theorem VRs.far {B : Bas} {F' H H' : Hp} : ∀ {vs : List V} {xs : List Val}, VRs B F' H H' vs xs → ∀ q ∈ vs.zip xs, isNew q.2 = true → ∃ p, q.1 = .ref p ∧ H p = none
  | [], [], _, q, hq, _ => by simp at hq
  | v :: vs, x :: xs, h, q, hq, hn => by
    rw [List.zip_cons_cons] at hq
    rcases List.mem_cons.mp hq with rfl | hq
    · cases x with
      | dat d => exact absurd (show false = true from hn) Bool.false_ne_true
      | new c =>
        obtain ⟨⟨p, ho, e, h0, _⟩, _⟩ := (show (∃ p ho, v = .ref p ∧ H p = none ∧ F' p = none ∧ H' p = some ho ∧ RpO B.Z F' ho c) ∧ ∀ q ∈ vs.zip xs, isNew q.2 = true → q.1 ≠ v from h.1)
        exact ⟨p, e, h0⟩
      | loc i => exact absurd (show false = true from hn) Bool.false_ne_true
    · exact VRs.far h.2 q hq hn
  | [], _ :: _, h, _, _, _ => h.elim
  | _ :: _, [], h, _, _, _ => h.elim
abbrev TDV := SE → (List Val → SE → Prop) → Prop
def cV (t : TDV) : TA := fun σ H Q => ∃ (B : Bas) (env : SE) (F : Hp), Hld B env σ F H ∧ ∃ Q' : List Val → SE → Prop, t env Q' ∧ ∀ xs env' vs F' H', Q' xs env' → Mov B env env' σ F H F' H' → Hld B env' σ F' H' → VRs B F' H H' vs xs → Q vs H'
def unloc : Val → SE → (Val → SE → Prop) → Prop
  | .dat d, env, k => k (.dat d) env
  | .new c, env, k => k (.new c) env
  | .loc i, env, k => asL i env (fun d e => k (.dat d) e) env[i]?
def dvNil : TDV := fun env Q => Q [] env
def dvCons (ta : TDE) (tr : TDV) : TDV := fun env Q => ta env fun x e1 => unloc x e1 fun y e2 => tr e2 fun xs e3 => Q (y :: xs) e3
section
variable {X : Cx} {B : Bas} {e : Expr} {es : List Expr} {te : TDE} {t : TDV} {pos : Pos}
theorem dv_nil : PA X [] (cV dvNil) := PA.imp pa_nil fun σ H Q ⟨B, env, F, G, Q', q, f⟩ => f _ env _ F H q Mov.refl G trivial
theorem unloc_ok {env env1 : SE} {σ : L2.St} {F H F1 H1 : Hp} {v : V} {x : Val} {k : Val → SE → Prop} (G : Hld B env σ F H) (s : Mov B env env1 σ F H F1 H1) (G1 : Hld B env1 σ F1 H1) (r : VR B σ F1 H H1 v x) (h : unloc x env1 k) :
    ∃ y env2 F2, k y env2 ∧ (∀ i, y ≠ .loc i) ∧ Mov B env env2 σ F H F2 H1 ∧ Hld B env2 σ F2 H1 ∧ VR B σ F2 H H1 v y := by
  cases x with
  | dat d => exact ⟨.dat d, env1, F1, h, (fun i z => by cases z), s, G1, r⟩
  | new c => exact ⟨.new c, env1, F1, h, (fun i z => by cases z), s, G1, r⟩
  | loc i =>
    obtain ⟨d, e2, F2, q, s2, G2, rd⟩ := asD_ok (x := .loc i) G s G1 r (show asD (.loc i) env1 (fun d e => k (.dat d) e) from h)
    exact ⟨.dat d, e2, F2, q, (fun i z => by cases z), s2, G2, rd⟩
theorem dv_cons (ha : PE X e (cE te)) (hr : PA X es (cV t)) (hs : starEach (e :: es) X.env = (false, eval e X.env) :: starEach es X.env := by rfl) : PA X (e :: es) (cV (dvCons te t)) :=
  PA.imp (pa_cons ha hr hs) fun σ H Q ⟨B, env, F, G, Q', q, f⟩ => ⟨B, env, F, G, _, q, fun x e1 v F1 H1 q1 s1 G1 r1 => by
    obtain ⟨y, e2, F2, q2, nl, s2, G2, ry⟩ := unloc_ok G s1 G1 r1 q1
    refine ⟨B, e2, F2, G2, _, q2, fun xs e3 vs F3 H3 q3 s3 G3 r3 => f _ e3 _ F3 H3 q3 (s2.trans s3) G3 ⟨?_, VRs.back s2 r3⟩⟩
    have ry3 := VR.shift G s2 s3 ry
    cases y with
    | dat d => exact ry3
    | new c =>
      refine ⟨ry3, fun q hq hn => ?_⟩
      obtain ⟨p, e1, e2⟩ := VRs.far r3 q hq hn
      obtain ⟨p', ho, e3, _, _, h1, _⟩ := ry
      rw [e1, e3]
      intro z
      cases z
      rw [e2] at h1
      cases h1
    | loc i => exact absurd rfl (nl i)⟩
def cellOf : Val → Cel
  | .dat d => .d d
  | .new c => .own c
  | .loc _ => .un
def setAllX : List Nat → List Val → SE → SE
  | i :: is, x :: xs, env => setAllX is xs (env.set i (cellOf x))
  | _, _, env => env
theorem Hld.setAllX {F H H' : Hp} : ∀ (is : List Nat) {env : SE} {σ : L2.St} {vs : List V} {xs : List Val}, Hld B env σ F H' → (∀ p, H p = none → B.H0 p = none) → VRs B F H H' vs xs → (∀ q ∈ vs.zip xs, isNew q.2 = true → ∀ p, q.1 = .ref p → ¬ Owns env σ p) → Hld B (DL.setAllX is xs env) (setAllV is vs σ) F H'
  | [], _, _, _, _, G, _, _, _ => by
    unfold DL.setAllX setAllV
    exact G
  | i :: is, _, _, [], [], G, _, _, _ => by
    unfold DL.setAllX setAllV
    exact G
  | i :: is, _, _, [], _ :: _, _, _, r, _ => r.elim
  | i :: is, _, _, _ :: _, [], _, _, r, _ => r.elim
  | i :: is, env, σ, v :: vs, x :: xs, G, h0, r, no => by
    unfold DL.setAllX setAllV
    cases x with
    | dat d =>
      refine Hld.setAllX is (G.setD i r.1) h0 r.2 fun q hq hn p e ⟨j, c, z1, z2⟩ => ?_
      refine no q (by rw [List.zip_cons_cons]; exact List.mem_cons_of_mem _ hq) hn p e ?_
      rcases getE z1 with ⟨_, z⟩ | ⟨nj, z⟩
      · cases z
      · rw [List.getElem?_set_ne nj] at z2
        exact ⟨j, c, z, z2⟩
    | new c =>
      obtain ⟨⟨p0, ho, rfl, hh, hf, h1, hr⟩, far⟩ := (show (∃ p ho, v = .ref p ∧ H p = none ∧ F p = none ∧ H' p = some ho ∧ RpO B.Z F ho c) ∧ ∀ q ∈ vs.zip xs, isNew q.2 = true → q.1 ≠ v from r.1)
      refine Hld.setAllX is (G.setO i hf (h0 p0 hh) h1 hr (no (.ref p0, .new c) (by rw [List.zip_cons_cons]; exact List.mem_cons_self) rfl p0 rfl)) h0 r.2 fun q hq hn p e ⟨j, c', z1, z2⟩ => ?_
      have np : p ≠ p0 := fun z => far q hq hn (by rw [e, z])
      refine no q (by rw [List.zip_cons_cons]; exact List.mem_cons_of_mem _ hq) hn p e ?_
      rcases getE z1 with ⟨ej, z⟩ | ⟨nj, z⟩
      · exfalso
        subst ej
        have hl : i < (σ.set i (some (V.ref p0))).length := (List.getElem?_eq_some_iff.mp z2).1
        rw [List.length_set] at hl
        rw [List.getElem?_set_self hl] at z2
        cases z2
        exact np rfl
      · rw [List.getElem?_set_ne nj] at z2
        exact ⟨j, c', z, z2⟩
    | loc i => exact (show False from r.1).elim
theorem vals_ok {is : List Nat} {σ : L2.St} {H : Hp} {env env' : SE} {F F' H' : Hp} {xs : List Val} {vs : List V} (G : Hld B env σ F H) (s : Mov B env env' σ F H F' H') (G' : Hld B env' σ F' H') (r : VRs B F' H H' vs xs) : Hld B (setAllX is xs env') (setAllV is vs σ) F' H' := by
  refine G'.setAllX is (H := H) (fun p hp => (G.base_none hp).1) r fun q hq hn p e z => ?_
  obtain ⟨p', e', h0⟩ := VRs.far r q hq hn
  rw [e'] at e
  cases e
  exact (G.base_none h0).2.2.2 (s.own _ z)
def dPar (is : List Nat) (t : TDV) : TDS := fun E env => t env fun xs e1 => xs.length = is.length ∧ E.nx (setAllX is xs e1)
theorem ds_par2 {x y : Str} {a b : Expr} {px py pt : Pos} {kt k2 pt2} (i j : Nat) (hN : X.N.Nodup) (ha : PA X [a, b] (cV t)) (hc : X.calm = true := by rfl) (hi : X.N[i]? = some x := by rfl) (hj : X.N[j]? = some y := by rfl) (hij : i ≠ j := by decide)
    (hx : X.env.scope.names.lookup x = some .local := by rfl) (hy : X.env.scope.names.lookup y = some .local := by rfl)
    (hw : swappedStores [.Tuple [.Name x px, .Name y py] kt pt] (.Tuple [a, b] k2 pt2) X.env = pure (some [x, y]) := by rfl)
    (hs : swapsWithSole [.Tuple [.Name x px, .Name y py] kt pt] (.Tuple [a, b] k2 pt2) pos.line X.env = pure false := by rfl) :
    PS X (.Assign [.Tuple [.Name x px, .Name y py] kt pt] (.Tuple [a, b] k2 pt2) pos) (cS (dPar [i, j] t)) :=
  ds_of (ps_par hc hN hi hj hij hx hy ha hw hs) fun B env σ F H E D G q ok => ⟨B, env, F, G, _, q, fun xs e1 vs F1 H1 ⟨hl, q1⟩ s1 G1 r1 => by
    have hv := r1.length
    obtain ⟨v, w, rfl⟩ : ∃ v w, vs = [v, w] := by
      match vs, (show vs.length = 2 by rw [hv, hl]; rfl) with
      | [v, w], _ => exact ⟨v, w, rfl⟩
    exact ⟨v, w, rfl, ok.nx _ _ F1 H1 q1 (vals_ok (is := [i, j]) G s1 G1 r1)⟩⟩
theorem ds_par3 {x y z : Str} {a b c : Expr} {px py pz pt : Pos} {kt k2 pt2} (i j l : Nat) (hN : X.N.Nodup) (ha : PA X [a, b, c] (cV t)) (hc : X.calm = true := by rfl) (hi : X.N[i]? = some x := by rfl) (hj : X.N[j]? = some y := by rfl) (hl : X.N[l]? = some z := by rfl) (hij : i ≠ j := by decide) (hil : i ≠ l := by decide) (hjl : j ≠ l := by decide)
    (hx : X.env.scope.names.lookup x = some .local := by rfl) (hy : X.env.scope.names.lookup y = some .local := by rfl) (hz : X.env.scope.names.lookup z = some .local := by rfl)
    (hw : swappedStores [.Tuple [.Name x px, .Name y py, .Name z pz] kt pt] (.Tuple [a, b, c] k2 pt2) X.env = pure (some [x, y, z]) := by rfl)
    (hs : swapsWithSole [.Tuple [.Name x px, .Name y py, .Name z pz] kt pt] (.Tuple [a, b, c] k2 pt2) pos.line X.env = pure false := by rfl) :
    PS X (.Assign [.Tuple [.Name x px, .Name y py, .Name z pz] kt pt] (.Tuple [a, b, c] k2 pt2) pos) (cS (dPar [i, j, l] t)) :=
  ds_of (L2.ps_par3 hc hN hi hj hl hij hil hjl hx hy hz ha hw hs) fun B env σ F H E D G q ok => ⟨B, env, F, G, _, q, fun xs e1 vs F1 H1 ⟨hl, q1⟩ s1 G1 r1 => by
    have hv := r1.length
    obtain ⟨v, w, u, rfl⟩ : ∃ v w u, vs = [v, w, u] := by
      match vs, (show vs.length = 3 by rw [hv, hl]; rfl) with
      | [v, w, u], _ => exact ⟨v, w, u, rfl⟩
    exact ⟨v, w, u, rfl, ok.nx _ _ F1 H1 q1 (vals_ok (is := [i, j, l]) G s1 G1 r1)⟩⟩
/-- by a tuple that is laid and taken apart: any number of names, cells too -/
theorem ds_parT {es ts : List Expr} {is : List Nat} {pt : Pos} {kt k2 pt2} (ha : PA X es (cV t)) (hg : PGs X ts (gAll is)) (hc : X.calm = true := by rfl) (hn : (assignEach ts X.env).length = is.length := by rfl) (hst : (assignEach ts X.env).findIdx? (·.1) = none := by rfl)
    (hz : is.length ≤ sizeLine := by decide)
    (hs : swapsWithSole [.Tuple ts kt pt] (.Tuple es k2 pt2) pos.line X.env = pure false := by rfl) (hw : swappedStores [.Tuple ts kt pt] (.Tuple es k2 pt2) X.env = pure none := by rfl)
    (h1 : (assignEach [.Tuple ts kt pt] X.env).map (·.2) = [assign (.Tuple ts kt pt) X.env] := by rfl) : PS X (.Assign [.Tuple ts kt pt] (.Tuple es k2 pt2) pos) (cS (dPar is t)) :=
  ds_of (ps_asg (pe_tup ha) (pg_tup hc hg hn hst) hs hw h1) fun B env σ F H E D G q ok => ⟨B, env, F, G, _, q, fun xs e1 vs F1 H1 ⟨hl, q1⟩ s1 G1 r1 => by
    have hv := r1.length
    refine ⟨by rw [hv, hl]; exact hz, fun p hp => ⟨p, vs, rfl, SqT.of upd_same, by rw [hv, hl], by rw [hv, hl], ?_⟩⟩
    have G2 := vals_ok (is := is) G s1 G1 r1
    exact ok.nx _ _ F1 _ q1 (G2.alloc hp)⟩

/-! ### owned lists -/
def ownL (j : Nat) (env : SE) (k : List D → Prop) : Prop := ∃ ds, env[j]? = some (.own (.lst ds)) ∧ k ds
theorem own_at {env : SE} {σ : L2.St} {F H : Hp} {j : Nat} {ds : List D} (G : Hld B env σ F H) (e : env[j]? = some (.own (.lst ds))) : ∃ o xs, σ[j]? = some (some (.ref o)) ∧ H o = some (.lst xs) ∧ RpA B.Z F xs ds := by
  obtain ⟨o, ho, e1, _, _, h3, hr⟩ := G.own j _ e
  obtain ⟨xs, rfl, ra⟩ := RpO.lst_of hr
  exact ⟨o, xs, e1, h3, ra⟩
def dApp (j : Nat) (te : TDE) : TDS := fun E env => (∃ ds, env[j]? = some (.own (.lst ds))) ∧ te env fun x e1 => asD x e1 fun d e2 => ∃ ds, e2[j]? = some (.own (.lst ds)) ∧ ds.length < 10000000 ∧ E.nx (e2.set j (.own (.lst (ds ++ [d]))))
theorem ds_app (j : Nat) {c : Expr} (h : PE X c (tBM X.K "list" rAppend (tVar j) (tCons (cE te) tNil))) (hs : swapsWith c none pos.line X.env = pure false := by rfl) : PS X (.Expr c pos) (cS (dApp j te)) :=
  ds_of (ps_expr h hs) fun B env σ F H E D G q ok => by
    obtain ⟨⟨ds0, e0⟩, q⟩ := q
    obtain ⟨o, xs0, es0, h0, _⟩ := own_at G e0
    refine ⟨.ref o, es0, .inl ⟨rfl, _, SqL.of h0⟩, B, env, F, G, _, q, fun y e1 v F1 H1 q1 s1 G1 r1 => ?_⟩
    obtain ⟨d, e2, F2, ⟨ds, q2, hz, q3⟩, s2, G2, rd⟩ := asD_ok G s1 G1 r1 q1
    obtain ⟨o', xs, es, h2, ra⟩ := own_at G2 q2
    rw [es0] at es
    cases es
    refine ⟨o, xs, v, rfl, rfl, h2, by rw [ra.length]; exact szl hz, ?_⟩
    exact ok.nx _ σ F2 _ q3 (G2.mut q2 es0 (show RpO B.Z F2 (.lst _) (.lst _) from ra.append (.one rd)))
/-- xs[i] = e, xs an owned list -/
def dSub (j : Nat) (ti te : TDE) : TDS := fun E env => te env fun x e1 => asD x e1 fun d e2 => (∃ ds, e2[j]? = some (.own (.lst ds))) ∧ ti e2 fun y e3 => match y with
  | .dat (.int k) => ∃ ds m, e3[j]? = some (.own (.lst ds)) ∧ ixN ds.length k = some m ∧ E.nx (e3.set j (.own (.lst (ds.set m d))))
  | _ => False
theorem ds_sub {x : Str} {i : Expr} {ti : TDE} {p1 p2 : Pos} (j : Nat) (he : PE X e (cE te)) (hi : PE X i (cE ti)) (hN : X.N[j]? = some x := by rfl) (hv : Vis X.env.scope x := by first | exact Or.inl rfl | exact Or.inr (Or.inl rfl) | exact Or.inr (Or.inr rfl)) (hd : (x == ("__debug__" : Str)) = false := by decide) (hcd : (x == ("__classdict__" : Str)) = false := by decide)
    (ha : ∀ v, assign (.Subscript (.Name x p1) i p2) X.env v = (do
      let ov ← holding [v] (eval (.Name x p1) X.env)
      let iv ← holding [v, ov] (eval i X.env)
      standAt p2
      holding [v, ov, iv] (setItem ov iv v)
      release [v, ov, iv] []) := by intro _; rfl) (hs : swapsWithSole [.Subscript (.Name x p1) i p2] e pos.line X.env = pure false := by rfl) (hw : swappedStores [.Subscript (.Name x p1) i p2] e X.env = pure none := by rfl)
    (h1 : (assignEach [.Subscript (.Name x p1) i p2] X.env).map (·.2) = [assign (.Subscript (.Name x p1) i p2) X.env] := by rfl) :
    PS X (.Assign [.Subscript (.Name x p1) i p2] e pos) (cS (dSub j ti te)) :=
  ds_of (ps_asg he (pg_sub (pe_var hN hv hd hcd) hi set_list ha) hs hw h1) fun B env σ F H E D G q ok => ⟨B, env, F, G, _, q, fun y e1 v F1 H1 q1 s1 G1 r1 => by
    obtain ⟨d, e2, F2, ⟨⟨ds0, e0⟩, q2⟩, s2, G2, rd⟩ := asD_ok G s1 G1 r1 q1
    obtain ⟨o, xs0, es0, h0, _⟩ := own_at G2 e0
    refine ⟨.ref o, es0, B, e2, F2, G2, _, q2, fun z e3 w F3 H3 q3 s3 G3 r3 => ?_⟩
    cases z with
    | dat dz =>
      cases dz <;> first | exact (show False from q3).elim | skip
      obtain ⟨ds, m, q4, hm, q5⟩ := q3
      obtain ⟨o', xs, es, h2, ra⟩ := own_at G3 q4
      rw [es0] at es
      cases es
      refine ⟨o, xs, _, m, rfl, Rp.int_eq r3, h2, by rw [ra.length]; exact hm, ?_⟩
      exact ok.nx _ σ F3 _ q5 (G3.mut q4 es0 (show RpO B.Z F3 (.lst _) (.lst _) from RpA.set (Rp.mono s3.ex rd) m ra))
    | _ => exact (show False from q3).elim⟩
/-- xs.pop(), xs.pop(k) of an owned list, as values -/
def dPop (j : Nat) : TDE := fun env Q => ∃ ds d, env[j]? = some (.own (.lst ds)) ∧ ds[ds.length - 1]? = some d ∧ Q (.dat d) (env.set j (.own (.lst ds.dropLast)))
theorem Mov.mut {env : SE} {σ : L2.St} {F H : Hp} {i : Nat} {oc oc' : OC} {o : Addr} {ho : HO} (G : Hld B env σ F H) (e : env[i]? = some (.own oc)) (es : σ[i]? = some (some (.ref o))) : Mov B env (env.set i (.own oc')) σ F H F (upd H o ho) := by
  refine ⟨Same.refl F, fun a x q z n => ?_, fun a x q f z n => f, fun a ⟨j, c, q1, q2⟩ => ?_, fun a x q => ?_⟩
  · rw [upd_ne fun w => n (by rw [w]; exact ⟨i, oc, e, es⟩)]
    exact q
  · rcases getE q1 with ⟨ej, z⟩ | ⟨nj, z⟩
    · subst ej
      exact ⟨i, oc, e, q2⟩
    · exact ⟨j, c, z, q2⟩
  · by_cases h : a = o
    · rw [h, upd_same]
      exact ⟨_, rfl⟩
    · rw [upd_ne h]
      exact ⟨x, q⟩
theorem de_pop (j : Nat) {c : Expr} (h : PE X c (tBM0 X.K "list" rPop (tVar j))) : PE X c (cE (dPop j)) :=
  de_of h fun B env σ F H Q' Q G q f => by
    obtain ⟨ds, d, e0, hg, q⟩ := q
    obtain ⟨o, xs, es0, h0, ra⟩ := own_at G e0
    obtain ⟨v, hx, rv⟩ := ra.get hg
    refine ⟨.ref o, es0, .inl ⟨rfl, _, SqL.of h0⟩, o, xs, v, rfl, rfl, h0, by rw [ra.length]; exact hx, ?_⟩
    exact f _ _ v F _ q (Mov.mut G e0 es0) (G.mut e0 es0 (show RpO B.Z F (.lst _) (.lst _) from ra.dropLast)) rv
def dPopAt (j : Nat) (te : TDE) : TDE := fun env Q => (∃ ds, env[j]? = some (.own (.lst ds))) ∧ te env fun x e1 => match x with
  | .dat (.int i) => ∃ ds k d, e1[j]? = some (.own (.lst ds)) ∧ (-10000000 ≤ i ∧ i < 10000000) ∧ seqIndex? i ds.length = some k ∧ ds[k]? = some d ∧ Q (.dat d) (e1.set j (.own (.lst (ds.eraseIdx k))))
  | _ => False
theorem de_popAt (j : Nat) {c : Expr} (h : PE X c (tBM X.K "list" rPopAt (tVar j) (tCons (cE te) tNil))) : PE X c (cE (dPopAt j te)) :=
  de_of h fun B env σ F H Q' Q G q f => by
    obtain ⟨⟨ds0, e0⟩, q⟩ := q
    obtain ⟨o, xs0, es0, h0, _⟩ := own_at G e0
    refine ⟨.ref o, es0, .inl ⟨rfl, _, SqL.of h0⟩, B, env, F, G, _, q, fun y e1 v F1 H1 q1 s1 G1 r1 => ?_⟩
    cases y with
    | dat dz =>
      cases dz <;> first | exact (show False from q1).elim | skip
      obtain ⟨ds, k, d, q2, hb, hk, hg, q3⟩ := q1
      obtain ⟨o', xs, es, h2, ra⟩ := own_at G1 q2
      rw [es0] at es
      cases es
      obtain ⟨u, hx, ru⟩ := ra.get hg
      refine ⟨o, xs, _, k, u, rfl, by rw [Rp.int_eq r1], h2, by omega, by omega, by rw [ra.length]; exact hk, hx, ?_⟩
      exact f _ _ u F1 _ q3 (s1.trans (Mov.mut G1 q2 es0)) (G1.mut q2 es0 (show RpO B.Z F1 (.lst _) (.lst _) from ra.eraseIdx k)) ru
    | _ => exact (show False from q1).elim
end
end DL

/-! DIter: what a for walks: a list or a tuple; enumerate of either. -/
namespace L2
open PySem PySem.Spec PyProof.Rows
section
variable {X : Cx} {tg : Expr}
def iSeq (K : PySem.W.Frag) (tl : TE) : TI := fun σ H R => tl σ H fun x H1 => ∃ a, x = .ref a ∧ (((∃ xs, SqL K H1 a xs) ∧ R (Itl K a) H1) ∨ ((∃ xs, SqT K H1 a xs) ∧ R (Itt K a) H1))
theorem pi_seq {l : Expr} {tl : TE} (hl : PE X l tl) : PI X tg l (iSeq X.K tl) := by
  refine ⟨fun pins s σ H R I h => ?_⟩
  refine thn (hl.run pins s σ H _ I h) fun v s1 ⟨x, H1, I1, r1, q1⟩ => ?_
  obtain ⟨a, e, q⟩ := q1
  subst e
  cases r1
  rcases q with ⟨⟨xs, hq⟩, q⟩ | ⟨⟨xs, hq⟩, q⟩
  · obtain ⟨its, rv, p, hz⟩ := I1.list hq
    refine wpAny_pyIter_list p.isList ?_
    refine ⟨s1.heap.objs.size, [s1.heap.objs.size], _, _, H1, rfl, I1.kept (t' := s1.toks) fun b o e => Heap.get?_push_of_some _ e, turn_list a _, ⟨_, Heap.get?_push_size _ rfl, rfl, rfl⟩, fun b hb => ?_, q⟩
    have e : b = s1.heap.objs.size := by simpa using hb
    subst e
    exact I1.fpOk (Nat.le_refl _) (I1.hok.fresh (Nat.le_refl _))
  · obtain ⟨its, rv, p, hz⟩ := I1.tuple hq
    refine wpAny_pyIter_tuple (show s1.heap.IsTuple a its.toArray from p) ?_
    refine ⟨s1.heap.objs.size, [s1.heap.objs.size], _, _, H1, rfl, I1.kept (t' := s1.toks) fun b o e => Heap.get?_push_of_some _ e, turn_tuple a _, ⟨_, Heap.get?_push_size _ rfl, rfl, rfl⟩, fun b hb => ?_, q⟩
    have e : b = s1.heap.objs.size := by simpa using hb
    subst e
    exact I1.fpOk (Nat.le_refl _) (I1.hok.fresh (Nat.le_refl _))
end
/-! ### enumerate of a tuple -/
set_option maxHeartbeats 4000000 in
theorem meets_enumerate_newT {v : Value} {o : Obj} {H : Heap → Prop} (B : Begins v o H) :
    Meets (Builtin.«enumerate.__new__» ⟨[.type "enumerate", v], []⟩) (fun _ R s => H s.heap ∧
      R (.ok (.ret (.ref (s.heap.push o).objs.size))) { s with heap := (s.heap.push o).push { cls := .type "enumerate", data := .fields #[.none, .bool false, .ref s.heap.objs.size, rawInt 0, .none, .none] } }) :=
  .of_wp fun prog w A R s h => by
    obtain ⟨hp, g, d, tk, os⟩ := s; obtain ⟨h1, h⟩ := h
    have hsub := sub_enumerate
    have q1 : ∀ {A' : Around} {E : Value → Shared → Prop} {Q : Value → Shared → Prop}, Q (.ref hp.objs.size) ⟨hp.push o, g, d, tk, os⟩ → wpAny (model prog w) A' (pyIter v) Q E ⟨hp, g, d, tk, os⟩ :=
      fun q => B.iter prog w _ _ ⟨hp, g, d, tk, os⟩ _ h1 q
    wp_walk using q1
    refine wpAny_stack_any fun st => wpAny_pure ?_
    split
    · rename_i c _ _ _ _ _
      cases (c == Value.type "enumerate")
      · wp_walk using q1
        exact ⟨_, rfl, h⟩
      · wp_walk using q1
        exact ⟨_, rfl, h⟩
    · wp_walk using q1
      exact ⟨_, rfl, h⟩
section
variable {prog : Program} {w : World} {A : Around} {E : Value → Shared → Prop} {s : Shared}
theorem call_enumerate_any {v : Value} {o : Obj} {H : Heap → Prop} {Q : Value → Shared → Prop} (B : Begins v o H) (h1 : H s.heap)
    (h : ∀ h', IsEnum h' (s.heap.objs.size + 1) s.heap.objs.size 0 .none → h'.get? s.heap.objs.size = some o → h'.objs.size = s.heap.objs.size + 2 →
      (∀ b o, s.heap.get? b = some o → h'.get? b = some o) → Q (.ref (s.heap.objs.size + 1)) { s with heap := h' }) :
    wpAny (model prog w) A (call (.type "enumerate") [v]) Q E s := by
  refine callType_new F.called_enumerate (by decide) (F.typeCall_enumerate_1 _) (F.newCall_enumerate_1 _) (fun obj => F.args_object_init_2 obj _) F.entry_enumerate_new
    (meets_enumerate_newT B) ⟨h1, ?_⟩
  have hz : (s.heap.push o).objs.size = s.heap.objs.size + 1 := Heap.size_push ..
  show _ ∧ _
  rw [hz]
  have he : IsEnum ((s.heap.push o).push { cls := .type "enumerate", data := .fields #[.none, .bool false, .ref s.heap.objs.size, rawInt 0, .none, .none] }) (s.heap.objs.size + 1) s.heap.objs.size 0 .none := by
    have := Heap.get?_push_size (s.heap.push o) (o := { cls := .type "enumerate", data := .fields #[.none, .bool false, .ref s.heap.objs.size, rawInt 0, .none, .none] }) rfl
    rw [hz] at this; exact this
  exact ⟨⟨_, he, rfl⟩, h _ he (Heap.get?_push_of_some _ (Heap.get?_push_size _ B.free)) (by rw [Heap.size_push, hz]) fun b o x => Heap.get?_push_of_some _ (Heap.get?_push_of_some _ x)⟩
end
def IteT (K : PySem.W.Frag) (a : Addr) : It :=
  ⟨fun i H => ∃ (xs : List V) (x : V), SqT K H a xs ∧ xs[i]? = some x, fun i H v H' => ∃ T x, v = .ref T ∧ H T = none ∧ H' = upd H T (.tup [.int (i : Nat), x]) ∧ ∀ xs, SqT K H a xs → xs[i]? = some x, fun i H => ∃ xs : List V, SqT K H a xs ∧ xs.length ≤ i⟩
theorem turn_enumT {P : Program} {w : World} {K : PySem.W.Frag} {elts : List Expr} {kk : Nat} {tpos : Pos} (a e it : Addr) :
    Turn P w K (.Tuple elts kk tpos) (IteT K a) [e, it] e (fun i h => (∃ old, IsEnum h e it ((i : Nat) : Int) old) ∧ h.IsTupleIter it a i ∧ e ≠ it) where
  mem := by simp
  obj := fun i h st b hb => by
    obtain ⟨⟨old, he⟩, ⟨o, ho, hc, hd⟩, _⟩ := st
    have e' : b = e ∨ b = it := by simpa using hb
    rcases e' with z | z
    · rw [z]; exact ⟨_, he, fun v q => nomatch q⟩
    · rw [z]; exact ⟨o, ho, fun v q => by rw [hd] at q; cases q⟩
  keep := fun i h h' st k => let ⟨⟨old, he⟩, hi, hne⟩ := st; ⟨⟨old, k e (by simp) _ he⟩, hi.at fun o q => k it (by simp) o q, hne⟩
  item := by
    intro X hP hw hK hc i pins s σ H E I hf st hg
    subst hP hw hK
    obtain ⟨⟨old, he⟩, hit, hne⟩ := st
    obtain ⟨xs, x, hq, hx⟩ := hg
    obtain ⟨its, rv, p, hz⟩ := I.tuple hq
    obtain ⟨u, hu, ru⟩ := rv.get hx
    have hel : e < s.heap.objs.size := Heap.lt_size he
    have hil : it < s.heap.objs.size := by obtain ⟨_, q, _⟩ := hit; exact Heap.lt_size q
    have hna : a ≠ it := fun z => by
      obtain ⟨o, ho, hcc, _⟩ := id p
      obtain ⟨o', ho', hc', _⟩ := id hit
      rw [z, ho'] at ho
      cases ho
      rw [hc'] at hcc
      exact absurd hcc (by decide)
    have hea : e ≠ a := fun z => by
      obtain ⟨o, ho, hcc, _⟩ := id p
      rw [← z] at ho
      have he' : s.heap.get? e = some _ := he
      rw [he'] at ho
      cases ho
      exact absurd (show Value.type "enumerate" = Value.type "tuple" from hcc) (by decide)
    have hlt : i < its.toArray.size := by
      have := (List.getElem?_eq_some_iff.mp hu).1
      simpa using this
    refine wpAny_pyNext_enum_itemD (Draws.tuple (show X.A.in1.handled = none from I.ok.hd hc) it a hna its.toArray) he ⟨hit, show s.heap.IsTuple a its.toArray from p⟩ hlt hne (by simp [hne, hea]) fun x' h' tk hx' ho st' hT hsz hk => ?_
    have ex : x' = u := by
      have q1 : its.toArray[i]? = some x' := hx'
      rw [List.getElem?_toArray, hu] at q1
      exact (Option.some.inj q1).symm
    subst ex
    refine ⟨_, rfl, wpAny_letOwnedTupleGo_enum (s := { s with heap := h', toks := tk + 1 }) ho fun h'' he' sb => ?_⟩
    have hT2 : h''.get? s.heap.objs.size = some { cls := .type "tuple", data := .seq #[.int i tk, x'] } := (sb.2 _ (Nat.ne_of_gt hel)).trans hT
    have new : ObjOk X.prog X.w (upd H s.heap.objs.size (.tup [.int (i : Nat), x])) h'' s.heap.objs.size (.tup [.int (i : Nat), x]) :=
      ⟨by show 2 ≤ sizeLine; decide, [.int i tk, x'], .cons ⟨_, rfl⟩ (.cons ru .nil), ⟨_, hT2, rfl, _, rfl⟩⟩
    have I1 : Inv X pins σ (upd H s.heap.objs.size (.tup [.int (i : Nat), x])) { s with heap := h'', toks := tk + 1 } :=
      I.turnedNew (ch := [e, it]) (fun b ob hb q => (sb.2 b (fun z => hb (by simp [z]))).trans (hk b ob (fun z => hb (by simp [z])) (fun z => hb (by simp [z])) q)) hf (Nat.le_refl _) new
    refine ⟨.ref s.heap.objs.size, _, I1, rfl, ⟨_, x, rfl, I.hok.fresh (Nat.le_refl _), rfl, fun ys hy => by rw [I.tuple_inj hy hq]; exact hx⟩, ⟨⟨x', ?_⟩, st'.1.at fun o q => (sb.2 it (Ne.symm hne)).trans q, hne⟩, fun b hb => ?_⟩
    · have e1 : ((i + 1 : Nat) : Int) = (i : Int) + 1 := by omega
      rw [e1]; exact he'
    · have hb' : b < s.heap.objs.size := by
        have e' : b = e ∨ b = it := by simpa using hb
        rcases e' with z | z
        · rw [z]; exact hel
        · rw [z]; exact hil
      rw [upd_ne (Nat.ne_of_lt hb')]
      exact (hf b hb).1
  done := by
    intro X hP hw hK hc i pins s σ H E I hf st hg
    subst hP hw hK
    obtain ⟨⟨old, he⟩, hit, hne⟩ := st
    obtain ⟨xs, hq, hx⟩ := hg
    obtain ⟨its, rv, p, hz⟩ := I.tuple hq
    obtain ⟨f0, f1, f2, f3, f4, f5⟩ := hf it (by simp)
    have hl := rv.length
    refine wpAny_bind (wpAny_attempt (wpAny_callSpecial?_slot (name := Str.ofString "__next__") (show s.TypeIs (.ref e) "enumerate" from ⟨_, he, rfl⟩) F.slot_enumerate_next
      (wpAny_call_entry F.slot_enumerate_next ⟨_, he, rfl⟩ F.entry_enumerate_next ?_ (F.args_enumerate_next_1 _))))
    show wpAny _ _ (field (.ref e) 2 >>= _) _ _ _
    refine wpAny_bind (wpAny_field he rfl (x := .ref it) rfl ?_)
    refine wpAny_bind (wpAny_nextOf_tuple_end (show X.A.in1.handled = none from I.ok.hd hc) hit (show s.heap.IsTuple a its.toArray from p) (by simp; omega) fun h' x he' hx' => ?_)
    obtain ⟨o, ho, hcc⟩ := hx'
    refine wpAny_bind (wpAny_isInstance (T := "StopIteration") (b := true) ⟨o, ho, hcc⟩ isSubtype_stop ?_)
    exact wpAny_pure ⟨rfl, I.turned (t' := s.toks) (fun b o hb q => he' b o hb q) f0 f1 f3 f4 f5⟩
  self := fun A i s Q E st h => let ⟨⟨_, he⟩, _⟩ := st; wpAny_pyIter_enum he h
def iEnumA (K : PySem.W.Frag) (ta : TE) : TI := fun σ H R => ta σ H fun v H1 => ∃ a, v = .ref a ∧ (((∃ xs, SqL K H1 a xs) ∧ R (Ite K a) H1) ∨ ((∃ xs, SqT K H1 a xs) ∧ R (IteT K a) H1))
theorem pi_enumA {X : Cx} {e : Expr} {ta : TE} (hmono : ∀ σ H (Q Q' : VK), ta σ H Q → (∀ v H1, Q v H1 → Q' v H1) → ta σ H Q') {p pos tpos : Pos} {elts : List Expr} {kk : Nat} (hg : Gl X "enumerate") (hm : X.mg "enumerate" = none) (ha : PE X e ta) (hs0 : starEach [e] X.env = (false, eval e X.env) :: starEach [] X.env := by rfl) (hs : starEach [e] X.env = [(false, eval e X.env)] := by rfl) :
    PI X (.Tuple elts kk tpos) (.Call (.Name "enumerate" p) [e] [] pos) (iEnumA X.K ta) := by
  refine ⟨fun pins s σ H R I h => ?_⟩
  have h' : tCons ta tNil σ H (fun vs H1 => ∃ a, vs = [.ref a] ∧ (((∃ xs, SqL X.K H1 a xs) ∧ R (Ite X.K a) H1) ∨ ((∃ xs, SqT X.K H1 a xs) ∧ R (IteT X.K a) H1))) := hmono _ _ _ _ h fun v H1 ⟨a, e, q⟩ => ⟨a, by rw [e], q⟩
  refine Call_ (ld_blt I hg hm boot_enumerate (PyProof.Rows.callWith_type1 (thn ((pa_cons ha pa_nil hs0).run pos pins s σ H _ I h') fun us s1 ⟨vs, H1, I1, r1, q1⟩ => ?_) hs rfl))
  obtain ⟨a, ex, q⟩ := q1
  subst ex
  cases r1 with
  | cons r rr =>
    cases rr
    cases r
    rcases q with ⟨⟨xs, hq⟩, q⟩ | ⟨⟨xs, hq⟩, q⟩
    · obtain ⟨its, rv, p', hz⟩ := I1.list hq
      refine call_enumerate_list p'.isList fun h' he hit hsz hk => wpAny_pyIter_enum he ?_
      have I2 : Inv X pins σ H1 { s1 with heap := h' } := I1.kept (t' := s1.toks) hk
      refine ⟨s1.heap.objs.size + 1, [s1.heap.objs.size + 1, s1.heap.objs.size], _, _, H1, rfl, I2, turn_enum a (s1.heap.objs.size + 1) s1.heap.objs.size, ⟨⟨.none, he⟩, hit, Nat.succ_ne_self _⟩, fun b hb => ?_, q⟩
      have e' : b = s1.heap.objs.size + 1 ∨ b = s1.heap.objs.size := by simpa using hb
      have hle : s1.heap.objs.size ≤ b := by
        rcases e' with z | z
        · rw [z]; exact Nat.le_add_right _ _
        · rw [z]; exact Nat.le_refl _
      exact I1.fpOk hle (I1.hok.fresh hle)
    · obtain ⟨its, rv, p', hz⟩ := I1.tuple hq
      refine call_enumerate_any (begins_tuple a its.toArray) (show s1.heap.IsTuple a its.toArray from p') fun h' he hit hsz hk => wpAny_pyIter_enum he ?_
      have I2 : Inv X pins σ H1 { s1 with heap := h' } := I1.kept (t' := s1.toks) hk
      refine ⟨s1.heap.objs.size + 1, [s1.heap.objs.size + 1, s1.heap.objs.size], _, _, H1, rfl, I2, turn_enumT a (s1.heap.objs.size + 1) s1.heap.objs.size, ⟨⟨.none, he⟩, ⟨_, hit, rfl, rfl⟩, Nat.succ_ne_self _⟩, fun b hb => ?_, q⟩
      have e' : b = s1.heap.objs.size + 1 ∨ b = s1.heap.objs.size := by simpa using hb
      have hle : s1.heap.objs.size ≤ b := by
        rcases e' with z | z
        · rw [z]; exact Nat.le_add_right _ _
        · rw [z]; exact Nat.le_refl _
      exact I1.fpOk hle (I1.hok.fresh hle)
end L2

/-! DLoop: for loops and list comprehensions over data. -/
namespace DL
open PySem L2

theorem cE_mono {t : TDE} {σ : L2.St} {H : Hp} {Q Q' : VK} (h : cE t σ H Q) (k : ∀ v H1, Q v H1 → Q' v H1) : cE t σ H Q' := by
  obtain ⟨B, env, F, G, R, q, f⟩ := h
  exact ⟨B, env, F, G, R, q, fun x e v F' H' a b c d => k v H' (f x e v F' H' a b c d)⟩

/-- an iterator that yields the data ds, whatever grows meanwhile -/
structure SrcOk (Z : ZZ) (F : Hp) (J : It) (ds : List D) : Prop where
  stop : ∀ F1 H1 i, Same F F1 → Same F1 H1 → i = ds.length → J.stop i H1
  go : ∀ F1 H1 i, Same F F1 → Same F1 H1 → i < ds.length → J.go i H1
  yld : ∀ F1 H1 i x H', Same F F1 → Same F1 H1 → i < ds.length → J.yld i H1 x H' → ∃ d, ds[i]? = some d ∧ ((H' = H1 ∧ Rp Z F1 x d) ∨ ∃ T vs es, x = .ref T ∧ H1 T = none ∧ H' = upd H1 T (.tup vs) ∧ d = .tup es ∧ RpA Z F1 vs es)
abbrev TDI := SE → (List D → SE → Prop) → Prop
def cI (t : TDI) : TI := fun σ H R => ∃ (B : Bas) (env : SE) (F : Hp), Hld B env σ F H ∧ ∃ Q' : List D → SE → Prop, t env Q' ∧ ∀ ds env' F' H' J, Q' ds env' → Mov B env env' σ F H F' H' → Hld B env' σ F' H' → SrcOk B.Z F' J ds → R J H'
theorem PI.imp {X : Cx} {tg e : Expr} {t u : TI} (h : PI X tg e t) (k : ∀ σ H R, u σ H R → t σ H R) : PI X tg e u := ⟨fun pins s σ H R I q => h.run pins s σ H R I (k σ H R q)⟩

section
variable {Z : ZZ} {F : Hp} {K : PySem.W.Frag}
theorem src_list {a : Addr} {xs : List V} {ds : List D} (h : F a = some (.lst xs)) (r : RpA Z F xs ds) : SrcOk Z F (Itl K a) ds := by
  have hl := r.length
  refine ⟨fun F1 H1 i s1 s2 e => ⟨xs, SqL.of (s2 _ _ (s1 _ _ h)), by omega⟩, fun F1 H1 i s1 s2 hi => ⟨xs, xs[i], SqL.of (s2 _ _ (s1 _ _ h)), List.getElem?_eq_getElem (by omega)⟩, fun F1 H1 i x H' s1 s2 hi y => ?_⟩
  obtain ⟨e, y⟩ := y
  subst e
  obtain ⟨d, h1, h2⟩ := r.getV (y xs (SqL.of (s2 _ _ (s1 _ _ h))))
  exact ⟨d, h1, .inl ⟨rfl, Rp.mono s1 h2⟩⟩
theorem src_tup {a : Addr} {xs : List V} {ds : List D} (h : F a = some (.tup xs)) (r : RpA Z F xs ds) : SrcOk Z F (Itt K a) ds := by
  have hl := r.length
  refine ⟨fun F1 H1 i s1 s2 e => ⟨xs, SqT.of (s2 _ _ (s1 _ _ h)), by omega⟩, fun F1 H1 i s1 s2 hi => ⟨xs, xs[i], SqT.of (s2 _ _ (s1 _ _ h)), List.getElem?_eq_getElem (by omega)⟩, fun F1 H1 i x H' s1 s2 hi y => ?_⟩
  obtain ⟨e, y⟩ := y
  subst e
  obtain ⟨d, h1, h2⟩ := r.getV (y xs (SqT.of (s2 _ _ (s1 _ _ h))))
  exact ⟨d, h1, .inl ⟨rfl, Rp.mono s1 h2⟩⟩
def rangeD (lo : Int) (n : Nat) : List D := (List.range n).map fun (i : Nat) => D.int (lo + (i : Int))
def rangeC (lo c : Int) (n : Nat) : List D := (List.range n).map fun (i : Nat) => D.int (lo + (i : Int) * c)
theorem rangeD_len (lo : Int) (n : Nat) : (rangeD lo n).length = n := by unfold rangeD; rw [List.length_map, List.length_range]
theorem rangeC_len (lo c : Int) (n : Nat) : (rangeC lo c n).length = n := by unfold rangeC; rw [List.length_map, List.length_range]
theorem rangeD_at {lo : Int} {n i : Nat} (h : i < n) : (rangeD lo n)[i]? = some (.int (lo + i)) := by
  unfold rangeD
  rw [List.getElem?_map, List.getElem?_range h]
  rfl
theorem rangeC_at {lo c : Int} {n i : Nat} (h : i < n) : (rangeC lo c n)[i]? = some (.int (lo + i * c)) := by
  unfold rangeC
  rw [List.getElem?_map, List.getElem?_range h]
  rfl
theorem rangeD_out {lo : Int} {n i : Nat} {d : D} (h : (rangeD lo n)[i]? = some d) : i < n ∧ d = .int (lo + i) := by
  have hi : i < n := by
    have := (List.getElem?_eq_some_iff.mp h).1
    rwa [rangeD_len] at this
  rw [rangeD_at hi] at h
  exact ⟨hi, (Option.some.inj h).symm⟩
theorem rangeC_out {lo c : Int} {n i : Nat} {d : D} (h : (rangeC lo c n)[i]? = some d) : i < n ∧ d = .int (lo + i * c) := by
  have hi : i < n := by
    have := (List.getElem?_eq_some_iff.mp h).1
    rwa [rangeC_len] at this
  rw [rangeC_at hi] at h
  exact ⟨hi, (Option.some.inj h).symm⟩
theorem src_range (lo : Int) (n : Nat) : SrcOk Z F (Itr lo n) (rangeD lo n) := by
  refine ⟨fun F1 H1 i s1 s2 e => ?_, fun F1 H1 i s1 s2 hi => ?_, fun F1 H1 i x H' s1 s2 hi y => ?_⟩
  · rw [rangeD_len] at e
    exact Nat.le_of_eq e.symm
  · rw [rangeD_len] at hi
    exact hi
  · rw [rangeD_len] at hi
    obtain ⟨e, y⟩ := y
    exact ⟨_, rangeD_at hi, .inl ⟨e, by rw [y]; exact .int _⟩⟩
theorem src_rangeC (lo c : Int) (n : Nat) : SrcOk Z F (Itc lo c n) (rangeC lo c n) := by
  refine ⟨fun F1 H1 i s1 s2 e => ?_, fun F1 H1 i s1 s2 hi => ?_, fun F1 H1 i x H' s1 s2 hi y => ?_⟩
  · rw [rangeC_len] at e
    exact Nat.le_of_eq e.symm
  · rw [rangeC_len] at hi
    exact hi
  · rw [rangeC_len] at hi
    obtain ⟨e, y⟩ := y
    exact ⟨_, rangeC_at hi, .inl ⟨e, by rw [y]; exact .int _⟩⟩
def enumD (ds : List D) : List D := ds.mapIdx fun i d => D.tup [.int (i : Nat), d]
theorem enumD_at {ds : List D} {i : Nat} {d : D} (h : ds[i]? = some d) : (enumD ds)[i]? = some (.tup [.int (i : Nat), d]) := by
  unfold enumD
  rw [List.getElem?_mapIdx, h]
  rfl
theorem enumD_len (ds : List D) : (enumD ds).length = ds.length := by unfold enumD; rw [List.length_mapIdx]
theorem src_enum {a : Addr} {xs : List V} {ds : List D} (h : F a = some (.lst xs)) (r : RpA Z F xs ds) : SrcOk Z F (Ite K a) (enumD ds) := by
  have hl := r.length
  refine ⟨fun F1 H1 i s1 s2 e => ⟨xs, SqL.of (s2 _ _ (s1 _ _ h)), by rw [enumD_len] at e; omega⟩, fun F1 H1 i s1 s2 hi => ⟨xs, xs[i]'(by rw [enumD_len] at hi; omega), SqL.of (s2 _ _ (s1 _ _ h)), List.getElem?_eq_getElem (by rw [enumD_len] at hi; omega)⟩, fun F1 H1 i x H' s1 s2 hi y => ?_⟩
  obtain ⟨T, x', e, hT, eH, y⟩ := y
  obtain ⟨d, h1, h2⟩ := r.getV (y xs (SqL.of (s2 _ _ (s1 _ _ h))))
  exact ⟨_, enumD_at h1, .inr ⟨T, _, _, e, hT, eH, rfl, .cons (.int _) (.cons (Rp.mono s1 h2) .nil)⟩⟩
theorem src_enumT {a : Addr} {xs : List V} {ds : List D} (h : F a = some (.tup xs)) (r : RpA Z F xs ds) : SrcOk Z F (IteT K a) (enumD ds) := by
  have hl := r.length
  refine ⟨fun F1 H1 i s1 s2 e => ⟨xs, SqT.of (s2 _ _ (s1 _ _ h)), by rw [enumD_len] at e; omega⟩, fun F1 H1 i s1 s2 hi => ⟨xs, xs[i]'(by rw [enumD_len] at hi; omega), SqT.of (s2 _ _ (s1 _ _ h)), List.getElem?_eq_getElem (by rw [enumD_len] at hi; omega)⟩, fun F1 H1 i x H' s1 s2 hi y => ?_⟩
  obtain ⟨T, x', e, hT, eH, y⟩ := y
  obtain ⟨d, h1, h2⟩ := r.getV (y xs (SqT.of (s2 _ _ (s1 _ _ h))))
  exact ⟨_, enumD_at h1, .inr ⟨T, _, _, e, hT, eH, rfl, .cons (.int _) (.cons (Rp.mono s1 h2) .nil)⟩⟩
def zipD (ds es : List D) : List D := (ds.zip es).map fun p => D.tup [p.1, p.2]
theorem zipD_at {ds es : List D} {i : Nat} {d e : D} (h : ds[i]? = some d) (h' : es[i]? = some e) : (zipD ds es)[i]? = some (.tup [d, e]) := by
  unfold zipD
  rw [List.getElem?_map, (List.getElem?_zip_eq_some (z := (d, e))).mpr ⟨h, h'⟩]
  rfl
theorem zipD_len (ds es : List D) : (zipD ds es).length = min ds.length es.length := by unfold zipD; rw [List.length_map, List.length_zip]
theorem src_zip {a b : Addr} {xs ys : List V} {ds es : List D} (h : F a = some (.lst xs)) (r : RpA Z F xs ds) (h' : F b = some (.lst ys)) (r' : RpA Z F ys es) : SrcOk Z F (Itz K a b) (zipD ds es) := by
  have hl := r.length
  have hl' := r'.length
  refine ⟨fun F1 H1 i s1 s2 e => ?_, fun F1 H1 i s1 s2 hi => ?_, fun F1 H1 i x H' s1 s2 hi y => ?_⟩
  · rw [zipD_len] at e
    exact ⟨xs, ys, SqL.of (s2 _ _ (s1 _ _ h)), SqL.of (s2 _ _ (s1 _ _ h')), by omega⟩
  · rw [zipD_len] at hi
    exact ⟨xs, ys, xs[i]'(by omega), ys[i]'(by omega), SqL.of (s2 _ _ (s1 _ _ h)), SqL.of (s2 _ _ (s1 _ _ h')), List.getElem?_eq_getElem _, List.getElem?_eq_getElem _⟩
  · obtain ⟨T, x', y', e, hT, eH, y, z⟩ := y
    obtain ⟨d, h1, h2⟩ := r.getV (y xs (SqL.of (s2 _ _ (s1 _ _ h))))
    obtain ⟨d', h1', h2'⟩ := r'.getV (z ys (SqL.of (s2 _ _ (s1 _ _ h'))))
    exact ⟨_, zipD_at h1 h1', .inr ⟨T, _, _, e, hT, eH, rfl, .cons (Rp.mono s1 h2) (.cons (Rp.mono s1 h2') .nil)⟩⟩
theorem src_zipT {a b : Addr} {xs ys : List V} {ds es : List D} (h : F a = some (.tup xs)) (r : RpA Z F xs ds) (h' : F b = some (.tup ys)) (r' : RpA Z F ys es) : SrcOk Z F (RZ.ItzT K a b) (zipD ds es) := by
  have hl := r.length
  have hl' := r'.length
  refine ⟨fun F1 H1 i s1 s2 e => ?_, fun F1 H1 i s1 s2 hi => ?_, fun F1 H1 i x H' s1 s2 hi y => ?_⟩
  · rw [zipD_len] at e
    exact ⟨xs, ys, SqT.of (s2 _ _ (s1 _ _ h)), SqT.of (s2 _ _ (s1 _ _ h')), by omega⟩
  · rw [zipD_len] at hi
    exact ⟨xs, ys, xs[i]'(by omega), ys[i]'(by omega), SqT.of (s2 _ _ (s1 _ _ h)), SqT.of (s2 _ _ (s1 _ _ h')), List.getElem?_eq_getElem _, List.getElem?_eq_getElem _⟩
  · obtain ⟨T, x', y', e, hT, eH, y, z⟩ := y
    obtain ⟨d, h1, h2⟩ := r.getV (y xs (SqT.of (s2 _ _ (s1 _ _ h))))
    obtain ⟨d', h1', h2'⟩ := r'.getV (z ys (SqT.of (s2 _ _ (s1 _ _ h'))))
    exact ⟨_, zipD_at h1 h1', .inr ⟨T, _, _, e, hT, eH, rfl, .cons (Rp.mono s1 h2) (.cons (Rp.mono s1 h2') .nil)⟩⟩
theorem src_rev {a : Addr} {xs : List V} {ds : List D} (h : F a = some (.lst xs)) (r : RpA Z F xs ds) : SrcOk Z F (Itv K a xs.length) ds.reverse := by
  have hl := r.length
  refine ⟨fun F1 H1 i s1 s2 e => ?_, fun F1 H1 i s1 s2 hi => ?_, fun F1 H1 i x H' s1 s2 hi y => ?_⟩
  · rw [List.length_reverse] at e
    show xs.length ≤ i
    omega
  · rw [List.length_reverse] at hi
    exact ⟨by omega, xs, xs[xs.length - 1 - i]'(by omega), SqL.of (s2 _ _ (s1 _ _ h)), List.getElem?_eq_getElem _⟩
  · obtain ⟨e, y⟩ := y
    subst e
    rw [List.length_reverse] at hi
    obtain ⟨d, h1, h2⟩ := r.getV (y xs (SqL.of (s2 _ _ (s1 _ _ h))))
    refine ⟨d, ?_, .inl ⟨rfl, Rp.mono s1 h2⟩⟩
    rw [List.getElem?_reverse (by omega), ← hl]
    exact h1
theorem src_revT {a : Addr} {xs : List V} {ds : List D} (h : F a = some (.tup xs)) (r : RpA Z F xs ds) : SrcOk Z F (RT.ItvT K a xs.length) ds.reverse := by
  have hl := r.length
  refine ⟨fun F1 H1 i s1 s2 e => ?_, fun F1 H1 i s1 s2 hi => ?_, fun F1 H1 i x H' s1 s2 hi y => ?_⟩
  · rw [List.length_reverse] at e
    show xs.length ≤ i
    omega
  · rw [List.length_reverse] at hi
    exact ⟨by omega, xs, xs[xs.length - 1 - i]'(by omega), SqT.of (s2 _ _ (s1 _ _ h)), List.getElem?_eq_getElem _⟩
  · obtain ⟨e, y⟩ := y
    subst e
    rw [List.length_reverse] at hi
    obtain ⟨d, h1, h2⟩ := r.getV (y xs (SqT.of (s2 _ _ (s1 _ _ h))))
    refine ⟨d, ?_, .inl ⟨rfl, Rp.mono s1 h2⟩⟩
    rw [List.getElem?_reverse (by omega), ← hl]
    exact h1
end
section
variable {X : Cx} {tg e e2 : Expr} {te te2 : TDE} {t : TDA} {p pos tpos : Pos}
/-- the items of a list or a tuple (frozen) -/
def seqD : D → (List D → Prop) → Prop
  | .lst ds, k => k ds
  | .tup ds, k => k ds
  | _, _ => False
def diSeq (te : TDE) : TDI := fun env Q => te env fun x e1 => asD x e1 fun d e2 => seqD d fun ds => Q ds e2
theorem di_seq (he : PE X e (cE te)) : PI X tg e (cI (diSeq te)) := PI.imp (pi_seq he) fun σ H R ⟨B, env, F, G, Q', q, f⟩ => ⟨B, env, F, G, _, q, fun x e1 v F1 H1 q1 s1 G1 r1 => by
  obtain ⟨d, e2, F2, q2, s2, G2, rd⟩ := asD_ok G s1 G1 r1 q1
  cases d <;> first | exact (show False from q2).elim | skip
  · cases rd with
    | lst ha ra => exact ⟨_, rfl, .inl ⟨⟨_, SqL.of (G2.sub _ _ ha)⟩, f _ e2 F2 H1 _ q2 s2 G2 (src_list ha ra)⟩⟩
  · cases rd with
    | tup ha ra => exact ⟨_, rfl, .inr ⟨⟨_, SqT.of (G2.sub _ _ ha)⟩, f _ e2 F2 H1 _ q2 s2 G2 (src_tup ha ra)⟩⟩⟩
def diEnum (te : TDE) : TDI := fun env Q => te env fun x e1 => asD x e1 fun d e2 => seqD d fun ds => Q (enumD ds) e2
theorem di_enum {elts : List Expr} {kk : Nat} (hg : Gl X "enumerate") (hm : X.mg "enumerate" = none) (he : PE X e (cE te)) (hs0 : starEach [e] X.env = (false, eval e X.env) :: starEach [] X.env := by rfl) (hs : starEach [e] X.env = [(false, eval e X.env)] := by rfl) :
    PI X (.Tuple elts kk tpos) (.Call (.Name "enumerate" p) [e] [] pos) (cI (diEnum te)) :=
  PI.imp (pi_enumA (ta := cE te) (fun σ H Q Q' h k => cE_mono h k) hg hm he hs0 hs) fun σ H R ⟨B, env, F, G, Q', q, f⟩ => ⟨B, env, F, G, _, q, fun x e1 v F1 H1 q1 s1 G1 r1 => by
    obtain ⟨d, e2, F2, q2, s2, G2, rd⟩ := asD_ok G s1 G1 r1 q1
    cases d <;> first | exact (show False from q2).elim | skip
    · cases rd with
      | lst ha ra => exact ⟨_, rfl, .inl ⟨⟨_, SqL.of (G2.sub _ _ ha)⟩, f _ e2 F2 H1 _ q2 s2 G2 (src_enum ha ra)⟩⟩
    · cases rd with
      | tup ha ra => exact ⟨_, rfl, .inr ⟨⟨_, SqT.of (G2.sub _ _ ha)⟩, f _ e2 F2 H1 _ q2 s2 G2 (src_enumT ha ra)⟩⟩⟩
def diRev (te : TDE) : TDI := fun env Q => te env fun x e1 => asD x e1 fun d e2 => seqD d fun ds => Q ds.reverse e2
theorem di_rev (hg : Gl X "reversed") (hm : X.mg "reversed" = none) (he : PE X e (cE te)) (hs : starEach [e] X.env = [(false, eval e X.env)] := by rfl) : PI X tg (.Call (.Name "reversed" p) [e] [] pos) (cI (diRev te)) :=
  PI.imp (RT.pi_revA hg hm he hs) fun σ H R ⟨B, env, F, G, Q', q, f⟩ => ⟨B, env, F, G, _, q, fun x e1 v F1 H1 q1 s1 G1 r1 => by
    obtain ⟨d, e2, F2, q2, s2, G2, rd⟩ := asD_ok G s1 G1 r1 q1
    cases d <;> first | exact (show False from q2).elim | skip
    · cases rd with
      | lst ha ra => exact ⟨_, _, rfl, .inl ⟨SqL.of (G2.sub _ _ ha), f _ e2 F2 H1 _ q2 s2 G2 (src_rev ha ra)⟩⟩
    · cases rd with
      | tup ha ra => exact ⟨_, _, rfl, .inr ⟨SqT.of (G2.sub _ _ ha), f _ e2 F2 H1 _ q2 s2 G2 (src_revT ha ra)⟩⟩⟩
/-- zip of two lists, of two tuples -/
def diZip (t : TDA) : TDI := fun env Q => t env fun ds e1 => match ds with
  | [.lst a, .lst b] => Q (zipD a b) e1
  | [.tup a, .tup b] => Q (zipD a b) e1
  | _ => False
theorem di_zip {elts : List Expr} {kk : Nat} (hg : Gl X "zip") (hm : X.mg "zip" = none) (ha : PA X [e, e2] (cA t)) (hs : starEach [e, e2] X.env = (false, eval e X.env) :: starEach [e2] X.env := by rfl) (hs2 : (backTo pos (starEach [e2] X.env)).any (·.1) = false := by rfl) :
    PI X (.Tuple elts kk tpos) (.Call (.Name "zip" p) [e, e2] [] pos) (cI (diZip t)) :=
  PI.imp (RZ.pi_zipA hg hm ha hs hs2) fun σ H R ⟨B, env, F, G, Q', q, f⟩ => ⟨B, env, F, G, _, q, fun ds e1 vs F1 H1 q1 s1 G1 r1 => by
    split at q1
    · cases r1 with
      | cons h1 r =>
        cases r with
        | cons h2 r =>
          cases r
          cases h1 with
          | lst ea ra =>
            cases h2 with
            | lst eb rb => exact ⟨_, _, _, _, rfl, .inl ⟨SqL.of (G1.sub _ _ ea), SqL.of (G1.sub _ _ eb), f _ e1 F1 H1 _ q1 s1 G1 (src_zip ea ra eb rb)⟩⟩
    · cases r1 with
      | cons h1 r =>
        cases r with
        | cons h2 r =>
          cases r
          cases h1 with
          | tup ea ra =>
            cases h2 with
            | tup eb rb => exact ⟨_, _, _, _, rfl, .inr ⟨SqT.of (G1.sub _ _ ea), SqT.of (G1.sub _ _ eb), f _ e1 F1 H1 _ q1 s1 G1 (src_zipT ea ra eb rb)⟩⟩
    · exact q1.elim⟩
def diRange1 (t : TDA) : TDI := fun env Q => t env fun ds e1 => match ds with
  | [.int j] => (-(2 ^ 62) ≤ j ∧ j < 2 ^ 62) ∧ Q (rangeD 0 j.toNat) e1
  | _ => False
theorem di_range1 {a : Expr} (hg : Gl X "range") (hm : X.mg "range" = none) (ha : PA X [a] (cA t)) (hs : starEach [a] X.env = [(false, eval a X.env)] := by rfl) : PI X tg (.Call (.Name "range" p) [a] [] pos) (cI (diRange1 t)) :=
  PI.imp (pi_range1 hg hm ha hs) fun σ H R ⟨B, env, F, G, Q', q, f⟩ => ⟨B, env, F, G, _, q, fun ds e1 vs F1 H1 q1 s1 G1 r1 => by
    split at q1
    · cases r1 with
      | cons h1 r =>
        cases r
        exact ⟨_, by rw [Rp.int_eq h1], q1.1.1, q1.1.2, f _ e1 F1 H1 _ q1.2 s1 G1 (src_range _ _)⟩
    · exact q1.elim⟩
def diRange2 (t : TDA) : TDI := fun env Q => t env fun ds e1 => match ds with
  | [.int i, .int j] => (-(2 ^ 62) ≤ i ∧ i < 2 ^ 62 ∧ -(2 ^ 62) ≤ j ∧ j < 2 ^ 62) ∧ Q (rangeD i (j - i).toNat) e1
  | _ => False
theorem di_range2 {a b : Expr} (hg : Gl X "range") (hm : X.mg "range" = none) (ha : PA X [a, b] (cA t)) (hs : starEach [a, b] X.env = [(false, eval a X.env), (false, eval b X.env)] := by rfl) (hs2 : starEach [b] X.env = [(false, eval b X.env)] := by rfl) : PI X tg (.Call (.Name "range" p) [a, b] [] pos) (cI (diRange2 t)) :=
  PI.imp (pi_range2 hg hm ha hs hs2) fun σ H R ⟨B, env, F, G, Q', q, f⟩ => ⟨B, env, F, G, _, q, fun ds e1 vs F1 H1 q1 s1 G1 r1 => by
    split at q1
    · exact ⟨_, _, r1.int2, q1.1, f _ e1 F1 H1 _ q1.2 s1 G1 (src_range _ _)⟩
    · exact q1.elim⟩
def diRange3 (t : TDA) : TDI := fun env Q => t env fun ds e1 => match ds with
  | [.int i, .int j, .int c] => ∃ n, RgC i j c n ∧ Q (rangeC i c n) e1
  | _ => False
theorem di_range3 {a b c : Expr} (hg : Gl X "range") (hm : X.mg "range" = none) (ha : PA X [a, b, c] (cA t)) (h : PI X tg (.Call (.Name "range" p) [a, b, c] [] pos) (iRng3 (cA t))) : PI X tg (.Call (.Name "range" p) [a, b, c] [] pos) (cI (diRange3 t)) :=
  PI.imp h fun σ H R ⟨B, env, F, G, Q', q, f⟩ => ⟨B, env, F, G, _, q, fun ds e1 vs F1 H1 q1 s1 G1 r1 => by
    split at q1
    · obtain ⟨n, hn, q2⟩ := q1
      cases r1 with
      | cons h1 r =>
        cases r with
        | cons h2 r =>
          cases r with
          | cons h3 r =>
            cases r
            exact ⟨_, _, _, n, by rw [Rp.int_eq h1, Rp.int_eq h2, Rp.int_eq h3], hn, f _ e1 F1 H1 _ q2 s1 G1 (src_rangeC _ _ _)⟩
    · exact q1.elim⟩
end

/-! ### for -/
section
variable {X : Cx} {tg iter : Expr} {pos : Pos}
theorem Hld.up {B : Bas} {env0 env : SE} {σ0 σ : L2.St} {F1 H1 F H : Hp} (G0 : Hld B env0 σ0 F1 H1) (G : Hld B env σ F H) (s : Same F1 F) : Hld { B with F0 := F1 } env σ F H :=
  ⟨G.len, G.sub, s, G.keep, fun a o h f => G.out a o h (by
    cases q : B.F0 a with
    | none => rfl
    | some u =>
      have z := G0.exF a u q
      rw [show F1 a = none from f] at z
      cases z), G.zok, G.zin, G.znf, G.dat, G.own, G.sep⟩
theorem Hld.down {B : Bas} {env0 env : SE} {σ0 σ : L2.St} {F1 H1 F H : Hp} (G0 : Hld B env0 σ0 F1 H1) (G : Hld { B with F0 := F1 } env σ F H) : Hld B env σ F H :=
  ⟨G.len, G.sub, G0.exF.trans G.exF, G.keep, fun a o h f => G.out a o h (G0.out a o h f), G.zok, G.zin, G.znf, G.dat, G.own, G.sep⟩
def dFor (ti : TDI) (dg : TDG) (tb : TDS) : TDS := fun E env => ti env fun ds e1 => ∃ I : Nat → SE → Prop, I 0 e1 ∧ (∀ i d e, ds[i]? = some d → I i e → dg d e fun e' => frc e' fun e' => tb { E with nx := I (i + 1), ct := I (i + 1), bk := E.nx } e') ∧ ∀ e, I ds.length e → E.nx e
/-- a yielded item as data, in a frozen part -/
theorem src_item {B : Bas} {env : SE} {σ : L2.St} {F F1 H1 H' : Hp} {J : It} {ds : List D} {i : Nat} {x : V} (S : SrcOk B.Z F J ds) (s : Same F F1) (G : Hld B env σ F1 H1) (hi : i < ds.length) (y : J.yld i H1 x H') :
    ∃ d F2, ds[i]? = some d ∧ Mov B env env σ F1 H1 F2 H' ∧ Hld B env σ F2 H' ∧ Rp B.Z F2 x d := by
  obtain ⟨d, hd, h⟩ := S.yld F1 H1 i x H' s G.sub hi y
  rcases h with ⟨rfl, r⟩ | ⟨T, vs, es, rfl, hT, rfl, rfl, r⟩
  · exact ⟨d, F1, hd, Mov.refl, G, r⟩
  · exact ⟨_, _, hd, Mov.allocF G hT, G.allocF hT, .tup upd_same (RpA.mono (same_upd (G.base_none hT).2.1) r)⟩
theorem ds_for {body : List Stmt} {ti : TDI} {g : TG} {dg : TDG} {is : List Nat} {tb : TDS} (hp : PassesOwn (model X.prog X.w) X.A X.env X.xe) (hc : X.calm = true) (hi : PI X tg iter (cI ti)) (hg : PG X tg g) (hk : TgOk X.K is g dg) (hb : PSs X body (cS tb))
    (hs : ∀ x, foldedSetIterable iter X.env x = pure x := by intro _; rfl) : PS X (.For tg iter body [] pos) (cS (dFor ti dg tb)) :=
  ds_of (ps_for hp hc hi hg hb hs) fun B env σ F H E D G q ok => ⟨B, env, F, G, _, q, fun ds e1 F1 H1 J q1 s1 G1 S => by
    obtain ⟨I, i0, turn, done⟩ := q1
    refine ⟨fun i m σ H => ∃ (e : SE) (F2 : Hp), Hld B e σ F2 H ∧ Same F1 F2 ∧ I i e ∧ i ≤ ds.length ∧ m = ds.length - i, ⟨_, e1, F1, G1, Same.refl F1, i0, Nat.zero_le _, rfl⟩, fun i m σ2 H2 ⟨e2, F2, G2, s2, ii, hi, em⟩ => ?_⟩
    by_cases hlt : i < ds.length
    · refine .inr ⟨S.go F2 H2 i s2 G2.sub hlt, fun σ' H' => ∃ (e : SE) (F3 : Hp), Hld B e σ' F3 H' ∧ Same F1 F3 ∧ I (i + 1) e, fun σ' H' ⟨e, F3, G3, s3, i3⟩ => ⟨ds.length - (i + 1), by omega, e, F3, G3, s3, i3, hlt, rfl⟩, fun x H' y => ?_⟩
      obtain ⟨d, F3, hd, s3, G3, rd⟩ := src_item S s2 G2 hlt y
      refine hk.run B e2 σ2 F3 H' x d _ _ G3 rd (turn i d e2 hd ii) fun e4 σ4 t4 G4 _ _ _ => ⟨{ B with F0 := F1 }, e4, F3, Hld.up G1 G4 (s2.trans s3.ex), _, frc_out t4, ?_⟩
      exact ⟨fun e σ F H h G => ⟨e, F, Hld.down G1 G, G.exF, h⟩, fun x v e σ F H h G r => ok.rt x v e σ F H h (Hld.down G1 G) (by cases x <;> exact r), fun e σ F H h G => ok.nx e σ F H h (Hld.down G1 G), fun e σ F H h G => ⟨e, F, Hld.down G1 G, G.exF, h⟩⟩
    · have e : i = ds.length := by omega
      subst e
      exact .inl ⟨S.stop F2 H2 _ s2 G2.sub rfl, ok.nx e2 σ2 F2 H2 (done e2 ii) G2⟩⟩
end
end DL

/-! DComp: list comprehensions over data. -/
namespace DL
open PySem L2
def wipeE (env : SE) : List Nat → SE
  | [] => env
  | v :: vs => (wipeE env vs).set v .un
theorem wipe_set_out {i : Nat} {v : Option V} : ∀ {vs : List Nat} {σ : L2.St}, i ∉ vs → wipe (σ.set i v) vs = (wipe σ vs).set i v
  | [], _, _ => rfl
  | k :: vs, σ, h => by
    unfold wipe
    rw [List.mem_cons, not_or] at h
    rw [wipe_set_out h.2, List.set_comm _ _ h.1]
theorem wipe_wipe (σ : L2.St) : ∀ vs : List Nat, wipe (wipe σ vs) vs = wipe σ vs
  | [] => rfl
  | v :: vs => by
    show (wipe ((wipe σ vs).set v none) vs).set v none = (wipe σ vs).set v none
    by_cases h : v ∈ vs
    · rw [wipe_set h, wipe_wipe σ vs]
    · rw [wipe_set_out h, wipe_wipe σ vs, List.set_set]
theorem Hld.wiped {B : Bas} {env : SE} {σ : L2.St} {F H : Hp} (G : Hld B env σ F H) : ∀ vs : List Nat, Hld B (wipeE env vs) (wipe σ vs) F H
  | [] => by
    unfold wipeE wipe
    exact G
  | v :: vs => by
    unfold wipeE wipe
    exact (Hld.wiped G vs).setU v none
theorem wipeE_out {env : SE} {i : Nat} : ∀ {vs : List Nat}, i ∉ vs → (wipeE env vs)[i]? = env[i]?
  | [], _ => rfl
  | v :: vs, h => by
    rw [List.mem_cons, not_or] at h
    unfold wipeE
    rw [List.getElem?_set_ne (Ne.symm h.1)]
    exact wipeE_out h.2
theorem wipeE_in {env : SE} {i : Nat} {c : OC} : ∀ {vs : List Nat}, i ∈ vs → (wipeE env vs)[i]? ≠ some (.own c)
  | [], h => absurd h (by simp)
  | v :: vs, h => by
    unfold wipeE
    intro q
    rcases getE q with ⟨_, z⟩ | ⟨nj, z⟩
    · cases z
    · rcases List.mem_cons.mp h with e | e
      · exact nj e.symm
      · exact wipeE_in e z
/-- the inner frame of a comprehension's block: apart from vs the outer one's -/
structure Inn (vs : List Nat) (e1 e2 : SE) (σ σ2 : L2.St) : Prop where
  env : ∀ j, j ∉ vs → e2[j]? = e1[j]?
  sig : ∀ j, j ∉ vs → σ2[j]? = σ[j]?
  own : ∀ j ∈ vs, ∀ c, e2[j]? ≠ some (.own c)
section
variable {B : Bas} {vs : List Nat} {e1 e2 : SE} {σ σ2 : L2.St} {F H F' H' : Hp}
theorem Inn.owns (N : Inn vs e1 e2 σ σ2) {a : Addr} (h : Owns e2 σ2 a) : Owns e1 σ a := by
  obtain ⟨j, c, q1, q2⟩ := h
  by_cases hj : j ∈ vs
  · exact absurd q1 (N.own j hj c)
  · rw [N.env j hj] at q1
    rw [N.sig j hj] at q2
    exact ⟨j, c, q1, q2⟩
theorem Inn.start : Inn vs e1 (wipeE e1 vs) σ (wipe σ vs) := ⟨fun j hj => wipeE_out hj, fun j hj => wipe_out hj, fun j hj c => wipeE_in hj⟩
/-- the outer frame over a step of the block that leaves the block's frame as it is -/
theorem Inn.over (N : Inn vs e1 e2 σ σ2) (Go : Hld B e1 σ F H) (Gi : Hld B e2 σ2 F H) (M : Mov B e2 e2 σ2 F H F' H') (Gi' : Hld B e2 σ2 F' H') : Hld B e1 σ F' H' ∧ Mov B e1 e1 σ F H F' H' := by
  refine ⟨⟨Go.len, Gi'.sub, Gi'.exF, Gi'.keep, Gi'.out, Gi'.zok, Gi'.zin, Gi'.znf, fun j d q => ?_, fun j c q => ?_, Go.sep⟩, ⟨M.ex, fun a o h z n => M.keep a o h z fun q => n (N.owns q), fun a o h f z n => M.out a o h f z fun q => n (N.owns q), fun a q => q, M.there⟩⟩
  · obtain ⟨v, h1, h2⟩ := Go.dat j d q
    exact ⟨v, h1, Rp.mono M.ex h2⟩
  · by_cases hj : j ∈ vs
    · obtain ⟨o, ho, h1, h2, h3, h4, h5⟩ := Go.own j c q
      have nz : ¬ ZA B.Z o := fun z => by
        obtain ⟨u, w⟩ := Go.zin o z
        rw [h3] at w
        cases w
      have no : ¬ Owns e2 σ2 o := fun ⟨k, c', q1, q2⟩ => by
        by_cases hk : k ∈ vs
        · exact N.own k hk c' q1
        · rw [N.env k hk] at q1
          rw [N.sig k hk] at q2
          have e := Go.sep j k o c c' q q1 h1 q2
          subst e
          exact hk hj
      exact ⟨o, ho, h1, M.out o ho h4 h2 nz no, h3, M.keep o ho h4 nz no, RpO.mono M.ex h5⟩
    · have q2 := q
      rw [← N.env j hj] at q2
      obtain ⟨o, ho, h1, r⟩ := Gi'.own j c q2
      rw [N.sig j hj] at h1
      exact ⟨o, ho, h1, r⟩
/-- a foreign object changes -/
theorem Hld.chg {env : SE} {p : Addr} {u o : HO} (G : Hld B env σ F H) (hp : H p = some u) (hf : F p = none) (h0 : B.H0 p = none) (no : ¬ Owns env σ p) : Hld B env σ F (upd H p o) := by
  refine ⟨G.len, fun a x q => by rw [upd_ne (ne_of_none q hf)]; exact G.sub a x q, G.exF, fun a x q z => by rw [upd_ne (ne_of_none q h0)]; exact G.keep a x q z, G.out, G.zok.keep fun a x z q => ?_, G.zin, G.znf, G.dat, fun j c q => ?_, G.sep⟩
  · have ne : a ≠ p := fun e => by
      subst e
      obtain ⟨u, w⟩ := G.zin a z
      rw [h0] at w
      cases w
    rw [upd_ne ne]
    exact q
  · obtain ⟨a, ho, h1, h2, h3, h4, h5⟩ := G.own j c q
    have ne : a ≠ p := fun e => no (e ▸ ⟨j, c, q, h1⟩)
    exact ⟨a, ho, h1, h2, h3, by rw [upd_ne ne]; exact h4, h5⟩
theorem Mov.chg {env : SE} {p : Addr} {o : HO} {F0 H0 : Hp} (M : Mov B env env σ F0 H0 F H) (h0 : H0 p = none) : Mov B env env σ F0 H0 F (upd H p o) :=
  ⟨M.ex, fun a x q z n => by rw [upd_ne (ne_of_none q h0)]; exact M.keep a x q z n, M.out, M.own, fun a x q => by rw [upd_ne (ne_of_none q h0)]; exact M.there a x q⟩
end

/-! ### [e for x in xs if t] -/
def dLc (ti : TDI) (dg : TDG) (tt : TDT) (te : TDE) (vs : List Nat) : TDE := fun env Q => ti env fun ds e1 => ∃ I : Nat → List D → Prop, I 0 [] ∧
  (∀ i d acc, ds[i]? = some d → I i acc → frc (wipeE e1 vs) fun e0 => dg d e0 fun e2 => frc e2 fun e2 => tt e2 fun b e3 => e3 = e2 ∧ bc b (te e3 fun x e4 => asD x e4 fun y e5 => e5 = e2 ∧ acc.length < 10000000 ∧ I (i + 1) (acc ++ [y])) (I (i + 1) acc)) ∧
  ∀ acc, I ds.length acc → Q (.new (.lst acc)) e1
def dYes : TDT := fun env Q => Q true env
section
variable {X : Cx}
theorem PTs.imp {ifs : List Expr} {t u : TT} (h : PTs X ifs t) (k : ∀ σ H Q, u σ H Q → t σ H Q) : PTs X ifs u := ⟨fun pins s σ H Q I q => h.run pins s σ H Q I (k σ H Q q)⟩
theorem dts_nil : PTs X [] (cT dYes) := PTs.imp pts_nil fun σ H Q ⟨B, env, F, G, Q', q, f⟩ => f _ env F H q Mov.refl G
theorem dts_one {c : Expr} {t : TDT} (h : PT X c (cT t)) : PTs X [c] (cT t) := pts_one h
/-- what a comprehension keeps: the outer frame, the list so far at p -/
structure Kept (B : Bas) (e1 : SE) (σ : L2.St) (F1 H1 : Hp) (p : Addr) (acc : List D) (F H : Hp) : Prop where
  hld : Hld B e1 σ F H
  mov : Mov B e1 e1 σ F1 H1 F H
  fp : F p = none
  at_ : ∃ xs, H p = some (.lst xs) ∧ RpA B.Z F xs acc
theorem Kept.grow {B : Bas} {e1 : SE} {σ : L2.St} {F1 H1 F H : Hp} {p : Addr} {acc : List D} (G1 : Hld B e1 σ F1 H1) (hp : H1 p = none) (K : Kept B e1 σ F1 H1 p acc F H) {v : V} {d : D} (r : Rp B.Z F v d) {xs : List V} (hx : H p = some (.lst xs)) : Kept B e1 σ F1 H1 p (acc ++ [d]) F (upd H p (.lst (xs ++ [v]))) := by
  obtain ⟨h0, hf, nz, no⟩ := G1.base_none hp
  obtain ⟨xs', hx', ra⟩ := K.at_
  rw [hx] at hx'
  cases hx'
  exact ⟨K.hld.chg hx K.fp h0 no, K.mov.chg hp, K.fp, _, upd_same, ra.append (.one r)⟩
/-- the block's steps keep it -/
theorem Kept.step {B : Bas} {e1 e2 : SE} {σ σ2 : L2.St} {F1 H1 F H F' H' : Hp} {p : Addr} {acc : List D} {vs : List Nat} (G1 : Hld B e1 σ F1 H1) (hp : H1 p = none) (K : Kept B e1 σ F1 H1 p acc F H) (N : Inn vs e1 e2 σ σ2) (Gi : Hld B e2 σ2 F H) (M : Mov B e2 e2 σ2 F H F' H') (Gi' : Hld B e2 σ2 F' H') : Kept B e1 σ F1 H1 p acc F' H' := by
  obtain ⟨h0, hf, nz, no⟩ := G1.base_none hp
  obtain ⟨g, m⟩ := N.over K.hld Gi M Gi'
  obtain ⟨xs, hx, ra⟩ := K.at_
  have no2 : ¬ Owns e2 σ2 p := fun q => no (N.owns q)
  exact ⟨g, K.mov.trans m, M.out p _ hx K.fp nz no2, xs, M.keep p _ hx nz no2, ra.mono M.ex⟩
theorem lc_ok {K : PySem.W.Frag} {ti : TDI} {g : TG} {dg : TDG} {is : List Nat} {tt : TDT} {te : TDE} {vs : List Nat} (hk : TgOk K is g dg) (hv : ∀ i ∈ is, i ∈ vs) (σ : L2.St) (H : Hp) (Q : VK) (h : cE (dLc ti dg tt te vs) σ H Q) : tLc (cI ti) g (cT tt) (cE te) vs σ H Q := by
  obtain ⟨B, env, F, G, Q', q, f⟩ := h
  refine ⟨B, env, F, G, _, q, fun ds e1 F1 H1 J q1 s1 G1 S p hp => ?_⟩
  obtain ⟨I, i0, turn, done⟩ := q1
  obtain ⟨h0, hf, nz, no⟩ := G1.base_none hp
  refine ⟨fun i m H => ∃ (acc : List D) (F2 : Hp), Kept B e1 σ F1 H1 p acc F2 H ∧ I i acc ∧ i ≤ ds.length ∧ m = ds.length - i, ⟨_, [], F1, ⟨G1.alloc hp, Mov.alloc hp, hf, [], upd_same, .nil⟩, i0, Nat.zero_le _, rfl⟩, fun i m H2 ⟨acc, F2, kp, ii, hi, em⟩ => ?_⟩
  by_cases hlt : i < ds.length
  · refine .inr ⟨S.go F2 H2 i kp.mov.ex kp.hld.sub hlt, fun H' => ∃ (acc : List D) (F3 : Hp), Kept B e1 σ F1 H1 p acc F3 H' ∧ I (i + 1) acc, fun H' ⟨acc', F3, kp', i'⟩ => ⟨ds.length - (i + 1), by omega, acc', F3, kp', i', hlt, rfl⟩, fun x H' y => ?_⟩
    have Gw := kp.hld.wiped vs
    obtain ⟨d, F3, hd, m3, G3, rd⟩ := src_item S kp.mov.ex Gw hlt y
    have N0 : Inn vs e1 (wipeE e1 vs) σ (wipe σ vs) := Inn.start
    have k3 := kp.step G1 hp N0 Gw m3 G3
    refine hk.run B _ _ F3 H' x d _ _ G3 rd (frc_out (turn i d acc hd ii)) fun e2 σ2 t2 G2 hw he hn => ⟨(hw vs hv).trans (wipe_wipe σ vs), ?_⟩
    have N : Inn vs e1 e2 σ σ2 := by
      refine ⟨fun j hj => ?_, fun j hj => ?_, fun j hj c q => ?_⟩
      · rw [he j fun z => hj (hv j z)]
        exact wipeE_out hj
      · have e1 := hw vs hv
        have e2 : (wipe σ2 vs)[j]? = σ2[j]? := wipe_out hj
        rw [← e2, e1, wipe_out hj, wipe_out hj]
      · by_cases hji : j ∈ is
        · exact hn j hji c q
        · rw [he j hji] at q
          exact wipeE_in hj q
    refine ⟨B, e2, F3, G2, _, frc_out t2, fun b e3 F4 H4 ⟨ee, q4⟩ m4 G4 => ?_⟩
    subst ee
    have k4 := k3.step G1 hp N G2 m4 G4
    cases b with
    | false =>
      rw [if_neg Bool.false_ne_true]
      exact ⟨acc, F4, k4, bcF q4⟩
    | true =>
      rw [if_pos rfl]
      refine ⟨B, e3, F4, G4, _, bcT q4, fun z e4 v F5 H5 q5 m5 G5 r5 => ?_⟩
      obtain ⟨y', e5, F6, ⟨ee, hz, q6⟩, m6, G6, r6⟩ := asD_ok G4 m5 G5 r5 q5
      subst ee
      have k6 := k4.step G1 hp N G4 m6 G6
      obtain ⟨xs, hx, ra⟩ := k6.at_
      exact ⟨xs, hx, by rw [ra.length]; exact szl hz, _, F6, k6.grow G1 hp r6 hx, q6⟩
  · have e : i = ds.length := by omega
    subst e
    refine .inl ⟨S.stop F2 H2 _ kp.mov.ex kp.hld.sub rfl, ?_⟩
    obtain ⟨xs, hx, ra⟩ := kp.at_
    refine f _ e1 _ F2 H2 (done acc ii) (s1.trans kp.mov) kp.hld ⟨p, _, rfl, ?_, kp.fp, hx, ra⟩
    cases hh : H p with
    | none => rfl
    | some o =>
      obtain ⟨o', h'⟩ := s1.there p o hh
      rw [hp] at h'
      cases h'
theorem de_lc {elt tg iter : Expr} {ifs : List Expr} {scope : Scope} {own : List (Str × Nat)} {pos : Pos} {ti : TDI} {g : TG} {dg : TDG} {is : List Nat} {tt : TDT} {te : TDE} (hc : X.calm = true) (hN : X.N.Nodup) (hk : TgOk X.K is g dg) (hv : ∀ i ∈ is, i ∈ own.map (·.2)) (hi : PI X tg iter (cI ti)) (ok : BlkOk X.N X.env.scope scope own)
    (hg : ∀ (s : Shared) (H : Hp) (C : Addr) (cl : List (Str × Addr)) (fp : List Addr), PG (X.blk s H scope (compEnvC scope cl C X.env) fp) tg g) (ht : ∀ (s : Shared) (H : Hp) (C : Addr) (cl : List (Str × Addr)) (fp : List Addr), PTs (X.blk s H scope (compEnvC scope cl C X.env) fp) ifs (cT tt))
    (he : ∀ (s : Shared) (H : Hp) (C : Addr) (cl : List (Str × Addr)) (fp : List Addr), PE (X.blk s H scope (compEnvC scope cl C X.env) fp) elt (cE te)) (hs : ∀ x, foldedSetIterable iter X.env x = pure x := by intro _; rfl) :
    PE X (.ListComp elt [⟨tg, iter, ifs, 0⟩] scope pos) (cE (dLc ti dg tt te (own.map (·.2)))) := PE.imp (pe_lc hc hN hi ok hg ht he hs) (lc_ok hk hv)
theorem ds_setLc (i : Nat) {y : Str} {py : Pos} {elt tg iter : Expr} {ifs : List Expr} {scope : Scope} {own : List (Str × Nat)} {pos spos : Pos} {ti : TDI} {g : TG} {dg : TDG} {is : List Nat} {tt : TDT} {te : TDE} (hc : X.calm = true) (hN : X.N.Nodup) (hk : TgOk X.K is g dg) (hv : ∀ i ∈ is, i ∈ own.map (·.2)) (hy : X.N[i]? = some y) (hyl : X.env.scope.names.lookup y = some .local)
    (hsw : swapsWith (.ListComp elt [⟨tg, iter, ifs, 0⟩] scope pos) (some (.Name y py)) spos.line X.env = pure true) (hi : PI X tg iter (cI ti)) (ok : BlkOk X.N X.env.scope scope own)
    (hg : ∀ (s : Shared) (H : Hp) (C : Addr) (cl : List (Str × Addr)) (fp : List Addr), PG (X.blk s H scope (compEnvC scope cl C X.env) fp) tg g) (ht : ∀ (s : Shared) (H : Hp) (C : Addr) (cl : List (Str × Addr)) (fp : List Addr), PTs (X.blk s H scope (compEnvC scope cl C X.env) fp) ifs (cT tt))
    (he : ∀ (s : Shared) (H : Hp) (C : Addr) (cl : List (Str × Addr)) (fp : List Addr), PE (X.blk s H scope (compEnvC scope cl C X.env) fp) elt (cE te)) (hs : ∀ x, foldedSetIterable iter X.env x = pure x := by intro _; rfl) :
    PS X (.Assign [.Name y py] (.ListComp elt [⟨tg, iter, ifs, 0⟩] scope pos) spos) (cS (dSet i (dLc ti dg tt te (own.map (·.2))))) :=
  PS.imp (ps_setLc hc hN hy hyl hsw hi ok hg ht he hs) fun D σ H h => by
    obtain ⟨B, env, F, G, E, q, ok⟩ := h
    refine lc_ok hk hv σ H _ ⟨B, env, F, G, _, q, fun x e1 v F1 H1 q1 s1 G1 r1 => ?_⟩
    obtain ⟨e2, F2, q2, G2⟩ := setV_ok G s1 G1 r1 q1
    exact ok.nx e2 _ F2 H1 q2 G2
end
end DL

/-! DCall: a def's promise over data, its call, its proof. -/
namespace DL
open PySem L2
structure Ent (Z : ZZ) (F H : Hp) : Prop where
  sub : Same F H
  zok : StOk Z H
  znf : ∀ a, ZA Z a → F a = none
structure Ext (Z : ZZ) (F H F' H' : Hp) : Prop where
  ex : Same F F'
  sub : Same F' H'
  keep : ∀ a o, H a = some o → ¬ ZA Z a → H' a = some o
  out : ∀ a o, H a = some o → F a = none → F' a = none
  zok : StOk Z H'
def VX (Z : ZZ) (F' H H' : Hp) (v : V) : Val → Prop
  | .dat d => Rp Z F' v d
  | .loc _ => False
  | .new c => ∃ p ho, v = .ref p ∧ H p = none ∧ F' p = none ∧ H' p = some ho ∧ RpO Z F' ho c
abbrev Spec := List D → (Val → Prop) → Prop
def spD (spec : Spec) : Sp := fun vs H Q _ => ∃ (Z : ZZ) (F : Hp) (ds : List D) (Q' : Val → Prop), Ent Z F H ∧ RpA Z F vs ds ∧ spec ds Q' ∧ ∀ x v F' H', Q' x → Ext Z F H F' H' → VX Z F' H H' v x → Q v H'
section
variable {B : Bas} {env : SE} {σ : L2.St} {F H F' H' : Hp}
theorem Hld.ent (G : Hld B env σ F H) : Ent B.Z F H := ⟨G.sub, G.zok, G.znf⟩
theorem Hld.ext (G : Hld B env σ F H) : Ext B.Z B.F0 B.H0 F H := ⟨G.exF, G.sub, G.keep, G.out, G.zok⟩
theorem Ext.mov (G : Hld B env σ F H) (x : Ext B.Z F H F' H') : Mov B env env σ F H F' H' :=
  ⟨x.ex, fun a o h z _ => x.keep a o h z, fun a o h f _ _ => x.out a o h f, fun _ q => q, fun a o h => by
    by_cases z : ZA B.Z a
    · exact x.zok.there z
    · exact ⟨o, x.keep a o h z⟩⟩
theorem Ext.hld (G : Hld B env σ F H) (x : Ext B.Z F H F' H') : Hld B env σ F' H' where
  len := G.len
  sub := x.sub
  exF := G.exF.trans x.ex
  keep := fun a o h z => x.keep a o (G.keep a o h z) z
  out := fun a o h f => by
    by_cases z : ZA B.Z a
    · obtain ⟨u, hu⟩ := G.zok.there z
      exact x.out a u hu (G.znf a z)
    · exact x.out a o (G.keep a o h z) (G.out a o h f)
  zok := x.zok
  zin := G.zin
  znf := fun a z => by
    obtain ⟨u, hu⟩ := G.zok.there z
    exact x.out a u hu (G.znf a z)
  dat := fun i d e => by
    obtain ⟨v, h1, h2⟩ := G.dat i d e
    exact ⟨v, h1, Rp.mono x.ex h2⟩
  own := fun i c e => by
    obtain ⟨o, ho, h1, h2, h3, h4, h5⟩ := G.own i c e
    exact ⟨o, ho, h1, x.out o ho h4 h2, h3, x.keep o ho h4 (fun z => by
      obtain ⟨u, w⟩ := G.zin o z
      rw [h3] at w
      cases w), RpO.mono x.ex h5⟩
  sep := G.sep
theorem VX.vr {v : V} {x : Val} (h : VX B.Z F' H H' v x) : VR B σ F' H H' v x := by
  cases x with
  | dat d => exact h
  | new c => exact h
  | loc i => exact h.elim
end
/-! ### calls -/
section
variable {X : Cx} {k : Nat} {f : Addr} {fd : FuncData} {ps : List Str} {spec : Spec} {x : Str} {p pos : Pos} {e : Expr} {es : List Expr} {t : TDA}
def dFun (spec : Spec) (t : TDA) : TDE := fun env Q => t env fun ds e1 => spec ds fun z => Q z e1
theorem fun_ok (σ : L2.St) (H : Hp) (Q : VK) (h : cE (dFun spec t) σ H Q) : tCall (spD spec) [] E0 (cA t) σ H Q := by
  obtain ⟨B, env, F, G, Q', q, f⟩ := h
  refine ⟨B, env, F, G, _, q, fun ds e1 vs F1 H1 q1 s1 G1 r1 => ?_⟩
  show spD spec (vs ++ []) H1 Q E0
  rw [List.append_nil]
  exact ⟨B.Z, F1, ds, _, G1.ent, r1, q1, fun z v F2 H2 q2 x2 r2 => f z e1 v F2 H2 q2 (s1.trans (x2.mov G1)) (x2.hld G1) (VR.back s1 (VX.vr r2))⟩
theorem de_fun (Fo : FnOk X.prog X.w X.K X.mg X.base CX0 k f fd ps (spD spec)) (hr : Room k X.A) (hg : Gl X x) (hm : X.mg x = some (.ref f)) (hk : PySem.W.keepIn X.K (.ref f) = true) (hb : Binds X.K fd ps []) (ha : PA X (e :: es) (cA t))
    (hdb : (x == ("__debug__" : Str)) = false := by decide) (he : starEach (e :: es) X.env = (false, eval e X.env) :: starEach es X.env := by rfl) (hpl : (backTo pos (starEach es X.env)).any (·.1) = false := by rfl) :
    PE X (.Call (.Name x p) (e :: es) [] pos) (cE (dFun spec t)) := PE.imp (pe_call Fo hr hg hm hk hb .nil pass0 ha hdb he hpl) fun_ok
theorem de_fun0 (Fo : FnOk X.prog X.w X.K X.mg X.base CX0 k f fd ps (spD spec)) (hr : Room k X.A) (hg : Gl X x) (hm : X.mg x = some (.ref f)) (hk : PySem.W.keepIn X.K (.ref f) = true) (hb : Binds X.K fd ps [])
    (hdb : (x == ("__debug__" : Str)) = false := by decide) : PE X (.Call (.Name x p) [] [] pos) (cE (dFun spec dNil)) :=
  PE.imp (pe_call0 Fo hr hg hm hk hb .nil pass0 hdb) fun σ H Q h => by
    obtain ⟨B, env, F, G, Q', q, f⟩ := h
    exact ⟨B.Z, F, [], _, G.ent, .nil, q, fun z v F2 H2 q2 x2 r2 => f z env v F2 H2 q2 (x2.mov G) (x2.hld G) (VX.vr r2)⟩
end
/-! ### a def keeps its promise -/
def startE (N : List Str) (ds : List D) : SE := ds.map Cel.d ++ List.replicate (N.length - ds.length) Cel.un
section
variable {P : Program} {w : World} {K : PySem.W.Frag} {mg : Str → Option Value} {base : Heap} {N ps : List Str}
theorem start_hld {Z : ZZ} {F H : Hp} {vs : List V} {ds : List D} (en : Ent Z F H) (r : RpA Z F vs ds) : Hld ⟨Z, F, H⟩ (startE N ds) (L2.start N vs) F H := by
  have hl := r.length
  refine ⟨?_, en.sub, Same.refl F, fun _ _ h _ => h, fun _ _ _ f => f, en.zok, fun a z => en.zok.there z, en.znf, fun i d e => ?_, fun i c e => ?_, fun i j o c c' e _ _ _ => ?_⟩
  · unfold startE L2.start
    rw [List.length_append, List.length_append, List.length_map, List.length_map, List.length_replicate, List.length_replicate, hl]
  · unfold startE at e
    by_cases hi : i < ds.length
    · rw [List.getElem?_append_left (by rw [List.length_map]; exact hi), List.getElem?_map] at e
      cases q : ds[i]? with
      | none =>
        rw [q] at e
        cases e
      | some d' =>
        rw [q] at e
        cases e
        obtain ⟨v, h1, h2⟩ := r.get q
        refine ⟨v, ?_, h2⟩
        unfold L2.start
        rw [List.getElem?_append_left (by rw [List.length_map]; omega), List.getElem?_map, h1]
        rfl
    · rw [List.getElem?_append_right (by rw [List.length_map]; omega), List.getElem?_replicate] at e
      split at e <;> cases e
  · exfalso
    unfold startE at e
    have m := List.mem_of_getElem? e
    rcases List.mem_append.mp m with m | m
    · obtain ⟨d, _, z⟩ := List.mem_map.mp m
      cases z
    · have := List.eq_of_mem_replicate m
      cases this
  · exfalso
    unfold startE at e
    have m := List.mem_of_getElem? e
    rcases List.mem_append.mp m with m | m
    · obtain ⟨d, _, z⟩ := List.mem_map.mp m
      cases z
    · have := List.eq_of_mem_replicate m
      cases this
theorem okD {x qual : Str} {st : Stmt} {f : Addr} {fd : FuncData} {k : Nat} {spec : Spec} {t : TDS} (F : Fun K x qual st f fd) (S : FnScope N ps (defScope st)) (hl : ∀ ds Q', spec ds Q' → ds.length = ps.length)
    (hb : ∀ (cdv : Value) (A : Around) (outer : List Env) (s : Shared) (H : Hp) (E : XK), Room k (A.deeper (PyProof.Rows.envOfC qual (defScope st) s.heap.objs.size f cdv)) → PSs (cxOf CX0 P w K mg base N qual (defScope st) f cdv A outer s H E).nox (defBody st) (cS t))
    (rd : ∀ ds Q', spec ds Q' → frc (startE N ds) (t { nx := fun _ => Q' (.dat .non), rt := Q' })) : FnOk P w K mg base CX0 (k + 1) f fd ps (spD spec) := by
  refine F.ok S (fun vs H Q E h => ?_) (fun cdv A outer s H vs Q E hr h => ⟨cS t, hb cdv A outer s H E hr, ?_⟩)
  · obtain ⟨Z, F, ds, Q', en, r, h, _⟩ := h
    rw [r.length]
    exact hl ds Q' h
  · obtain ⟨Z, F, ds, Q', en, r, h, fin⟩ := h
    refine ⟨⟨Z, F, H⟩, startE N ds, F, start_hld en r, _, frc_out (rd ds Q' h), ⟨fun env σ F' H' h G => ?_, fun y v env σ F' H' h G rv => ?_, fun env σ F' H' h G => h, fun env σ F' H' h G => h⟩⟩
    · exact fin _ V.non F' H' h G.ext Rp.non
    · refine fin y v F' H' h G.ext ?_
      cases y with
      | dat d => exact rv
      | new c => exact rv
      | loc i => exact rv.elim
end
end DL

/-! DMore: known defs, isinstance, chains of three, index, remove, count, dicts, comprehensions of two clauses and of dicts. -/
namespace L2
open PySem PySem.Spec PyProof.Rows
def rCntT (K : PySem.W.Frag) : V → List V → Hp → VK → Prop := fun x xs H Q => ∃ (p : Addr) (ns : List Int) (k : Int), x = .ref p ∧ xs = [.int k] ∧ SqT K H p (ns.map V.int) ∧ Q (.int (ns.count k : Nat)) H
theorem mt_tcount {X : Cx} : MtR X "tuple.count" (rCntT X.K) := by
  intro pins s σ H x xs v us Q I rx rxs h
  obtain ⟨p, ns, k, rfl, rfl, hs, q⟩ := h
  cases rx
  obtain ⟨u, rfl, ru⟩ := rxs.one
  obtain ⟨t, rfl⟩ := ru
  obtain ⟨its, rv, ⟨⟨cls, dd, data, sl⟩, ho, hc, n, hd⟩, hlen⟩ := I.tuple hs
  simp only at hc hd
  subst hc hd
  have hi := ints_of_vals rv
  refine call_meets PySem.F.slot_tuple_count ⟨_, ho, rfl⟩ PySem.F.entry_tuple_count (PySem.F.args_tuple_count_2 _ _)
    (SeqAt.tuple_countAt p its.toArray n dd sl (.int k t) (eqk k)) ⟨ho, fun y hy => (eqk_gives hi y (by simpa using hy)).at _ _, ?_⟩
  have ec : its.toArray.toList.countP (eqk k) = ns.count k := eqk_count hi
  refine ⟨.int (ns.count k : Nat), H, I.tok _, ⟨s.toks, ?_⟩, q⟩
  show Value.int ((its.toArray.toList.countP (eqk k) : Nat) : Int) s.toks = Value.int ((ns.count k : Nat) : Int) s.toks
  rw [ec]
section
variable {X : Cx}
theorem ps_setDc {i : Nat} {y : Str} {py : Pos} {kx vx tg iter : Expr} {ifs : List Expr} {scope : Scope} {own : List (Str × Nat)} {pos spos : Pos} {wi : TI} {g : TG} {tt : TT} {tk tv : TE} (hc : X.calm = true) (hN : X.N.Nodup) (hy : X.N[i]? = some y) (hyl : X.env.scope.names.lookup y = some .local)
    (hsw : swapsWith (.DictComp kx vx [⟨tg, iter, ifs, 0⟩] scope pos) (some (.Name y py)) spos.line X.env = pure true) (hi : PI X tg iter wi) (ok : BlkOk X.N X.env.scope scope own)
    (hg : ∀ (s : Shared) (H : Hp) (C : Addr) (cl : List (Str × Addr)) (fp : List Addr), PG (X.blk s H scope (compEnvC scope cl C X.env) fp) tg g) (ht : ∀ (s : Shared) (H : Hp) (C : Addr) (cl : List (Str × Addr)) (fp : List Addr), PTs (X.blk s H scope (compEnvC scope cl C X.env) fp) ifs tt)
    (hk : ∀ (s : Shared) (H : Hp) (C : Addr) (cl : List (Str × Addr)) (fp : List Addr), PE (X.blk s H scope (compEnvC scope cl C X.env) fp) kx tk)
    (he : ∀ (s : Shared) (H : Hp) (C : Addr) (cl : List (Str × Addr)) (fp : List Addr), PE (X.blk s H scope (compEnvC scope cl C X.env) fp) vx tv) (hs : ∀ x, foldedSetIterable iter X.env x = pure x := by intro _; rfl) :
    PS X (.Assign [.Name y py] (.DictComp kx vx [⟨tg, iter, ifs, 0⟩] scope pos) spos) (tAsg (tDc wi g tt tk tv (own.map (·.2))) (gName i)) := by
  refine ⟨fun pins s σ H D I h => ?_⟩
  rw [exec_Assign_Name_used _ _ _ _ hsw]
  refine wpAny_bind (wpAny_standAt (wpAny_bind ?_))
  show wpAny _ X.A (do let _ ← comprehension (.DictComp kx vx [⟨tg, iter, ifs, 0⟩] scope pos) scope X.env (firstIterPos [⟨tg, iter, ifs, 0⟩] pos) newDict false (eval iter X.env) (some (assign (.Name y py) X.env))) _ _ s
  have h : tDc wi g tt tk tv (own.map (·.2)) σ H (fun x H1 => gName i x σ H1 D.nx) := h
  refine wpAny_bind (thn (dc_core (Qf := fun _ s' => SP X pins D .next s') hc hN I hi ok hg ht hk he hs h fun L C s' m H' I' q hn f => ?_) fun _ s' hq => wpAny_pure (wpAny_pure hq))
  show wpAny _ _ (assign (.Name y py) X.env (.ref L)) _ _ _
  refine wpAny_assign_Name (store_ok2 (v := V.ref L) I' hN hy (.inl hyl) rfl (fun s2 I2 ⟨a, sb, ha⟩ => ?_) (.inr hyl))
  obtain ⟨f0, f1, f2, f3, f4, f5⟩ := f
  have haC : C ≠ a := by
    rcases ha with z | z
    · rw [z]; exact f1
    · exact fun e => f4 y a z e.symm
  refine ⟨m, hn.sameBut sb haC, fun h3 sb3 => ?_⟩
  exact ⟨_, H', I2.turned (t' := s2.toks) (fun b o hb e => (sb3.2 b hb).trans e) f0 f1 f3 f4 f5, q⟩
theorem sw_trueD {kx vx : Expr} {gs : List Comprehension} {scope : Scope} {pos py : Pos} {y : Str} {l : Nat} {env : Env} (hk : env.scope.kind = .function) (hy : env.scope.names.lookup y = some .local) (hl : (py.line == pos.line) = true)
    (ha : (scope.names.any fun (n, k) => n == y && (k == .local || k == .cell)) = false) : swapsWith (.DictComp kx vx gs scope pos) (some (.Name y py)) l env = pure true := by
  have ky : env.kindOf y = some .local := hy
  have hb : env.blockKind = .function := by unfold Env.blockKind; rw [hk]; rfl
  unfold swapsWith
  simp only [hb, ky, ha, Expr.pos, hl]
  rfl
end
end L2
namespace DL
open PySem L2
theorem hu65 {k : Nat} {A : Around} (hr : Room k A) : A.units + 65 < cLine := by have := hr.un; omega
theorem hu1 {k : Nat} {A : Around} (hr : Room k A) : A.units + 1 < cLine := by have := hr.un; omega
/-! ### defs that are known -/
structure Has (K : PySem.W.Frag) (mg : Str → Option Value) (x : Str) (st : Stmt) (ps : List Str) : Prop where
  ex : ∃ f fd, Fun K x x st f fd ∧ mg x = some (.ref f) ∧ Binds K fd ps []
structure Known (P : Program) (w : World) (K : PySem.W.Frag) (mg : Str → Option Value) (base : Heap) (x : Str) (ps : List Str) (k : Nat) (spec : Spec) : Prop where
  ex : ∃ f fd, FnOk P w K mg base CX0 k f fd ps (spD spec) ∧ mg x = some (.ref f) ∧ PySem.W.keepIn K (.ref f) = true ∧ Binds K fd ps []
section
variable {P : Program} {w : World} {K : PySem.W.Frag} {mg : Str → Option Value} {base : Heap} {N ps : List Str}
theorem knownD {x : Str} {st : Stmt} {k : Nat} {spec : Spec} {t : TDS} (h : Has K mg x st ps) (S : FnScope N ps (defScope st)) (hl : ∀ ds Q', spec ds Q' → ds.length = ps.length)
    (hb : ∀ (f : Addr) (cdv : Value) (A : Around) (outer : List Env) (s : Shared) (H : Hp) (E : XK), Room k (A.deeper (PyProof.Rows.envOfC x (defScope st) s.heap.objs.size f cdv)) → PSs (cxOf CX0 P w K mg base N x (defScope st) f cdv A outer s H E).nox (defBody st) (cS t))
    (rd : ∀ ds Q', spec ds Q' → frc (startE N ds) (t { nx := fun _ => Q' (.dat .non), rt := Q' })) : Known P w K mg base x ps (k + 1) spec := by
  obtain ⟨f, fd, F, hm, b⟩ := h.ex
  exact ⟨f, fd, okD F S hl (hb f) rd, hm, F.kp, b⟩
theorem Known.mono {x : Str} {j k : Nat} {spec : Spec} (h : Known P w K mg base x ps j spec) (l : j ≤ k) : Known P w K mg base x ps k spec := by
  obtain ⟨f, fd, F, r⟩ := h.ex
  exact ⟨f, fd, F.mono l, r⟩
/-- a weaker promise -/
theorem Known.imp {x : Str} {k : Nat} {spec spec' : Spec} (h : Known P w K mg base x ps k spec) (l : ∀ ds Q, spec' ds Q → spec ds Q) : Known P w K mg base x ps k spec' := by
  obtain ⟨f, fd, F, r⟩ := h.ex
  exact ⟨f, fd, F.imp fun vs H Q E ⟨Z, F, ds, Q', en, ra, q, fin⟩ => ⟨Z, F, ds, Q', en, ra, l _ _ q, fin⟩, r⟩
end
theorem de_known {X : Cx} {x : Str} {ps : List Str} {k : Nat} {spec : Spec} {p pos : Pos} {e : Expr} {es : List Expr} {t : TDA} (G : Known X.prog X.w X.K X.mg X.base x ps k spec) (hr : Room k X.A) (hg : Gl X x) (ha : PA X (e :: es) (cA t))
    (hdb : (x == ("__debug__" : Str)) = false := by decide) (he : starEach (e :: es) X.env = (false, eval e X.env) :: starEach es X.env := by rfl) (hpl : (backTo pos (starEach es X.env)).any (·.1) = false := by rfl) :
    PE X (.Call (.Name x p) (e :: es) [] pos) (cE (dFun spec t)) := by
  obtain ⟨f, fd, F, hm, hk, hb⟩ := G.ex
  exact de_fun F hr hg hm hk hb ha hdb he hpl

/-! ### isinstance -/
def tyD : D → String
  | .non => "NoneType"
  | .bl _ => "bool"
  | .int _ => "int"
  | .str _ => "str"
  | .lst _ => "list"
  | .tup _ => "tuple"
  | .sta => "list"
def isiT (a b : String) : Bool := a == b || (a == "bool" && b == "int")
def gIsi (T : String) : G1 := fun d k => k (.dat (.bl (isiT (tyD d) T)))
theorem tyD_ok {K : PySem.W.Frag} {B : Bas} {env : SE} {σ : L2.St} {F H : Hp} {v : V} {d : D} (G : Hld B env σ F H) (r : RW B.Z F H v d) : TyX K H v (.type (tyD d)) := by
  cases d with
  | non => cases r; exact .base .non
  | bl b => cases r; exact .base (.bl b)
  | int i => cases r; exact .base (.int i)
  | str x => cases r; exact .base (.str x)
  | lst ds =>
    obtain ⟨a, xs, rfl, e, _⟩ := r
    exact .base (.lst e)
  | tup ds =>
    obtain ⟨a, xs, rfl, e, _⟩ := r.tup
    exact .base (.tup (G.sub _ _ e))
  | sta =>
    cases (show Rp B.Z F v .sta from r) with
    | sta e =>
      obtain ⟨_, m, cells, h1, _⟩ := G.zok _ _ e
      exact .base (.lst h1)
theorem de_isi {X : Cx} {x : Str} {T : String} {e : Expr} {te : TDE} {p p2 pos : Pos} (hm : X.mg "isinstance" = none) (hmT : X.mg x = none) (hg : Gl X "isinstance") (hgT : Gl X x) (hv : bootBuiltins x = some (.type T)) (hT : ∀ d : D, L2.kitB (tyD d) T = some (isiT (tyD d) T))
    (he : PE X e (cE te)) (hb : bootBuiltins "isinstance" = some (.builtin "isinstance")) (hn : x ≠ "__name__" := by decide) (hdb : (x == ("__debug__" : Str)) = false := by decide)
    (h1 : starEach [e, .Name x p2] X.env = (false, eval e X.env) :: starEach [.Name x p2] X.env := by rfl) (h2 : starEach [.Name x p2] X.env = (false, eval (.Name x p2) X.env) :: starEach [] X.env := by rfl) (hpl : (backTo pos (starEach [.Name x p2] X.env)).any (·.1) = false := by rfl) :
    PE X (.Call (.Name "isinstance" p) [e, .Name x p2] [] pos) (cE (dUn (gIsi T) te)) :=
  PE.imp (pe_callB call_isi hg hm hb (pa_cons he (pa_cons (pe_bltn (v := .ty T) hgT hmT hv rfl hn hdb) pa_nil h2) h1) (by decide) (by decide) h1 hpl) fun σ H Q ⟨B, env, F, G, Q', q, f⟩ => ⟨B, env, F, G, _, q, fun y e1 v F1 H1 q1 s1 G1 r1 => by
    obtain ⟨d, rd, q2⟩ := vw_ok G1 r1 q1
    exact ⟨v, .ty T, _, _, _, rfl, .ty T, tyD_ok G1 rd, kit_ty (hT d), f _ e1 _ F1 H1 q2 s1 G1 (Rp.bl _)⟩⟩
theorem kit_all {T : String} (h : (["NoneType", "bool", "int", "str", "list", "tuple"].all fun a => decide (L2.kitB a T = some (isiT a T))) = true) : ∀ d : D, L2.kitB (tyD d) T = some (isiT (tyD d) T) := fun d => by
  simp only [List.all_cons, List.all_nil, Bool.and_true, Bool.and_eq_true, decide_eq_true_eq] at h
  obtain ⟨h1, h2, h3, h4, h5, h6⟩ := h
  cases d <;> assumption

/-! ### if .. else as a test -/
section
variable {X : Cx} {a b c : Expr} {pos : Pos} {ta tb tc : TDT}
def dIfT (t u v : TDT) : TDT := fun env Q => t env fun k e1 => bc k (u e1 Q) (v e1 Q)
theorem dt_ifE (hc : PT X c (cT tc)) (ha : PT X a (cT ta)) (hb : PT X b (cT tb)) : PT X (.IfExp c a b pos) (cT (dIfT tc ta tb)) := by
  refine ⟨fun pins s σ H Q I h => ?_⟩
  obtain ⟨B, env, F, G, Q', q, f⟩ := h
  refine PyProof.Rows.isTrue_IfExp (thn (hc.run pins s σ H (fun k H1 => (k = true → cT ta σ H1 Q) ∧ (k = false → cT tb σ H1 Q)) I ⟨B, env, F, G, _, q, fun k e1 F1 H1 q1 s1 G1 => ?_⟩) ?_)
  · cases k with
    | true => exact ⟨fun _ => ⟨B, e1, F1, G1, Q', bcT q1, fun y e2 F2 H2 q3 s2 G2 => f y e2 F2 H2 q3 (s1.trans s2) G2⟩, fun z => nomatch z⟩
    | false => exact ⟨fun z => (nomatch z), fun _ => ⟨B, e1, F1, G1, Q', bcF q1, fun y e2 F2 H2 q3 s2 G2 => f y e2 F2 H2 q3 (s1.trans s2) G2⟩⟩
  · rintro k s1 ⟨H1, I1, q1⟩
    cases k with
    | true => exact ha.run pins s1 σ H1 Q I1 (q1.1 rfl)
    | false => exact hb.run pins s1 σ H1 Q I1 (q1.2 rfl)
end
/-! ### chains of three -/
section
variable {X : Cx} {a b c d : Expr} {ta tb tc td : TDE} {r r' r'' : R2} {g g' g'' : G2} {pos : Pos}
def dChain3 (g g' g'' : G2) (ta tb tc td : TDE) : TDE := fun env Q => ta env fun x e1 => tb e1 fun y e2 => vw x e2 fun d => vw y e2 fun e => g d e fun z => blV z fun b => bc b (tc e2 fun w e3 => vw y e3 fun e' => vw w e3 fun f => g' e' f fun z2 => blV z2 fun b2 => bc b2
    (td e3 fun u e4 => vw w e4 fun f' => vw u e4 fun h => g'' f' h fun z3 => Q z3 e4) (Q (.dat (.bl false)) e3)) (Q (.dat (.bl false)) e2)
theorem chain3_ok (hd : OpD r g) (hd' : OpD r' g') (hd'' : OpD r'' g'') (σ : L2.St) (H : Hp) (Q : VK) (h : cE (dChain3 g g' g'' ta tb tc td) σ H Q) : tChain3 r r' r'' (cE ta) (cE tb) (cE tc) (cE td) σ H Q := by
  obtain ⟨B, env, F, G, Q', q, f⟩ := h
  refine ⟨B, env, F, G, _, q, fun x e1 v F1 H1 q1 s1 G1 r1 => ⟨B, e1, F1, G1, _, q1, fun y e2 w F2 H2 q2 s2 G2 r2 => ?_⟩⟩
  obtain ⟨d, rd, q3⟩ := vw_ok G2 (VR.shift G s1 s2 r1) q2
  obtain ⟨e, re, q4⟩ := vw_ok G2 (VR.back s1 r2) q3
  refine hd B e2 σ F2 H2 v w d e _ _ G2 rd re q4 fun z u F3 H3 k s3 G3 r3 => ?_
  cases z with
  | dat dd =>
    cases dd with
    | bl b =>
      refine ⟨b, Rp.bl_eq r3, ?_⟩
      have s12 := s1.trans s2
      cases b with
      | true =>
        rw [if_pos rfl]
        refine ⟨B, e2, F3, G3, _, bcT k, fun y' e4 w' F4 H4 q5 s4 G4 r4 => ?_⟩
        obtain ⟨e', re', q6⟩ := vw_ok G4 (VR.shift G s12 (s3.trans s4) (VR.back s1 r2)) q5
        have r4' := VR.back (s12.trans s3) r4
        obtain ⟨f', rf', q7⟩ := vw_ok G4 r4' q6
        have s14 := (s12.trans s3).trans s4
        refine hd' B e4 σ F4 H4 w w' e' f' _ _ G4 re' rf' q7 fun z2 u2 F5 H5 k5 s5 G5 r5 => ?_
        cases z2 with
        | dat dd2 =>
          cases dd2 with
          | bl b2 =>
            refine ⟨b2, Rp.bl_eq r5, ?_⟩
            cases b2 with
            | true =>
              rw [if_pos rfl]
              refine ⟨B, e4, F5, G5, _, bcT k5, fun y'' e6 w'' F6 H6 q8 s6 G6 r6 => ?_⟩
              obtain ⟨f2, rf2, q9⟩ := vw_ok G6 (VR.shift G s14 (s5.trans s6) r4') q8
              obtain ⟨h2, rh2, q10⟩ := vw_ok G6 (VR.back (s14.trans s5) r6) q9
              exact hd'' B e6 σ F6 H6 w' w'' f2 h2 _ Q G6 rf2 rh2 q10 fun z3 u3 F7 H7 k7 s7 G7 r7 => f z3 e6 u3 F7 H7 k7 (((s14.trans s5).trans s6).trans s7) G7 (VR.back ((s14.trans s5).trans s6) r7)
            | false =>
              rw [if_neg Bool.false_ne_true]
              exact f _ e4 _ F5 H5 (bcF k5) (s14.trans s5) G5 (Rp.bl false)
          | _ => exact (show False from k5).elim
        | _ => exact (show False from k5).elim
      | false =>
        rw [if_neg Bool.false_ne_true]
        exact f _ e2 _ F3 H3 (bcF k) (s12.trans s3) G3 (Rp.bl false)
    | _ => exact (show False from k).elim
  | _ => exact (show False from k).elim
theorem de_chain3 {op op' op'' : CmpOp} (ho : OpR X (compareOp op) r) (hd : OpD r g) (ho' : OpR X (compareOp op') r') (hd' : OpD r' g') (ho'' : OpR X (compareOp op'') r'') (hd'' : OpD r'' g'') (ha : PE X a (cE ta)) (hb : PE X b (cE tb)) (hc : PE X c (cE tc)) (hdd : PE X d (cE td))
    (hm : lastMarks [op, op', op''] [b, c, d] = false := by with_unfolding_all rfl) : PE X (.Compare a [op, op', op''] [b, c, d] pos) (cE (dChain3 g g' g'' ta tb tc td)) := PE.imp (pe_chain3 ho ho' ho'' ha hb hc hdd hm) (chain3_ok hd hd' hd'')
theorem dt_chain3 {op op' op'' : CmpOp} (ho : OpR X (compareOp op) r) (hd : OpD r g) (ho' : OpR X (compareOp op') r') (hd' : OpD r' g') (ho'' : OpR X (compareOp op'') r'') (hd'' : OpD r'' g'') (ha : PE X a (cE ta)) (hb : PE X b (cE tb)) (hc : PE X c (cE tc)) (hdd : PE X d (cE td))
    (hm : lastMarks [op, op', op''] [b, c, d] = false := by with_unfolding_all rfl) : PT X (.Compare a [op, op', op''] [b, c, d] pos) (cT (dTB (dChain3 g g' g'' ta tb tc td))) :=
  PT.imp (pt_chain3 ho ho' ho'' ha hb hc hdd hm) fun σ H Q h => chain3_ok hd hd' hd'' σ H _ (tb_ok σ H Q h)
end

/-! ### methods: index, remove, count -/
section
variable {X : Cx} {te : TDE} {pos : Pos}
/-- the list that stands in a slot, owned or data -/
def lstAt : Option Cel → (List D → Prop) → Prop
  | some (.own (.lst ds)), k => k ds
  | some (.d (.lst ds)), k => k ds
  | _, _ => False
theorem lstAt_ok {B : Bas} {env : SE} {σ : L2.St} {F H : Hp} {j : Nat} {k : List D → Prop} (G : Hld B env σ F H) (h : lstAt env[j]? k) : ∃ o xs ds, σ[j]? = some (some (.ref o)) ∧ H o = some (.lst xs) ∧ RpA B.Z F xs ds ∧ k ds := by
  cases e : env[j]? with
  | none =>
    rw [e] at h
    exact (show False from h).elim
  | some c =>
    rw [e] at h
    cases c with
    | un => exact (show False from h).elim
    | d d =>
      cases d <;> first | exact (show False from h).elim | skip
      obtain ⟨v, e1, r⟩ := G.dat j _ e
      cases r with
      | lst ha ra => exact ⟨_, _, _, e1, G.sub _ _ ha, ra, h⟩
    | own c =>
      cases c <;> first | exact (show False from h).elim | skip
      obtain ⟨o, xs, e1, h2, ra⟩ := own_at G e
      exact ⟨o, xs, _, e1, h2, ra, h⟩
def dIndex (j : Nat) (te : TDE) : TDE := fun env Q => lstAt env[j]? (fun _ => True) ∧ te env fun x e1 => vw x e1 fun d => flatD d = true ∧ lstAt e1[j]? fun ds => ds.all flatD = true ∧ ∃ (i : Nat) (z : D), ds[i]? = some z ∧ deq z d = true ∧ (∀ (m : Nat) (z' : D), m < i → ds[m]? = some z' → deq z' d = false) ∧ Q (.dat (.int (i : Nat))) e1
theorem flat_all {Z : ZZ} {F : Hp} {vs : List V} {ds : List D} (r : RpA Z F vs ds) (f : ds.all flatD = true) : vs.all flatV = true := by
  rw [List.all_eq_true] at f ⊢
  intro v hv
  obtain ⟨i, hi, rfl⟩ := List.getElem_of_mem hv
  obtain ⟨d, h1, h2⟩ := r.getV (List.getElem?_eq_getElem hi)
  exact flat_V h2 (f d (List.mem_of_getElem? h1))
theorem de_index (j : Nat) {c : Expr} (h : PE X c (tBM X.K "list" (rIndex X.K) (tVar j) (tCons (cE te) tNil))) : PE X c (cE (dIndex j te)) :=
  de_of h fun B env σ F H Q' Q G q f => by
    obtain ⟨l0, q⟩ := q
    obtain ⟨o, xs0, ds0, es0, h0, _, _⟩ := lstAt_ok G l0
    refine ⟨.ref o, es0, .inl ⟨rfl, _, SqL.of h0⟩, B, env, F, G, _, q, fun y e1 v F1 H1 q1 s1 G1 r1 => ?_⟩
    obtain ⟨d, rd, fd, q2⟩ := vw_ok G1 r1 q1
    obtain ⟨o', xs, ds, es, h2, ra, fds, i, z, hz, hd, hno, q3⟩ := lstAt_ok G1 q2
    rw [es0] at es
    cases es
    have rr := rw_flat rd fd
    obtain ⟨zv, hzv, rz⟩ := ra.get hz
    have fz : flatD z = true := List.all_eq_true.mp fds z (List.mem_of_getElem? hz)
    refine ⟨o, xs, v, i, zv, rfl, rfl, SqL.of h2, flat_V rr fd, flat_all ra fds, hzv, ?_, fun m z' hm hz' => ?_, f _ e1 _ F1 H1 q3 s1 G1 (Rp.int _)⟩
    · rw [(flat_eqV rz rr fz fd).2]
      exact hd
    · obtain ⟨dz, h3, h4⟩ := ra.getV hz'
      rw [(flat_eqV h4 rr (List.all_eq_true.mp fds dz (List.mem_of_getElem? h3)) fd).2]
      exact hno m dz hm h3
def dRemove (j : Nat) (te : TDE) : TDS := fun E env => (∃ ds, env[j]? = some (.own (.lst ds))) ∧ te env fun x e1 => match x with
  | .dat (.int k) => ∃ (ns : List Int) (i : Nat), e1[j]? = some (.own (.lst (ns.map D.int))) ∧ ns[i]? = some k ∧ (∀ m : Nat, m < i → ns[m]? ≠ some k) ∧ E.nx (e1.set j (.own (.lst ((ns.eraseIdx i).map D.int))))
  | _ => False
theorem ds_remove (j : Nat) {c : Expr} (h : PE X c (tBM X.K "list" rRemI (tVar j) (tCons (cE te) tNil))) (hs : swapsWith c none pos.line X.env = pure false := by rfl) : PS X (.Expr c pos) (cS (dRemove j te)) :=
  ds_of (ps_expr h hs) fun B env σ F H E D G q ok => by
    obtain ⟨⟨ds0, e0⟩, q⟩ := q
    obtain ⟨o, xs0, es0, h0, _⟩ := own_at G e0
    refine ⟨.ref o, es0, .inl ⟨rfl, _, SqL.of h0⟩, B, env, F, G, _, q, fun y e1 v F1 H1 q1 s1 G1 r1 => ?_⟩
    cases y with
    | dat dz =>
      cases dz <;> first | exact (show False from q1).elim | skip
      obtain ⟨ns, i, q2, hi, hno, q3⟩ := q1
      obtain ⟨o', xs, es, h2, ra⟩ := own_at G1 q2
      rw [es0] at es
      cases es
      have e := ra.ints_eq
      subst e
      refine ⟨o, ns, _, i, rfl, by rw [Rp.int_eq r1], h2, hi, hno, ?_⟩
      exact ok.nx _ σ F1 _ q3 (G1.mut q2 es0 (show RpO B.Z F1 (.lst _) (.lst _) from RpA.ints _))
    | _ => exact (show False from q1).elim
/-- xs.count(k) of a list of ints -/
def dCountL (to te : TDE) : TDE := fun env Q => to env fun x e1 => ∃ ns : List Int, x = .dat (.lst (ns.map D.int)) ∧ te e1 fun y e2 => ∃ k : Int, y = .dat (.int k) ∧ Q (.dat (.int (ns.count k : Nat))) e2
theorem de_countL {c : Expr} {to : TDE} (h : PE X c (tBM X.K "list" (rCntI X.K) (cE to) (tCons (cE te) tNil))) : PE X c (cE (dCountL to te)) :=
  de_of h fun B env σ F H Q' Q G q f => ⟨B, env, F, G, _, q, fun x e1 v F1 H1 ⟨ns, ex, q1⟩ s1 G1 r1 => by
    subst ex
    cases (show Rp B.Z F1 v (.lst (ns.map D.int)) from r1) with
    | lst ha ra =>
      have e := ra.ints_eq
      subst e
      refine ⟨.inl ⟨rfl, _, SqL.of (G1.sub _ _ ha)⟩, B, e1, F1, G1, _, q1, fun y e2 w F2 H2 ⟨k, ey, q2⟩ s2 G2 r2 => ?_⟩
      subst ey
      exact ⟨_, ns, k, rfl, by rw [Rp.int_eq r2], SqL.of (G2.sub _ _ (s2.ex _ _ ha)), f _ e2 _ F2 H2 q2 (s1.trans s2) G2 (Rp.int _)⟩⟩
end

/-! ### dicts with int and text keys -/
def valD (kvs : List (Key × D)) (k : Key) : Option D := (kvs.find? fun kv => decide (kv.1 = k)).map (·.2)
def putD (kvs : List (Key × D)) (k : Key) (d : D) : List (Key × D) := if (kvs.any fun kv => decide (kv.1 = k)) = true then kvs.map (fun kv => if kv.1 = k then (kv.1, d) else kv) else kvs ++ [(k, d)]
def keyD : D → (Key → Prop) → Prop
  | .int i, k => k (.inl i)
  | .str x, k => k (.inr x)
  | _, _ => False
section
variable {Z : ZZ} {F : Hp}
abbrev PrK (Z : ZZ) (F : Hp) (kvs : List (Key × V)) (kds : List (Key × D)) : Prop := Paired (fun (p : Key × V) (q : Key × D) => p.1 = q.1 ∧ Rp Z F p.2 q.2) kvs kds
theorem keyD_ok {v : V} {d : D} {k : Key → Prop} (r : Rp Z F v d) (h : keyD d k) : ∃ y, v = kV y ∧ k y := by
  cases r <;> first
    | exact (show False from h).elim
    | exact ⟨.inl _, rfl, h⟩
    | exact ⟨.inr _, rfl, h⟩
theorem pr_val (k : Key) : ∀ {kvs : List (Key × V)} {kds : List (Key × D)}, PrK Z F kvs kds → (valV kvs k = none ∧ valD kds k = none) ∨ ∃ v d, valV kvs k = some v ∧ valD kds k = some d ∧ Rp Z F v d
  | _, _, .nil => .inl ⟨rfl, rfl⟩
  | _, _, .cons (a := p) (b := q) ⟨e, r⟩ t => by
    by_cases h : p.1 = k
    · have h' : q.1 = k := by rw [← e]; exact h
      exact .inr ⟨p.2, q.2, by simp [valV, List.find?_cons, h], by simp [valD, List.find?_cons, h'], r⟩
    · have h' : ¬ q.1 = k := by rw [← e]; exact h
      have a1 : ∀ r, valV (p :: r) k = valV r k := fun r => by simp [valV, List.find?_cons, h]
      have a2 : ∀ r, valD (q :: r) k = valD r k := fun r => by simp [valD, List.find?_cons, h']
      rw [a1, a2]
      exact pr_val k t
theorem pr_any (k : Key) : ∀ {kvs : List (Key × V)} {kds : List (Key × D)}, PrK Z F kvs kds → (kvs.any fun kv => decide (kv.1 = k)) = kds.any fun kv => decide (kv.1 = k)
  | _, _, .nil => rfl
  | _, _, .cons (a := p) (b := q) ⟨e, r⟩ t => by rw [List.any_cons, List.any_cons, pr_any k t, e]
theorem pr_map (k : Key) {v : V} {d : D} (h : Rp Z F v d) : ∀ {kvs : List (Key × V)} {kds : List (Key × D)}, PrK Z F kvs kds → PrK Z F (kvs.map fun kv => if kv.1 = k then (kv.1, v) else kv) (kds.map fun kv => if kv.1 = k then (kv.1, d) else kv)
  | _, _, .nil => .nil
  | _, _, .cons (a := p) (b := q) ⟨e, r⟩ t => by
    refine .cons ?_ (pr_map k h t)
    show (if p.1 = k then (p.1, v) else p).1 = (if q.1 = k then (q.1, d) else q).1 ∧ Rp Z F (if p.1 = k then (p.1, v) else p).2 (if q.1 = k then (q.1, d) else q).2
    by_cases hh : p.1 = k
    · rw [if_pos hh, if_pos (by rw [← e]; exact hh)]
      exact ⟨e, h⟩
    · rw [if_neg hh, if_neg (by rw [← e]; exact hh)]
      exact ⟨e, r⟩
theorem pr_app {a b : List (Key × V)} {c d : List (Key × D)} (h : PrK Z F a c) (h' : PrK Z F b d) : PrK Z F (a ++ b) (c ++ d) := by
  induction h with
  | nil => exact h'
  | cons x _ ih => exact .cons x ih
theorem pr_put {kvs : List (Key × V)} {kds : List (Key × D)} (k : Key) {v : V} {d : D} (p : PrK Z F kvs kds) (h : Rp Z F v d) : PrK Z F (putK kvs k v) (putD kds k d) := by
  unfold putK putD
  rw [pr_any k p]
  split
  · exact pr_map k h p
  · exact pr_app p (.cons ⟨rfl, h⟩ .nil)
theorem pr_len {kvs : List (Key × V)} {kds : List (Key × D)} (p : PrK Z F kvs kds) : kvs.length = kds.length := Paired.length p
end
section
variable {X : Cx} {B : Bas} {pos : Pos}
theorem dk_at {env : SE} {σ : L2.St} {F H : Hp} {j : Nat} {kds : List (Key × D)} (G : Hld B env σ F H) (e : env[j]? = some (.own (.dk kds))) : ∃ o kvs, σ[j]? = some (some (.ref o)) ∧ H o = some (.dK kvs) ∧ PrK B.Z F kvs kds := by
  obtain ⟨o, ho, e1, _, _, h3, hr⟩ := G.own j _ e
  cases ho <;> first
    | exact ⟨o, _, e1, h3, hr⟩
    | exact (show False from hr).elim
def dDict0 : TDE := fun env Q => Q (.new (.dk [])) env
theorem de_dict0 : PE X (.Dict [] [] pos) (cE dDict0) := de_of pe_dnewK fun B env σ F H Q' Q G q f p hp => f _ env _ F _ q (Mov.alloc hp) (G.alloc hp) ⟨p, _, rfl, hp, (G.base_none hp).2.1, upd_same, (show PrK B.Z F [] [] from .nil)⟩
def dDIn (neg : Bool) (j : Nat) (ty : TDE) : TDE := fun env Q => ty env fun x e1 => asD x e1 fun d e2 => keyD d fun k => ∃ kds, e2[j]? = some (.own (.dk kds)) ∧ Q (.dat (.bl (if neg then !(valD kds k).isSome else (valD kds k).isSome))) e2
theorem dIn_ok {j : Nat} {i : Expr} {ty : TDE} (σ : L2.St) (H : Hp) (Q : VK) (h : cE (dDIn false j ty) σ H Q) : tDIn (cE ty) (tVar j) σ H Q := by
  obtain ⟨B, env, F, G, Q', q, f⟩ := h
  refine ⟨B, env, F, G, _, q, fun x e1 v F1 H1 q1 s1 G1 r1 => ?_⟩
  obtain ⟨d, e2, F2, q2, s2, G2, rd⟩ := asD_ok G s1 G1 r1 q1
  obtain ⟨k, rfl, kds, e3, q3⟩ := keyD_ok rd q2
  obtain ⟨o, kvs, es, ho, pr⟩ := dk_at G2 e3
  refine ⟨.ref o, es, o, _, rfl, DGet.k ho, f _ e2 _ F2 H1 q3 s2 G2 ?_⟩
  rcases pr_val k pr with ⟨a, b⟩ | ⟨v, d, a, b, _⟩
  · rw [a, b]
    exact Rp.bl _
  · rw [a, b]
    exact Rp.bl _
theorem dNotIn_ok {j : Nat} {i : Expr} {ty : TDE} (σ : L2.St) (H : Hp) (Q : VK) (h : cE (dDIn true j ty) σ H Q) : tDNotIn (cE ty) (tVar j) σ H Q := by
  obtain ⟨B, env, F, G, Q', q, f⟩ := h
  refine ⟨B, env, F, G, _, q, fun x e1 v F1 H1 q1 s1 G1 r1 => ?_⟩
  obtain ⟨d, e2, F2, q2, s2, G2, rd⟩ := asD_ok G s1 G1 r1 q1
  obtain ⟨k, rfl, kds, e3, q3⟩ := keyD_ok rd q2
  obtain ⟨o, kvs, es, ho, pr⟩ := dk_at G2 e3
  refine ⟨.ref o, es, o, _, rfl, DGet.k ho, f _ e2 _ F2 H1 q3 s2 G2 ?_⟩
  rcases pr_val k pr with ⟨a, b⟩ | ⟨v, d, a, b, _⟩
  · rw [a, b]
    exact Rp.bl _
  · rw [a, b]
    exact Rp.bl _
theorem de_din (j : Nat) {i : Expr} {x : Str} {p : Pos} {ty : TDE} (hu : X.A.units + 1 < cLine) (hi : PE X i (cE ty)) (ho : PE X (.Name x p) (tVar j)) : PE X (.Compare i [.In] [.Name x p] pos) (cE (dDIn false j ty)) := PE.imp (pe_cmp (pc_din hu hi ho) rfl) (dIn_ok (i := i))
theorem dt_din (j : Nat) {i : Expr} {x : Str} {p : Pos} {ty : TDE} (hu : X.A.units + 1 < cLine) (hi : PE X i (cE ty)) (ho : PE X (.Name x p) (tVar j)) : PT X (.Compare i [.In] [.Name x p] pos) (cT (dTB (dDIn false j ty))) := PT.imp (pt_cmp (pc_din hu hi ho) rfl) fun σ H Q h => dIn_ok (i := i) σ H _ (tb_ok σ H Q h)
theorem dt_dnotin (j : Nat) {i : Expr} {x : Str} {p : Pos} {ty : TDE} (hu : X.A.units + 1 < cLine) (hi : PE X i (cE ty)) (ho : PE X (.Name x p) (tVar j)) : PT X (.Compare i [.NotIn] [.Name x p] pos) (cT (dTB (dDIn true j ty))) := PT.imp (pt_cmp (pc_dnotin hu hi ho) rfl) fun σ H Q h => dNotIn_ok (i := i) σ H _ (tb_ok σ H Q h)
def dDGet (j : Nat) (ty : TDE) : TDE := fun env Q => (∃ kds, env[j]? = some (.own (.dk kds))) ∧ ty env fun x e1 => asD x e1 fun d e2 => keyD d fun k => ∃ kds dv, e2[j]? = some (.own (.dk kds)) ∧ valD kds k = some dv ∧ Q (.dat dv) e2
theorem de_dget (j : Nat) {o i : Expr} {ty : TDE} (hu : X.A.units + 1 < cLine) (ho : PE X o (tVar j)) (hi : PE X i (cE ty)) (hs : NoSl i := by intro _ _; rfl) : PE X (.Subscript o i pos) (cE (dDGet j ty)) :=
  de_of (pe_dget hu ho hi hs) fun B env σ F H Q' Q G q f => by
    obtain ⟨⟨kds0, e0⟩, q⟩ := q
    obtain ⟨o, kvs0, es0, h0, _⟩ := dk_at G e0
    refine ⟨.ref o, es0, B, env, F, G, _, q, fun x e1 v F1 H1 q1 s1 G1 r1 => ?_⟩
    obtain ⟨d, e2, F2, q2, s2, G2, rd⟩ := asD_ok G s1 G1 r1 q1
    obtain ⟨k, rfl, kds, dv, e3, hv, q3⟩ := keyD_ok rd q2
    obtain ⟨o', kvs, es, ho, pr⟩ := dk_at G2 e3
    rw [es0] at es
    cases es
    rcases pr_val k pr with ⟨a, b⟩ | ⟨v, d, a, b, r⟩
    · rw [hv] at b
      cases b
    · rw [hv] at b
      cases b
      exact ⟨o, v, rfl, by rw [← a]; exact DGet.k ho, f _ e2 _ F2 H1 q3 s2 G2 r⟩
def dDPut (j : Nat) (ty tv : TDE) : TDS := fun E env => tv env fun x e1 => asD x e1 fun dv e2 => (∃ kds, e2[j]? = some (.own (.dk kds))) ∧ ty e2 fun y e3 => asD y e3 fun d e4 => keyD d fun k => ∃ kds, e4[j]? = some (.own (.dk kds)) ∧ kds.length < 10000000 ∧ E.nx (e4.set j (.own (.dk (putD kds k dv))))
theorem ds_dput (j : Nat) {o i v : Expr} {ty tv : TDE} {pos' : Pos} (hu : X.A.units + 1 < cLine) (ho : PE X o (tVar j)) (hi : PE X i (cE ty)) (hv : PE X v (cE tv)) (hs : swapsWith v (some (.Subscript o i pos')) pos.line X.env = pure false := by rfl) :
    PS X (.Assign [.Subscript o i pos'] v pos) (cS (dDPut j ty tv)) :=
  ds_of (ps_dput hu ho hi hv hs) fun B env σ F H E D G q ok => ⟨B, env, F, G, _, q, fun x e1 v F1 H1 q1 s1 G1 r1 => by
    obtain ⟨dv, e2, F2, ⟨⟨kds0, e0⟩, q2⟩, s2, G2, rd⟩ := asD_ok G s1 G1 r1 q1
    obtain ⟨o, kvs0, es0, h0, _⟩ := dk_at G2 e0
    refine ⟨.ref o, es0, B, e2, F2, G2, _, q2, fun y e3 w F3 H3 q3 s3 G3 r3 => ?_⟩
    obtain ⟨d, e4, F4, q4, s4, G4, rk⟩ := asD_ok G2 s3 G3 r3 q3
    obtain ⟨k, rfl, kds, e5, hl, q5⟩ := keyD_ok rk q4
    obtain ⟨o', kvs, es, ho, pr⟩ := dk_at G4 e5
    rw [es0] at es
    cases es
    exact ⟨o, _, rfl, DPut.k ho (by rw [pr_len pr]; exact szl hl), ok.nx _ σ F4 _ q5 (G4.mut e5 es0 (show PrK B.Z F4 _ _ from pr_put k pr (Rp.mono s4.ex rd)))⟩⟩

/-! ### {k: v for x in xs} -/
def dDc (ti : TDI) (dg : TDG) (tt : TDT) (tk tv : TDE) (vs : List Nat) : TDE := fun env Q => ti env fun ds e1 => ∃ I : Nat → List (Key × D) → Prop, I 0 [] ∧
  (∀ i d acc, ds[i]? = some d → I i acc → frc (wipeE e1 vs) fun e0 => dg d e0 fun e2 => frc e2 fun e2 => tt e2 fun b e3 => e3 = e2 ∧ bc b (tk e3 fun x e4 => asD x e4 fun kd e5 => e5 = e2 ∧ keyD kd fun k => tv e5 fun y e6 => asD y e6 fun dv e7 => e7 = e2 ∧ acc.length < 10000000 ∧ I (i + 1) (putD acc k dv)) (I (i + 1) acc)) ∧
  ∀ acc, I ds.length acc → Q (.new (.dk acc)) e1
structure KeptK (B : Bas) (e1 : SE) (σ : L2.St) (F1 H1 : Hp) (p : Addr) (acc : List (Key × D)) (F H : Hp) : Prop where
  hld : Hld B e1 σ F H
  mov : Mov B e1 e1 σ F1 H1 F H
  fp : F p = none
  at_ : ∃ xs, H p = some (.dK xs) ∧ PrK B.Z F xs acc
theorem PrK.mono {Z : ZZ} {F F' : Hp} (s : Same F F') {a : List (Key × V)} {c : List (Key × D)} (h : PrK Z F a c) : PrK Z F' a c := Paired.mapP h fun p q z => ⟨z.1, Rp.mono s z.2⟩
theorem KeptK.step {B : Bas} {e1 e2 : SE} {σ σ2 : L2.St} {F1 H1 F H F' H' : Hp} {p : Addr} {acc : List (Key × D)} {vs : List Nat} (G1 : Hld B e1 σ F1 H1) (hp : H1 p = none) (K : KeptK B e1 σ F1 H1 p acc F H) (N : Inn vs e1 e2 σ σ2) (Gi : Hld B e2 σ2 F H) (M : Mov B e2 e2 σ2 F H F' H') (Gi' : Hld B e2 σ2 F' H') : KeptK B e1 σ F1 H1 p acc F' H' := by
  obtain ⟨h0, hf, nz, no⟩ := G1.base_none hp
  obtain ⟨g, m⟩ := N.over K.hld Gi M Gi'
  obtain ⟨xs, hx, ra⟩ := K.at_
  have no2 : ¬ Owns e2 σ2 p := fun q => no (N.owns q)
  exact ⟨g, K.mov.trans m, M.out p _ hx K.fp nz no2, xs, M.keep p _ hx nz no2, PrK.mono M.ex ra⟩
theorem dc_ok {K : PySem.W.Frag} {ti : TDI} {g : TG} {dg : TDG} {is : List Nat} {tt : TDT} {tk tv : TDE} {vs : List Nat} (hk : TgOk K is g dg) (hv : ∀ i ∈ is, i ∈ vs) (σ : L2.St) (H : Hp) (Q : VK) (h : cE (dDc ti dg tt tk tv vs) σ H Q) : tDc (cI ti) g (cT tt) (cE tk) (cE tv) vs σ H Q := by
  obtain ⟨B, env, F, G, Q', q, f⟩ := h
  refine ⟨B, env, F, G, _, q, fun ds e1 F1 H1 J q1 s1 G1 S p hp => ?_⟩
  obtain ⟨I, i0, turn, done⟩ := q1
  obtain ⟨h0, hf, nz, no⟩ := G1.base_none hp
  refine ⟨fun i m H => ∃ (acc : List (Key × D)) (F2 : Hp), KeptK B e1 σ F1 H1 p acc F2 H ∧ I i acc ∧ i ≤ ds.length ∧ m = ds.length - i, ⟨_, [], F1, ⟨G1.alloc hp, Mov.alloc hp, hf, [], upd_same, .nil⟩, i0, Nat.zero_le _, rfl⟩, fun i m H2 ⟨acc, F2, kp, ii, hi, em⟩ => ?_⟩
  by_cases hlt : i < ds.length
  · refine .inr ⟨S.go F2 H2 i kp.mov.ex kp.hld.sub hlt, fun H' => ∃ (acc : List (Key × D)) (F3 : Hp), KeptK B e1 σ F1 H1 p acc F3 H' ∧ I (i + 1) acc, fun H' ⟨acc', F3, kp', i'⟩ => ⟨ds.length - (i + 1), by omega, acc', F3, kp', i', hlt, rfl⟩, fun x H' y => ?_⟩
    have Gw := kp.hld.wiped vs
    obtain ⟨d, F3, hd, m3, G3, rd⟩ := src_item S kp.mov.ex Gw hlt y
    have N0 : Inn vs e1 (wipeE e1 vs) σ (wipe σ vs) := Inn.start
    have k3 := kp.step G1 hp N0 Gw m3 G3
    refine hk.run B _ _ F3 H' x d _ _ G3 rd (frc_out (turn i d acc hd ii)) fun e2 σ2 t2 G2 hw he hn => ⟨(hw vs hv).trans (wipe_wipe σ vs), ?_⟩
    have N : Inn vs e1 e2 σ σ2 := by
      refine ⟨fun j hj => ?_, fun j hj => ?_, fun j hj c q => ?_⟩
      · rw [he j fun z => hj (hv j z)]
        exact wipeE_out hj
      · have e1 := hw vs hv
        have e2 : (wipe σ2 vs)[j]? = σ2[j]? := wipe_out hj
        rw [← e2, e1, wipe_out hj, wipe_out hj]
      · by_cases hji : j ∈ is
        · exact hn j hji c q
        · rw [he j hji] at q
          exact wipeE_in hj q
    refine ⟨B, e2, F3, G2, _, frc_out t2, fun b e3 F4 H4 ⟨ee, q4⟩ m4 G4 => ?_⟩
    subst ee
    have k4 := k3.step G1 hp N G2 m4 G4
    cases b with
    | false =>
      rw [if_neg Bool.false_ne_true]
      exact ⟨acc, F4, k4, bcF q4⟩
    | true =>
      rw [if_pos rfl]
      refine ⟨B, e3, F4, G4, _, bcT q4, fun z e4 v F5 H5 q5 m5 G5 r5 => ?_⟩
      obtain ⟨kd, e5, F6, ⟨ee, q6⟩, m6, G6, r6⟩ := asD_ok G4 m5 G5 r5 q5
      subst ee
      have k6 := k4.step G1 hp N G4 m6 G6
      obtain ⟨k, rfl, q6⟩ := keyD_ok r6 q6
      refine ⟨B, e5, F6, G6, _, q6, fun z e7 v F7 H7 q7 m7 G7 r7 => ?_⟩
      obtain ⟨dv, e8, F8, ⟨ee, hz, q8⟩, m8, G8, r8⟩ := asD_ok G6 m7 G7 r7 q7
      subst ee
      have k8 := k6.step G1 hp N G6 m8 G8
      obtain ⟨xs, hx, ra⟩ := k8.at_
      refine ⟨xs, k, rfl, hx, by rw [pr_len ra]; exact szl hz, _, F8, ⟨k8.hld.chg hx k8.fp h0 no, k8.mov.chg hp, k8.fp, _, upd_same, pr_put k ra r8⟩, q8⟩
  · have e : i = ds.length := by omega
    subst e
    refine .inl ⟨S.stop F2 H2 _ kp.mov.ex kp.hld.sub rfl, ?_⟩
    obtain ⟨xs, hx, ra⟩ := kp.at_
    refine f _ e1 _ F2 H2 (done acc ii) (s1.trans kp.mov) kp.hld ⟨p, _, rfl, ?_, kp.fp, hx, ra⟩
    cases hh : H p with
    | none => rfl
    | some o =>
      obtain ⟨o', h'⟩ := s1.there p o hh
      rw [hp] at h'
      cases h'
theorem de_dc {kx vx tg iter : Expr} {ifs : List Expr} {scope : Scope} {own : List (Str × Nat)} {ti : TDI} {g : TG} {dg : TDG} {is : List Nat} {tt : TDT} {tk tv : TDE} (hk : TgOk X.K is g dg) (hv : ∀ i ∈ is, i ∈ own.map (·.2)) {c : Expr} (h : PE X c (tDc (cI ti) g (cT tt) (cE tk) (cE tv) (own.map (·.2)))) :
    PE X c (cE (dDc ti dg tt tk tv (own.map (·.2)))) := PE.imp h (dc_ok hk hv)
theorem ds_setDc (i : Nat) {y : Str} {py : Pos} {kx vx tg iter : Expr} {ifs : List Expr} {scope : Scope} {own : List (Str × Nat)} {spos : Pos} {ti : TDI} {g : TG} {dg : TDG} {is : List Nat} {tt : TDT} {tk tv : TDE} (hc : X.calm = true) (hN : X.N.Nodup) (hkk : TgOk X.K is g dg) (hv : ∀ i ∈ is, i ∈ own.map (·.2)) (hy : X.N[i]? = some y) (hyl : X.env.scope.names.lookup y = some .local)
    (hsw : swapsWith (.DictComp kx vx [⟨tg, iter, ifs, 0⟩] scope pos) (some (.Name y py)) spos.line X.env = pure true) (hi : PI X tg iter (cI ti)) (ok : BlkOk X.N X.env.scope scope own)
    (hg : ∀ (s : Shared) (H : Hp) (C : Addr) (cl : List (Str × Addr)) (fp : List Addr), PG (X.blk s H scope (compEnvC scope cl C X.env) fp) tg g) (ht : ∀ (s : Shared) (H : Hp) (C : Addr) (cl : List (Str × Addr)) (fp : List Addr), PTs (X.blk s H scope (compEnvC scope cl C X.env) fp) ifs (cT tt))
    (hk : ∀ (s : Shared) (H : Hp) (C : Addr) (cl : List (Str × Addr)) (fp : List Addr), PE (X.blk s H scope (compEnvC scope cl C X.env) fp) kx (cE tk))
    (he : ∀ (s : Shared) (H : Hp) (C : Addr) (cl : List (Str × Addr)) (fp : List Addr), PE (X.blk s H scope (compEnvC scope cl C X.env) fp) vx (cE tv)) (hs : ∀ x, foldedSetIterable iter X.env x = pure x := by intro _; rfl) :
    PS X (.Assign [.Name y py] (.DictComp kx vx [⟨tg, iter, ifs, 0⟩] scope pos) spos) (cS (dSet i (dDc ti dg tt tk tv (own.map (·.2))))) :=
  PS.imp (ps_setDc hc hN hy hyl hsw hi ok hg ht hk he hs) fun D σ H h => by
    obtain ⟨B, env, F, G, E, q, ok⟩ := h
    refine dc_ok hkk hv σ H _ ⟨B, env, F, G, _, q, fun x e1 v F1 H1 q1 s1 G1 r1 => ?_⟩
    obtain ⟨e2, F2, q2, G2⟩ := setV_ok G s1 G1 r1 q1
    exact ok.nx e2 _ F2 H1 q2 G2
end

/-! ### [e for x in xs if t for y in ys if u] -/
def dLc2 (ti : TDI) (dg : TDG) (tt : TDT) (ti1 : TDI) (dg1 : TDG) (tt1 : TDT) (te : TDE) (vs vs1 : List Nat) : TDE := fun env Q => ti env fun ds e1 => ∃ I : Nat → List D → Prop, I 0 [] ∧
  (∀ i d acc, ds[i]? = some d → I i acc → frc (wipeE e1 vs) fun e0 => dg d e0 fun e2 => frc e2 fun e2 => tt e2 fun b e3 => e3 = e2 ∧ bc b (ti1 e3 fun es e4 => e4 = e2 ∧ ∃ I1 : Nat → List D → Prop, I1 0 acc ∧
      (∀ j d' acc', es[j]? = some d' → I1 j acc' → frc (wipeE e2 vs1) fun e0 => dg1 d' e0 fun e5 => frc e5 fun e5 => tt1 e5 fun b e6 => e6 = e5 ∧ bc b (te e6 fun x e7 => asD x e7 fun y e8 => e8 = e5 ∧ acc'.length < 10000000 ∧ I1 (j + 1) (acc' ++ [y])) (I1 (j + 1) acc')) ∧
      ∀ acc', I1 es.length acc' → I (i + 1) acc') (I (i + 1) acc)) ∧
  ∀ acc, I ds.length acc → Q (.new (.lst acc)) e1
section
variable {X : Cx} {pos : Pos}
/-- an inner frame within an inner frame -/
theorem Inn.deep {vs vs1 : List Nat} {e1 e2 e3 : SE} {σ σ2 σ3 : L2.St} (N : Inn vs e1 e2 σ σ2) (h : ∀ i ∈ vs1, i ∈ vs) (M : Inn vs1 e2 e3 σ2 σ3) : Inn vs e1 e3 σ σ3 := by
  refine ⟨fun j hj => ?_, fun j hj => ?_, fun j hj c q => ?_⟩
  · rw [M.env j fun z => hj (h j z), N.env j hj]
  · rw [M.sig j fun z => hj (h j z), N.sig j hj]
  · by_cases hj1 : j ∈ vs1
    · exact M.own j hj1 c q
    · rw [M.env j hj1] at q
      exact N.own j hj c q
theorem Inn.of_tg {vs is : List Nat} {e1 e2 : SE} {σ σ2 : L2.St} (hv : ∀ i ∈ is, i ∈ vs) (hw : ∀ ws : List Nat, (∀ i ∈ is, i ∈ ws) → wipe σ2 ws = wipe (wipe σ vs) ws) (he : ∀ j, j ∉ is → e2[j]? = (wipeE e1 vs)[j]?) (hn : ∀ j ∈ is, ∀ c, e2[j]? ≠ some (Cel.own c)) : Inn vs e1 e2 σ σ2 := by
  refine ⟨fun j hj => ?_, fun j hj => ?_, fun j hj c q => ?_⟩
  · rw [he j fun z => hj (hv j z)]
    exact wipeE_out hj
  · have e1 := hw vs hv
    have e2 : (wipe σ2 vs)[j]? = σ2[j]? := wipe_out hj
    rw [← e2, e1, wipe_out hj, wipe_out hj]
  · by_cases hji : j ∈ is
    · exact hn j hji c q
    · rw [he j hji] at q
      exact wipeE_in hj q
theorem lc2_ok {K : PySem.W.Frag} {ti ti1 : TDI} {g g1 : TG} {dg dg1 : TDG} {is is1 : List Nat} {tt tt1 : TDT} {te : TDE} {vs vs1 : List Nat} (hk : TgOk K is g dg) (hk1 : TgOk K is1 g1 dg1) (hv : ∀ i ∈ is, i ∈ vs) (hv1 : ∀ i ∈ is1, i ∈ vs1) (hvv : ∀ i ∈ vs1, i ∈ vs) (σ : L2.St) (H : Hp) (Q : VK)
    (h : cE (dLc2 ti dg tt ti1 dg1 tt1 te vs vs1) σ H Q) : tLc2 (cI ti) g (cT tt) (cI ti1) g1 (cT tt1) (cE te) vs vs1 σ H Q := by
  obtain ⟨B, env, F, G, Q', q, f⟩ := h
  refine ⟨B, env, F, G, _, q, fun ds e1 F1 H1 J q1 s1 G1 S p hp => ?_⟩
  obtain ⟨I, i0, turn, done⟩ := q1
  obtain ⟨h0, hf, nz, no⟩ := G1.base_none hp
  refine ⟨fun i m H => ∃ (acc : List D) (F2 : Hp), Kept B e1 σ F1 H1 p acc F2 H ∧ I i acc ∧ i ≤ ds.length ∧ m = ds.length - i, ⟨_, [], F1, ⟨G1.alloc hp, Mov.alloc hp, hf, [], upd_same, .nil⟩, i0, Nat.zero_le _, rfl⟩, fun i m H2 ⟨acc, F2, kp, ii, hi, em⟩ => ?_⟩
  by_cases hlt : i < ds.length
  · refine .inr ⟨S.go F2 H2 i kp.mov.ex kp.hld.sub hlt, fun H' => ∃ (acc : List D) (F3 : Hp), Kept B e1 σ F1 H1 p acc F3 H' ∧ I (i + 1) acc, fun H' ⟨acc', F3, kp', i'⟩ => ⟨ds.length - (i + 1), by omega, acc', F3, kp', i', hlt, rfl⟩, fun x H' y => ?_⟩
    have Gw := kp.hld.wiped vs
    obtain ⟨d, F3, hd, m3, G3, rd⟩ := src_item S kp.mov.ex Gw hlt y
    have N0 : Inn vs e1 (wipeE e1 vs) σ (wipe σ vs) := Inn.start
    have k3 := kp.step G1 hp N0 Gw m3 G3
    refine hk.run B _ _ F3 H' x d _ _ G3 rd (frc_out (turn i d acc hd ii)) fun e2 σ2 t2 G2 hw he hn => ⟨(hw vs hv).trans (wipe_wipe σ vs), ?_⟩
    have N : Inn vs e1 e2 σ σ2 := Inn.of_tg hv hw he hn
    refine ⟨B, e2, F3, G2, _, frc_out t2, fun b e3 F4 H4 ⟨ee, q4⟩ m4 G4 => ?_⟩
    subst ee
    have k4 := k3.step G1 hp N G2 m4 G4
    cases b with
    | false =>
      rw [if_neg Bool.false_ne_true]
      exact ⟨acc, F4, k4, bcF q4⟩
    | true =>
      rw [if_pos rfl]
      refine ⟨B, e3, F4, G4, _, bcT q4, fun es e4 F5 H5 J1 ⟨ee, q5⟩ m5 G5 S1 => ?_⟩
      subst ee
      have k5 := k4.step G1 hp N G4 m5 G5
      obtain ⟨I1, j0, turn1, done1⟩ := q5
      refine ⟨fun j m H => ∃ (acc : List D) (F6 : Hp), Kept B e1 σ F1 H1 p acc F6 H ∧ Hld B e4 σ2 F6 H ∧ Same F5 F6 ∧ I1 j acc ∧ j ≤ es.length ∧ m = es.length - j, ⟨_, acc, F5, k5, G5, Same.refl _, j0, Nat.zero_le _, rfl⟩, fun j m1 H6 ⟨acc', F6, kp6, G6, m6, ij, hj, em1⟩ => ?_⟩
      by_cases hlt1 : j < es.length
      · refine .inr ⟨S1.go F6 H6 j m6 G6.sub hlt1, fun H' => ∃ (acc : List D) (F7 : Hp), Kept B e1 σ F1 H1 p acc F7 H' ∧ Hld B e4 σ2 F7 H' ∧ Same F5 F7 ∧ I1 (j + 1) acc, fun H' ⟨acc', F7, kp', g', m', i'⟩ => ⟨es.length - (j + 1), by omega, acc', F7, kp', g', m', i', hlt1, rfl⟩, fun x H7 y => ?_⟩
        have Gw1 := G6.wiped vs1
        obtain ⟨d', F7, hd', m7, G7, rd'⟩ := src_item S1 m6 Gw1 hlt1 y
        have M0 : Inn vs1 e4 (wipeE e4 vs1) σ2 (wipe σ2 vs1) := Inn.start
        have k7 := kp6.step G1 hp (N.deep hvv M0) Gw1 m7 G7
        obtain ⟨g7, m7'⟩ := M0.over G6 Gw1 m7 G7
        refine hk1.run B _ _ F7 H7 x d' _ _ G7 rd' (frc_out (turn1 j d' acc' hd' ij)) fun e5 σ3 t5 G8 hw1 he1 hn1 => ⟨(hw1 vs1 hv1).trans (wipe_wipe σ2 vs1), ?_⟩
        have M : Inn vs1 e4 e5 σ2 σ3 := Inn.of_tg hv1 hw1 he1 hn1
        have NM := N.deep hvv M
        refine ⟨B, e5, F7, G8, _, frc_out t5, fun b1 e6 F9 H9 ⟨ee, q9⟩ m9 G9 => ?_⟩
        subst ee
        have k9 := k7.step G1 hp NM G8 m9 G9
        obtain ⟨g9, m9'⟩ := M.over g7 G8 m9 G9
        cases b1 with
        | false =>
          rw [if_neg Bool.false_ne_true]
          exact ⟨acc', F9, k9, g9, (m6.trans m7'.ex).trans m9'.ex, bcF q9⟩
        | true =>
          rw [if_pos rfl]
          refine ⟨B, e6, F9, G9, _, bcT q9, fun z e7 v F10 H10 q10 m10 G10 r10 => ?_⟩
          obtain ⟨y', e8, F11, ⟨ee, hz, q11⟩, m11, G11, r11⟩ := asD_ok G9 m10 G10 r10 q10
          subst ee
          have k11 := k9.step G1 hp NM G9 m11 G11
          obtain ⟨g11, m11'⟩ := M.over g9 G9 m11 G11
          obtain ⟨xs, hx, ra⟩ := k11.at_
          have no2 : ¬ Owns e4 σ2 p := fun q => no (N.owns q)
          refine ⟨xs, hx, by rw [ra.length]; exact szl hz, _, F11, k11.grow G1 hp r11 hx, g11.chg hx k11.fp h0 (fun q => no (N.owns q)), ((m6.trans m7'.ex).trans m9'.ex).trans m11'.ex, q11⟩
      · have e : j = es.length := by omega
        subst e
        exact .inl ⟨S1.stop F6 H6 _ m6 G6.sub rfl, acc', F6, kp6, done1 acc' ij⟩
  · have e : i = ds.length := by omega
    subst e
    refine .inl ⟨S.stop F2 H2 _ kp.mov.ex kp.hld.sub rfl, ?_⟩
    obtain ⟨xs, hx, ra⟩ := kp.at_
    refine f _ e1 _ F2 H2 (done acc ii) (s1.trans kp.mov) kp.hld ⟨p, _, rfl, ?_, kp.fp, hx, ra⟩
    cases hh : H p with
    | none => rfl
    | some o =>
      obtain ⟨o', h'⟩ := s1.there p o hh
      rw [hp] at h'
      cases h'
theorem de_lc2 {elt tg iter tg1 iter1 : Expr} {ifs ifs1 : List Expr} {scope : Scope} {own : List (Str × Nat)} {vs1 : List Nat} {ti ti1 : TDI} {g g1 : TG} {dg dg1 : TDG} {is is1 : List Nat} {tt tt1 : TDT} {te : TDE} (hc : X.calm = true) (hN : X.N.Nodup) (hk : TgOk X.K is g dg) (hk1 : TgOk X.K is1 g1 dg1) (hv : ∀ i ∈ is, i ∈ own.map (·.2)) (hv1 : ∀ i ∈ is1, i ∈ vs1) (hvv : ∀ i ∈ vs1, i ∈ own.map (·.2))
    (hi : PI X tg iter (cI ti)) (ok : BlkOk X.N X.env.scope scope own)
    (hg : ∀ (s : Shared) (H : Hp) (C : Addr) (cl : List (Str × Addr)) (fp : List Addr), PG (X.blk s H scope (compEnvC scope cl C X.env) fp) tg g) (ht : ∀ (s : Shared) (H : Hp) (C : Addr) (cl : List (Str × Addr)) (fp : List Addr), PTs (X.blk s H scope (compEnvC scope cl C X.env) fp) ifs (cT tt))
    (hi1 : ∀ (s : Shared) (H : Hp) (C : Addr) (cl : List (Str × Addr)) (fp : List Addr), PI (X.blk s H scope (compEnvC scope cl C X.env) fp) tg1 iter1 (cI ti1))
    (hg1 : ∀ (s : Shared) (H : Hp) (C : Addr) (cl : List (Str × Addr)) (fp : List Addr), PG (X.blk s H scope (compEnvC scope cl C X.env) fp) tg1 g1) (ht1 : ∀ (s : Shared) (H : Hp) (C : Addr) (cl : List (Str × Addr)) (fp : List Addr), PTs (X.blk s H scope (compEnvC scope cl C X.env) fp) ifs1 (cT tt1))
    (he : ∀ (s : Shared) (H : Hp) (C : Addr) (cl : List (Str × Addr)) (fp : List Addr), PE (X.blk s H scope (compEnvC scope cl C X.env) fp) elt (cE te)) (hs : ∀ x, foldedSetIterable iter X.env x = pure x := by intro _; rfl) (hs1 : ∀ env x, foldedSetIterable iter1 env x = pure x := by intro _ _; rfl) :
    PE X (.ListComp elt [⟨tg, iter, ifs, 0⟩, ⟨tg1, iter1, ifs1, 0⟩] scope pos) (cE (dLc2 ti dg tt ti1 dg1 tt1 te (own.map (·.2)) vs1)) := PE.imp (pe_lc2 hc hN hi ok hvv hg ht hi1 hg1 ht1 he hs hs1) (lc2_ok hk hk1 hv hv1 hvv)
theorem ds_setLc2 (i : Nat) {y : Str} {py : Pos} {elt tg iter tg1 iter1 : Expr} {ifs ifs1 : List Expr} {scope : Scope} {own : List (Str × Nat)} {vs1 : List Nat} {spos : Pos} {ti ti1 : TDI} {g g1 : TG} {dg dg1 : TDG} {is is1 : List Nat} {tt tt1 : TDT} {te : TDE} (hc : X.calm = true) (hN : X.N.Nodup) (hk : TgOk X.K is g dg) (hk1 : TgOk X.K is1 g1 dg1) (hv : ∀ i ∈ is, i ∈ own.map (·.2)) (hv1 : ∀ i ∈ is1, i ∈ vs1) (hvv : ∀ i ∈ vs1, i ∈ own.map (·.2))
    (hy : X.N[i]? = some y) (hyl : X.env.scope.names.lookup y = some .local) (hsw : swapsWith (.ListComp elt [⟨tg, iter, ifs, 0⟩, ⟨tg1, iter1, ifs1, 0⟩] scope pos) (some (.Name y py)) spos.line X.env = pure true)
    (hi : PI X tg iter (cI ti)) (ok : BlkOk X.N X.env.scope scope own)
    (hg : ∀ (s : Shared) (H : Hp) (C : Addr) (cl : List (Str × Addr)) (fp : List Addr), PG (X.blk s H scope (compEnvC scope cl C X.env) fp) tg g) (ht : ∀ (s : Shared) (H : Hp) (C : Addr) (cl : List (Str × Addr)) (fp : List Addr), PTs (X.blk s H scope (compEnvC scope cl C X.env) fp) ifs (cT tt))
    (hi1 : ∀ (s : Shared) (H : Hp) (C : Addr) (cl : List (Str × Addr)) (fp : List Addr), PI (X.blk s H scope (compEnvC scope cl C X.env) fp) tg1 iter1 (cI ti1))
    (hg1 : ∀ (s : Shared) (H : Hp) (C : Addr) (cl : List (Str × Addr)) (fp : List Addr), PG (X.blk s H scope (compEnvC scope cl C X.env) fp) tg1 g1) (ht1 : ∀ (s : Shared) (H : Hp) (C : Addr) (cl : List (Str × Addr)) (fp : List Addr), PTs (X.blk s H scope (compEnvC scope cl C X.env) fp) ifs1 (cT tt1))
    (he : ∀ (s : Shared) (H : Hp) (C : Addr) (cl : List (Str × Addr)) (fp : List Addr), PE (X.blk s H scope (compEnvC scope cl C X.env) fp) elt (cE te)) (hs : ∀ x, foldedSetIterable iter X.env x = pure x := by intro _; rfl) (hs1 : ∀ env x, foldedSetIterable iter1 env x = pure x := by intro _ _; rfl) :
    PS X (.Assign [.Name y py] (.ListComp elt [⟨tg, iter, ifs, 0⟩, ⟨tg1, iter1, ifs1, 0⟩] scope pos) spos) (cS (dSet i (dLc2 ti dg tt ti1 dg1 tt1 te (own.map (·.2)) vs1))) :=
  PS.imp (ps_setLc2 hc hN hy hyl hsw hi ok hvv hg ht hi1 hg1 ht1 he hs hs1) fun D σ H h => by
    obtain ⟨B, env, F, G, E, q, ok⟩ := h
    refine lc2_ok hk hk1 hv hv1 hvv σ H _ ⟨B, env, F, G, _, q, fun x e1 v F1 H1 q1 s1 G1 r1 => ?_⟩
    obtain ⟨e2, F2, q2, G2⟩ := setV_ok G s1 G1 r1 q1
    exact ok.nx e2 _ F2 H1 q2 G2
end
end DL

namespace K10
open PySem L2 DL
def topS (i : Nat) : Stmt := PySem.Challenge.pw_sumwright_k10_lots_of_many_things.main.body.getD i (.Pass ⟨0, 0, 0, 0⟩)
abbrev s_is_growing : Stmt := topS 1
abbrev s_count_lots : Stmt := topS 2
abbrev s_count_all_lots : Stmt := topS 3
abbrev s_arcs : Stmt := topS 4
abbrev s_from_arcs : Stmt := topS 5
abbrev s_crossings : Stmt := topS 6
abbrev s_nestings : Stmt := topS 7
abbrev s_ends_of : Stmt := topS 8
abbrev s_joined : Stmt := topS 9
abbrev s_without_crossings : Stmt := topS 10
abbrev s_without_nestings : Stmt := topS 11
abbrev s_exchanged : Stmt := topS 12
abbrev s_law_state : Stmt := topS 14
abbrev s_law_draw : Stmt := topS 15
abbrev s_law_pick : Stmt := topS 16
abbrev s_law_eq : Stmt := topS 17
abbrev s_law_word : Stmt := topS 18
abbrev s_law_arcs : Stmt := topS 19
abbrev s_law_count : Stmt := topS 20
abbrev s_law_ends : Stmt := topS 21
abbrev s_law_read : Stmt := topS 22
abbrev s_law_made : Stmt := topS 23
abbrev s_law : Stmt := topS 24
theorem sc_is_growing : FnScope ["word", "top", "one"] ["word"] (defScope s_is_growing) := ⟨rfl, rfl, rfl, by decide +kernel, rfl, by decide +kernel, by decide +kernel⟩
theorem sc_count_lots : FnScope ["n", "k", "row", "_", "longer", "at", "many"] ["n", "k"] (defScope s_count_lots) := ⟨rfl, rfl, rfl, by decide +kernel, rfl, by decide +kernel, by decide +kernel⟩
theorem sc_count_all_lots : FnScope ["n", "row", "_", "after", "one"] ["n"] (defScope s_count_all_lots) := ⟨rfl, rfl, rfl, by decide +kernel, rfl, by decide +kernel, by decide +kernel⟩
theorem sc_arcs : FnScope ["word", "last", "told", "at", "one"] ["word"] (defScope s_arcs) := ⟨rfl, rfl, rfl, by decide +kernel, rfl, by decide +kernel, by decide +kernel⟩
theorem sc_from_arcs : FnScope ["n", "pairs", "before", "told", "at", "one", "other"] ["n", "pairs"] (defScope s_from_arcs) := ⟨rfl, rfl, rfl, by decide +kernel, rfl, by decide +kernel, by decide +kernel⟩
theorem sc_crossings : FnScope ["word", "row", "a", "b", "c", "d"] ["word"] (defScope s_crossings) := ⟨rfl, rfl, rfl, by decide +kernel, rfl, by decide +kernel, by decide +kernel⟩
theorem sc_nestings : FnScope ["word", "row", "a", "b", "c", "d"] ["word"] (defScope s_nestings) := ⟨rfl, rfl, rfl, by decide +kernel, rfl, by decide +kernel, by decide +kernel⟩
theorem sc_ends_of : FnScope ["word", "row", "begins", "ends", "told", "at", "one", "_", "other"] ["word"] (defScope s_ends_of) := ⟨rfl, rfl, rfl, by decide +kernel, rfl, by decide +kernel, by decide +kernel⟩
theorem sc_joined : FnScope ["row", "place", "is_open", "pairs", "at", "one"] ["row", "place"] (defScope s_joined) := ⟨rfl, rfl, rfl, by decide +kernel, rfl, by decide +kernel, by decide +kernel⟩
theorem sc_without_crossings : FnScope ["row"] ["row"] (defScope s_without_crossings) := ⟨rfl, rfl, rfl, by decide +kernel, rfl, by decide +kernel, by decide +kernel⟩
theorem sc_without_nestings : FnScope ["row"] ["row"] (defScope s_without_nestings) := ⟨rfl, rfl, rfl, by decide +kernel, rfl, by decide +kernel, by decide +kernel⟩
theorem sc_exchanged : FnScope ["word", "before", "pairs", "first", "second", "at", "one", "place", "other"] ["word"] (defScope s_exchanged) := ⟨rfl, rfl, rfl, by decide +kernel, rfl, by decide +kernel, by decide +kernel⟩
theorem sc_law_state : FnScope ["script", "seed", "cell"] ["script"] (defScope s_law_state) := ⟨rfl, rfl, rfl, by decide +kernel, rfl, by decide +kernel, by decide +kernel⟩
theorem sc_law_draw : FnScope ["state", "many", "cells", "mixed", "value"] ["state", "many"] (defScope s_law_draw) := ⟨rfl, rfl, rfl, by decide +kernel, rfl, by decide +kernel, by decide +kernel⟩
theorem sc_law_pick : FnScope ["state", "row"] ["state", "row"] (defScope s_law_pick) := ⟨rfl, rfl, rfl, by decide +kernel, rfl, by decide +kernel, by decide +kernel⟩
theorem sc_law_eq : FnScope ["told", "due", "k"] ["told", "due"] (defScope s_law_eq) := ⟨rfl, rfl, rfl, by decide +kernel, rfl, by decide +kernel, by decide +kernel⟩
theorem sc_law_word : FnScope ["state", "most", "told", "k"] ["state", "most"] (defScope s_law_word) := ⟨rfl, rfl, rfl, by decide +kernel, rfl, by decide +kernel, by decide +kernel⟩
theorem sc_law_arcs : FnScope ["word", "told", "b", "ahead", "a"] ["word"] (defScope s_law_arcs) := ⟨rfl, rfl, rfl, by decide +kernel, rfl, by decide +kernel, by decide +kernel⟩
theorem sc_law_count : FnScope ["rows", "nested", "told", "a", "b", "c", "d"] ["rows", "nested"] (defScope s_law_count) := ⟨rfl, rfl, rfl, by decide +kernel, rfl, by decide +kernel, by decide +kernel⟩
theorem sc_law_ends : FnScope ["word", "k", "rows", "told", "first", "last", "a", "b"] ["word"] (defScope s_law_ends) := ⟨rfl, rfl, rfl, by decide +kernel, rfl, by decide +kernel, by decide +kernel⟩
theorem sc_law_read : FnScope ["row", "way", "word", "k", "left", "told", "rows", "mine", "at", "own", "a", "b"] ["row", "way", "word"] (defScope s_law_read) := ⟨rfl, rfl, rfl, by decide +kernel, rfl, by decide +kernel, by decide +kernel⟩
theorem sc_law_made : FnScope ["many", "rows", "k", "told", "new", "ahead", "a", "b"] ["many", "rows"] (defScope s_law_made) := ⟨rfl, rfl, rfl, by decide +kernel, rfl, by decide +kernel, by decide +kernel⟩
theorem sc_law : FnScope ["script", "state", "turn", "n", "line", "k", "word", "other", "some", "due", "bent", "fine", "many", "rows", "row", "cross", "nest", "plain", "flat", "j", "pair"] ["script"] (defScope s_law) := ⟨rfl, rfl, rfl, by decide +kernel, rfl, by decide +kernel, by decide +kernel⟩
structure Txt (K : PySem.W.Frag) (mg : Str → Option Value) : Prop where
  b_abs : mg "abs" = none
  b_bool : mg "bool" = none
  b_enumerate : mg "enumerate" = none
  b_int : mg "int" = none
  b_isinstance : mg "isinstance" = none
  b_len : mg "len" = none
  b_list : mg "list" = none
  b_max : mg "max" = none
  b_min : mg "min" = none
  b_range : mg "range" = none
  b_sorted : mg "sorted" = none
  b_str : mg "str" = none
  b_sum : mg "sum" = none
  b_tuple : mg "tuple" = none
  h_is_growing : Has K mg "is_growing" s_is_growing ["word"]
  h_count_lots : Has K mg "count_lots" s_count_lots ["n", "k"]
  h_count_all_lots : Has K mg "count_all_lots" s_count_all_lots ["n"]
  h_arcs : Has K mg "arcs" s_arcs ["word"]
  h_from_arcs : Has K mg "from_arcs" s_from_arcs ["n", "pairs"]
  h_crossings : Has K mg "crossings" s_crossings ["word"]
  h_nestings : Has K mg "nestings" s_nestings ["word"]
  h_ends_of : Has K mg "ends_of" s_ends_of ["word"]
  h_joined : Has K mg "joined" s_joined ["row", "place"]
  h_without_crossings : Has K mg "without_crossings" s_without_crossings ["row"]
  h_without_nestings : Has K mg "without_nestings" s_without_nestings ["row"]
  h_exchanged : Has K mg "exchanged" s_exchanged ["word"]
  h_law_state : Has K mg "_law_state" s_law_state ["script"]
  h_law_draw : Has K mg "_law_draw" s_law_draw ["state", "many"]
  h_law_pick : Has K mg "_law_pick" s_law_pick ["state", "row"]
  h_law_eq : Has K mg "_law_eq" s_law_eq ["told", "due"]
  h_law_word : Has K mg "_law_word" s_law_word ["state", "most"]
  h_law_arcs : Has K mg "_law_arcs" s_law_arcs ["word"]
  h_law_count : Has K mg "_law_count" s_law_count ["rows", "nested"]
  h_law_ends : Has K mg "_law_ends" s_law_ends ["word"]
  h_law_read : Has K mg "_law_read" s_law_read ["row", "way", "word"]
  h_law_made : Has K mg "_law_made" s_law_made ["many", "rows"]
end K10

namespace K10
open PySem L2 DL
section
variable {P : Program} {w : World} {K : PySem.W.Frag} {mg : Str → Option Value} {base : Heap}
def w_is_growing (T : Txt K mg)  : { t : TDS // ∀ (f : Addr) (cdv : Value) (A : Around) (outer : List Env) (s : Shared) (H : Hp) (E : XK), Room 0 (A.deeper (PyProof.Rows.envOfC "is_growing" (defScope s_is_growing) s.heap.objs.size f cdv)) → PSs (cxOf CX0 P w K mg base ["word", "top", "one"] "is_growing" (defScope s_is_growing) f cdv A outer s H E).nox (defBody s_is_growing) (cS t) } :=
  ⟨_, fun f cdv A outer s H E hr =>
    (dss_cons (ds_set 1 sc_is_growing.nd (de_un un_neg od_neg de_int))
    (dss_cons (ds_for PassesOwn.never rfl (di_seq (de_var 0)) (pg_name (i := 2) sc_is_growing.nd rfl (by first | exact Or.inl rfl | exact Or.inr rfl)) (tg_name 2) (dss_cons (ds_if (dt_not (dt_chain op_le od_le op_le od_le de_int (de_var 2) (de_bin op_addD od_add (de_var 1) de_int))) (dss_one (ds_ret de_bl)) dss_nil)
    (dss_one (ds_set 1 sc_is_growing.nd (de_callB (call_max2 rfl) od_max2 rfl T.b_max (by decide +kernel) (da_cons (de_var 1) (da_cons (de_var 2) da_nil)))))))
    (dss_one (ds_ret de_bl))))⟩
def w_count_lots (T : Txt K mg)  : { t : TDS // ∀ (f : Addr) (cdv : Value) (A : Around) (outer : List Env) (s : Shared) (H : Hp) (E : XK), Room 0 (A.deeper (PyProof.Rows.envOfC "count_lots" (defScope s_count_lots) s.heap.objs.size f cdv)) → PSs (cxOf CX0 P w K mg base ["n", "k", "row", "_", "longer", "at", "many"] "count_lots" (defScope s_count_lots) f cdv A outer s H E).nox (defBody s_count_lots) (cS t) } :=
  ⟨_, fun f cdv A outer s H E hr =>
    (dss_cons (ds_set 2 sc_count_lots.nd (de_lst (da_cons de_int da_nil)))
    (dss_cons (ds_for PassesOwn.never rfl (di_range1 rfl T.b_range (da_cons (de_var 0) da_nil)) (pg_name (i := 3) sc_count_lots.nd rfl (by first | exact Or.inl rfl | exact Or.inr rfl)) (tg_name 3) (dss_cons (ds_set 4 sc_count_lots.nd (de_bin op_mulD od_mul (de_lst (da_cons de_int da_nil)) (de_bin op_addD od_add (de_callB1 call_len_seq od_len rfl T.b_len (by decide +kernel) (de_var 2)) de_int)))
    (dss_cons (ds_for PassesOwn.never rfl (di_enum rfl T.b_enumerate (de_var 2)) (pg_tup rfl (pgs_consA (pg_name (i := 5) sc_count_lots.nd rfl (by first | exact Or.inl rfl | exact Or.inr rfl)) (pgs_consA (pg_name (i := 6) sc_count_lots.nd rfl (by first | exact Or.inl rfl | exact Or.inr rfl)) pgs_nilA))) (tg_tup [5, 6]) (dss_cons (ds_sub 4 (de_bin op_addD od_add (de_ix ix_seq od_ix (de_var 4) (de_bin op_addD od_add (de_var 5) de_int)) (de_var 6)) (de_bin op_addD od_add (de_var 5) de_int))
    (dss_one (ds_sub 4 (de_bin op_addD od_add (de_ix ix_seq od_ix (de_var 4) (de_var 5)) (de_bin op_mulD od_mul (de_var 5) (de_var 6))) (de_var 5)))))
    (dss_one (ds_set 2 sc_count_lots.nd (de_var 4))))))
    (dss_one (ds_ret (de_if (dt_cmp op_lt od_lt rfl (de_var 1) (de_callB1 call_len_seq od_len rfl T.b_len (by decide +kernel) (de_var 2))) (de_ix ix_seq od_ix (de_var 2) (de_var 1)) de_int)))))⟩
def w_count_all_lots (T : Txt K mg)  : { t : TDS // ∀ (f : Addr) (cdv : Value) (A : Around) (outer : List Env) (s : Shared) (H : Hp) (E : XK), Room 0 (A.deeper (PyProof.Rows.envOfC "count_all_lots" (defScope s_count_all_lots) s.heap.objs.size f cdv)) → PSs (cxOf CX0 P w K mg base ["n", "row", "_", "after", "one"] "count_all_lots" (defScope s_count_all_lots) f cdv A outer s H E).nox (defBody s_count_all_lots) (cS t) } :=
  ⟨_, fun f cdv A outer s H E hr =>
    (dss_cons (ds_set 1 sc_count_all_lots.nd (de_lst (da_cons de_int da_nil)))
    (dss_cons (ds_for PassesOwn.never rfl (di_range1 rfl T.b_range (da_cons (de_var 0) da_nil)) (pg_name (i := 2) sc_count_all_lots.nd rfl (by first | exact Or.inl rfl | exact Or.inr rfl)) (tg_name 2) (dss_cons (ds_set 3 sc_count_all_lots.nd (de_lst (da_cons (de_ix ix_seq od_ix (de_var 1) (de_un un_neg od_neg de_int)) da_nil)))
    (dss_cons (ds_for PassesOwn.never rfl (di_seq (de_var 1)) (pg_name (i := 4) sc_count_all_lots.nd rfl (by first | exact Or.inl rfl | exact Or.inr rfl)) (tg_name 4) (dss_one (ds_app 3 (pe_bm PySem.F.plainAttrs_list PySem.F.slot_list_append PySem.F.type_list_append mt_append (pv 3) (pa_cons (de_bin op_addD od_add (de_ix ix_seq od_ix (de_var 3) (de_un un_neg od_neg de_int)) (de_var 4)) pa_nil)))))
    (dss_one (ds_set 1 sc_count_all_lots.nd (de_var 3))))))
    (dss_one (ds_ret (de_ix ix_seq od_ix (de_var 1) de_int)))))⟩
def w_arcs (T : Txt K mg)  : { t : TDS // ∀ (f : Addr) (cdv : Value) (A : Around) (outer : List Env) (s : Shared) (H : Hp) (E : XK), Room 0 (A.deeper (PyProof.Rows.envOfC "arcs" (defScope s_arcs) s.heap.objs.size f cdv)) → PSs (cxOf CX0 P w K mg base ["word", "last", "told", "at", "one"] "arcs" (defScope s_arcs) f cdv A outer s H E).nox (defBody s_arcs) (cS t) } :=
  ⟨_, fun f cdv A outer s H E hr =>
    (dss_cons (ds_set 1 sc_arcs.nd de_dict0)
    (dss_cons (ds_set 2 sc_arcs.nd (de_lst da_nil))
    (dss_cons (ds_for PassesOwn.never rfl (di_enum rfl T.b_enumerate (de_var 0)) (pg_tup rfl (pgs_consA (pg_name (i := 3) sc_arcs.nd rfl (by first | exact Or.inl rfl | exact Or.inr rfl)) (pgs_consA (pg_name (i := 4) sc_arcs.nd rfl (by first | exact Or.inl rfl | exact Or.inr rfl)) pgs_nilA))) (tg_tup [3, 4]) (dss_cons (ds_if (dt_din 1 (hu1 hr) (de_var 4) (pv 1)) (dss_one (ds_app 2 (pe_bm PySem.F.plainAttrs_list PySem.F.slot_list_append PySem.F.type_list_append mt_append (pv 2) (pa_cons (de_tup (da_cons (de_dget 1 (hu1 hr) (pv 1) (de_var 4)) (da_cons (de_var 3) da_nil))) pa_nil)))) dss_nil)
    (dss_one (ds_dput 1 (hu1 hr) (pv 1) (de_var 4) (de_var 3)))))
    (dss_one (ds_ret (de_callB1 (cr_sortD hr.units) od_sort rfl T.b_sorted (by decide +kernel) (de_var 2)))))))⟩
def w_from_arcs (T : Txt K mg)  : { t : TDS // ∀ (f : Addr) (cdv : Value) (A : Around) (outer : List Env) (s : Shared) (H : Hp) (E : XK), Room 0 (A.deeper (PyProof.Rows.envOfC "from_arcs" (defScope s_from_arcs) s.heap.objs.size f cdv)) → PSs (cxOf CX0 P w K mg base ["n", "pairs", "before", "told", "at", "one", "other"] "from_arcs" (defScope s_from_arcs) f cdv A outer s H E).nox (defBody s_from_arcs) (cS t) } :=
  ⟨_, fun f cdv A outer s H E hr =>
    (dss_cons (ds_setDc 2 rfl sc_from_arcs.nd (tg_tup [5, 6]) (by decide) rfl rfl (sw_trueD rfl rfl rfl (by decide +kernel)) (di_seq (de_var 1)) (blkOk_by (N := ["n", "pairs", "before", "told", "at", "one", "other"]) (sc := defScope s_from_arcs) (own := [("one", 5), ("other", 6)]) (by decide +kernel)) (fun _ _ _ _ _ => (pg_tup rfl (pgs_consA (pg_name (i := 5) sc_from_arcs.nd rfl (by first | exact Or.inl rfl | exact Or.inr rfl)) (pgs_consA (pg_name (i := 6) sc_from_arcs.nd rfl (by first | exact Or.inl rfl | exact Or.inr rfl)) pgs_nilA)))) (fun _ _ _ _ _ => dts_nil) (fun _ _ _ _ _ => (de_var 6)) (fun _ _ _ _ _ => (de_var 5)))
    (dss_cons (ds_set 3 sc_from_arcs.nd (de_lst da_nil))
    (dss_cons (ds_for PassesOwn.never rfl (di_range1 rfl T.b_range (da_cons (de_var 0) da_nil)) (pg_name (i := 4) sc_from_arcs.nd rfl (by first | exact Or.inl rfl | exact Or.inr rfl)) (tg_name 4) (dss_one (ds_app 3 (pe_bm PySem.F.plainAttrs_list PySem.F.slot_list_append PySem.F.type_list_append mt_append (pv 3) (pa_cons (de_if (dt_din 2 (hu1 hr) (de_var 4) (pv 2)) (de_ix ix_seq od_ix (de_var 3) (de_dget 2 (hu1 hr) (pv 2) (de_var 4))) (de_bin op_addD od_add (de_callB1 (cr_maxA rfl) od_max rfl T.b_max (by decide +kernel) (de_bin op_addD od_add (de_lst (da_cons (de_un un_neg od_neg de_int) da_nil)) (de_var 3))) de_int)) pa_nil)))))
    (dss_one (ds_ret (de_callTy1 call_tuple_of od_tuple rfl T.b_tuple (by decide +kernel) (de_var 3)))))))⟩
def w_crossings (T : Txt K mg) {s0 : DL.Spec} (k_arcs : Known P w K mg base "arcs" ["word"] 1 s0) : { t : TDS // ∀ (f : Addr) (cdv : Value) (A : Around) (outer : List Env) (s : Shared) (H : Hp) (E : XK), Room 1 (A.deeper (PyProof.Rows.envOfC "crossings" (defScope s_crossings) s.heap.objs.size f cdv)) → PSs (cxOf CX0 P w K mg base ["word", "row", "a", "b", "c", "d"] "crossings" (defScope s_crossings) f cdv A outer s H E).nox (defBody s_crossings) (cS t) } :=
  ⟨_, fun f cdv A outer s H E hr =>
    (dss_cons (ds_set 1 sc_crossings.nd (de_known k_arcs (hr.mono (by decide)) rfl (da_cons (de_var 0) da_nil)))
    (dss_one (ds_ret (de_callB1 call_len_seq od_len rfl T.b_len (by decide +kernel) (de_lc2 (vs1 := [4, 5]) rfl sc_crossings.nd (tg_tup [2, 3]) (tg_tup [4, 5]) (by decide) (by decide) (by decide) (di_seq (de_var 1)) (blkOk_by (N := ["word", "row", "a", "b", "c", "d"]) (sc := defScope s_crossings) (own := [("a", 2), ("b", 3), ("c", 4), ("d", 5)]) (by decide +kernel)) (fun _ _ _ _ _ => (pg_tup rfl (pgs_consA (pg_name (i := 2) sc_crossings.nd rfl (by first | exact Or.inl rfl | exact Or.inr rfl)) (pgs_consA (pg_name (i := 3) sc_crossings.nd rfl (by first | exact Or.inl rfl | exact Or.inr rfl)) pgs_nilA)))) (fun _ _ _ _ _ => dts_nil) (fun _ _ _ _ _ => (di_seq (de_var 1))) (fun _ _ _ _ _ => (pg_tup rfl (pgs_consA (pg_name (i := 4) sc_crossings.nd rfl (by first | exact Or.inl rfl | exact Or.inr rfl)) (pgs_consA (pg_name (i := 5) sc_crossings.nd rfl (by first | exact Or.inl rfl | exact Or.inr rfl)) pgs_nilA)))) (fun _ _ _ _ _ => (dts_one (dt_chain3 op_lt od_lt op_lt od_lt op_lt od_lt (de_var 2) (de_var 4) (de_var 3) (de_var 5)))) (fun _ _ _ _ _ => de_int))))))⟩
def w_nestings (T : Txt K mg) {s0 : DL.Spec} (k_arcs : Known P w K mg base "arcs" ["word"] 1 s0) : { t : TDS // ∀ (f : Addr) (cdv : Value) (A : Around) (outer : List Env) (s : Shared) (H : Hp) (E : XK), Room 1 (A.deeper (PyProof.Rows.envOfC "nestings" (defScope s_nestings) s.heap.objs.size f cdv)) → PSs (cxOf CX0 P w K mg base ["word", "row", "a", "b", "c", "d"] "nestings" (defScope s_nestings) f cdv A outer s H E).nox (defBody s_nestings) (cS t) } :=
  ⟨_, fun f cdv A outer s H E hr =>
    (dss_cons (ds_set 1 sc_nestings.nd (de_known k_arcs (hr.mono (by decide)) rfl (da_cons (de_var 0) da_nil)))
    (dss_one (ds_ret (de_callB1 call_len_seq od_len rfl T.b_len (by decide +kernel) (de_lc2 (vs1 := [4, 5]) rfl sc_nestings.nd (tg_tup [2, 3]) (tg_tup [4, 5]) (by decide) (by decide) (by decide) (di_seq (de_var 1)) (blkOk_by (N := ["word", "row", "a", "b", "c", "d"]) (sc := defScope s_nestings) (own := [("a", 2), ("b", 3), ("c", 4), ("d", 5)]) (by decide +kernel)) (fun _ _ _ _ _ => (pg_tup rfl (pgs_consA (pg_name (i := 2) sc_nestings.nd rfl (by first | exact Or.inl rfl | exact Or.inr rfl)) (pgs_consA (pg_name (i := 3) sc_nestings.nd rfl (by first | exact Or.inl rfl | exact Or.inr rfl)) pgs_nilA)))) (fun _ _ _ _ _ => dts_nil) (fun _ _ _ _ _ => (di_seq (de_var 1))) (fun _ _ _ _ _ => (pg_tup rfl (pgs_consA (pg_name (i := 4) sc_nestings.nd rfl (by first | exact Or.inl rfl | exact Or.inr rfl)) (pgs_consA (pg_name (i := 5) sc_nestings.nd rfl (by first | exact Or.inl rfl | exact Or.inr rfl)) pgs_nilA)))) (fun _ _ _ _ _ => (dts_one (dt_chain3 op_lt od_lt op_lt od_lt op_lt od_lt (de_var 2) (de_var 4) (de_var 5) (de_var 3)))) (fun _ _ _ _ _ => de_int))))))⟩
def w_ends_of (T : Txt K mg) {s0 : DL.Spec} (k_arcs : Known P w K mg base "arcs" ["word"] 1 s0) : { t : TDS // ∀ (f : Addr) (cdv : Value) (A : Around) (outer : List Env) (s : Shared) (H : Hp) (E : XK), Room 1 (A.deeper (PyProof.Rows.envOfC "ends_of" (defScope s_ends_of) s.heap.objs.size f cdv)) → PSs (cxOf CX0 P w K mg base ["word", "row", "begins", "ends", "told", "at", "one", "_", "other"] "ends_of" (defScope s_ends_of) f cdv A outer s H E).nox (defBody s_ends_of) (cS t) } :=
  ⟨_, fun f cdv A outer s H E hr =>
    (dss_cons (ds_set 1 sc_ends_of.nd (de_known k_arcs (hr.mono (by decide)) rfl (da_cons (de_var 0) da_nil)))
    (dss_cons (by first | exact (ds_setLc 2 rfl sc_ends_of.nd (tg_tup [6, 7]) (by decide) rfl rfl (sw_true rfl rfl rfl (by decide +kernel)) (di_seq (de_var 1)) (blkOk_by (N := ["word", "row", "begins", "ends", "told", "at", "one", "_", "other"]) (sc := defScope s_ends_of) (own := [("one", 6), ("_", 7)]) (by decide +kernel)) (fun _ _ _ _ _ => (pg_tup rfl (pgs_consA (pg_name (i := 6) sc_ends_of.nd rfl (by first | exact Or.inl rfl | exact Or.inr rfl)) (pgs_consA (pg_name (i := 7) sc_ends_of.nd rfl (by first | exact Or.inl rfl | exact Or.inr rfl)) pgs_nilA)))) (fun _ _ _ _ _ => dts_nil) (fun _ _ _ _ _ => (de_var 6))) | exact (ds_set 2 sc_ends_of.nd (de_lc rfl sc_ends_of.nd (tg_tup [6, 7]) (by decide) (di_seq (de_var 1)) (blkOk_by (N := ["word", "row", "begins", "ends", "told", "at", "one", "_", "other"]) (sc := defScope s_ends_of) (own := [("one", 6), ("_", 7)]) (by decide +kernel)) (fun _ _ _ _ _ => (pg_tup rfl (pgs_consA (pg_name (i := 6) sc_ends_of.nd rfl (by first | exact Or.inl rfl | exact Or.inr rfl)) (pgs_consA (pg_name (i := 7) sc_ends_of.nd rfl (by first | exact Or.inl rfl | exact Or.inr rfl)) pgs_nilA)))) (fun _ _ _ _ _ => dts_nil) (fun _ _ _ _ _ => (de_var 6)))))
    (dss_cons (by first | exact (ds_setLc 3 rfl sc_ends_of.nd (tg_tup [7, 8]) (by decide) rfl rfl (sw_true rfl rfl rfl (by decide +kernel)) (di_seq (de_var 1)) (blkOk_by (N := ["word", "row", "begins", "ends", "told", "at", "one", "_", "other"]) (sc := defScope s_ends_of) (own := [("_", 7), ("other", 8)]) (by decide +kernel)) (fun _ _ _ _ _ => (pg_tup rfl (pgs_consA (pg_name (i := 7) sc_ends_of.nd rfl (by first | exact Or.inl rfl | exact Or.inr rfl)) (pgs_consA (pg_name (i := 8) sc_ends_of.nd rfl (by first | exact Or.inl rfl | exact Or.inr rfl)) pgs_nilA)))) (fun _ _ _ _ _ => dts_nil) (fun _ _ _ _ _ => (de_var 8))) | exact (ds_set 3 sc_ends_of.nd (de_lc rfl sc_ends_of.nd (tg_tup [7, 8]) (by decide) (di_seq (de_var 1)) (blkOk_by (N := ["word", "row", "begins", "ends", "told", "at", "one", "_", "other"]) (sc := defScope s_ends_of) (own := [("_", 7), ("other", 8)]) (by decide +kernel)) (fun _ _ _ _ _ => (pg_tup rfl (pgs_consA (pg_name (i := 7) sc_ends_of.nd rfl (by first | exact Or.inl rfl | exact Or.inr rfl)) (pgs_consA (pg_name (i := 8) sc_ends_of.nd rfl (by first | exact Or.inl rfl | exact Or.inr rfl)) pgs_nilA)))) (fun _ _ _ _ _ => dts_nil) (fun _ _ _ _ _ => (de_var 8)))))
    (dss_cons (ds_set 4 sc_ends_of.nd (de_lst da_nil))
    (dss_cons (ds_for PassesOwn.never rfl (di_range1 rfl T.b_range (da_cons (de_callB1 call_len_seq od_len rfl T.b_len (by decide +kernel) (de_var 0)) da_nil)) (pg_name (i := 5) sc_ends_of.nd rfl (by first | exact Or.inl rfl | exact Or.inr rfl)) (tg_name 5) (dss_one (ds_if (dt_cmp (op_inAll (hu65 hr)) od_in rfl (de_var 5) (de_var 2)) (dss_one (ds_app 4 (pe_bm PySem.F.plainAttrs_list PySem.F.slot_list_append PySem.F.type_list_append mt_append (pv 4) (pa_cons (de_if (dt_cmp (op_inAll (hu65 hr)) od_in rfl (de_var 5) (de_var 3)) de_str de_str) pa_nil)))) (dss_one (ds_app 4 (pe_bm PySem.F.plainAttrs_list PySem.F.slot_list_append PySem.F.type_list_append mt_append (pv 4) (pa_cons (de_if (dt_cmp (op_inAll (hu65 hr)) od_in rfl (de_var 5) (de_var 3)) de_str de_str) pa_nil)))))))
    (dss_one (ds_ret (de_callTy1 call_tuple_of od_tuple rfl T.b_tuple (by decide +kernel) (de_var 4)))))))))⟩
def w_joined (T : Txt K mg) {s0 : DL.Spec} (k_from_arcs : Known P w K mg base "from_arcs" ["n", "pairs"] 1 s0) : { t : TDS // ∀ (f : Addr) (cdv : Value) (A : Around) (outer : List Env) (s : Shared) (H : Hp) (E : XK), Room 1 (A.deeper (PyProof.Rows.envOfC "joined" (defScope s_joined) s.heap.objs.size f cdv)) → PSs (cxOf CX0 P w K mg base ["row", "place", "is_open", "pairs", "at", "one"] "joined" (defScope s_joined) f cdv A outer s H E).nox (defBody s_joined) (cS t) } :=
  ⟨_, fun f cdv A outer s H E hr =>
    (dss_cons (ds_set 2 sc_joined.nd (de_lst da_nil))
    (dss_cons (ds_set 3 sc_joined.nd (de_lst da_nil))
    (dss_cons (ds_for PassesOwn.never rfl (di_enum rfl T.b_enumerate (de_var 0)) (pg_tup rfl (pgs_consA (pg_name (i := 4) sc_joined.nd rfl (by first | exact Or.inl rfl | exact Or.inr rfl)) (pgs_consA (pg_name (i := 5) sc_joined.nd rfl (by first | exact Or.inl rfl | exact Or.inr rfl)) pgs_nilA))) (tg_tup [4, 5]) (dss_cons (ds_if (dt_cmp (op_inAll (hu65 hr)) od_in rfl (de_var 5) (de_tup (da_cons de_str (da_cons de_str da_nil)))) (dss_cons (ds_if (dt_not (dt_val (de_var 2))) (dss_one (ds_ret de_non)) dss_nil)
    (dss_one (ds_app 3 (pe_bm PySem.F.plainAttrs_list PySem.F.slot_list_append PySem.F.type_list_append mt_append (pv 3) (pa_cons (de_tup (da_cons (de_popAt 2 (pe_bm PySem.F.plainAttrs_list PySem.F.slot_list_pop PySem.F.type_list_pop mt_popAt (pv 2) (pa_cons (de_var 1) pa_nil))) (da_cons (de_var 4) da_nil))) pa_nil))))) dss_nil)
    (dss_one (ds_if (dt_cmp (op_inAll (hu65 hr)) od_in rfl (de_var 5) (de_tup (da_cons de_str (da_cons de_str da_nil)))) (dss_one (ds_app 2 (pe_bm PySem.F.plainAttrs_list PySem.F.slot_list_append PySem.F.type_list_append mt_append (pv 2) (pa_cons (de_var 4) pa_nil)))) dss_nil))))
    (dss_one (ds_ret (de_if (dt_not (dt_val (de_var 2))) (de_known k_from_arcs (hr.mono (by decide)) rfl (da_cons (de_callB1 call_len_seq od_len rfl T.b_len (by decide +kernel) (de_var 0)) (da_cons (de_var 3) da_nil))) de_non))))))⟩
def w_without_crossings (T : Txt K mg) {s0 : DL.Spec} (k_joined : Known P w K mg base "joined" ["row", "place"] 2 s0) : { t : TDS // ∀ (f : Addr) (cdv : Value) (A : Around) (outer : List Env) (s : Shared) (H : Hp) (E : XK), Room 2 (A.deeper (PyProof.Rows.envOfC "without_crossings" (defScope s_without_crossings) s.heap.objs.size f cdv)) → PSs (cxOf CX0 P w K mg base ["row"] "without_crossings" (defScope s_without_crossings) f cdv A outer s H E).nox (defBody s_without_crossings) (cS t) } :=
  ⟨_, fun f cdv A outer s H E hr =>
    (dss_one (ds_ret (de_known k_joined (hr.mono (by decide)) rfl (da_cons (de_var 0) (da_cons (de_un un_neg od_neg de_int) da_nil)))))⟩
def w_without_nestings (T : Txt K mg) {s0 : DL.Spec} (k_joined : Known P w K mg base "joined" ["row", "place"] 2 s0) : { t : TDS // ∀ (f : Addr) (cdv : Value) (A : Around) (outer : List Env) (s : Shared) (H : Hp) (E : XK), Room 2 (A.deeper (PyProof.Rows.envOfC "without_nestings" (defScope s_without_nestings) s.heap.objs.size f cdv)) → PSs (cxOf CX0 P w K mg base ["row"] "without_nestings" (defScope s_without_nestings) f cdv A outer s H E).nox (defBody s_without_nestings) (cS t) } :=
  ⟨_, fun f cdv A outer s H E hr =>
    (dss_one (ds_ret (de_known k_joined (hr.mono (by decide)) rfl (da_cons (de_var 0) (da_cons de_int da_nil)))))⟩
def w_exchanged (T : Txt K mg) {s0 s1 s2 : DL.Spec} (k_arcs : Known P w K mg base "arcs" ["word"] 1 s0) (k_ends_of : Known P w K mg base "ends_of" ["word"] 2 s1) (k_from_arcs : Known P w K mg base "from_arcs" ["n", "pairs"] 1 s2) : { t : TDS // ∀ (f : Addr) (cdv : Value) (A : Around) (outer : List Env) (s : Shared) (H : Hp) (E : XK), Room 2 (A.deeper (PyProof.Rows.envOfC "exchanged" (defScope s_exchanged) s.heap.objs.size f cdv)) → PSs (cxOf CX0 P w K mg base ["word", "before", "pairs", "first", "second", "at", "one", "place", "other"] "exchanged" (defScope s_exchanged) f cdv A outer s H E).nox (defBody s_exchanged) (cS t) } :=
  ⟨_, fun f cdv A outer s H E hr =>
    (dss_cons (ds_setDc 1 rfl sc_exchanged.nd (tg_tup [6, 8]) (by decide) rfl rfl (sw_trueD rfl rfl rfl (by decide +kernel)) (di_seq (de_known k_arcs (hr.mono (by decide)) rfl (da_cons (de_var 0) da_nil))) (blkOk_by (N := ["word", "before", "pairs", "first", "second", "at", "one", "place", "other"]) (sc := defScope s_exchanged) (own := [("one", 6), ("other", 8)]) (by decide +kernel)) (fun _ _ _ _ _ => (pg_tup rfl (pgs_consA (pg_name (i := 6) sc_exchanged.nd rfl (by first | exact Or.inl rfl | exact Or.inr rfl)) (pgs_consA (pg_name (i := 8) sc_exchanged.nd rfl (by first | exact Or.inl rfl | exact Or.inr rfl)) pgs_nilA)))) (fun _ _ _ _ _ => dts_nil) (fun _ _ _ _ _ => (de_var 8)) (fun _ _ _ _ _ => (de_var 6)))
    (dss_cons (by first | exact (ds_par2 3 4 sc_exchanged.nd (dv_cons (de_lst da_nil) (dv_cons (de_lst da_nil) dv_nil))) | exact (ds_parT (is := [3, 4]) (dv_cons (de_lst da_nil) (dv_cons (de_lst da_nil) dv_nil)) (pgs_consA (pg_name (i := 3) sc_exchanged.nd rfl (by first | exact Or.inl rfl | exact Or.inr rfl)) (pgs_consA (pg_name (i := 4) sc_exchanged.nd rfl (by first | exact Or.inl rfl | exact Or.inr rfl)) pgs_nilA))))
    (dss_cons (ds_set 2 sc_exchanged.nd (de_lst da_nil))
    (dss_cons (ds_for PassesOwn.never rfl (di_enum rfl T.b_enumerate (de_known k_ends_of (hr.mono (by decide)) rfl (da_cons (de_var 0) da_nil))) (pg_tup rfl (pgs_consA (pg_name (i := 5) sc_exchanged.nd rfl (by first | exact Or.inl rfl | exact Or.inr rfl)) (pgs_consA (pg_name (i := 6) sc_exchanged.nd rfl (by first | exact Or.inl rfl | exact Or.inr rfl)) pgs_nilA))) (tg_tup [5, 6]) (dss_cons (ds_if (dt_cmp (op_inAll (hu65 hr)) od_in rfl (de_var 6) (de_tup (da_cons de_str (da_cons de_str da_nil)))) (dss_cons (ds_set 7 sc_exchanged.nd (de_index 3 (pe_bm PySem.F.plainAttrs_list PySem.F.slot_list_index PySem.F.type_list_index mt_index (pv 3) (pa_cons (de_dget 1 (hu1 hr) (pv 1) (de_var 5)) pa_nil))))
    (dss_cons (ds_expr (de_popAt 3 (pe_bm PySem.F.plainAttrs_list PySem.F.slot_list_pop PySem.F.type_list_pop mt_popAt (pv 3) (pa_cons (de_var 7) pa_nil))))
    (dss_one (ds_app 2 (pe_bm PySem.F.plainAttrs_list PySem.F.slot_list_append PySem.F.type_list_append mt_append (pv 2) (pa_cons (de_tup (da_cons (de_popAt 4 (pe_bm PySem.F.plainAttrs_list PySem.F.slot_list_pop PySem.F.type_list_pop mt_popAt (pv 4) (pa_cons (de_bin op_sub od_sub (de_bin op_sub od_sub (de_callB1 call_len_seq od_len rfl T.b_len (by decide +kernel) (de_var 4)) de_int) (de_var 7)) pa_nil))) (da_cons (de_var 5) da_nil))) pa_nil)))))) dss_nil)
    (dss_one (ds_if (dt_cmp (op_inAll (hu65 hr)) od_in rfl (de_var 6) (de_tup (da_cons de_str (da_cons de_str da_nil)))) (dss_cons (ds_app 3 (pe_bm PySem.F.plainAttrs_list PySem.F.slot_list_append PySem.F.type_list_append mt_append (pv 3) (pa_cons (de_var 5) pa_nil)))
    (dss_one (ds_app 4 (pe_bm PySem.F.plainAttrs_list PySem.F.slot_list_append PySem.F.type_list_append mt_append (pv 4) (pa_cons (de_var 5) pa_nil))))) dss_nil))))
    (dss_one (ds_ret (de_known k_from_arcs (hr.mono (by decide)) rfl (da_cons (de_callB1 call_len_seq od_len rfl T.b_len (by decide +kernel) (de_var 0)) (da_cons (de_var 2) da_nil)))))))))⟩
def w_law_state (T : Txt K mg)  : { t : TDS // ∀ (f : Addr) (cdv : Value) (A : Around) (outer : List Env) (s : Shared) (H : Hp) (E : XK), Room 0 (A.deeper (PyProof.Rows.envOfC "_law_state" (defScope s_law_state) s.heap.objs.size f cdv)) → PSs (cxOf CX0 P w K mg base ["script", "seed", "cell"] "_law_state" (defScope s_law_state) f cdv A outer s H E).nox (defBody s_law_state) (cS t) } :=
  ⟨_, fun f cdv A outer s H E hr =>
    (dss_cons (ds_set 1 sc_law_state.nd de_int)
    (dss_cons (ds_for PassesOwn.never rfl (di_seq (de_var 0)) (pg_name (i := 2) sc_law_state.nd rfl (by first | exact Or.inl rfl | exact Or.inr rfl)) (tg_name 2) (dss_one (ds_set 1 sc_law_state.nd (de_bin op_mod od_mod (de_callTy1 call_int1 od_int rfl T.b_int (by decide +kernel) (de_bin op_addD od_add (de_bin op_mulD od_mul (de_var 1) de_int) (de_var 2))) de_int))))
    (dss_one (ds_ret (de_lst (da_cons (de_lc rfl sc_law_state.nd (tg_name 2) (by decide) (di_seq (de_var 0)) (blkOk_by (N := ["script", "seed", "cell"]) (sc := defScope s_law_state) (own := [("cell", 2)]) (by decide +kernel)) (fun _ _ _ _ _ => (pg_name (i := 2) sc_law_state.nd rfl (by first | exact Or.inl rfl | exact Or.inr rfl))) (fun _ _ _ _ _ => dts_nil) (fun _ _ _ _ _ => (de_callB1 call_abs od_abs rfl T.b_abs (by decide +kernel) (de_var 2)))) (da_cons (de_bin op_addD od_add (de_var 1) de_int) da_nil)))))))⟩
def w_law_draw (T : Txt K mg)  : { t : TDS // ∀ (f : Addr) (cdv : Value) (A : Around) (outer : List Env) (s : Shared) (H : Hp) (E : XK), Room 0 (A.deeper (PyProof.Rows.envOfC "_law_draw" (defScope s_law_draw) s.heap.objs.size f cdv)) → PSs (cxOf CX0 P w K mg base ["state", "many", "cells", "mixed", "value"] "_law_draw" (defScope s_law_draw) f cdv A outer s H E).nox (defBody s_law_draw) (cS t) } :=
  ⟨_, fun f cdv A outer s H E hr =>
    (dss_cons (ds_set 2 sc_law_draw.nd (de_ix ix_seq od_ix (de_var 0) de_int))
    (dss_cons (ds_while PassesOwn.never (dt_bool (dw_and (dt_cmp op_gt od_gt rfl (de_callB1 call_len_seq od_len rfl T.b_len (by decide +kernel) (de_var 2)) de_int) (dw_and1 (dt_cmp (op_eqD hr.units) od_eq rfl (de_ix ix_seq od_ix (de_var 2) de_int) de_int)))) (dss_one (ds_expr (de_popAt 2 (pe_bm PySem.F.plainAttrs_list PySem.F.slot_list_pop PySem.F.type_list_pop mt_popAt (pv 2) (pa_cons de_int pa_nil))))))
    (dss_cons (ds_if (dt_cmp op_gt od_gt rfl (de_callB1 call_len_seq od_len rfl T.b_len (by decide +kernel) (de_var 2)) de_int) (dss_cons (ds_set 4 sc_law_draw.nd (de_ix ix_seq od_ix (de_var 2) de_int))
    (dss_cons (ds_sub 2 (de_bin op_div od_div (de_var 4) (de_var 1)) de_int)
    (dss_one (ds_ret (de_bin op_mod od_mod (de_callTy1 call_int1 od_int rfl T.b_int (by decide +kernel) (de_var 4)) (de_var 1)))))) dss_nil)
    (dss_cons (ds_set 3 sc_law_draw.nd (de_bin op_mod od_mod (de_callTy1 call_int1 od_int rfl T.b_int (by decide +kernel) (de_bin op_addD od_add (de_bin op_mulD od_mul (de_ix ix_seq od_ix (de_var 0) de_int) de_int) de_int)) de_int))
    (dss_cons (ds_sub 0 (de_var 3) de_int)
    (dss_one (ds_ret (de_bin op_mod od_mod (de_callTy1 call_int1 od_int rfl T.b_int (by decide +kernel) (de_bin op_div od_div (de_var 3) de_int)) (de_var 1)))))))))⟩
def w_law_pick (T : Txt K mg) {s0 : DL.Spec} (k_law_draw : Known P w K mg base "_law_draw" ["state", "many"] 1 s0) : { t : TDS // ∀ (f : Addr) (cdv : Value) (A : Around) (outer : List Env) (s : Shared) (H : Hp) (E : XK), Room 1 (A.deeper (PyProof.Rows.envOfC "_law_pick" (defScope s_law_pick) s.heap.objs.size f cdv)) → PSs (cxOf CX0 P w K mg base ["state", "row"] "_law_pick" (defScope s_law_pick) f cdv A outer s H E).nox (defBody s_law_pick) (cS t) } :=
  ⟨_, fun f cdv A outer s H E hr =>
    (dss_one (ds_ret (de_ix ix_seq od_ix (de_var 1) (de_known k_law_draw (hr.mono (by decide)) rfl (da_cons (de_var 0) (da_cons (de_callB1 call_len_seq od_len rfl T.b_len (by decide +kernel) (de_var 1)) da_nil))))))⟩
def w_law_eq (T : Txt K mg) {s0 : DL.Spec} {n : Nat} (k_law_eq : Known P w K mg base "_law_eq" ["told", "due"] n s0) : { t : TDS // ∀ (f : Addr) (cdv : Value) (A : Around) (outer : List Env) (s : Shared) (H : Hp) (E : XK), Room n (A.deeper (PyProof.Rows.envOfC "_law_eq" (defScope s_law_eq) s.heap.objs.size f cdv)) → PSs (cxOf CX0 P w K mg base ["told", "due", "k"] "_law_eq" (defScope s_law_eq) f cdv A outer s H E).nox (defBody s_law_eq) (cS t) } :=
  ⟨_, fun f cdv A outer s H E hr =>
    (dss_cons (ds_if (dt_bool (dw_or (dt_val (de_isi (T := "list") T.b_isinstance T.b_list rfl rfl (by decide +kernel) (kit_all (by decide +kernel)) (de_var 1) (by decide +kernel))) (dw_or1 (dt_val (de_isi (T := "tuple") T.b_isinstance T.b_tuple rfl rfl (by decide +kernel) (kit_all (by decide +kernel)) (de_var 1) (by decide +kernel)))))) (dss_cons (ds_if (dt_bool (dw_or (dt_cmp (op_neD hr.units) od_ne rfl (de_isi (T := "list") T.b_isinstance T.b_list rfl rfl (by decide +kernel) (kit_all (by decide +kernel)) (de_var 0) (by decide +kernel)) (de_isi (T := "list") T.b_isinstance T.b_list rfl rfl (by decide +kernel) (kit_all (by decide +kernel)) (de_var 1) (by decide +kernel))) (dw_or1 (dt_cmp (op_neD hr.units) od_ne rfl (de_isi (T := "tuple") T.b_isinstance T.b_tuple rfl rfl (by decide +kernel) (kit_all (by decide +kernel)) (de_var 0) (by decide +kernel)) (de_isi (T := "tuple") T.b_isinstance T.b_tuple rfl rfl (by decide +kernel) (kit_all (by decide +kernel)) (de_var 1) (by decide +kernel)))))) (dss_one (ds_ret de_bl)) dss_nil)
    (dss_cons (ds_if (dt_cmp (op_neD hr.units) od_ne rfl (de_callB1 call_len_seq od_len rfl T.b_len (by decide +kernel) (de_var 0)) (de_callB1 call_len_seq od_len rfl T.b_len (by decide +kernel) (de_var 1))) (dss_one (ds_ret de_bl)) dss_nil)
    (dss_one (ds_ret (de_cmp (op_eqD hr.units) od_eq rfl (de_lc rfl sc_law_eq.nd (tg_name 2) (by decide) (di_range1 rfl T.b_range (da_cons (de_callB1 call_len_seq od_len rfl T.b_len (by decide +kernel) (de_var 1)) da_nil)) (blkOk_by (N := ["told", "due", "k"]) (sc := defScope s_law_eq) (own := [("k", 2)]) (by decide +kernel)) (fun _ _ _ _ _ => (pg_name (i := 2) sc_law_eq.nd rfl (by first | exact Or.inl rfl | exact Or.inr rfl))) (fun _ _ _ _ _ => (dts_one (dt_not (dt_val (de_known k_law_eq (hr.mono (by omega)) rfl (da_cons (de_ix ix_seq od_ix (de_var 0) (de_var 2)) (da_cons (de_ix ix_seq od_ix (de_var 1) (de_var 2)) da_nil))))))) (fun _ _ _ _ _ => (de_var 2))) (de_lst da_nil)))))) dss_nil)
    (dss_cons (ds_if (dt_cmp op_isD od_is rfl (de_var 1) de_non) (dss_one (ds_ret (de_cmp op_isD od_is rfl (de_var 0) de_non))) dss_nil)
    (dss_cons (ds_if (dt_val (de_isi (T := "str") T.b_isinstance T.b_str rfl rfl (by decide +kernel) (kit_all (by decide +kernel)) (de_var 1) (by decide +kernel))) (dss_one (ds_ret (de_and (de_isi (T := "str") T.b_isinstance T.b_str rfl rfl (by decide +kernel) (kit_all (by decide +kernel)) (de_var 0) (by decide +kernel)) (de_one (de_cmp (op_eqD hr.units) od_eq rfl (de_var 0) (de_var 1)))))) dss_nil)
    (dss_cons (ds_if (dt_val (de_isi (T := "bool") T.b_isinstance T.b_bool rfl rfl (by decide +kernel) (kit_all (by decide +kernel)) (de_var 1) (by decide +kernel))) (dss_one (ds_ret (de_and (de_isi (T := "bool") T.b_isinstance T.b_bool rfl rfl (by decide +kernel) (kit_all (by decide +kernel)) (de_var 0) (by decide +kernel)) (de_one (de_cmp (op_eqD hr.units) od_eq rfl (de_var 0) (de_var 1)))))) dss_nil)
    (dss_one (ds_ret (de_and (de_isi (T := "int") T.b_isinstance T.b_int rfl rfl (by decide +kernel) (kit_all (by decide +kernel)) (de_var 0) (by decide +kernel)) (de_and (de_not (de_isi (T := "bool") T.b_isinstance T.b_bool rfl rfl (by decide +kernel) (kit_all (by decide +kernel)) (de_var 0) (by decide +kernel))) (de_one (de_cmp (op_eqD hr.units) od_eq rfl (de_var 0) (de_var 1)))))))))))⟩
def w_law_word (T : Txt K mg) {s0 s1 : DL.Spec} (k_law_draw : Known P w K mg base "_law_draw" ["state", "many"] 1 s0) (k_law_pick : Known P w K mg base "_law_pick" ["state", "row"] 2 s1) : { t : TDS // ∀ (f : Addr) (cdv : Value) (A : Around) (outer : List Env) (s : Shared) (H : Hp) (E : XK), Room 2 (A.deeper (PyProof.Rows.envOfC "_law_word" (defScope s_law_word) s.heap.objs.size f cdv)) → PSs (cxOf CX0 P w K mg base ["state", "most", "told", "k"] "_law_word" (defScope s_law_word) f cdv A outer s H E).nox (defBody s_law_word) (cS t) } :=
  ⟨_, fun f cdv A outer s H E hr =>
    (dss_cons (ds_set 2 sc_law_word.nd (de_lst da_nil))
    (dss_cons (ds_for PassesOwn.never rfl (di_range1 rfl T.b_range (da_cons (de_bin op_addD od_add de_int (de_known k_law_draw (hr.mono (by decide)) rfl (da_cons (de_var 0) (da_cons (de_var 1) da_nil)))) da_nil)) (pg_name (i := 3) sc_law_word.nd rfl (by first | exact Or.inl rfl | exact Or.inr rfl)) (tg_name 3) (dss_one (ds_app 2 (pe_bm PySem.F.plainAttrs_list PySem.F.slot_list_append PySem.F.type_list_append mt_append (pv 2) (pa_cons (de_known k_law_draw (hr.mono (by decide)) rfl (da_cons (de_var 0) (da_cons (de_callB (call_min2 rfl) od_min2 rfl T.b_min (by decide +kernel) (da_cons (de_bin op_addD od_add (de_callB1 (cr_maxA rfl) od_max rfl T.b_max (by decide +kernel) (de_bin op_addD od_add (de_lst (da_cons (de_bin op_sub od_sub de_int de_int) da_nil)) (de_var 2))) de_int) (da_cons (de_known k_law_pick (hr.mono (by decide)) rfl (da_cons (de_var 0) (da_cons (de_lst (da_cons de_int (da_cons de_int (da_cons de_int da_nil)))) da_nil))) da_nil))) da_nil))) pa_nil)))))
    (dss_one (ds_ret (de_callTy1 call_tuple_of od_tuple rfl T.b_tuple (by decide +kernel) (de_var 2))))))⟩
def w_law_arcs (T : Txt K mg)  : { t : TDS // ∀ (f : Addr) (cdv : Value) (A : Around) (outer : List Env) (s : Shared) (H : Hp) (E : XK), Room 0 (A.deeper (PyProof.Rows.envOfC "_law_arcs" (defScope s_law_arcs) s.heap.objs.size f cdv)) → PSs (cxOf CX0 P w K mg base ["word", "told", "b", "ahead", "a"] "_law_arcs" (defScope s_law_arcs) f cdv A outer s H E).nox (defBody s_law_arcs) (cS t) } :=
  ⟨_, fun f cdv A outer s H E hr =>
    (dss_cons (ds_set 1 sc_law_arcs.nd (de_lst da_nil))
    (dss_cons (ds_for PassesOwn.never rfl (di_range1 rfl T.b_range (da_cons (de_callB1 call_len_seq od_len rfl T.b_len (by decide +kernel) (de_var 0)) da_nil)) (pg_name (i := 2) sc_law_arcs.nd rfl (by first | exact Or.inl rfl | exact Or.inr rfl)) (tg_name 2) (dss_cons (by first | exact (ds_setLc 3 rfl sc_law_arcs.nd (tg_name 4) (by decide) rfl rfl (sw_true rfl rfl rfl (by decide +kernel)) (di_range1 rfl T.b_range (da_cons (de_var 2) da_nil)) (blkOk_by (N := ["word", "told", "b", "ahead", "a"]) (sc := defScope s_law_arcs) (own := [("a", 4)]) (by decide +kernel)) (fun _ _ _ _ _ => (pg_name (i := 4) sc_law_arcs.nd rfl (by first | exact Or.inl rfl | exact Or.inr rfl))) (fun _ _ _ _ _ => (dts_one (dt_cmp (op_eqD hr.units) od_eq rfl (de_ix ix_seq od_ix (de_var 0) (de_var 4)) (de_ix ix_seq od_ix (de_var 0) (de_var 2))))) (fun _ _ _ _ _ => (de_var 4))) | exact (ds_set 3 sc_law_arcs.nd (de_lc rfl sc_law_arcs.nd (tg_name 4) (by decide) (di_range1 rfl T.b_range (da_cons (de_var 2) da_nil)) (blkOk_by (N := ["word", "told", "b", "ahead", "a"]) (sc := defScope s_law_arcs) (own := [("a", 4)]) (by decide +kernel)) (fun _ _ _ _ _ => (pg_name (i := 4) sc_law_arcs.nd rfl (by first | exact Or.inl rfl | exact Or.inr rfl))) (fun _ _ _ _ _ => (dts_one (dt_cmp (op_eqD hr.units) od_eq rfl (de_ix ix_seq od_ix (de_var 0) (de_var 4)) (de_ix ix_seq od_ix (de_var 0) (de_var 2))))) (fun _ _ _ _ _ => (de_var 4)))))
    (dss_one (ds_set 1 sc_law_arcs.nd (de_bin op_addD od_add (de_var 1) (de_lc rfl sc_law_arcs.nd (tg_name 4) (by decide) (di_seq (de_slice (de_var 3) (do_some (de_un un_neg od_neg de_int)) do_none)) (blkOk_by (N := ["word", "told", "b", "ahead", "a"]) (sc := defScope s_law_arcs) (own := [("a", 4)]) (by decide +kernel)) (fun _ _ _ _ _ => (pg_name (i := 4) sc_law_arcs.nd rfl (by first | exact Or.inl rfl | exact Or.inr rfl))) (fun _ _ _ _ _ => dts_nil) (fun _ _ _ _ _ => (de_tup (da_cons (de_var 4) (da_cons (de_var 2) da_nil))))))))))
    (dss_one (ds_ret (de_callB1 (cr_sortD hr.units) od_sort rfl T.b_sorted (by decide +kernel) (de_var 1))))))⟩
def w_law_count (T : Txt K mg)  : { t : TDS // ∀ (f : Addr) (cdv : Value) (A : Around) (outer : List Env) (s : Shared) (H : Hp) (E : XK), Room 0 (A.deeper (PyProof.Rows.envOfC "_law_count" (defScope s_law_count) s.heap.objs.size f cdv)) → PSs (cxOf CX0 P w K mg base ["rows", "nested", "told", "a", "b", "c", "d"] "_law_count" (defScope s_law_count) f cdv A outer s H E).nox (defBody s_law_count) (cS t) } :=
  ⟨_, fun f cdv A outer s H E hr =>
    (dss_cons (ds_set 2 sc_law_count.nd de_int)
    (dss_cons (ds_for PassesOwn.never rfl (di_seq (de_var 0)) (pg_tup rfl (pgs_consA (pg_name (i := 3) sc_law_count.nd rfl (by first | exact Or.inl rfl | exact Or.inr rfl)) (pgs_consA (pg_name (i := 4) sc_law_count.nd rfl (by first | exact Or.inl rfl | exact Or.inr rfl)) pgs_nilA))) (tg_tup [3, 4]) (dss_one (ds_set 2 sc_law_count.nd (de_bin op_addD od_add (de_var 2) (de_callB1 call_len_seq od_len rfl T.b_len (by decide +kernel) (de_lc rfl sc_law_count.nd (tg_tup [5, 6]) (by decide) (di_seq (de_var 0)) (blkOk_by (N := ["rows", "nested", "told", "a", "b", "c", "d"]) (sc := defScope s_law_count) (own := [("c", 5), ("d", 6)]) (by decide +kernel)) (fun _ _ _ _ _ => (pg_tup rfl (pgs_consA (pg_name (i := 5) sc_law_count.nd rfl (by first | exact Or.inl rfl | exact Or.inr rfl)) (pgs_consA (pg_name (i := 6) sc_law_count.nd rfl (by first | exact Or.inl rfl | exact Or.inr rfl)) pgs_nilA)))) (fun _ _ _ _ _ => (dts_one (dt_bool (dw_and (dt_cmp op_lt od_lt rfl (de_var 3) (de_var 5)) (dw_and1 (dt_ifE (dt_val (de_var 1)) (dt_chain op_lt od_lt op_lt od_lt (de_var 5) (de_var 6) (de_var 4)) (dt_chain op_lt od_lt op_lt od_lt (de_var 5) (de_var 4) (de_var 6)))))))) (fun _ _ _ _ _ => de_int)))))))
    (dss_one (ds_ret (de_var 2)))))⟩
def w_law_ends (T : Txt K mg) {s0 : DL.Spec} (k_law_arcs : Known P w K mg base "_law_arcs" ["word"] 1 s0) : { t : TDS // ∀ (f : Addr) (cdv : Value) (A : Around) (outer : List Env) (s : Shared) (H : Hp) (E : XK), Room 1 (A.deeper (PyProof.Rows.envOfC "_law_ends" (defScope s_law_ends) s.heap.objs.size f cdv)) → PSs (cxOf CX0 P w K mg base ["word", "k", "rows", "told", "first", "last", "a", "b"] "_law_ends" (defScope s_law_ends) f cdv A outer s H E).nox (defBody s_law_ends) (cS t) } :=
  ⟨_, fun f cdv A outer s H E hr =>
    (dss_cons (by first | exact (ds_par2 2 3 sc_law_ends.nd (dv_cons (de_known k_law_arcs (hr.mono (by decide)) rfl (da_cons (de_var 0) da_nil)) (dv_cons (de_lst da_nil) dv_nil))) | exact (ds_parT (is := [2, 3]) (dv_cons (de_known k_law_arcs (hr.mono (by decide)) rfl (da_cons (de_var 0) da_nil)) (dv_cons (de_lst da_nil) dv_nil)) (pgs_consA (pg_name (i := 2) sc_law_ends.nd rfl (by first | exact Or.inl rfl | exact Or.inr rfl)) (pgs_consA (pg_name (i := 3) sc_law_ends.nd rfl (by first | exact Or.inl rfl | exact Or.inr rfl)) pgs_nilA))))
    (dss_cons (ds_for PassesOwn.never rfl (di_range1 rfl T.b_range (da_cons (de_callB1 call_len_seq od_len rfl T.b_len (by decide +kernel) (de_var 0)) da_nil)) (pg_name (i := 1) sc_law_ends.nd rfl (by first | exact Or.inl rfl | exact Or.inr rfl)) (tg_name 1) (dss_cons (by first | exact (ds_par2 4 5 sc_law_ends.nd (dv_cons (de_cmp (op_neD hr.units) od_ne rfl (de_lc rfl sc_law_ends.nd (tg_tup [6, 7]) (by decide) (di_seq (de_var 2)) (blkOk_by (N := ["word", "k", "rows", "told", "first", "last", "a", "b"]) (sc := defScope s_law_ends) (own := [("a", 6), ("b", 7)]) (by decide +kernel)) (fun _ _ _ _ _ => (pg_tup rfl (pgs_consA (pg_name (i := 6) sc_law_ends.nd rfl (by first | exact Or.inl rfl | exact Or.inr rfl)) (pgs_consA (pg_name (i := 7) sc_law_ends.nd rfl (by first | exact Or.inl rfl | exact Or.inr rfl)) pgs_nilA)))) (fun _ _ _ _ _ => (dts_one (dt_cmp (op_eqD hr.units) od_eq rfl (de_var 6) (de_var 1)))) (fun _ _ _ _ _ => de_int)) (de_lst da_nil)) (dv_cons (de_cmp (op_neD hr.units) od_ne rfl (de_lc rfl sc_law_ends.nd (tg_tup [6, 7]) (by decide) (di_seq (de_var 2)) (blkOk_by (N := ["word", "k", "rows", "told", "first", "last", "a", "b"]) (sc := defScope s_law_ends) (own := [("a", 6), ("b", 7)]) (by decide +kernel)) (fun _ _ _ _ _ => (pg_tup rfl (pgs_consA (pg_name (i := 6) sc_law_ends.nd rfl (by first | exact Or.inl rfl | exact Or.inr rfl)) (pgs_consA (pg_name (i := 7) sc_law_ends.nd rfl (by first | exact Or.inl rfl | exact Or.inr rfl)) pgs_nilA)))) (fun _ _ _ _ _ => (dts_one (dt_cmp (op_eqD hr.units) od_eq rfl (de_var 7) (de_var 1)))) (fun _ _ _ _ _ => de_int)) (de_lst da_nil)) dv_nil))) | exact (ds_parT (is := [4, 5]) (dv_cons (de_cmp (op_neD hr.units) od_ne rfl (de_lc rfl sc_law_ends.nd (tg_tup [6, 7]) (by decide) (di_seq (de_var 2)) (blkOk_by (N := ["word", "k", "rows", "told", "first", "last", "a", "b"]) (sc := defScope s_law_ends) (own := [("a", 6), ("b", 7)]) (by decide +kernel)) (fun _ _ _ _ _ => (pg_tup rfl (pgs_consA (pg_name (i := 6) sc_law_ends.nd rfl (by first | exact Or.inl rfl | exact Or.inr rfl)) (pgs_consA (pg_name (i := 7) sc_law_ends.nd rfl (by first | exact Or.inl rfl | exact Or.inr rfl)) pgs_nilA)))) (fun _ _ _ _ _ => (dts_one (dt_cmp (op_eqD hr.units) od_eq rfl (de_var 6) (de_var 1)))) (fun _ _ _ _ _ => de_int)) (de_lst da_nil)) (dv_cons (de_cmp (op_neD hr.units) od_ne rfl (de_lc rfl sc_law_ends.nd (tg_tup [6, 7]) (by decide) (di_seq (de_var 2)) (blkOk_by (N := ["word", "k", "rows", "told", "first", "last", "a", "b"]) (sc := defScope s_law_ends) (own := [("a", 6), ("b", 7)]) (by decide +kernel)) (fun _ _ _ _ _ => (pg_tup rfl (pgs_consA (pg_name (i := 6) sc_law_ends.nd rfl (by first | exact Or.inl rfl | exact Or.inr rfl)) (pgs_consA (pg_name (i := 7) sc_law_ends.nd rfl (by first | exact Or.inl rfl | exact Or.inr rfl)) pgs_nilA)))) (fun _ _ _ _ _ => (dts_one (dt_cmp (op_eqD hr.units) od_eq rfl (de_var 7) (de_var 1)))) (fun _ _ _ _ _ => de_int)) (de_lst da_nil)) dv_nil)) (pgs_consA (pg_name (i := 4) sc_law_ends.nd rfl (by first | exact Or.inl rfl | exact Or.inr rfl)) (pgs_consA (pg_name (i := 5) sc_law_ends.nd rfl (by first | exact Or.inl rfl | exact Or.inr rfl)) pgs_nilA))))
    (dss_one (ds_app 3 (pe_bm PySem.F.plainAttrs_list PySem.F.slot_list_append PySem.F.type_list_append mt_append (pv 3) (pa_cons (de_if (dt_bool (dw_and (dt_val (de_var 4)) (dw_and1 (dt_val (de_var 5))))) de_str (de_if (dt_val (de_var 4)) de_str (de_if (dt_val (de_var 5)) de_str de_str))) pa_nil))))))
    (dss_one (ds_ret (de_callTy1 call_tuple_of od_tuple rfl T.b_tuple (by decide +kernel) (de_var 3))))))⟩
def w_law_read (T : Txt K mg) {s0 : DL.Spec} (k_law_arcs : Known P w K mg base "_law_arcs" ["word"] 1 s0) : { t : TDS // ∀ (f : Addr) (cdv : Value) (A : Around) (outer : List Env) (s : Shared) (H : Hp) (E : XK), Room 1 (A.deeper (PyProof.Rows.envOfC "_law_read" (defScope s_law_read) s.heap.objs.size f cdv)) → PSs (cxOf CX0 P w K mg base ["row", "way", "word", "k", "left", "told", "rows", "mine", "at", "own", "a", "b"] "_law_read" (defScope s_law_read) f cdv A outer s H E).nox (defBody s_law_read) (cS t) } :=
  ⟨_, fun f cdv A outer s H E hr =>
    (dss_cons (ds_parT (is := [4, 5, 6, 7]) (dv_cons (de_lst da_nil) (dv_cons (de_lst da_nil) (dv_cons (de_if (dt_cmp (op_eqD hr.units) od_eq rfl (de_var 1) de_int) (de_known k_law_arcs (hr.mono (by decide)) rfl (da_cons (de_var 2) da_nil)) (de_lst da_nil)) (dv_cons (de_lst da_nil) dv_nil)))) (pgs_consA (pg_name (i := 4) sc_law_read.nd rfl (by first | exact Or.inl rfl | exact Or.inr rfl)) (pgs_consA (pg_name (i := 5) sc_law_read.nd rfl (by first | exact Or.inl rfl | exact Or.inr rfl)) (pgs_consA (pg_name (i := 6) sc_law_read.nd rfl (by first | exact Or.inl rfl | exact Or.inr rfl)) (pgs_consA (pg_name (i := 7) sc_law_read.nd rfl (by first | exact Or.inl rfl | exact Or.inr rfl)) pgs_nilA)))))
    (dss_cons (ds_for PassesOwn.never rfl (di_range1 rfl T.b_range (da_cons (de_callB1 call_len_seq od_len rfl T.b_len (by decide +kernel) (de_var 0)) da_nil)) (pg_name (i := 3) sc_law_read.nd rfl (by first | exact Or.inl rfl | exact Or.inr rfl)) (tg_name 3) (dss_cons (ds_if (dt_cmp (op_inAll (hu65 hr)) od_in rfl (de_ix ix_seq od_ix (de_var 0) (de_var 3)) (de_tup (da_cons de_str (da_cons de_str da_nil)))) (dss_cons (ds_if (dt_cmp (op_eqD hr.units) od_eq rfl (de_var 4) (de_lst da_nil)) (dss_one (ds_ret de_non)) dss_nil)
    (dss_cons (ds_set 8 sc_law_read.nd (de_if (dt_cmp (op_eqD hr.units) od_eq rfl (de_var 1) de_int) (de_bin op_sub od_sub (de_callB1 call_len_seq od_len rfl T.b_len (by decide +kernel) (de_var 4)) de_int) de_int))
    (dss_cons (ds_if (dt_cmp (op_eqD hr.units) od_eq rfl (de_var 1) de_int) (dss_cons (ds_set 9 sc_law_read.nd (de_ix ix_seq od_ix (de_lc rfl sc_law_read.nd (tg_tup [10, 11]) (by decide) (di_seq (de_var 6)) (blkOk_by (N := ["row", "way", "word", "k", "left", "told", "rows", "mine", "at", "own", "a", "b"]) (sc := defScope s_law_read) (own := [("a", 10), ("b", 11)]) (by decide +kernel)) (fun _ _ _ _ _ => (pg_tup rfl (pgs_consA (pg_name (i := 10) sc_law_read.nd rfl (by first | exact Or.inl rfl | exact Or.inr rfl)) (pgs_consA (pg_name (i := 11) sc_law_read.nd rfl (by first | exact Or.inl rfl | exact Or.inr rfl)) pgs_nilA)))) (fun _ _ _ _ _ => (dts_one (dt_cmp (op_eqD hr.units) od_eq rfl (de_var 11) (de_var 3)))) (fun _ _ _ _ _ => (de_var 10))) de_int))
    (dss_cons (ds_set 8 sc_law_read.nd (de_bin op_sub od_sub (de_bin op_sub od_sub (de_callB1 call_len_seq od_len rfl T.b_len (by decide +kernel) (de_var 7)) de_int) (de_index 7 (pe_bm PySem.F.plainAttrs_list PySem.F.slot_list_index PySem.F.type_list_index mt_index (pv 7) (pa_cons (de_var 9) pa_nil)))))
    (dss_one (ds_remove 7 (pe_bm PySem.F.plainAttrs_list PySem.F.slot_list_remove PySem.F.type_list_remove mt_remove (pv 7) (pa_cons (de_var 9) pa_nil)))))) dss_nil)
    (dss_one (ds_app 5 (pe_bm PySem.F.plainAttrs_list PySem.F.slot_list_append PySem.F.type_list_append mt_append (pv 5) (pa_cons (de_tup (da_cons (de_popAt 4 (pe_bm PySem.F.plainAttrs_list PySem.F.slot_list_pop PySem.F.type_list_pop mt_popAt (pv 4) (pa_cons (de_var 8) pa_nil))) (da_cons (de_var 3) da_nil))) pa_nil))))))) dss_nil)
    (dss_one (ds_if (dt_cmp (op_inAll (hu65 hr)) od_in rfl (de_ix ix_seq od_ix (de_var 0) (de_var 3)) (de_tup (da_cons de_str (da_cons de_str da_nil)))) (dss_cons (ds_app 4 (pe_bm PySem.F.plainAttrs_list PySem.F.slot_list_append PySem.F.type_list_append mt_append (pv 4) (pa_cons (de_var 3) pa_nil)))
    (dss_one (ds_app 7 (pe_bm PySem.F.plainAttrs_list PySem.F.slot_list_append PySem.F.type_list_append mt_append (pv 7) (pa_cons (de_var 3) pa_nil))))) dss_nil))))
    (dss_one (ds_ret (de_if (dt_cmp (op_eqD hr.units) od_eq rfl (de_var 4) (de_lst da_nil)) (de_callB1 (cr_sortD hr.units) od_sort rfl T.b_sorted (by decide +kernel) (de_var 5)) de_non)))))⟩
def w_law_made (T : Txt K mg)  : { t : TDS // ∀ (f : Addr) (cdv : Value) (A : Around) (outer : List Env) (s : Shared) (H : Hp) (E : XK), Room 0 (A.deeper (PyProof.Rows.envOfC "_law_made" (defScope s_law_made) s.heap.objs.size f cdv)) → PSs (cxOf CX0 P w K mg base ["many", "rows", "k", "told", "new", "ahead", "a", "b"] "_law_made" (defScope s_law_made) f cdv A outer s H E).nox (defBody s_law_made) (cS t) } :=
  ⟨_, fun f cdv A outer s H E hr =>
    (dss_cons (by first | exact (ds_par2 3 4 sc_law_made.nd (dv_cons (de_lst da_nil) (dv_cons de_int dv_nil))) | exact (ds_parT (is := [3, 4]) (dv_cons (de_lst da_nil) (dv_cons de_int dv_nil)) (pgs_consA (pg_name (i := 3) sc_law_made.nd rfl (by first | exact Or.inl rfl | exact Or.inr rfl)) (pgs_consA (pg_name (i := 4) sc_law_made.nd rfl (by first | exact Or.inl rfl | exact Or.inr rfl)) pgs_nilA))))
    (dss_cons (ds_for PassesOwn.never rfl (di_range1 rfl T.b_range (da_cons (de_var 0) da_nil)) (pg_name (i := 2) sc_law_made.nd rfl (by first | exact Or.inl rfl | exact Or.inr rfl)) (tg_name 2) (dss_cons (by first | exact (ds_setLc 5 rfl sc_law_made.nd (tg_tup [6, 7]) (by decide) rfl rfl (sw_true rfl rfl rfl (by decide +kernel)) (di_seq (de_var 1)) (blkOk_by (N := ["many", "rows", "k", "told", "new", "ahead", "a", "b"]) (sc := defScope s_law_made) (own := [("a", 6), ("b", 7)]) (by decide +kernel)) (fun _ _ _ _ _ => (pg_tup rfl (pgs_consA (pg_name (i := 6) sc_law_made.nd rfl (by first | exact Or.inl rfl | exact Or.inr rfl)) (pgs_consA (pg_name (i := 7) sc_law_made.nd rfl (by first | exact Or.inl rfl | exact Or.inr rfl)) pgs_nilA)))) (fun _ _ _ _ _ => (dts_one (dt_cmp (op_eqD hr.units) od_eq rfl (de_var 7) (de_var 2)))) (fun _ _ _ _ _ => (de_var 6))) | exact (ds_set 5 sc_law_made.nd (de_lc rfl sc_law_made.nd (tg_tup [6, 7]) (by decide) (di_seq (de_var 1)) (blkOk_by (N := ["many", "rows", "k", "told", "new", "ahead", "a", "b"]) (sc := defScope s_law_made) (own := [("a", 6), ("b", 7)]) (by decide +kernel)) (fun _ _ _ _ _ => (pg_tup rfl (pgs_consA (pg_name (i := 6) sc_law_made.nd rfl (by first | exact Or.inl rfl | exact Or.inr rfl)) (pgs_consA (pg_name (i := 7) sc_law_made.nd rfl (by first | exact Or.inl rfl | exact Or.inr rfl)) pgs_nilA)))) (fun _ _ _ _ _ => (dts_one (dt_cmp (op_eqD hr.units) od_eq rfl (de_var 7) (de_var 2)))) (fun _ _ _ _ _ => (de_var 6)))))
    (dss_cons (ds_app 3 (pe_bm PySem.F.plainAttrs_list PySem.F.slot_list_append PySem.F.type_list_append mt_append (pv 3) (pa_cons (de_if (dt_cmp (op_neD hr.units) od_ne rfl (de_var 5) (de_lst da_nil)) (de_ix ix_seq od_ix (de_var 3) (de_ix ix_seq od_ix (de_var 5) de_int)) (de_var 4)) pa_nil)))
    (dss_one (ds_set 4 sc_law_made.nd (de_bin op_addD od_add (de_var 4) (de_callTy1 call_int1 od_int rfl T.b_int (by decide +kernel) (de_cmp (op_eqD hr.units) od_eq rfl (de_var 5) (de_lst da_nil)))))))))
    (dss_one (ds_ret (de_callTy1 call_tuple_of od_tuple rfl T.b_tuple (by decide +kernel) (de_var 3))))))⟩
def w_law (T : Txt K mg) {s0 s1 s2 s3 s4 s5 s6 s7 s8 s9 s10 s11 s12 s13 s14 s15 s16 s17 s18 s19 s20 : DL.Spec} (k_law_arcs : Known P w K mg base "_law_arcs" ["word"] 1 s0) (k_law_count : Known P w K mg base "_law_count" ["rows", "nested"] 1 s1) (k_law_draw : Known P w K mg base "_law_draw" ["state", "many"] 1 s2) (k_law_ends : Known P w K mg base "_law_ends" ["word"] 2 s3) (k_law_eq : Known P w K mg base "_law_eq" ["told", "due"] 4 s4) (k_law_made : Known P w K mg base "_law_made" ["many", "rows"] 1 s5) (k_law_pick : Known P w K mg base "_law_pick" ["state", "row"] 2 s6) (k_law_read : Known P w K mg base "_law_read" ["row", "way", "word"] 2 s7) (k_law_word : Known P w K mg base "_law_word" ["state", "most"] 3 s9) (k_arcs : Known P w K mg base "arcs" ["word"] 1 s10) (k_count_all_lots : Known P w K mg base "count_all_lots" ["n"] 1 s11) (k_count_lots : Known P w K mg base "count_lots" ["n", "k"] 1 s12) (k_crossings : Known P w K mg base "crossings" ["word"] 2 s13) (k_ends_of : Known P w K mg base "ends_of" ["word"] 2 s14) (k_exchanged : Known P w K mg base "exchanged" ["word"] 3 s15) (k_from_arcs : Known P w K mg base "from_arcs" ["n", "pairs"] 1 s16) (k_is_growing : Known P w K mg base "is_growing" ["word"] 1 s17) (k_nestings : Known P w K mg base "nestings" ["word"] 2 s18) (k_without_crossings : Known P w K mg base "without_crossings" ["row"] 3 s19) (k_without_nestings : Known P w K mg base "without_nestings" ["row"] 3 s20) : { t : TDS // ∀ (f : Addr) (cdv : Value) (A : Around) (outer : List Env) (s : Shared) (H : Hp) (E : XK), Room 4 (A.deeper (PyProof.Rows.envOfC "law" (defScope s_law) s.heap.objs.size f cdv)) → PSs (cxOf CX0 P w K mg base ["script", "state", "turn", "n", "line", "k", "word", "other", "some", "due", "bent", "fine", "many", "rows", "row", "cross", "nest", "plain", "flat", "j", "pair"] "law" (defScope s_law) f cdv A outer s H E).nox (defBody s_law).tail (cS t) } :=
  ⟨_, fun f cdv A outer s H E hr =>
    (dss_cons (ds_for PassesOwn.never rfl (di_range1 rfl T.b_range (da_cons de_int da_nil)) (pg_name (i := 2) sc_law.nd rfl (by first | exact Or.inl rfl | exact Or.inr rfl)) (tg_name 2) (dss_cons (ds_set 6 sc_law.nd (de_known k_law_word (hr.mono (by decide)) rfl (da_cons (de_var 1) (da_cons de_int da_nil))))
    (dss_cons (by first | exact (ds_par3 12 13 14 sc_law.nd (dv_cons (de_callB1 call_len_seq od_len rfl T.b_len (by decide +kernel) (de_var 6)) (dv_cons (de_known k_law_arcs (hr.mono (by decide)) rfl (da_cons (de_var 6) da_nil)) (dv_cons (de_known k_law_ends (hr.mono (by decide)) rfl (da_cons (de_var 6) da_nil)) dv_nil)))) | exact (ds_parT (is := [12, 13, 14]) (dv_cons (de_callB1 call_len_seq od_len rfl T.b_len (by decide +kernel) (de_var 6)) (dv_cons (de_known k_law_arcs (hr.mono (by decide)) rfl (da_cons (de_var 6) da_nil)) (dv_cons (de_known k_law_ends (hr.mono (by decide)) rfl (da_cons (de_var 6) da_nil)) dv_nil))) (pgs_consA (pg_name (i := 12) sc_law.nd rfl (by first | exact Or.inl rfl | exact Or.inr rfl)) (pgs_consA (pg_name (i := 13) sc_law.nd rfl (by first | exact Or.inl rfl | exact Or.inr rfl)) (pgs_consA (pg_name (i := 14) sc_law.nd rfl (by first | exact Or.inl rfl | exact Or.inr rfl)) pgs_nilA)))))
    (dss_cons (ds_if (dt_bool (dw_or (dt_cmp op_isNotD od_isNot rfl (de_known k_is_growing (hr.mono (by decide)) rfl (da_cons (de_var 6) da_nil)) de_bl) (dw_or (dt_not (dt_val (de_known k_law_eq (hr.mono (by decide)) rfl (da_cons (de_lc rfl sc_law.nd (tg_name 20) (by decide) (di_seq (de_known k_arcs (hr.mono (by decide)) rfl (da_cons (de_var 6) da_nil))) (blkOk_by (N := ["script", "state", "turn", "n", "line", "k", "word", "other", "some", "due", "bent", "fine", "many", "rows", "row", "cross", "nest", "plain", "flat", "j", "pair"]) (sc := defScope s_law) (own := [("pair", 20)]) (by decide +kernel)) (fun _ _ _ _ _ => (pg_name (i := 20) sc_law.nd rfl (by first | exact Or.inl rfl | exact Or.inr rfl))) (fun _ _ _ _ _ => dts_nil) (fun _ _ _ _ _ => (de_callTy1 call_tuple_of od_tuple rfl T.b_tuple (by decide +kernel) (de_var 20)))) (da_cons (de_var 13) da_nil))))) (dw_or1 (dt_not (dt_val (de_known k_law_eq (hr.mono (by decide)) rfl (da_cons (de_lst (da_cons (de_known k_from_arcs (hr.mono (by decide)) rfl (da_cons (de_var 12) (da_cons (de_callTy1 call_list_of od_list rfl T.b_list (by decide +kernel) (de_var 13)) da_nil))) (da_cons (de_callTy1 call_tuple_of od_tuple rfl T.b_tuple (by decide +kernel) (de_known k_ends_of (hr.mono (by decide)) rfl (da_cons (de_var 6) da_nil))) da_nil))) (da_cons (de_lst (da_cons (de_var 6) (da_cons (de_var 14) da_nil))) da_nil))))))))) (dss_one (ds_ret de_bl)) dss_nil)
    (dss_cons (by first | exact (ds_par2 15 16 sc_law.nd (dv_cons (de_known k_law_count (hr.mono (by decide)) rfl (da_cons (de_var 13) (da_cons de_bl da_nil))) (dv_cons (de_known k_law_count (hr.mono (by decide)) rfl (da_cons (de_var 13) (da_cons de_bl da_nil))) dv_nil))) | exact (ds_parT (is := [15, 16]) (dv_cons (de_known k_law_count (hr.mono (by decide)) rfl (da_cons (de_var 13) (da_cons de_bl da_nil))) (dv_cons (de_known k_law_count (hr.mono (by decide)) rfl (da_cons (de_var 13) (da_cons de_bl da_nil))) dv_nil)) (pgs_consA (pg_name (i := 15) sc_law.nd rfl (by first | exact Or.inl rfl | exact Or.inr rfl)) (pgs_consA (pg_name (i := 16) sc_law.nd rfl (by first | exact Or.inl rfl | exact Or.inr rfl)) pgs_nilA))))
    (dss_cons (ds_if (dt_not (dt_val (de_known k_law_eq (hr.mono (by decide)) rfl (da_cons (de_lst (da_cons (de_known k_crossings (hr.mono (by decide)) rfl (da_cons (de_var 6) da_nil)) (da_cons (de_known k_nestings (hr.mono (by decide)) rfl (da_cons (de_var 6) da_nil)) da_nil))) (da_cons (de_lst (da_cons (de_var 15) (da_cons (de_var 16) da_nil))) da_nil))))) (dss_one (ds_ret de_bl)) dss_nil)
    (dss_cons (by first | exact (ds_par2 17 18 sc_law.nd (dv_cons (de_known k_law_made (hr.mono (by decide)) rfl (da_cons (de_var 12) (da_cons (de_known k_law_read (hr.mono (by decide)) rfl (da_cons (de_var 14) (da_cons de_int (da_cons (de_var 6) da_nil)))) da_nil))) (dv_cons (de_known k_law_made (hr.mono (by decide)) rfl (da_cons (de_var 12) (da_cons (de_known k_law_read (hr.mono (by decide)) rfl (da_cons (de_var 14) (da_cons de_int (da_cons (de_var 6) da_nil)))) da_nil))) dv_nil))) | exact (ds_parT (is := [17, 18]) (dv_cons (de_known k_law_made (hr.mono (by decide)) rfl (da_cons (de_var 12) (da_cons (de_known k_law_read (hr.mono (by decide)) rfl (da_cons (de_var 14) (da_cons de_int (da_cons (de_var 6) da_nil)))) da_nil))) (dv_cons (de_known k_law_made (hr.mono (by decide)) rfl (da_cons (de_var 12) (da_cons (de_known k_law_read (hr.mono (by decide)) rfl (da_cons (de_var 14) (da_cons de_int (da_cons (de_var 6) da_nil)))) da_nil))) dv_nil)) (pgs_consA (pg_name (i := 17) sc_law.nd rfl (by first | exact Or.inl rfl | exact Or.inr rfl)) (pgs_consA (pg_name (i := 18) sc_law.nd rfl (by first | exact Or.inl rfl | exact Or.inr rfl)) pgs_nilA))))
    (dss_cons (ds_if (dt_bool (dw_or (dt_not (dt_val (de_known k_law_eq (hr.mono (by decide)) rfl (da_cons (de_lst (da_cons (de_known k_without_crossings (hr.mono (by decide)) rfl (da_cons (de_var 14) da_nil)) (da_cons (de_known k_without_nestings (hr.mono (by decide)) rfl (da_cons (de_var 14) da_nil)) da_nil))) (da_cons (de_lst (da_cons (de_var 17) (da_cons (de_var 18) da_nil))) da_nil))))) (dw_or (dt_cmp (op_neD hr.units) od_ne rfl (de_known k_crossings (hr.mono (by decide)) rfl (da_cons (de_var 17) da_nil)) de_int) (dw_or1 (dt_cmp (op_neD hr.units) od_ne rfl (de_known k_nestings (hr.mono (by decide)) rfl (da_cons (de_var 18) da_nil)) de_int))))) (dss_one (ds_ret de_bl)) dss_nil)
    (dss_cons (ds_set 7 sc_law.nd (de_known k_law_made (hr.mono (by decide)) rfl (da_cons (de_var 12) (da_cons (de_known k_law_read (hr.mono (by decide)) rfl (da_cons (de_var 14) (da_cons de_int (da_cons (de_var 6) da_nil)))) da_nil))))
    (dss_cons (ds_if (dt_bool (dw_or (dt_not (dt_val (de_known k_law_eq (hr.mono (by decide)) rfl (da_cons (de_lst (da_cons (de_known k_exchanged (hr.mono (by decide)) rfl (da_cons (de_var 6) da_nil)) (da_cons (de_known k_exchanged (hr.mono (by decide)) rfl (da_cons (de_var 7) da_nil)) da_nil))) (da_cons (de_lst (da_cons (de_var 7) (da_cons (de_var 6) da_nil))) da_nil))))) (dw_or1 (dt_cmp (op_neD hr.units) od_ne rfl (de_lst (da_cons (de_known k_crossings (hr.mono (by decide)) rfl (da_cons (de_var 7) da_nil)) (da_cons (de_known k_nestings (hr.mono (by decide)) rfl (da_cons (de_var 7) da_nil)) da_nil))) (de_lst (da_cons (de_var 16) (da_cons (de_var 15) da_nil))))))) (dss_one (ds_ret de_bl)) dss_nil)
    (dss_cons (ds_set 8 sc_law.nd (de_callTy1 call_tuple_of od_tuple rfl T.b_tuple (by decide +kernel) (de_lc rfl sc_law.nd (tg_name 5) (by decide) (di_range1 rfl T.b_range (da_cons (de_bin op_addD od_add de_int (de_known k_law_draw (hr.mono (by decide)) rfl (da_cons (de_var 1) (da_cons de_int da_nil)))) da_nil)) (blkOk_by (N := ["script", "state", "turn", "n", "line", "k", "word", "other", "some", "due", "bent", "fine", "many", "rows", "row", "cross", "nest", "plain", "flat", "j", "pair"]) (sc := defScope s_law) (own := [("k", 5)]) (by decide +kernel)) (fun _ _ _ _ _ => (pg_name (i := 5) sc_law.nd rfl (by first | exact Or.inl rfl | exact Or.inr rfl))) (fun _ _ _ _ _ => dts_nil) (fun _ _ _ _ _ => (de_known k_law_pick (hr.mono (by decide)) rfl (da_cons (de_var 1) (da_cons (de_lst (da_cons de_str (da_cons de_str (da_cons de_str (da_cons de_str da_nil))))) da_nil)))))))
    (dss_cons (ds_set 9 sc_law.nd (de_known k_law_read (hr.mono (by decide)) rfl (da_cons (de_var 8) (da_cons de_int (da_cons (de_tup da_nil) da_nil)))))
    (dss_cons (ds_if (dt_bool (dw_or (dt_cmp (op_neD hr.units) od_ne rfl (de_cmp op_isD od_is rfl (de_known k_without_crossings (hr.mono (by decide)) rfl (da_cons (de_var 8) da_nil)) de_non) (de_cmp op_isD od_is rfl (de_var 9) de_non)) (dw_or1 (dt_cmp (op_neD hr.units) od_ne rfl (de_cmp op_isD od_is rfl (de_known k_without_nestings (hr.mono (by decide)) rfl (da_cons (de_var 8) da_nil)) de_non) (de_cmp op_isD od_is rfl (de_var 9) de_non))))) (dss_one (ds_ret de_bl)) dss_nil)
    (dss_cons (ds_if (dt_bool (dw_and (dt_cmp op_isNotD od_isNot rfl (de_var 9) de_non) (dw_and1 (dt_not (dt_val (de_known k_law_eq (hr.mono (by decide)) rfl (da_cons (de_known k_without_crossings (hr.mono (by decide)) rfl (da_cons (de_var 8) da_nil)) (da_cons (de_known k_law_made (hr.mono (by decide)) rfl (da_cons (de_callB1 call_len_seq od_len rfl T.b_len (by decide +kernel) (de_var 8)) (da_cons (de_var 9) da_nil))) da_nil)))))))) (dss_one (ds_ret de_bl)) dss_nil)
    (dss_cons (ds_set 10 sc_law.nd (de_callTy1 call_list_of od_list rfl T.b_list (by decide +kernel) (de_var 6)))
    (dss_cons (ds_sub 10 (de_known k_law_pick (hr.mono (by decide)) rfl (da_cons (de_var 1) (da_cons (de_lst (da_cons de_int (da_cons (de_bin op_sub od_sub de_int de_int) (da_cons (de_var 12) (da_cons (de_bin op_addD od_add (de_callB1 (cr_maxA rfl) od_max rfl T.b_max (by decide +kernel) (de_var 6)) de_int) (da_cons de_int da_nil)))))) da_nil))) (de_known k_law_draw (hr.mono (by decide)) rfl (da_cons (de_var 1) (da_cons (de_var 12) da_nil))))
    (dss_cons (ds_set 11 sc_law.nd (de_cmp (op_eqD hr.units) od_eq rfl (de_lc rfl sc_law.nd (tg_name 5) (by decide) (di_range1 rfl T.b_range (da_cons (de_var 12) da_nil)) (blkOk_by (N := ["script", "state", "turn", "n", "line", "k", "word", "other", "some", "due", "bent", "fine", "many", "rows", "row", "cross", "nest", "plain", "flat", "j", "pair"]) (sc := defScope s_law) (own := [("k", 5)]) (by decide +kernel)) (fun _ _ _ _ _ => (pg_name (i := 5) sc_law.nd rfl (by first | exact Or.inl rfl | exact Or.inr rfl))) (fun _ _ _ _ _ => (dts_one (dt_not (dt_chain op_le od_le op_le od_le de_int (de_ix ix_seq od_ix (de_var 10) (de_var 5)) (de_bin op_addD od_add (de_callB1 (cr_maxA rfl) od_max rfl T.b_max (by decide +kernel) (de_bin op_addD od_add (de_lst (da_cons (de_bin op_sub od_sub de_int de_int) da_nil)) (de_slice (de_var 10) do_none (do_some (de_var 5))))) de_int))))) (fun _ _ _ _ _ => (de_var 5))) (de_lst da_nil)))
    (dss_one (ds_if (dt_not (dt_val (de_known k_law_eq (hr.mono (by decide)) rfl (da_cons (de_known k_is_growing (hr.mono (by decide)) rfl (da_cons (de_callTy1 call_tuple_of od_tuple rfl T.b_tuple (by decide +kernel) (de_var 10)) da_nil)) (da_cons (de_var 11) da_nil))))) (dss_one (ds_ret de_bl)) dss_nil)))))))))))))))))))
    (dss_cons (ds_set 3 sc_law.nd (de_known k_law_pick (hr.mono (by decide)) rfl (da_cons (de_var 1) (da_cons (de_lst (da_cons de_int (da_cons de_int (da_cons de_int (da_cons de_int (da_cons de_int (da_cons (de_known k_law_draw (hr.mono (by decide)) rfl (da_cons (de_var 1) (da_cons de_int da_nil))) da_nil))))))) da_nil))))
    (dss_cons (ds_set 4 sc_law.nd (de_lst (da_cons de_int da_nil)))
    (dss_cons (ds_for PassesOwn.never rfl (di_range1 rfl T.b_range (da_cons (de_var 3) da_nil)) (pg_name (i := 5) sc_law.nd rfl (by first | exact Or.inl rfl | exact Or.inr rfl)) (tg_name 5) (dss_one (ds_set 4 sc_law.nd (de_bin op_addD od_add (de_lst (da_cons de_int da_nil)) (de_lc rfl sc_law.nd (tg_name 19) (by decide) (di_range2 rfl T.b_range (da_cons de_int (da_cons (de_bin op_addD od_add (de_callB1 call_len_seq od_len rfl T.b_len (by decide +kernel) (de_var 4)) de_int) da_nil))) (blkOk_by (N := ["script", "state", "turn", "n", "line", "k", "word", "other", "some", "due", "bent", "fine", "many", "rows", "row", "cross", "nest", "plain", "flat", "j", "pair"]) (sc := defScope s_law) (own := [("j", 19)]) (by decide +kernel)) (fun _ _ _ _ _ => (pg_name (i := 19) sc_law.nd rfl (by first | exact Or.inl rfl | exact Or.inr rfl))) (fun _ _ _ _ _ => dts_nil) (fun _ _ _ _ _ => (de_bin op_addD od_add (de_ix ix_seq od_ix (de_var 4) (de_bin op_sub od_sub (de_var 19) de_int)) (de_if (dt_cmp op_lt od_lt rfl (de_var 19) (de_callB1 call_len_seq od_len rfl T.b_len (by decide +kernel) (de_var 4))) (de_bin op_mulD od_mul (de_var 19) (de_ix ix_seq od_ix (de_var 4) (de_var 19))) de_int))))))))
    (dss_cons (ds_for PassesOwn.never rfl (di_seq (de_lst (da_cons de_int (da_cons de_int (da_cons de_int (da_cons (de_var 3) (da_cons (de_bin op_addD od_add (de_var 3) de_int) (da_cons (de_callTy1 call_int1 od_int rfl T.b_int (by decide +kernel) (de_bin op_div od_div (de_var 3) de_int)) (da_cons (de_known k_law_draw (hr.mono (by decide)) rfl (da_cons (de_var 1) (da_cons (de_bin op_addD od_add (de_var 3) de_int) da_nil))) (da_cons (de_known k_law_draw (hr.mono (by decide)) rfl (da_cons (de_var 1) (da_cons (de_bin op_addD od_add (de_var 3) de_int) da_nil))) da_nil)))))))))) (pg_name (i := 5) sc_law.nd rfl (by first | exact Or.inl rfl | exact Or.inr rfl)) (tg_name 5) (dss_one (ds_if (dt_not (dt_val (de_known k_law_eq (hr.mono (by decide)) rfl (da_cons (de_known k_count_lots (hr.mono (by decide)) rfl (da_cons (de_var 3) (da_cons (de_var 5) da_nil))) (da_cons (de_if (dt_cmp op_le od_le rfl (de_var 5) (de_var 3)) (de_ix ix_seq od_ix (de_var 4) (de_var 5)) de_int) da_nil))))) (dss_one (ds_ret de_bl)) dss_nil)))
    (dss_cons (ds_if (dt_not (dt_val (de_known k_law_eq (hr.mono (by decide)) rfl (da_cons (de_known k_count_all_lots (hr.mono (by decide)) rfl (da_cons (de_var 3) da_nil)) (da_cons (de_callB1 (cr_sumA rfl) od_sum rfl T.b_sum (by decide +kernel) (de_var 4)) da_nil))))) (dss_one (ds_ret de_bl)) dss_nil)
    (dss_one (ds_ret (de_known k_law_eq (hr.mono (by decide)) rfl (da_cons (de_lst (da_cons (de_known k_crossings (hr.mono (by decide)) rfl (da_cons (de_tup (da_cons de_int (da_cons de_int (da_cons de_int (da_cons de_int da_nil))))) da_nil)) (da_cons (de_known k_nestings (hr.mono (by decide)) rfl (da_cons (de_tup (da_cons de_int (da_cons de_int (da_cons de_int (da_cons de_int da_nil))))) da_nil)) (da_cons (de_known k_count_all_lots (hr.mono (by decide)) rfl (da_cons de_int da_nil)) da_nil)))) (da_cons (de_lst (da_cons de_int (da_cons de_int (da_cons de_int da_nil)))) da_nil)))))))))))⟩
end
end K10

namespace K10
open PySem L2 DL
section
variable {P : Program} {w : World} {K : PySem.W.Frag} {mg : Str → Option Value} {base : Heap}
def spDraw : DL.Spec := fun ds Q => ∃ n : Int, ds = [.sta, .int n] ∧ CD 0 n ∧ ∀ r : Int, 0 ≤ r → r < n → Q (.dat (.int r))
theorem ext_sta {Z : ZZ} {F H : Hp} {s c : Addr} (en : Ent Z F H) (hz : Z = some (s, c)) {H' : Hp} (hk : ∀ a, a ≠ s → a ≠ c → H' a = H a) (ok : StOk Z H') : Ext Z F H F H' := by
  have ns : ∀ a, ZA Z a → a = s ∨ a = c := fun a ⟨s', c', e, h⟩ => by
    rw [hz] at e
    cases e
    exact h
  have zs : ZA Z s := ⟨s, c, hz, .inl rfl⟩
  have zc : ZA Z c := ⟨s, c, hz, .inr rfl⟩
  refine ⟨Same.refl F, fun a o h => ?_, fun a o h z => ?_, fun a o h f => f, ok⟩
  · have hs : a ≠ s := fun e => by rw [e, en.znf s zs] at h; cases h
    have hc : a ≠ c := fun e => by rw [e, en.znf c zc] at h; cases h
    rw [hk a hs hc]
    exact en.sub a o h
  · rw [hk a (fun e => z (e ▸ zs)) (fun e => z (e ▸ zc))]
    exact h
theorem k_law_draw (T : Txt K mg) : Known P w K mg base "_law_draw" ["state", "many"] 1 spDraw := by
  obtain ⟨f, fd, F, hm, b⟩ := T.h_law_draw.ex
  refine ⟨f, fd, ?_, hm, F.kp, b⟩
  refine F.ok sc_law_draw (fun vs H Q E h => ?_) (fun cdv A outer s H vs Q E hr h => ?_)
  · obtain ⟨Z, F, ds, Q', en, r, ⟨n, rfl, _⟩, _⟩ := h
    rw [r.length]
    rfl
  · obtain ⟨Z, F, ds, Q', en, r, ⟨n, rfl, hn, q⟩, fin⟩ := h
    have lt0 : 0 < n := hn.1
    obtain ⟨s, rfl, hz⟩ : ∃ a, vs = [.ref a, .int n] ∧ ∃ c, Z = some (a, c) := by
      cases r with
      | cons h1 r1 =>
        cases r1 with
        | cons h2 r2 =>
          cases r2
          cases h1 with
          | sta e =>
            cases h2
            exact ⟨_, rfl, _, e⟩
    obtain ⟨c, hz⟩ := hz
    obtain ⟨ne, m, cells, hs, hc, hm, hcp⟩ := en.zok s c hz
    have zone : ∀ {s' c' : Addr}, Z = some (s', c') → s' = s ∧ c' = c := fun e => by
      rw [hz] at e
      cases e
      exact ⟨rfl, rfl⟩
    refine ⟨_, pss_cons (ps_set (i := 2) sc_law_draw.nd rfl (.inl rfl) (pe_ix ix_list (pv 0) pe_int (fun _ _ => rfl)))
      (pss_cons (ps_while PassesOwn.never (PW.pt (pw_and (pt_cmpR op_gt (pe_callB call_len_seq (by rfl) T.b_len (by decide +kernel) (pa_cons (pv 2) pa_nil)) pe_int (nomark _)) (pw_and1 (pt_cmpR op_eq (pe_ix ix_list (pv 2) pe_int (fun _ _ => rfl)) pe_int (nomark _)))))
        (pss_one (ps_expr (pe_bm PySem.F.plainAttrs_list PySem.F.slot_list_pop PySem.F.type_list_pop mt_popAt (pv 2) (pa_cons pe_int pa_nil)))))
      (pss_cons (ps_if (pt_cmpR op_gt (pe_callB call_len_seq (by rfl) T.b_len (by decide +kernel) (pa_cons (pv 2) pa_nil)) pe_int (nomark _))
        (pss_cons (ps_set (i := 4) sc_law_draw.nd rfl (.inl rfl) (pe_ix ix_list (pv 2) pe_int (fun _ _ => rfl)))
        (pss_cons (ps_asg (pe_op DL.op_div (pv 4) (pv 1)) (pg_sub (pv 2) pe_int set_list))
        (pss_one (ps_ret (pe_op op_mod (pe_callTy call_int1 (by rfl) T.b_int (by decide +kernel) (pa_cons (pv 4) pa_nil)) (pv 1))))))
        pss_nil)
      (pss_cons (ps_set (i := 3) sc_law_draw.nd rfl (.inl rfl) (pe_op op_mod (pe_callTy call_int1 (by rfl) T.b_int (by decide +kernel) (pa_cons (pe_op op_add (pe_op op_mul (pe_ix ix_list (pv 0) pe_int (fun _ _ => rfl)) pe_int) pe_int) pa_nil)) pe_int))
      (pss_cons (ps_asg (pv 3) (pg_sub (pv 0) pe_int set_list))
      (pss_one (ps_ret (pe_op op_mod (pe_callTy call_int1 (by rfl) T.b_int (by decide +kernel) (pa_cons (pe_op DL.op_div (pv 3) pe_int) pa_nil)) (pv 1)))))))), ?_⟩
    -- cells = state[0]
    refine ⟨.ref s, rfl, s, _, 0, .ref c, rfl, rfl, SqL.of hs, rfl, ?_⟩
    -- the zeros go
    refine ⟨fun k σ H' => ∃ xs : List Int, k = xs.length ∧ σ = [some (.ref s), some (.int n), some (.ref c), none, none] ∧ (∀ a, a ≠ c → H' a = H a) ∧ H' c = some (.lst (xs.map V.int)) ∧ ∀ x ∈ xs, 0 ≤ x, ⟨_, cells, rfl, rfl, fun _ _ => rfl, hc, hcp⟩, ?_⟩
    rintro k σ H' ⟨xs, rfl, rfl, hk, hx, hp⟩
    have okc : ∀ {H2 : Hp} {ys : List Int} {m2 : Int}, H2 s = some (.lst [.ref c, .int m2]) → H2 c = some (.lst (ys.map V.int)) → 0 ≤ m2 → m2 < 4294967296 → (∀ x ∈ ys, 0 ≤ x) → StOk Z H2 := fun h1 h2 h3 h4 h5 s' c' e => by
      obtain ⟨rfl, rfl⟩ := zone e
      exact ⟨ne, _, _, h1, h2, ⟨h3, h4⟩, h5⟩
    have hs' : H' s = some (.lst [.ref c, .int m]) := by rw [hk s ne]; exact hs
    refine ⟨.ref c, rfl, c, xs.map V.int, rfl, .inl (SqL.of hx), ?_⟩
    refine ⟨_, _, rfl, rfl, _, rfl, ?_⟩
    cases xs with
    | nil =>
      refine ite2 (fun e => absurd e (by simp)) fun _ => ?_
      refine ite2 (fun e => absurd e (by simp)) fun _ => ?_
      refine ⟨.ref c, rfl, c, [], rfl, .inl (SqL.of hx), ?_⟩
      refine ⟨_, _, rfl, rfl, _, rfl, ?_⟩
      refine ite2 (fun e => absurd e (by simp)) fun _ => ?_
      -- mixed
      refine ⟨.ref s, rfl, s, _, 1, .int m, rfl, rfl, SqL.of hs', rfl, ?_⟩
      refine ⟨m, 48271, rfl, rfl, .inl ⟨by omega, by omega⟩, _, _, rfl, rfl, .inl ⟨_, rfl, _, _, rfl, rfl, (show (0 : Int) < 2147483647 by decide), ?_⟩⟩
      have hmx0 := Int.emod_nonneg (m * 48271 + 12345) (show (2147483647 : Int) ≠ 0 by decide)
      have hmx1 := Int.emod_lt_of_pos (m * 48271 + 12345) (show (0 : Int) < 2147483647 by decide)
      refine ⟨_, rfl, .ref s, rfl, s, _, 1, 1, rfl, rfl, hs', rfl, ?_⟩
      refine ⟨_, rfl, .inl ⟨_, _, rfl, rfl, ⟨by decide, by decide⟩, .inl ⟨_, rfl, .int n, rfl, _, _, rfl, rfl, lt0, ?_⟩⟩⟩
      refine fin (.dat (.int _)) _ F _ (q _ (Int.emod_nonneg _ (by omega)) (Int.emod_lt_of_pos _ lt0)) (ext_sta en hz (fun a h1 h2 => ?_) ?_) (Rp.int _)
      · rw [upd_ne h1]
        exact hk a h2
      · exact okc upd_same (by rw [upd_ne (fun e => ne e.symm)]; exact hx) hmx0 (by omega) (fun x h => by cases h)
    | cons x r =>
      have hx0 : 0 ≤ x := hp x List.mem_cons_self
      have hr0 : ∀ y ∈ r, 0 ≤ y := fun y h => hp y (List.mem_cons_of_mem _ h)
      have ix0 : ixN ((x :: r).map V.int).length 0 = some 0 := by simp [ixN]
      have sx0 := (ixN_seq ix0).1
      have len0 : decide ((0 : Int) < (((x :: r).map V.int).length : Nat)) = true := by simp
      refine ite2 (fun _ => ?_) fun e => absurd len0 e
      refine ⟨.ref c, rfl, c, _, 0, .int x, rfl, rfl, SqL.of hx, atI_nat (j := 0) rfl, ?_⟩
      refine ⟨rfl, _, rfl, ?_⟩
      refine ite2 (fun e => ?_) fun e => ?_
      · have x0 : x = 0 := V.int.inj (of_decide_eq_true e)
        refine ⟨fun σ' H2 => σ' = [some (.ref s), some (.int n), some (.ref c), none, none] ∧ (∀ a, a ≠ c → H2 a = H a) ∧ H2 c = some (.lst (r.map V.int)), fun σ' H2 ⟨e1, e2, e3⟩ => ⟨r.length, by simp, r, rfl, e1, e2, e3, hr0⟩, ?_⟩
        refine ⟨.ref c, rfl, .inl ⟨rfl, _, SqL.of hx⟩, c, _, 0, 0, .int x, rfl, rfl, hx, by decide, by decide, sx0, rfl, rfl, fun a ha => ?_, upd_same⟩
        rw [upd_ne ha]
        exact hk a ha
      · refine ⟨.ref c, rfl, c, (x :: r).map V.int, rfl, .inl (SqL.of hx), ?_⟩
        refine ⟨_, _, rfl, rfl, _, rfl, ?_⟩
        refine ite2 (fun _ => ?_) fun e => absurd len0 e
        refine ⟨.ref c, rfl, c, _, 0, .int x, rfl, rfl, SqL.of hx, atI_nat (j := 0) rfl, ?_⟩
        have hd : ∀ Q3 : VK, ∀ H3, Q3 (.int (x / n)) H3 → rDiv (.int x) (.int n) H3 Q3 := fun Q3 H3 q3 => by
          rcases hn.2 with z | z
          · exact .inl ⟨x, n, rfl, rfl, ⟨lt0, z⟩, q3⟩
          · exact .inr ⟨x, n, rfl, rfl, ⟨lt0, z⟩, q3⟩
        refine ⟨.int x, rfl, .int n, rfl, hd _ _ ⟨.ref c, rfl, c, _, 0, 0, rfl, rfl, hx, ix0, ?_⟩⟩
        refine ⟨.int x, rfl, .inl ⟨_, rfl, .int n, rfl, _, _, rfl, rfl, lt0, ?_⟩⟩
        refine fin (.dat (.int _)) _ F _ (q _ (Int.emod_nonneg _ (by omega)) (Int.emod_lt_of_pos _ lt0)) (ext_sta en hz (fun a h1 h2 => ?_) ?_) (Rp.int _)
        · rw [upd_ne h2]
          exact hk a h2
        · refine okc (m2 := m) (ys := x / n :: r) (by rw [upd_ne ne]; exact hs') upd_same hm.1 hm.2 fun y hy => ?_
          rcases List.mem_cons.mp hy with e | e
          · rw [e]
            exact Int.ediv_nonneg hx0 (by omega)
          · exact hr0 y e
/-- the law's own state: new, hidden -/
def spState (K : PySem.W.Frag) : Sp := fun vs H Q _ => ∃ (a : Addr) (ns : List Int), vs = [.ref a] ∧ SqL K H a (ns.map V.int) ∧ ns.length ≤ 63 ∧ ∀ (H' : Hp) (s c : Addr), StOk (some (s, c)) H' → Q (.ref s) H'
theorem ok_law_state (T : Txt K mg) {f : Addr} {fd : FuncData} (F : Fun K "_law_state" "_law_state" s_law_state f fd) : FnOk P w K mg base CX0 1 f fd ["script"] (spState K) := by
  refine F.ok sc_law_state (fun vs H Q E h => ?_) (fun cdv A outer s H vs Q E hr h => ?_)
  · obtain ⟨a, ns, rfl, _⟩ := h
    rfl
  · obtain ⟨a, ns, rfl, hS, hl, q⟩ := h
    refine ⟨_, pss_cons (ps_set (i := 1) sc_law_state.nd rfl (.inl rfl) pe_int)
      (pss_cons (ps_for PassesOwn.never rfl (pi_list (pv 0)) (pg_name (i := 2) sc_law_state.nd rfl (.inl rfl))
        (pss_one (ps_set (i := 1) sc_law_state.nd rfl (.inl rfl) (pe_op op_mod (pe_callTy call_int1 (by rfl) T.b_int (by decide +kernel) (pa_cons (pe_op op_add (pe_op op_mul (pv 1) pe_int) (pv 2)) pa_nil)) pe_int))))
      (pss_one (ps_ret (pe_lst (pa_cons (pe_lc (own := [("cell", 2)]) (g := gName 2) (tt := tYes) rfl sc_law_state.nd (pi_list (pv 0)) (blkOk_by (N := ["script", "seed", "cell"]) (sc := defScope s_law_state) (by decide +kernel)) (fun _ _ _ _ _ => pg_name sc_law_state.nd rfl (.inl rfl)) (fun _ _ _ _ _ => pts_nil)
        (fun _ _ _ _ _ => pe_callB call_abs (by rfl) T.b_abs (by decide +kernel) (pa_cons (pv 2) pa_nil))) (pa_cons (pe_op op_add (pv 1) pe_int) pa_nil)))))), ?_⟩
    refine ⟨.ref a, rfl, a, rfl, ⟨_, hS⟩, fun i k σ H' => H' = H ∧ i + k = ns.length ∧ ∃ (g : Int) (y : Option V), σ = [some (.ref a), some (.int g), y] ∧ 0 ≤ g ∧ g < 1000003, ⟨ns.length, rfl, by omega, _, _, rfl, by decide, by decide⟩, ?_⟩
    rintro i k σ H' ⟨rfl, hk, g, y, rfl, hg0, hg1⟩
    by_cases hi : i < ns.length
    · have gx : (ns.map V.int)[i]? = some (.int ns[i]) := by
        rw [List.getElem?_map, List.getElem?_eq_getElem hi]
        rfl
      refine .inr ⟨⟨_, _, hS, gx⟩, fun σ' H2 => H2 = H' ∧ ∃ (g : Int) (y : Option V), σ' = [some (.ref a), some (.int g), y] ∧ 0 ≤ g ∧ g < 1000003, fun σ' H2 ⟨e1, e2⟩ => ⟨k - 1, by omega, e1, by omega, e2⟩, ?_⟩
      rintro x H2 ⟨rfl, fx⟩
      have ex : x = .int ns[i] := Option.some.inj ((fx _ hS).symm.trans gx)
      subst ex
      refine ⟨.int g, rfl, g, 31, rfl, rfl, .inl ⟨by omega, by omega⟩, .int ns[i], rfl, _, _, rfl, rfl, .inl ⟨_, rfl, _, _, rfl, rfl, (show (0 : Int) < 1000003 by decide), ?_⟩⟩
      exact ⟨rfl, _, _, rfl, Int.emod_nonneg _ (by decide), Int.emod_lt_of_pos _ (by decide)⟩
    · have e : i = ns.length := by omega
      subst e
      refine .inl ⟨⟨_, hS, by rw [List.length_map]; exact Nat.le_refl _⟩, ?_⟩
      refine ⟨.ref a, rfl, a, rfl, ⟨_, hS⟩, fun D hD => ?_⟩
      refine lc_list (xs := ns.map V.int) (fun i H2 => Same H' H2 ∧ ∃ acc : List Int, H2 D = some (.lst (acc.map V.int)) ∧ acc.length = i ∧ ∀ x ∈ acc, (0 : Int) ≤ x) ⟨DL.same_upd hD, [], upd_same, rfl, (fun x h => (List.not_mem_nil h).elim)⟩ (fun i H2 _ ⟨sm, _⟩ => sm.seq hS) ?_ ?_
      · rintro i x H2 hx ⟨sm, acc, hA, hn, hp⟩
        rw [List.getElem?_map] at hx
        cases hz : ns[i]? with
        | none => rw [hz] at hx; cases hx
        | some z =>
          rw [hz] at hx
          cases hx
          have hi := (List.getElem?_eq_some_iff.mp hz).1
          refine ⟨rfl, .int z, rfl, z, rfl, acc.map V.int, hA, by rw [List.length_map]; exact Nat.lt_of_lt_of_le (show acc.length < 64 by omega) (by decide), fun b o e => ?_, acc ++ [if z < 0 then -z else z], ?_, by simp [hn], fun y hy => ?_⟩
          · rw [upd_ne (ne_of_none e hD)]
            exact sm b o e
          · rw [upd_same, List.map_append]
            rfl
          · rcases List.mem_append.mp hy with h | h
            · exact hp y h
            · cases List.mem_singleton.mp h
              split <;> omega
      · rintro H2 ⟨sm, acc, hA, _, hp⟩
        refine ⟨_, rfl, g, 1, rfl, rfl, (show 2 ≤ sizeLine by decide), fun p hp2 => ?_⟩
        have ne : p ≠ D := fun e => by rw [e, hA] at hp2; cases hp2
        refine q _ p D fun s' c' e => ?_
        cases e
        exact ⟨ne, g + 1, acc, upd_same, by rw [upd_ne ne.symm]; exact hA, ⟨by omega, by omega⟩, hp⟩
end
end K10

namespace K10
open PySem L2 DL
section
variable {P : Program} {w : World} {K : PySem.W.Frag} {mg : Str → Option Value} {base : Heap}
def spPick : DL.Spec := fun ds Q => ∃ (row : D) (xs : List D), ds = [.sta, row] ∧ (row = .lst xs ∨ row = .tup xs) ∧ 0 < xs.length ∧ xs.length < 1000000 ∧ ∀ (i : Nat) (d : D), xs[i]? = some d → Q (.dat d)
theorem at_nat {xs : List D} {r : Int} (h0 : 0 ≤ r) (h1 : r < xs.length) : ∃ d, atI xs r = some d ∧ xs[r.toNat]? = some d := by
  obtain ⟨n, rfl⟩ := Int.eq_ofNat_of_zero_le h0
  have hn : n < xs.length := by omega
  exact ⟨xs[n], atI_nat (List.getElem?_eq_getElem hn), by rw [Int.toNat_natCast]; exact List.getElem?_eq_getElem hn⟩
theorem k_law_pick (T : Txt K mg) : Known P w K mg base "_law_pick" ["state", "row"] 2 spPick := by
  refine knownD T.h_law_pick sc_law_pick ?_ (w_law_pick T (k_law_draw T)).2 ?_
  · rintro ds Q ⟨row, xs, rfl, _⟩; rfl
  rintro ds Q ⟨row, xs, rfl, hr, h0, h1, q⟩
  rcases hr with rfl | rfl
  · refine ⟨_, rfl, ⟨by omega, .inl (by omega)⟩, fun r hr0 hr1 => ?_⟩
    obtain ⟨d, e1, e2⟩ := at_nat (xs := xs) hr0 hr1
    exact ⟨d, e1, q _ d e2⟩
  · refine ⟨_, rfl, ⟨by omega, .inl (by omega)⟩, fun r hr0 hr1 => ?_⟩
    obtain ⟨d, e1, e2⟩ := at_nat (xs := xs) hr0 hr1
    exact ⟨d, e1, q _ d e2⟩
/-- data that the law's own comparison walks -/
inductive Fine : Nat → D → Prop
  | non {n : Nat} : Fine n .non
  | bl {n : Nat} (b : Bool) : Fine n (.bl b)
  | int {n : Nat} (i : Int) : Fine n (.int i)
  | str {n : Nat} {x : Str} (h : PySem.PyData.strOk x = true) : Fine n (.str x)
  | lst {n : Nat} {ds : List D} (l : ds.length < 10000000) (h : ∀ d ∈ ds, Fine n d) : Fine (n + 1) (.lst ds)
  | tup {n : Nat} {ds : List D} (l : ds.length < 10000000) (h : ∀ d ∈ ds, Fine n d) : Fine (n + 1) (.tup ds)
def spEq (n : Nat) : DL.Spec := fun ds Q => ∃ d, ds = [d, d] ∧ Fine n d ∧ Q (.dat (.bl true))
def spNo : DL.Spec := fun _ _ => False
theorem known_none {x : Str} {st : Stmt} {ps : List Str} (k : Nat) (h : Has K mg x st ps) : Known P w K mg base x ps k spNo := by
  obtain ⟨f, fd, F, hm, b⟩ := h.ex
  exact ⟨f, fd, ⟨fun _ _ _ _ ⟨_, _, _, _, _, _, h, _⟩ => h.elim, fun _ _ _ _ _ _ _ _ _ _ _ _ _ ⟨_, _, _, _, _, _, h, _⟩ => h.elim⟩, hm, F.kp, b⟩
theorem Fine.shp {n : Nat} {d : D} (h : Fine n d) : Shp n d := by
  induction h with
  | non => exact .non
  | bl b => exact .bl b
  | int i => exact .int i
  | str h => exact .str h
  | lst l h ih => exact .lst ih
  | tup l h ih => exact .tup ih
theorem deq_self_b (b : Bool) : deq (.bl b) (.bl b) = true := by cases b <;> rfl
theorem deq_self_s {x : Str} : deq (.str x) (.str x) = true := by
  show PyData.eqv (.str x) (.str x) = true
  simp [PyData.eqv]
theorem k_law_eq (T : Txt K mg) : ∀ n : Nat, n ≤ 20 → Known P w K mg base "_law_eq" ["told", "due"] (n + 1) (spEq n) := by
  intro n
  induction n with
  | zero =>
    intro _
    refine knownD T.h_law_eq sc_law_eq ?_ (w_law_eq T (known_none 0 T.h_law_eq)).2 ?_
    · rintro ds Q ⟨d, rfl, _⟩; rfl
    rintro ds Q ⟨d, rfl, hf, q⟩
    cases hf with
    | non => exact ⟨(fun h => absurd h (by show ¬ isiT "NoneType" "list" = true; decide)), fun _ => ⟨(fun h => absurd h (by show ¬ isiT "NoneType" "tuple" = true; decide)), fun _ => ⟨fun _ => q, fun h => absurd h (by decide)⟩⟩⟩
    | bl b => exact ⟨(fun h => absurd h (by show ¬ isiT "bool" "list" = true; decide)), fun _ => ⟨(fun h => absurd h (by show ¬ isiT "bool" "tuple" = true; decide)), fun _ => ⟨(fun h => absurd h (by decide)), fun _ => ⟨(fun h => absurd h (by show ¬ isiT "bool" "str" = true; decide)), fun _ => ⟨fun _ => ⟨fun _ => ⟨⟨.bl b, .bl b⟩, by rw [deq_self_b]; exact q⟩, (fun h => absurd h (by show ¬ isiT "bool" "bool" = false; decide))⟩, (fun h => absurd h (by show ¬ isiT "bool" "bool" = false; decide))⟩⟩⟩⟩⟩
    | int i => exact ⟨(fun h => absurd h (by show ¬ isiT "int" "list" = true; decide)), fun _ => ⟨(fun h => absurd h (by show ¬ isiT "int" "tuple" = true; decide)), fun _ => ⟨(fun h => absurd h (by decide)), fun _ => ⟨(fun h => absurd h (by show ¬ isiT "int" "str" = true; decide)), fun _ => ⟨(fun h => absurd h (by show ¬ isiT "int" "bool" = true; decide)), fun _ => ⟨fun _ => ⟨fun _ => (show Q (.dat (.bl (decide (i = i)))) by rw [decide_eq_true rfl]; exact q), (fun h => absurd h (by show ¬ (!isiT "int" "bool") = false; decide))⟩, (fun h => absurd h (by show ¬ isiT "int" "int" = false; decide))⟩⟩⟩⟩⟩⟩
    | str hx => exact ⟨(fun h => absurd h (by show ¬ isiT "str" "list" = true; decide)), fun _ => ⟨(fun h => absurd h (by show ¬ isiT "str" "tuple" = true; decide)), fun _ => ⟨(fun h => absurd h (by decide)), fun _ => ⟨fun _ => ⟨fun _ => ⟨⟨.str hx, .str hx⟩, by rw [deq_self_s]; exact q⟩, (fun h => absurd h (by show ¬ isiT "str" "str" = false; decide))⟩, (fun h => absurd h (by show ¬ isiT "str" "str" = false; decide))⟩⟩⟩⟩
  | succ n ih =>
    intro hn
    refine knownD T.h_law_eq sc_law_eq ?_ (w_law_eq T (ih (by omega))).2 ?_
    · rintro ds Q ⟨d, rfl, _⟩; rfl
    rintro ds Q ⟨d, rfl, hf, q⟩
    cases hf with
    | non => exact ⟨(fun h => absurd h (by show ¬ isiT "NoneType" "list" = true; decide)), fun _ => ⟨(fun h => absurd h (by show ¬ isiT "NoneType" "tuple" = true; decide)), fun _ => ⟨fun _ => q, fun h => absurd h (by decide)⟩⟩⟩
    | bl b => exact ⟨(fun h => absurd h (by show ¬ isiT "bool" "list" = true; decide)), fun _ => ⟨(fun h => absurd h (by show ¬ isiT "bool" "tuple" = true; decide)), fun _ => ⟨(fun h => absurd h (by decide)), fun _ => ⟨(fun h => absurd h (by show ¬ isiT "bool" "str" = true; decide)), fun _ => ⟨fun _ => ⟨fun _ => ⟨⟨.bl b, .bl b⟩, by rw [deq_self_b]; exact q⟩, (fun h => absurd h (by show ¬ isiT "bool" "bool" = false; decide))⟩, (fun h => absurd h (by show ¬ isiT "bool" "bool" = false; decide))⟩⟩⟩⟩⟩
    | int i => exact ⟨(fun h => absurd h (by show ¬ isiT "int" "list" = true; decide)), fun _ => ⟨(fun h => absurd h (by show ¬ isiT "int" "tuple" = true; decide)), fun _ => ⟨(fun h => absurd h (by decide)), fun _ => ⟨(fun h => absurd h (by show ¬ isiT "int" "str" = true; decide)), fun _ => ⟨(fun h => absurd h (by show ¬ isiT "int" "bool" = true; decide)), fun _ => ⟨fun _ => ⟨fun _ => (show Q (.dat (.bl (decide (i = i)))) by rw [decide_eq_true rfl]; exact q), (fun h => absurd h (by show ¬ (!isiT "int" "bool") = false; decide))⟩, (fun h => absurd h (by show ¬ isiT "int" "int" = false; decide))⟩⟩⟩⟩⟩⟩
    | str hx => exact ⟨(fun h => absurd h (by show ¬ isiT "str" "list" = true; decide)), fun _ => ⟨(fun h => absurd h (by show ¬ isiT "str" "tuple" = true; decide)), fun _ => ⟨(fun h => absurd h (by decide)), fun _ => ⟨fun _ => ⟨fun _ => ⟨⟨.str hx, .str hx⟩, by rw [deq_self_s]; exact q⟩, (fun h => absurd h (by show ¬ isiT "str" "str" = false; decide))⟩, (fun h => absurd h (by show ¬ isiT "str" "str" = false; decide))⟩⟩⟩⟩
    | @lst _ es l h =>
      refine ⟨fun _ => ⟨fun _ => ⟨⟨.bl _, .bl _⟩, ⟨fun h => absurd h (by rw [deq_self_b]; decide), fun _ => ⟨⟨.bl _, .bl _⟩, ⟨fun h => absurd h (by rw [deq_self_b]; decide), fun _ => ⟨fun h => absurd h (by simp), fun _ => ?_⟩⟩⟩⟩⟩, fun h => absurd h (by decide)⟩, fun h => absurd h (by show ¬ isiT "list" "list" = false; decide)⟩
      refine ⟨⟨by omega, by omega⟩, fun _ acc => acc = [], rfl, ?_, ?_⟩
      · rintro i d acc hd rfl
        obtain ⟨hi, rfl⟩ := rangeD_out hd
        rw [Int.toNat_natCast] at hi
        have ha : atI es (0 + (i : Int)) = some es[i] := by
          rw [Int.zero_add]
          exact atI_nat (List.getElem?_eq_getElem hi)
        exact ⟨_, ha, _, ha, _, rfl, h _ (List.getElem_mem hi), rfl, ⟨fun h => absurd h (by decide), fun _ => rfl⟩⟩
      · rintro acc rfl
        exact ⟨by show 0 ≤ sizeLine; decide, ⟨.lst (fun d h => (List.not_mem_nil h).elim), .lst (fun d h => (List.not_mem_nil h).elim)⟩, q⟩
    | @tup _ es l h =>
      refine ⟨(fun h => absurd h (by show ¬ isiT "tuple" "list" = true; decide)), fun _ => ⟨fun _ => ⟨⟨.bl _, .bl _⟩, ⟨fun h => absurd h (by rw [deq_self_b]; decide), fun _ => ⟨⟨.bl _, .bl _⟩, ⟨fun h => absurd h (by rw [deq_self_b]; decide), fun _ => ⟨fun h => absurd h (by simp), fun _ => ?_⟩⟩⟩⟩⟩, fun h => absurd h (by show ¬ isiT "tuple" "tuple" = false; decide)⟩⟩
      refine ⟨⟨by omega, by omega⟩, fun _ acc => acc = [], rfl, ?_, ?_⟩
      · rintro i d acc hd rfl
        obtain ⟨hi, rfl⟩ := rangeD_out hd
        rw [Int.toNat_natCast] at hi
        have ha : atI es (0 + (i : Int)) = some es[i] := by
          rw [Int.zero_add]
          exact atI_nat (List.getElem?_eq_getElem hi)
        exact ⟨_, ha, _, ha, _, rfl, h _ (List.getElem_mem hi), rfl, ⟨fun h => absurd h (by decide), fun _ => rfl⟩⟩
      · rintro acc rfl
        exact ⟨by show 0 ≤ sizeLine; decide, ⟨.lst (fun d h => (List.not_mem_nil h).elim), .lst (fun d h => (List.not_mem_nil h).elim)⟩, q⟩
end
end K10

namespace DL
open PySem L2
/-! dicts: what stands at a key after a store -/
theorem valD_nil (k : Key) : valD [] k = none := rfl
theorem find_map_put {k k' : Key} {d : D} : ∀ (l : List (Key × D)), ((l.map fun kv => if kv.1 = k then (kv.1, d) else kv).find? fun kv => decide (kv.1 = k')).map (·.2) = if k' = k then ((l.find? fun kv => decide (kv.1 = k)).map fun _ => d) else (l.find? fun kv => decide (kv.1 = k')).map (·.2)
  | [] => by simp
  | x :: r => by
    have ih := find_map_put (k := k) (k' := k') (d := d) r
    by_cases hx : x.1 = k
    · by_cases hk : k' = k
      · subst hk
        simp [hx]
      · have h1 : ¬ x.1 = k' := fun e => hk (e.symm.trans hx)
        have h2 : ¬ k = k' := fun e => hk e.symm
        rw [if_neg hk] at ih
        simp only [List.map_cons, if_pos hx, List.find?_cons, decide_eq_false h1, if_neg hk]
        exact ih
    · by_cases h1 : x.1 = k'
      · have hk : ¬ k' = k := fun e => hx (h1.trans e)
        simp only [List.map_cons, if_neg hx, List.find?_cons, decide_eq_true h1, if_neg hk]
      · by_cases hk : k' = k
        · rw [if_pos hk] at ih
          simp only [List.map_cons, if_neg hx, List.find?_cons, decide_eq_false h1, decide_eq_false hx, if_pos hk]
          exact ih
        · rw [if_neg hk] at ih
          simp only [List.map_cons, if_neg hx, List.find?_cons, decide_eq_false h1, if_neg hk]
          exact ih
theorem valD_put (kds : List (Key × D)) (k k' : Key) (d : D) : valD (putD kds k d) k' = if k' = k then some d else valD kds k' := by
  unfold putD
  split
  · rename_i h
    unfold valD
    rw [find_map_put]
    by_cases hk : k' = k
    · rw [if_pos hk, if_pos hk]
      obtain ⟨x, hx, hx2⟩ := List.any_eq_true.mp h
      cases hf : kds.find? fun kv => decide (kv.1 = k) with
      | none =>
        have := List.find?_eq_none.mp hf x hx
        exact absurd hx2 this
      | some y => rfl
    · rw [if_neg hk, if_neg hk]
  · rename_i h
    unfold valD
    rw [List.find?_append]
    by_cases hk : k' = k
    · subst hk
      have : kds.find? (fun kv => decide (kv.1 = k')) = none := List.find?_eq_none.mpr fun x hx hx2 => h (List.any_eq_true.mpr ⟨x, hx, hx2⟩)
      rw [this]
      simp
    · have h2 : ¬ k = k' := fun e => hk e.symm
      rw [if_neg hk]
      simp [h2]
theorem put_len (kds : List (Key × D)) (k : Key) (d : D) : (putD kds k d).length ≤ kds.length + 1 := by
  unfold putD
  split
  · rw [List.length_map]; omega
  · rw [List.length_append]; simp
/-! lists -/
theorem at_map {α : Type} {f : α → D} {ns : List α} {i : Nat} {d : D} (h : (ns.map f)[i]? = some d) : ∃ x, ns[i]? = some x ∧ d = f x := by
  rw [List.getElem?_map] at h
  cases hx : ns[i]? with
  | none => rw [hx] at h; cases h
  | some x => rw [hx] at h; cases h; exact ⟨x, rfl, rfl⟩
theorem drop_at {α : Type} {ns : List α} {i : Nat} {x : α} (h : ns[i]? = some x) : ns.drop i = x :: ns.drop (i + 1) := by
  obtain ⟨hi, rfl⟩ := List.getElem?_eq_some_iff.mp h
  exact List.drop_eq_getElem_cons hi
theorem take_at {α : Type} {ns : List α} {i : Nat} {x : α} (h : ns[i]? = some x) : ns.take (i + 1) = ns.take i ++ [x] := by
  rw [List.take_add_one, h]
  rfl
theorem lt_at {α : Type} {ns : List α} {i : Nat} {x : α} (h : ns[i]? = some x) : i < ns.length := (List.getElem?_eq_some_iff.mp h).1
theorem sum_take_at {α : Type} {f : α → Nat} {ns : List α} {i : Nat} {x : α} (h : ns[i]? = some x) : ((ns.take (i + 1)).map f).sum = ((ns.take i).map f).sum + f x := by
  rw [take_at h, List.map_append, List.sum_append]
  simp
theorem sum_le {α : Type} {f : α → Nat} {n : Nat} : ∀ (l : List α), (∀ x ∈ l, f x ≤ n) → (l.map f).sum ≤ l.length * n
  | [], _ => by simp
  | x :: r, h => by
    have h1 := h x List.mem_cons_self
    have h2 := sum_le r fun y hy => h y (List.mem_cons_of_mem _ hy)
    rw [List.map_cons, List.sum_cons, List.length_cons, Nat.succ_mul]
    omega
theorem filter_take_at {α : Type} {p : α → Bool} {ns : List α} {i : Nat} {x : α} (h : ns[i]? = some x) : ((ns.take (i + 1)).filter p).length = ((ns.take i).filter p).length + if p x then 1 else 0 := by
  rw [take_at h, List.filter_append, List.length_append]
  cases hp : p x <;> simp [hp]
theorem atI_nat' {xs : List D} {i : Int} {d : D} (h0 : 0 ≤ i) (h : xs[i.toNat]? = some d) : atI xs i = some d := by
  obtain ⟨n, rfl⟩ := Int.eq_ofNat_of_zero_le h0
  exact atI_nat h
theorem enum_out {ds : List D} {i : Nat} {d : D} (h : (enumD ds)[i]? = some d) : ∃ x, ds[i]? = some x ∧ d = .tup [.int (i : Nat), x] := by
  unfold enumD at h
  rw [List.getElem?_mapIdx] at h
  cases hx : ds[i]? with
  | none => rw [hx] at h; cases h
  | some x => rw [hx] at h; cases h; exact ⟨x, rfl, rfl⟩
theorem enum_len' (ds : List D) : (enumD ds).length = ds.length := by unfold enumD; rw [List.length_mapIdx]
theorem mem_int (x : Int) (ns : List Int) : memD (.int x) (ns.map D.int) = decide (x ∈ ns) := by
  induction ns with
  | nil => rfl
  | cons y r ih =>
    unfold memD at ih ⊢
    rw [List.map_cons, List.any_cons, ih]
    have : deq (.int y) (.int x) = decide (y = x) := by
      show PyData.eqv (.int y) (.int x) = decide (y = x)
      simp only [PyData.eqv]
      by_cases h : y = x <;> simp [h]
    rw [this]
    by_cases h : y = x
    · subst h; simp
    · have h' : ¬ x = y := fun e => h e.symm
      simp [h, h']
theorem all_int (ns : List Int) : (ns.map D.int).all flatD = true := List.all_eq_true.mpr fun d hd => by
  obtain ⟨x, _, rfl⟩ := List.mem_map.mp hd
  rfl
/-! pairs of places -/
def pairD (p : Nat × Nat) : D := .tup [.int (p.1 : Nat), .int (p.2 : Nat)]
def srtP (l : List (Nat × Nat)) : List (Nat × Nat) := l.mergeSort (PySem.W.dataLe false fun p => (pairD p).py)
theorem srt_map (l : List (Nat × Nat)) : sortD (l.map pairD) = (srtP l).map pairD := by
  unfold sortD srtP
  exact (List.map_mergeSort (f := pairD) (r := PySem.W.dataLe false fun p => (pairD p).py) (s := PySem.W.dataLe false D.py) (l := l) (fun _ _ _ _ => rfl)).symm
theorem srt_perm (l : List (Nat × Nat)) : (srtP l).Perm l := List.mergeSort_perm _ _
theorem shp_pr {n : Nat} (p : Nat × Nat) : Shp (n + 1) (pairD p) := .tup fun d hd => by
  rcases List.mem_cons.mp hd with rfl | hd
  · exact .int _
  · cases List.mem_singleton.mp hd
    exact .int _
theorem sortOk_pr (l : List (Nat × Nat)) : SortOk (l.map pairD) := by
  refine ⟨fun d hd d' hd' => ?_, .inl fun d hd => ?_, fun d hd => ?_⟩
  · rw [List.map_map] at hd hd'
    obtain ⟨p, _, rfl⟩ := List.mem_map.mp hd
    obtain ⟨q, _, rfl⟩ := List.mem_map.mp hd'
    rfl
  · rw [List.map_map] at hd
    obtain ⟨p, _, rfl⟩ := List.mem_map.mp hd
    exact ⟨_, _, rfl⟩
  · obtain ⟨p, _, rfl⟩ := List.mem_map.mp hd
    exact shp_pr p
end DL

namespace K10
open PySem L2 DL
/-! what the program computes -/
def growing : Int → List Int → Bool
  | _, [] => true
  | top, x :: r => decide (0 ≤ x) && decide (x ≤ top + 1) && growing (if x > top then x else top) r
def lastAt (w : List Int) : Nat → Int → Option Nat
  | 0, _ => none
  | k + 1, x => if w[k]? = some x then some k else lastAt w k x
def arcOf (w : List Int) (k : Nat) : List (Nat × Nat) := match w[k]? with
  | some x => match lastAt w k x with
    | some a => [(a, k)]
    | none => []
  | none => []
def arcsTo (w : List Int) : Nat → List (Nat × Nat)
  | 0 => []
  | k + 1 => arcsTo w k ++ arcOf w k
def rows (w : List Int) : List (Nat × Nat) := srtP (arcsTo w w.length)
theorem arcsTo_len (w : List Int) : ∀ k, (arcsTo w k).length ≤ k
  | 0 => Nat.le_refl _
  | k + 1 => by
    have := arcsTo_len w k
    unfold arcsTo arcOf
    rw [List.length_append]
    split
    · split <;> simp <;> omega
    · simp; omega
theorem rows_len (w : List Int) : (rows w).length ≤ w.length := by
  unfold rows srtP
  rw [List.length_mergeSort]
  exact arcsTo_len w _
section
variable {P : Program} {w : World} {K : PySem.W.Frag} {mg : Str → Option Value} {base : Heap}
def spGrow : DL.Spec := fun ds Q => ∃ ns : List Int, ds = [.tup (ns.map D.int)] ∧ Q (.dat (.bl (growing (-1) ns)))
theorem k_is_growing (T : Txt K mg) : Known P w K mg base "is_growing" ["word"] 1 spGrow := by
  refine knownD T.h_is_growing sc_is_growing ?_ (w_is_growing T).2 ?_
  · rintro ds Q ⟨ns, rfl, _⟩; rfl
  rintro ds Q ⟨ns, rfl, q⟩
  refine ⟨fun i e => ∃ top c, e = [.d (.tup (ns.map D.int)), .d (.int top), c] ∧ growing (-1) ns = growing top (ns.drop i), ⟨_, _, rfl, rfl⟩, ?_, ?_⟩
  · rintro i d e hd ⟨top, c, rfl, hg⟩
    obtain ⟨x, hx, rfl⟩ := at_map hd
    rw [drop_at hx] at hg
    have hg : growing (-1) ns = (decide (0 ≤ x) && decide (x ≤ top + 1) && growing (if x > top then x else top) (ns.drop (i + 1))) := hg
    refine ⟨fun h1 => ⟨fun h2 => ?_, fun h2 => ⟨_, _, rfl, ?_⟩⟩, fun h1 => ⟨fun _ => ?_, fun h2 => (nomatch h2)⟩⟩
    · rw [hg, h1, show decide (x ≤ top + 1) = false by simpa using h2] at q
      exact q
    · rw [hg, h1, show decide (x ≤ top + 1) = true by simpa using h2]
      rfl
    · rw [hg, h1] at q
      exact q
  · rintro e ⟨top, c, rfl, hg⟩
    rw [List.drop_of_length_le (by rw [List.length_map]; exact Nat.le_refl _)] at hg
    rw [hg] at q
    exact q
def spArcs : DL.Spec := fun ds Q => ∃ ns : List Int, ds = [.tup (ns.map D.int)] ∧ ns.length ≤ 1000 ∧ Q (.new (.lst ((rows ns).map pairD)))
theorem k_arcs (T : Txt K mg) : Known P w K mg base "arcs" ["word"] 1 spArcs := by
  refine knownD T.h_arcs sc_arcs ?_ (w_arcs T).2 ?_
  · rintro ds Q ⟨ns, rfl, _⟩; rfl
  rintro ds Q ⟨ns, rfl, hl, q⟩
  refine ⟨by show 0 ≤ sizeLine; decide, fun i e => ∃ kds c1 c2, e = [.d (.tup (ns.map D.int)), .own (.dk kds), .own (.lst ((arcsTo ns i).map pairD)), c1, c2] ∧ kds.length ≤ i ∧ ∀ x : Int, valD kds (.inl x) = (lastAt ns i x).map fun a => .int (a : Nat), ⟨_, _, _, rfl, Nat.le_refl _, fun x => rfl⟩, ?_, ?_⟩
  · rintro i d e hd ⟨kds, c1, c2, rfl, hk, hv⟩
    obtain ⟨y, hy, rfl⟩ := enum_out hd
    obtain ⟨x, hx, rfl⟩ := at_map hy
    have hi := lt_at hx
    have hal := arcsTo_len ns i
    have put : ∀ x', valD (putD kds (.inl x) (.int (i : Nat))) (.inl x') = (lastAt ns (i + 1) x').map fun a => .int (a : Nat) := fun x' => by
      rw [valD_put]
      unfold lastAt
      rw [hx]
      by_cases h : x' = x
      · subst h; simp
      · have h' : ¬ x = x' := fun e => h e.symm
        simp [h, h', hv]
    have pl := put_len kds (.inl x) (.int (i : Nat))
    refine ⟨rfl, kds, rfl, fun h1 => ?_, fun h1 => ?_⟩
    · rw [hv x] at h1
      cases ha : lastAt ns i x with
      | none => rw [ha] at h1; cases h1
      | some a =>
        refine ⟨⟨_, rfl⟩, ⟨kds, rfl⟩, kds, .int (a : Nat), rfl, by rw [hv x, ha]; rfl, by show 2 ≤ sizeLine; decide, _, rfl, by rw [List.length_map]; omega, ⟨kds, rfl⟩, kds, rfl, by omega, putD kds (.inl x) (.int (i : Nat)), .d (.int (i : Nat)), .d (.int x), ?_, by omega, put⟩
        have : arcsTo ns (i + 1) = arcsTo ns i ++ [(a, i)] := by
          show arcsTo ns i ++ arcOf ns i = _
          unfold arcOf
          rw [hx]
          show arcsTo ns i ++ (match lastAt ns i x with | some a => [(a, i)] | none => []) = _
          rw [ha]
        rw [this, List.map_append]
        rfl
    · rw [hv x] at h1
      cases ha : lastAt ns i x with
      | some a => rw [ha] at h1; cases h1
      | none =>
        refine ⟨⟨kds, rfl⟩, kds, rfl, by omega, putD kds (.inl x) (.int (i : Nat)), .d (.int (i : Nat)), .d (.int x), ?_, by omega, put⟩
        have : arcsTo ns (i + 1) = arcsTo ns i := by
          show arcsTo ns i ++ arcOf ns i = _
          unfold arcOf
          rw [hx]
          show arcsTo ns i ++ (match lastAt ns i x with | some a => [(a, i)] | none => []) = _
          rw [ha]
          exact List.append_nil _
        rw [this]
        rfl
  · rintro e ⟨kds, c1, c2, rfl, hk, hv⟩
    rw [enum_len', List.length_map]
    refine ⟨sortOk_pr _, ?_⟩
    show Q (.new (.lst (sortD ((arcsTo ns ns.length).map pairD))))
    rw [srt_map]
    exact q
def crossN (R : List (Nat × Nat)) : Nat := (R.map fun p => (R.filter fun q => decide (p.1 < q.1 ∧ q.1 < p.2 ∧ p.2 < q.2)).length).sum
def nestN (R : List (Nat × Nat)) : Nat := (R.map fun p => (R.filter fun q => decide (p.1 < q.1 ∧ q.1 < q.2 ∧ q.2 < p.2)).length).sum

def spCross : DL.Spec := fun ds Q => ∃ ns : List Int, ds = [.tup (ns.map D.int)] ∧ ns.length ≤ 1000 ∧ Q (.dat (.int (crossN (rows ns) : Nat)))
theorem k_crossings (T : Txt K mg) : Known P w K mg base "crossings" ["word"] 2 spCross := by
  refine knownD T.h_crossings sc_crossings ?_ (w_crossings T (k_arcs T)).2 ?_
  · rintro ds Q ⟨ns, rfl, _⟩; rfl
  rintro ds Q ⟨ns, rfl, hl, q⟩
  have hR := rows_len ns
  refine ⟨ns, rfl, hl, ?_⟩
  generalize rows ns = R at hR q ⊢
  let f : Nat × Nat → Nat := fun p => (R.filter fun q => decide (p.1 < q.1 ∧ q.1 < p.2 ∧ p.2 < q.2)).length
  have hf : ∀ p, f p ≤ R.length := fun p => List.length_filter_le _ _
  have hS : ∀ i, ((R.take i).map f).sum ≤ 1000000 := fun i => by
    have h1 := sum_le (R.take i) (f := f) (n := R.length) fun x _ => hf x
    have h2 : (R.take i).length ≤ R.length := by rw [List.length_take]; omega
    have h3 : (R.take i).length * R.length ≤ 1000 * 1000 := Nat.mul_le_mul (by omega) (by omega)
    omega
  refine ⟨fun i acc => acc.length = ((R.take i).map f).sum, rfl, ?_, ?_⟩
  · rintro i d acc hd hI
    obtain ⟨p, hp, rfl⟩ := at_map hd
    refine ⟨rfl, rfl, ⟨fun _ => ⟨rfl, fun j acc' => acc'.length = ((R.take i).map f).sum + ((R.take j).filter fun q => decide (p.1 < q.1 ∧ q.1 < p.2 ∧ p.2 < q.2)).length, ?_, ?_, ?_⟩, fun h => (nomatch h)⟩⟩
    · show acc.length = ((R.take i).map f).sum + 0
      exact hI
    · rintro j d' acc' hd' hJ
      obtain ⟨q', hq, rfl⟩ := at_map hd'
      have ft := filter_take_at (p := fun q => decide (p.1 < q.1 ∧ q.1 < p.2 ∧ p.2 < q.2)) hq
      have hs := hS i
      have hfl : ((R.take j).filter fun q => decide (p.1 < q.1 ∧ q.1 < p.2 ∧ p.2 < q.2)).length ≤ R.length := Nat.le_trans (List.length_filter_le _ _) (by rw [List.length_take]; omega)
      have no : ¬ (p.1 < q'.1 ∧ q'.1 < p.2 ∧ p.2 < q'.2) → acc'.length = ((R.take i).map f).sum + ((R.take (j + 1)).filter fun q => decide (p.1 < q.1 ∧ q.1 < p.2 ∧ p.2 < q.2)).length := fun h => by
        rw [ft, hJ, decide_eq_false h]
        rfl
      refine ⟨rfl, ⟨fun h1 => ⟨fun h2 => ⟨rfl, fun h3 => ⟨rfl, by omega, ?_⟩, fun h3 => no ?_⟩, fun h2 => ⟨rfl, fun h => (nomatch h), fun _ => no ?_⟩⟩, fun h1 => ⟨rfl, fun h => (nomatch h), fun _ => no ?_⟩⟩⟩
      · have h1 := of_decide_eq_true h1
        have h2 := of_decide_eq_true h2
        have h3 := of_decide_eq_true h3
        show (acc' ++ [D.int 1]).length = ((R.take i).map f).sum + ((R.take (j + 1)).filter fun q => decide (p.1 < q.1 ∧ q.1 < p.2 ∧ p.2 < q.2)).length
        rw [ft, List.length_append, hJ, decide_eq_true (show p.1 < q'.1 ∧ q'.1 < p.2 ∧ p.2 < q'.2 by omega)]
        rfl
      · have h3 := of_decide_eq_false h3
        omega
      · have h2 := of_decide_eq_false h2
        omega
      · have h1 := of_decide_eq_false h1
        omega
    · intro acc' hJ
      show acc'.length = ((R.take (i + 1)).map f).sum
      rw [List.length_map] at hJ
      rw [hJ, sum_take_at hp, List.take_length]
  · intro acc hI
    rw [List.length_map, List.take_length] at hI
    show Q (.dat (.int (acc.length : Nat)))
    rw [hI]
    exact q

def spNest : DL.Spec := fun ds Q => ∃ ns : List Int, ds = [.tup (ns.map D.int)] ∧ ns.length ≤ 1000 ∧ Q (.dat (.int (nestN (rows ns) : Nat)))
theorem k_nestings (T : Txt K mg) : Known P w K mg base "nestings" ["word"] 2 spNest := by
  refine knownD T.h_nestings sc_nestings ?_ (w_nestings T (k_arcs T)).2 ?_
  · rintro ds Q ⟨ns, rfl, _⟩; rfl
  rintro ds Q ⟨ns, rfl, hl, q⟩
  have hR := rows_len ns
  refine ⟨ns, rfl, hl, ?_⟩
  generalize rows ns = R at hR q ⊢
  let f : Nat × Nat → Nat := fun p => (R.filter fun q => decide (p.1 < q.1 ∧ q.1 < q.2 ∧ q.2 < p.2)).length
  have hf : ∀ p, f p ≤ R.length := fun p => List.length_filter_le _ _
  have hS : ∀ i, ((R.take i).map f).sum ≤ 1000000 := fun i => by
    have h1 := sum_le (R.take i) (f := f) (n := R.length) fun x _ => hf x
    have h2 : (R.take i).length ≤ R.length := by rw [List.length_take]; omega
    have h3 : (R.take i).length * R.length ≤ 1000 * 1000 := Nat.mul_le_mul (by omega) (by omega)
    omega
  refine ⟨fun i acc => acc.length = ((R.take i).map f).sum, rfl, ?_, ?_⟩
  · rintro i d acc hd hI
    obtain ⟨p, hp, rfl⟩ := at_map hd
    refine ⟨rfl, rfl, ⟨fun _ => ⟨rfl, fun j acc' => acc'.length = ((R.take i).map f).sum + ((R.take j).filter fun q => decide (p.1 < q.1 ∧ q.1 < q.2 ∧ q.2 < p.2)).length, ?_, ?_, ?_⟩, fun h => (nomatch h)⟩⟩
    · show acc.length = ((R.take i).map f).sum + 0
      exact hI
    · rintro j d' acc' hd' hJ
      obtain ⟨q', hq, rfl⟩ := at_map hd'
      have ft := filter_take_at (p := fun q => decide (p.1 < q.1 ∧ q.1 < q.2 ∧ q.2 < p.2)) hq
      have hs := hS i
      have hfl : ((R.take j).filter fun q => decide (p.1 < q.1 ∧ q.1 < q.2 ∧ q.2 < p.2)).length ≤ R.length := Nat.le_trans (List.length_filter_le _ _) (by rw [List.length_take]; omega)
      have no : ¬ (p.1 < q'.1 ∧ q'.1 < q'.2 ∧ q'.2 < p.2) → acc'.length = ((R.take i).map f).sum + ((R.take (j + 1)).filter fun q => decide (p.1 < q.1 ∧ q.1 < q.2 ∧ q.2 < p.2)).length := fun h => by
        rw [ft, hJ, decide_eq_false h]
        rfl
      refine ⟨rfl, ⟨fun h1 => ⟨fun h2 => ⟨rfl, fun h3 => ⟨rfl, by omega, ?_⟩, fun h3 => no ?_⟩, fun h2 => ⟨rfl, fun h => (nomatch h), fun _ => no ?_⟩⟩, fun h1 => ⟨rfl, fun h => (nomatch h), fun _ => no ?_⟩⟩⟩
      · have h1 := of_decide_eq_true h1
        have h2 := of_decide_eq_true h2
        have h3 := of_decide_eq_true h3
        show (acc' ++ [D.int 1]).length = ((R.take i).map f).sum + ((R.take (j + 1)).filter fun q => decide (p.1 < q.1 ∧ q.1 < q.2 ∧ q.2 < p.2)).length
        rw [ft, List.length_append, hJ, decide_eq_true (show p.1 < q'.1 ∧ q'.1 < q'.2 ∧ q'.2 < p.2 by omega)]
        rfl
      · have h3 := of_decide_eq_false h3
        omega
      · have h2 := of_decide_eq_false h2
        omega
      · have h1 := of_decide_eq_false h1
        omega
    · intro acc' hJ
      show acc'.length = ((R.take (i + 1)).map f).sum
      rw [List.length_map] at hJ
      rw [hJ, sum_take_at hp, List.take_length]
  · intro acc hI
    rw [List.length_map, List.take_length] at hI
    show Q (.dat (.int (acc.length : Nat)))
    rw [hI]
    exact q
end
end K10

namespace K10
open PySem L2 DL
def opB (R : List (Nat × Nat)) (k : Nat) : Bool := R.any fun p => p.1 == k
def clB (R : List (Nat × Nat)) (k : Nat) : Bool := R.any fun p => p.2 == k
def enD : Bool × Bool → D
  | (true, true) => .str "both"
  | (true, false) => .str "end"
  | (false, true) => .str "begin"
  | (false, false) => .str "none"
def flags (R : List (Nat × Nat)) (n : Nat) : List (Bool × Bool) := (List.range n).map fun k => (clB R k, opB R k)
theorem flags_succ (R : List (Nat × Nat)) (n : Nat) : flags R (n + 1) = flags R n ++ [(clB R n, opB R n)] := by
  unfold flags
  rw [List.range_succ, List.map_append]
  rfl
theorem flags_len (R : List (Nat × Nat)) (n : Nat) : (flags R n).length = n := by
  unfold flags
  rw [List.length_map, List.length_range]
theorem mem_fst (R : List (Nat × Nat)) (k : Nat) : memD (.int ((0 : Int) + (k : Nat))) ((R.map fun p => ((p.1 : Nat) : Int)).map D.int) = opB R k := by
  rw [mem_int]
  unfold opB
  rw [Bool.eq_iff_iff, decide_eq_true_iff, List.any_eq_true]
  constructor
  · intro h
    obtain ⟨p, hp, e⟩ := List.mem_map.mp h
    exact ⟨p, hp, by simp; omega⟩
  · rintro ⟨p, hp, e⟩
    exact List.mem_map.mpr ⟨p, hp, by simp at e; omega⟩
theorem mem_snd (R : List (Nat × Nat)) (k : Nat) : memD (.int ((0 : Int) + (k : Nat))) ((R.map fun p => ((p.2 : Nat) : Int)).map D.int) = clB R k := by
  rw [mem_int]
  unfold clB
  rw [Bool.eq_iff_iff, decide_eq_true_iff, List.any_eq_true]
  constructor
  · intro h
    obtain ⟨p, hp, e⟩ := List.mem_map.mp h
    exact ⟨p, hp, by simp; omega⟩
  · rintro ⟨p, hp, e⟩
    exact List.mem_map.mpr ⟨p, hp, by simp at e; omega⟩
/-- where the arc that ends at k begins: the last that is told -/
def gR (R : List (Nat × Nat)) (k : Nat) : Option Nat := R.foldl (fun o p => if p.2 = k then some p.1 else o) none
theorem gR_snoc (R : List (Nat × Nat)) (p : Nat × Nat) (k : Nat) : gR (R ++ [p]) k = if p.2 = k then some p.1 else gR R k := by
  unfold gR
  rw [List.foldl_append]
  rfl
/-- the word of the arcs g, and how many lots there are -/
def madeTo (g : Nat → Option Nat) : Nat → List Int × Nat
  | 0 => ([], 0)
  | k + 1 => match g k with
    | some a => ((madeTo g k).1 ++ [(madeTo g k).1.getD a 0], (madeTo g k).2)
    | none => ((madeTo g k).1 ++ [((madeTo g k).2 : Int)], (madeTo g k).2 + 1)
theorem made_len (g : Nat → Option Nat) : ∀ k, (madeTo g k).1.length = k
  | 0 => rfl
  | k + 1 => by
    unfold madeTo
    split <;> simp [made_len g k]
/-- what stands in it -/
theorem made_in (g : Nat → Option Nat) : ∀ k, (∀ j a, j < k → g j = some a → a < j) → (∀ x ∈ (madeTo g k).1, 0 ≤ x ∧ x < (madeTo g k).2) ∧ ∀ m : Nat, m < (madeTo g k).2 → (m : Int) ∈ (madeTo g k).1
  | 0, _ => ⟨fun x h => (List.not_mem_nil h).elim, fun m h => absurd h (Nat.not_lt_zero m)⟩
  | k + 1, hg => by
    obtain ⟨h1, h2⟩ := made_in g k fun j a hj => hg j a (by omega)
    unfold madeTo
    cases hk : g k with
    | some a =>
      refine ⟨fun x hx => ?_, fun m hm => List.mem_append_left _ (h2 m hm)⟩
      rcases List.mem_append.mp hx with h | h
      · exact h1 x h
      · have ha := hg k a (Nat.lt_succ_self k) hk
        rw [List.mem_singleton.mp h, List.getD_eq_getElem?_getD, List.getElem?_eq_getElem (by rw [made_len]; exact ha)]
        exact h1 _ (List.getElem_mem _)
    | none =>
      refine ⟨fun x hx => ?_, fun m hm => ?_⟩
      · rcases List.mem_append.mp hx with h | h
        · have := h1 x h
          constructor
          · exact this.1
          · have := this.2
            simp only []
            omega
        · rw [List.mem_singleton.mp h]
          simp only []
          omega
      · have hm : m < (madeTo g k).2 + 1 := hm
        by_cases e : m = (madeTo g k).2
        · rw [e]
          exact List.mem_append_right _ (List.mem_singleton.mpr rfl)
        · exact List.mem_append_left _ (h2 m (by omega))
section
variable {P : Program} {w : World} {K : PySem.W.Frag} {mg : Str → Option Value} {base : Heap}
def spEnds : DL.Spec := fun ds Q => ∃ ns : List Int, ds = [.tup (ns.map D.int)] ∧ ns.length ≤ 1000 ∧ Q (.dat (.tup ((flags (rows ns) ns.length).map enD)))
theorem k_ends_of (T : Txt K mg) : Known P w K mg base "ends_of" ["word"] 2 spEnds := by
  refine knownD T.h_ends_of sc_ends_of ?_ (w_ends_of T (k_arcs T)).2 ?_
  · rintro ds Q ⟨ns, rfl, _⟩; rfl
  rintro ds Q ⟨ns, rfl, hl, q⟩
  have hR := rows_len ns
  refine ⟨ns, rfl, hl, ?_⟩
  generalize rows ns = R at hR q ⊢
  -- begins
  refine ⟨fun i acc => acc = ((R.take i).map fun p => ((p.1 : Nat) : Int)).map D.int, rfl, ?_, ?_⟩
  · rintro i d acc hd rfl
    obtain ⟨p, hp, rfl⟩ := at_map hd
    have hi := lt_at hp
    refine ⟨rfl, rfl, ⟨fun _ => ⟨rfl, by rw [List.length_map, List.length_map, List.length_take]; omega, ?_⟩, fun h => (nomatch h)⟩⟩
    show _ = _
    rw [take_at hp, List.map_append, List.map_append]
    rfl
  rintro acc rfl
  rw [List.length_map, List.take_length]
  -- ends
  refine ⟨fun i acc => acc = ((R.take i).map fun p => ((p.2 : Nat) : Int)).map D.int, rfl, ?_, ?_⟩
  · rintro i d acc hd rfl
    obtain ⟨p, hp, rfl⟩ := at_map hd
    have hi := lt_at hp
    refine ⟨rfl, rfl, ⟨fun _ => ⟨rfl, by rw [List.length_map, List.length_map, List.length_take]; omega, ?_⟩, fun h => (nomatch h)⟩⟩
    show _ = _
    rw [take_at hp, List.map_append, List.map_append]
    rfl
  rintro acc rfl
  rw [List.length_map, List.take_length]
  -- the row
  refine ⟨by show 0 ≤ sizeLine; decide, ⟨by omega, by rw [List.length_map]; omega⟩, ?_⟩
  rw [List.length_map, Int.toNat_natCast]
  refine ⟨fun i e => ∃ c1 c2 c3 c4, e = [.d (.tup (ns.map D.int)), .d (.lst (R.map pairD)), .own (.lst ((R.map fun p => ((p.1 : Nat) : Int)).map D.int)), .own (.lst ((R.map fun p => ((p.2 : Nat) : Int)).map D.int)), .own (.lst ((flags R i).map enD)), c1, c2, c3, c4], ⟨_, _, _, _, rfl⟩, ?_, ?_⟩
  · rintro i d e hd ⟨c1, c2, c3, c4, rfl⟩
    obtain ⟨hi, rfl⟩ := rangeD_out hd
    have fl : (flags R i).length < 10000000 := by rw [flags_len]; omega
    refine ⟨.inl ⟨rfl, all_int _⟩, ?_⟩
    rw [mem_fst]
    refine ⟨fun h1 => ⟨⟨_, rfl⟩, .inl ⟨rfl, all_int _⟩, ?_⟩, fun h1 => ⟨⟨_, rfl⟩, .inl ⟨rfl, all_int _⟩, ?_⟩⟩
    · rw [mem_snd]
      refine ⟨fun h2 => ⟨_, rfl, by rw [List.length_map]; exact fl, .d (.int ((0 : Int) + (i : Nat))), c2, c3, c4, ?_⟩, fun h2 => ⟨_, rfl, by rw [List.length_map]; exact fl, .d (.int ((0 : Int) + (i : Nat))), c2, c3, c4, ?_⟩⟩
      · rw [flags_succ, h1, h2, List.map_append]; rfl
      · rw [flags_succ, h1, h2, List.map_append]; rfl
    · rw [mem_snd]
      refine ⟨fun h2 => ⟨_, rfl, by rw [List.length_map]; exact fl, .d (.int ((0 : Int) + (i : Nat))), c2, c3, c4, ?_⟩, fun h2 => ⟨_, rfl, by rw [List.length_map]; exact fl, .d (.int ((0 : Int) + (i : Nat))), c2, c3, c4, ?_⟩⟩
      · rw [flags_succ, h1, h2, List.map_append]; rfl
      · rw [flags_succ, h1, h2, List.map_append]; rfl
  · rintro e ⟨c1, c2, c3, c4, rfl⟩
    rw [rangeD_len]
    exact q
def spFrom : DL.Spec := fun ds Q => ∃ (n : Nat) (R : List (Nat × Nat)), ds = [.int (n : Nat), .lst (R.map pairD)] ∧ n ≤ 1000 ∧ R.length ≤ 1000 ∧ (∀ k a, gR R k = some a → a < k) ∧ Q (.dat (.tup ((madeTo (gR R) n).1.map D.int)))
theorem k_from_arcs (T : Txt K mg) : Known P w K mg base "from_arcs" ["n", "pairs"] 1 spFrom := by
  refine knownD T.h_from_arcs sc_from_arcs ?_ (w_from_arcs T).2 ?_
  · rintro ds Q ⟨n, R, rfl, _⟩; rfl
  rintro ds Q ⟨n, R, rfl, hn, hR, hlt, q⟩
  refine ⟨fun i kds => kds.length ≤ i ∧ ∀ k : Nat, valD kds (.inl (k : Nat)) = (gR (R.take i) k).map fun a => .int (a : Nat), ⟨Nat.le_refl _, fun k => rfl⟩, ?_, ?_⟩
  · rintro i d kds hd ⟨hk, hv⟩
    obtain ⟨p, hp, rfl⟩ := at_map hd
    have hi := lt_at hp
    have pl := put_len kds (.inl ((p.2 : Nat) : Int)) (.int (p.1 : Nat))
    refine ⟨rfl, rfl, ⟨fun _ => ⟨rfl, rfl, by omega, by omega, fun k => ?_⟩, fun h => (nomatch h)⟩⟩
    rw [valD_put, take_at hp, gR_snoc, hv k]
    by_cases e : p.2 = k
    · rw [if_pos e, if_pos (by rw [e])]
      rfl
    · rw [if_neg e, if_neg fun z => e (by injection z with z; omega)]
  rintro kds ⟨hk, hv⟩
  rw [List.length_map, List.take_length] at hv
  -- the letters
  refine ⟨by show 0 ≤ sizeLine; decide, ⟨by omega, by omega⟩, ?_⟩
  rw [Int.toNat_natCast]
  refine ⟨fun i e => ∃ c1 c2 c3, e = [.d (.int (n : Nat)), .d (.lst (R.map pairD)), .own (.dk kds), .own (.lst ((madeTo (gR R) i).1.map D.int)), c1, c2, c3], ⟨_, _, _, rfl⟩, ?_, ?_⟩
  · rintro i d e hd ⟨c1, c2, c3, rfl⟩
    obtain ⟨hi, rfl⟩ := rangeD_out hd
    have ml := made_len (gR R) i
    have hvi := hv i
    obtain ⟨mi1, mi2⟩ := made_in (gR R) i fun j a _ => hlt j a
    have ek : ((0 : Int) + (i : Nat)) = ((i : Nat) : Int) := Int.zero_add _
    rw [ek]
    refine ⟨⟨_, rfl⟩, kds, rfl, fun h1 => ?_, fun h1 => ?_⟩
    · rw [hvi] at h1
      cases hg : gR R i with
      | none => rw [hg] at h1; cases h1
      | some a =>
        have ha := hlt i a hg
        have hm : (madeTo (gR R) i).1[a]? = some ((madeTo (gR R) i).1.getD a 0) := by
          rw [List.getD_eq_getElem?_getD, List.getElem?_eq_getElem (by rw [ml]; exact ha)]
          rfl
        refine ⟨⟨_, rfl⟩, kds, .int (a : Nat), rfl, by rw [hvi, hg]; rfl, .int ((madeTo (gR R) i).1.getD a 0), ?_, _, rfl, by rw [List.length_map, ml]; omega, .d (.int (i : Nat)), c2, c3, ?_⟩
        · exact atI_nat (by rw [List.getElem?_map, hm]; rfl)
        · have : (madeTo (gR R) (i + 1)).1 = (madeTo (gR R) i).1 ++ [(madeTo (gR R) i).1.getD a 0] := by
            rw [madeTo, hg]
          rw [this, List.map_append]
          rfl
    · rw [hvi] at h1
      cases hg : gR R i with
      | some a => rw [hg] at h1; cases h1
      | none =>
        have : (madeTo (gR R) (i + 1)).1 = (madeTo (gR R) i).1 ++ [((madeTo (gR R) i).2 : Int)] := by
          rw [madeTo, hg]
        refine ⟨by show 1 ≤ sizeLine; decide, by rw [List.length_map, ml]; show 1 + i ≤ 10000000; omega, (-1) :: (madeTo (gR R) i).1, rfl, by simp, fun m hm hmax => ⟨_, rfl, by rw [List.length_map, ml]; omega, .d (.int (i : Nat)), c2, c3, ?_⟩⟩
        have em : m + 1 = ((madeTo (gR R) i).2 : Int) := by
          rcases List.mem_cons.mp hm with h | h
          · subst h
            by_cases z : (madeTo (gR R) i).2 = 0
            · rw [z]; rfl
            · have := hmax _ (List.mem_cons_of_mem _ (mi2 0 (by omega)))
              simp at this
          · have h1 := (mi1 m h).2
            by_cases z : (madeTo (gR R) i).2 = 0
            · have := (mi1 m h).1
              omega
            · have := hmax _ (List.mem_cons_of_mem _ (mi2 ((madeTo (gR R) i).2 - 1) (by omega)))
              omega
        rw [this, List.map_append, em]
        rfl
  · rintro e ⟨c1, c2, c3, rfl⟩
    rw [rangeD_len]
    exact q
end
end K10

namespace K10
open PySem L2 DL
/-- the row of ends walked; pos: which of the open ones is closed -/
def play (pos : Nat → Nat → Nat) : List (Bool × Bool) → Nat → List Nat → Option (List (Nat × Nat))
  | [], _, L => if L = [] then some [] else none
  | (c, o) :: r, k, L => if c = true then (match L[pos k L.length]? with
      | none => none
      | some a => (play pos r (k + 1) (L.eraseIdx (pos k L.length) ++ if o = true then [k] else [])).map ((a, k) :: ·))
    else play pos r (k + 1) (L ++ if o = true then [k] else [])
theorem play_ok (pos : Nat → Nat → Nat) : ∀ (fl : List (Bool × Bool)) (k : Nat) (L : List Nat) (R : List (Nat × Nat)), (∀ a ∈ L, a < k) → play pos fl k L = some R → R.length ≤ fl.length ∧ ∀ p ∈ R, p.1 < p.2
  | [], k, L, R, hL, h => by
    unfold play at h
    split at h
    · cases h
      exact ⟨Nat.le_refl _, fun p hp => by cases hp⟩
    · cases h
  | (c, o) :: r, k, L, R, hL, h => by
    have ho : ∀ x ∈ (if o = true then [k] else []), x < k + 1 := fun x hx => by
      cases o
      · cases hx
      · cases List.mem_singleton.mp hx
        exact Nat.lt_succ_self k
    unfold play at h
    cases c with
    | true =>
      rw [if_pos rfl] at h
      cases ha : L[pos k L.length]? with
      | none => rw [ha] at h; cases h
      | some a =>
        rw [ha] at h
        have h : (play pos r (k + 1) (L.eraseIdx (pos k L.length) ++ if o = true then [k] else [])).map ((a, k) :: ·) = some R := h
        cases hp : play pos r (k + 1) (L.eraseIdx (pos k L.length) ++ if o = true then [k] else []) with
        | none => rw [hp] at h; cases h
        | some R' =>
          rw [hp] at h
          cases h
          obtain ⟨h1, h2⟩ := play_ok pos r (k + 1) _ R' (fun x hx => by
            rcases List.mem_append.mp hx with z | z
            · have := hL x (List.mem_of_mem_eraseIdx z)
              omega
            · exact ho x z) hp
          refine ⟨by simpa using h1, fun p hp => ?_⟩
          rcases List.mem_cons.mp hp with z | z
          · rw [z]
            exact hL a (List.mem_of_getElem? ha)
          · exact h2 p z
    | false =>
      rw [if_neg Bool.false_ne_true] at h
      obtain ⟨h1, h2⟩ := play_ok pos r (k + 1) _ R (fun x hx => by
        rcases List.mem_append.mp hx with z | z
        · have := hL x z
          omega
        · exact ho x z) h
      exact ⟨by rw [List.length_cons]; omega, h2⟩
theorem gR_mem : ∀ (R : List (Nat × Nat)) (k a : Nat), gR R k = some a → (a, k) ∈ R := by
  intro R k a
  have key : ∀ (l : List (Nat × Nat)) (o : Option Nat), l.foldl (fun o p => if p.2 = k then some p.1 else o) o = some a → o = some a ∨ (a, k) ∈ l := by
    intro l
    induction l with
    | nil => intro o h; exact .inl h
    | cons p r ih =>
      intro o h
      rcases ih _ h with z | z
      · change (if p.2 = k then some p.1 else o) = some a at z
        by_cases e : p.2 = k
        · rw [if_pos e] at z
          injection z with z
          exact .inr (List.mem_cons.mpr (.inl (by rw [← z, ← e])))
        · rw [if_neg e] at z
          exact .inl z
      · exact .inr (List.mem_cons_of_mem _ z)
  intro h
  rcases key R none h with z | z
  · cases z
  · exact z
theorem map_erase {α β : Type} (f : α → β) : ∀ (l : List α) (i : Nat), (l.map f).eraseIdx i = (l.eraseIdx i).map f
  | [], _ => rfl
  | _ :: _, 0 => rfl
  | x :: r, i + 1 => by
    rw [List.map_cons, List.eraseIdx_cons_succ, List.eraseIdx_cons_succ, List.map_cons, map_erase f r i]
/-- a lot taken as the last, or as the first -/
def posL (last : Bool) : Nat → Nat → Nat := fun _ n => if last = true then n - 1 else 0
def plI (last : Bool) : Int := if last = true then -1 else 0
theorem mem_close (f : Bool × Bool) : memD (enD f) [.str "end", .str "both"] = f.1 := by
  obtain ⟨c, o⟩ := f
  cases c <;> cases o <;> decide +kernel
theorem mem_open (f : Bool × Bool) : memD (enD f) [.str "begin", .str "both"] = f.2 := by
  obtain ⟨c, o⟩ := f
  cases c <;> cases o <;> decide +kernel
theorem flat_en (f : Bool × Bool) : flatD (enD f) = true := by
  obtain ⟨c, o⟩ := f
  cases c <;> cases o <;> rfl
def natD (k : Nat) : D := .int (k : Nat)
section
variable {P : Program} {w : World} {K : PySem.W.Frag} {mg : Str → Option Value} {base : Heap}
def endD (o : Option (List (Nat × Nat))) (n : Nat) : D := match o with
  | none => .non
  | some R => .tup ((madeTo (gR R) n).1.map D.int)
def spJoin : DL.Spec := fun ds Q => ∃ (fl : List (Bool × Bool)) (last : Bool), ds = [.tup (fl.map enD), .int (plI last)] ∧ fl.length ≤ 1000 ∧ Q (.dat (endD (play (posL last) fl 0 []) fl.length))
theorem k_joined (T : Txt K mg) : Known P w K mg base "joined" ["row", "place"] 2 spJoin := by
  refine knownD T.h_joined sc_joined ?_ (w_joined T (k_from_arcs T)).2 ?_
  · rintro ds Q ⟨fl, last, rfl, _⟩; rfl
  rintro ds Q ⟨fl, last, rfl, hl, q⟩
  refine ⟨by show 0 ≤ sizeLine; decide, by show 0 ≤ sizeLine; decide, fun i e => ∃ (L : List Nat) (acc : List (Nat × Nat)) (c1 c2 : Cel), e = [.d (.tup (fl.map enD)), .d (.int (plI last)), .own (.lst (L.map natD)), .own (.lst (acc.map pairD)), c1, c2] ∧ L.length ≤ i ∧ acc.length ≤ i ∧ play (posL last) fl 0 [] = (play (posL last) (fl.drop i) i L).map (acc ++ ·), ⟨[], [], _, _, rfl, Nat.le_refl _, Nat.le_refl _, ?_⟩, ?_, ?_⟩
  · rw [List.drop_zero]
    cases play (posL last) fl 0 [] <;> rfl
  · rintro i d e hd ⟨L, acc, c1, c2, rfl, hLl, hal, hp⟩
    obtain ⟨y, hy, rfl⟩ := enum_out hd
    obtain ⟨⟨c, o⟩, hx, rfl⟩ := at_map hy
    have hi := lt_at hx
    rw [drop_at hx, play] at hp
    have opn : ∀ (L' : List Nat) (acc' : List (Nat × Nat)), L'.length ≤ i → acc'.length ≤ i + 1 → play (posL last) fl 0 [] = (play (posL last) (fl.drop (i + 1)) (i + 1) (L' ++ if o = true then [i] else [])).map (acc' ++ ·) → True := fun _ _ _ _ _ => trivial
    refine ⟨rfl, by show 2 ≤ sizeLine; decide, ⟨flat_en _, rfl⟩, ?_⟩
    rw [mem_close]
    refine ⟨fun h1 => ?_, fun h1 => ?_⟩
    · have h1 : c = true := h1
      subst h1
      rw [if_pos rfl] at hp
      refine ⟨fun h2 => ?_, fun h2 => ?_⟩
      · -- nothing is open
        have e0 : L = [] := by
          cases L with
          | nil => rfl
          | cons x r => simp at h2
        subst e0
        have hp : play (posL last) fl 0 [] = none := hp
        rw [hp] at q
        exact q
      · have e0 : L ≠ [] := fun z => by
          subst z
          simp at h2
        have hpos : 0 < L.length := List.length_pos_iff.mpr e0
        have hpl : posL last i L.length < L.length := by
          unfold posL
          split <;> omega
        rw [List.getElem?_eq_getElem hpl] at hp
        have hp : play (posL last) fl 0 [] = ((play (posL last) (fl.drop (i + 1)) (i + 1) (L.eraseIdx (posL last i L.length) ++ if o = true then [i] else [])).map ((L[posL last i L.length], i) :: ·)).map (acc ++ ·) := hp
        have hp2 : play (posL last) fl 0 [] = (play (posL last) (fl.drop (i + 1)) (i + 1) (L.eraseIdx (posL last i L.length) ++ if o = true then [i] else [])).map ((acc ++ [(L[posL last i L.length], i)]) ++ ·) := by
          rw [hp, Option.map_map]
          congr 1
          funext z
          simp
        have hel : (L.eraseIdx (posL last i L.length)).length + 1 = L.length := by
          rw [List.length_eraseIdx, if_pos hpl]
          omega
        refine ⟨⟨_, rfl⟩, ⟨_, rfl⟩, L.map natD, posL last i L.length, natD L[posL last i L.length], rfl, by unfold plI; split <;> omega, ?_, ?_, by show 2 ≤ sizeLine; decide, acc.map pairD, rfl, by rw [List.length_map]; omega, by show 2 ≤ sizeLine; decide, ⟨flat_en _, rfl⟩, ?_⟩
        · rw [List.length_map]
          unfold plI posL
          cases last
          · exact (ixN_seq (show ixN L.length 0 = some 0 by simp [ixN]; omega)).1
          · refine (ixN_seq (show ixN L.length (-1) = some (L.length - 1) by simp [ixN]; omega)).1
        · rw [List.getElem?_map, List.getElem?_eq_getElem hpl]
          rfl
        · rw [mem_open]
          refine ⟨fun h3 => ⟨⟨_, rfl⟩, _, rfl, by rw [List.length_eraseIdx, List.length_map]; split <;> omega, L.eraseIdx (posL last i L.length) ++ [i], acc ++ [(L[posL last i L.length], i)], .d (.int (i : Nat)), .d (enD (true, o)), ?_, ?_, ?_, ?_⟩, fun h3 => ⟨L.eraseIdx (posL last i L.length), acc ++ [(L[posL last i L.length], i)], .d (.int (i : Nat)), .d (enD (true, o)), ?_, ?_, ?_, ?_⟩⟩
          · rw [List.map_append, List.map_append, map_erase]; rfl
          · rw [List.length_append]; show _ + 1 ≤ _; omega
          · rw [List.length_append]; show _ + 1 ≤ _; omega
          · have h3 : o = true := h3
            rw [hp2, h3]; rfl
          · rw [List.map_append, map_erase]; rfl
          · omega
          · rw [List.length_append]; show _ + 1 ≤ _; omega
          · have h3 : o = false := h3
            rw [hp2, h3]
            simp
    · have h1 : c = false := h1
      subst h1
      rw [if_neg Bool.false_ne_true] at hp
      refine ⟨by show 2 ≤ sizeLine; decide, ⟨flat_en _, rfl⟩, ?_⟩
      rw [mem_open]
      refine ⟨fun h3 => ⟨⟨_, rfl⟩, _, rfl, by rw [List.length_map]; omega, L ++ [i], acc, .d (.int (i : Nat)), .d (enD (false, o)), ?_, ?_, ?_, ?_⟩, fun h3 => ⟨L, acc, .d (.int (i : Nat)), .d (enD (false, o)), ?_, ?_, ?_, ?_⟩⟩
      · rw [List.map_append]; rfl
      · rw [List.length_append]; show _ + 1 ≤ _; omega
      · omega
      · have h3 : o = true := h3
        rw [hp, h3]; rfl
      · rfl
      · omega
      · omega
      · have h3 : o = false := h3
        rw [hp, h3]
        simp
  · rintro e ⟨L, acc, c1, c2, rfl, hLl, hal, hp⟩
    rw [enum_len', List.length_map] at hp hal
    rw [List.drop_length] at hp
    refine ⟨fun h => ?_, fun h => ?_⟩
    · have e0 : L = [] := by
        cases L with
        | nil => rfl
        | cons x r => simp at h
      subst e0
      have hp : play (posL last) fl 0 [] = some (acc ++ []) := hp
      rw [List.append_nil] at hp
      obtain ⟨h1, h2⟩ := play_ok _ _ _ _ _ (fun a h => by cases h) hp
      rw [hp] at q
      refine ⟨fl.length, acc, ?_, hl, by omega, fun k a hk => h2 (a, k) (gR_mem _ _ _ hk), q⟩
      rw [List.length_map]
    · have e0 : L ≠ [] := fun z => by
        subst z
        simp at h
      have hp : play (posL last) fl 0 [] = none := by
        rw [hp, play, if_neg e0]
        rfl
      rw [hp] at q
      exact q
end
end K10

namespace K10
open PySem L2 DL
/-- the arcs exchanged -/
def playX (g : Nat → Option Nat) : List (Bool × Bool) → Nat → List Nat → List Nat → Option (List (Nat × Nat))
  | [], _, _, L => if L = [] then some [] else none
  | (c, o) :: r, k, M, L => if c = true then (match g k with
      | none => none
      | some a => match L[L.length - 1 - M.idxOf a]? with
        | none => none
        | some b => if a ∈ M ∧ M.length = L.length then (playX g r (k + 1) (M.eraseIdx (M.idxOf a) ++ if o = true then [k] else []) (L.eraseIdx (L.length - 1 - M.idxOf a) ++ if o = true then [k] else [])).map ((b, k) :: ·) else none)
    else playX g r (k + 1) (M ++ if o = true then [k] else []) (L ++ if o = true then [k] else [])
theorem playX_ok (g : Nat → Option Nat) : ∀ (fl : List (Bool × Bool)) (k : Nat) (M L : List Nat) (R : List (Nat × Nat)), (∀ a ∈ L, a < k) → playX g fl k M L = some R → R.length ≤ fl.length ∧ ∀ p ∈ R, p.1 < p.2
  | [], k, M, L, R, hL, h => by
    unfold playX at h
    split at h
    · cases h
      exact ⟨Nat.le_refl _, fun p hp => by cases hp⟩
    · cases h
  | (c, o) :: r, k, M, L, R, hL, h => by
    have ho : ∀ x ∈ (if o = true then [k] else []), x < k + 1 := fun x hx => by
      cases o
      · cases hx
      · cases List.mem_singleton.mp hx
        exact Nat.lt_succ_self k
    unfold playX at h
    cases c with
    | true =>
      rw [if_pos rfl] at h
      cases hg : g k with
      | none => rw [hg] at h; cases h
      | some a =>
        simp only [hg] at h
        cases hb : L[L.length - 1 - M.idxOf a]? with
        | none => rw [hb] at h; cases h
        | some b =>
          simp only [hb] at h
          split at h
          · cases hp : playX g r (k + 1) (M.eraseIdx (M.idxOf a) ++ if o = true then [k] else []) (L.eraseIdx (L.length - 1 - M.idxOf a) ++ if o = true then [k] else []) with
            | none => rw [hp] at h; cases h
            | some R' =>
              rw [hp] at h
              cases h
              obtain ⟨h1, h2⟩ := playX_ok g r (k + 1) _ _ R' (fun x hx => by
                rcases List.mem_append.mp hx with z | z
                · have := hL x (List.mem_of_mem_eraseIdx z)
                  omega
                · exact ho x z) hp
              refine ⟨by simpa using h1, fun p hp => ?_⟩
              rcases List.mem_cons.mp hp with z | z
              · rw [z]
                exact hL b (List.mem_of_getElem? hb)
              · exact h2 p z
          · cases h
    | false =>
      rw [if_neg Bool.false_ne_true] at h
      obtain ⟨h1, h2⟩ := playX_ok g r (k + 1) _ _ R (fun x hx => by
        rcases List.mem_append.mp hx with z | z
        · have := hL x z
          omega
        · exact ho x z) h
      exact ⟨by rw [List.length_cons]; omega, h2⟩
theorem idx_first {a : Nat} : ∀ {M : List Nat} {m : Nat}, M[m]? = some a → M.idxOf a ≤ m
  | [], m, h => by simp at h
  | x :: r, 0, h => by
    have e : x = a := Option.some.inj h
    subst e
    simp
  | x :: r, m + 1, h => by
    have ih := idx_first (M := r) (m := m) h
    rw [List.idxOf_cons]
    cases x == a
    · exact Nat.succ_le_succ ih
    · exact Nat.zero_le _
theorem deq_nat (a b : Nat) : deq (natD a) (natD b) = decide (a = b) := by
  show PyData.eqv (.int (a : Nat)) (.int (b : Nat)) = decide (a = b)
  simp only [PyData.eqv]
  by_cases h : a = b
  · subst h; simp
  · simp [h]; omega
theorem all_nat (L : List Nat) : (L.map natD).all flatD = true := List.all_eq_true.mpr fun d hd => by
  obtain ⟨x, _, rfl⟩ := List.mem_map.mp hd
  rfl
section
variable {P : Program} {w : World} {K : PySem.W.Frag} {mg : Str → Option Value} {base : Heap}
def spWo (last : Bool) : DL.Spec := fun ds Q => ∃ (fl : List (Bool × Bool)), ds = [.tup (fl.map enD)] ∧ fl.length ≤ 1000 ∧ Q (.dat (endD (play (posL last) fl 0 []) fl.length))
theorem k_without_crossings (T : Txt K mg) : Known P w K mg base "without_crossings" ["row"] 3 (spWo true) := by
  refine knownD T.h_without_crossings sc_without_crossings ?_ (w_without_crossings T (k_joined T)).2 ?_
  · rintro ds Q ⟨fl, rfl, _⟩; rfl
  rintro ds Q ⟨fl, rfl, hl, q⟩
  exact ⟨fl, true, rfl, hl, q⟩
theorem k_without_nestings (T : Txt K mg) : Known P w K mg base "without_nestings" ["row"] 3 (spWo false) := by
  refine knownD T.h_without_nestings sc_without_nestings ?_ (w_without_nestings T (k_joined T)).2 ?_
  · rintro ds Q ⟨fl, rfl, _⟩; rfl
  rintro ds Q ⟨fl, rfl, hl, q⟩
  exact ⟨fl, false, rfl, hl, q⟩
def spExch : DL.Spec := fun ds Q => ∃ (ns : List Int) (R : List (Nat × Nat)), ds = [.tup (ns.map D.int)] ∧ ns.length ≤ 1000 ∧ playX (gR (rows ns)) (flags (rows ns) ns.length) 0 [] [] = some R ∧ Q (.dat (.tup ((madeTo (gR R) ns.length).1.map D.int)))
theorem k_exchanged (T : Txt K mg) : Known P w K mg base "exchanged" ["word"] 3 spExch := by
  refine knownD T.h_exchanged sc_exchanged ?_ (w_exchanged T ((k_arcs T).mono (by decide)) ((k_ends_of T).mono (by decide)) ((k_from_arcs T).mono (by decide))).2 ?_
  · rintro ds Q ⟨ns, R, rfl, _⟩; rfl
  rintro ds Q ⟨ns, R', rfl, hl, hX, q⟩
  have hR := rows_len ns
  refine ⟨ns, rfl, hl, ?_⟩
  generalize hrr : rows ns = R at hR q hX ⊢
  refine ⟨fun i kds => kds.length ≤ i ∧ ∀ k : Nat, valD kds (.inl (k : Nat)) = (gR (R.take i) k).map fun a => .int (a : Nat), ⟨Nat.le_refl _, fun k => rfl⟩, ?_, ?_⟩
  · rintro i d kds hd ⟨hk, hv⟩
    obtain ⟨p, hp, rfl⟩ := at_map hd
    have hi := lt_at hp
    have pl := put_len kds (.inl ((p.2 : Nat) : Int)) (.int (p.1 : Nat))
    refine ⟨rfl, rfl, ⟨fun _ => ⟨rfl, rfl, by omega, by omega, fun k => ?_⟩, fun h => (nomatch h)⟩⟩
    rw [valD_put, take_at hp, gR_snoc, hv k]
    by_cases e : p.2 = k
    · rw [if_pos e, if_pos (by rw [e])]
      rfl
    · rw [if_neg e, if_neg fun z => e (by injection z with z; omega)]
  rintro kds ⟨hk, hv⟩
  rw [List.length_map, List.take_length] at hv
  refine ⟨by show 0 ≤ sizeLine; decide, by show 0 ≤ sizeLine; decide, ?_⟩
  refine ⟨rfl, by show 0 ≤ sizeLine; decide, ns, rfl, hl, ?_⟩
  rw [hrr]
  generalize hfl : flags R ns.length = fl at hX ⊢
  have hfll : fl.length = ns.length := by rw [← hfl, flags_len]
  refine ⟨fun i e => ∃ (M L : List Nat) (acc : List (Nat × Nat)) (c1 c2 c3 c4 : Cel), e = [.d (.tup (ns.map D.int)), .own (.dk kds), .own (.lst (acc.map pairD)), .own (.lst (M.map natD)), .own (.lst (L.map natD)), c1, c2, c3, c4] ∧ M.length ≤ i ∧ L.length ≤ i ∧ acc.length ≤ i ∧ (playX (gR R) (fl.drop i) i M L).map (acc ++ ·) = some R', ⟨[], [], [], _, _, _, _, rfl, Nat.le_refl _, Nat.le_refl _, Nat.le_refl _, ?_⟩, ?_, ?_⟩
  · rw [List.drop_zero, hX]
    rfl
  · rintro i d e hd ⟨M, L, acc, c1, c2, c3, c4, rfl, hMl, hLl, hal, hp⟩
    obtain ⟨y, hy, rfl⟩ := enum_out hd
    obtain ⟨⟨c, o⟩, hx, rfl⟩ := at_map hy
    have hi := lt_at hx
    rw [drop_at hx, playX] at hp
    refine ⟨rfl, by show 2 ≤ sizeLine; decide, ⟨flat_en _, rfl⟩, ?_⟩
    rw [mem_close]
    refine ⟨fun h1 => ?_, fun h1 => ?_⟩
    · have h1 : c = true := h1
      subst h1
      rw [if_pos rfl] at hp
      cases hg : gR R i with
      | none => rw [hg] at hp; cases hp
      | some a =>
        simp only [hg] at hp
        cases hb : L[L.length - 1 - M.idxOf a]? with
        | none => rw [hb] at hp; cases hp
        | some b =>
          simp only [hb] at hp
          by_cases hML : a ∈ M ∧ M.length = L.length
          · rw [if_pos hML, Option.map_map] at hp
            obtain ⟨hM, hML⟩ := hML
            have him : M.idxOf a < M.length := List.idxOf_lt_length_of_mem hM
            have hget : M[M.idxOf a] = a := List.getElem_idxOf him
            have hplace : ∀ (m : Nat) (z : D), m < M.idxOf a → (M.map natD)[m]? = some z → deq z (natD a) = false := fun m z hm hz => by
              obtain ⟨x, hx, rfl⟩ := at_map hz
              rw [deq_nat, decide_eq_false_iff_not]
              intro e
              subst e
              have := idx_first hx
              omega
            have hMe : (M.eraseIdx (M.idxOf a)).length + 1 = M.length := by
              rw [List.length_eraseIdx, if_pos him]
              omega
            have hj : L.length - 1 - M.idxOf a < L.length := by omega
            have hLe : (L.eraseIdx (L.length - 1 - M.idxOf a)).length + 1 = L.length := by
              rw [List.length_eraseIdx, if_pos hj]
              omega
            have hp : (playX (gR R) (fl.drop (i + 1)) (i + 1) (M.eraseIdx (M.idxOf a) ++ if o = true then [i] else []) (L.eraseIdx (L.length - 1 - M.idxOf a) ++ if o = true then [i] else [])).map ((acc ++ [(b, i)]) ++ ·) = some R' := by
              rw [← hp]
              congr 1
              funext z
              simp
            have sx : ∀ (n j : Nat), j < n → seqIndex? (j : Nat) n = some j := fun n j h => (ixN_seq (show ixN n (j : Nat) = some j by simp [ixN]; omega)).1
            have eM : ((L.map natD).length : Int) - 1 - ((M.idxOf a : Nat) : Int) = ((L.length - 1 - M.idxOf a : Nat) : Int) := by
              rw [List.length_map]
              omega
            refine ⟨trivial, ⟨_, rfl⟩, kds, .int (a : Nat), rfl, by rw [hv i, hg]; rfl, rfl, all_nat M, M.idxOf a, natD a, by rw [List.getElem?_map, List.getElem?_eq_getElem him, hget]; rfl, by show deq (natD a) (natD a) = true; rw [deq_nat]; simp, hplace, ?_⟩
            refine ⟨⟨_, rfl⟩, M.map natD, M.idxOf a, natD a, rfl, by omega, by rw [List.length_map]; exact sx _ _ him, by rw [List.getElem?_map, List.getElem?_eq_getElem him, hget]; rfl, ?_⟩
            refine ⟨⟨_, rfl⟩, ⟨_, rfl⟩, L.map natD, L.length - 1 - M.idxOf a, natD b, rfl, by omega, ?_, by rw [List.getElem?_map, hb]; rfl, by show 2 ≤ sizeLine; decide, acc.map pairD, rfl, by rw [List.length_map]; omega, by show 2 ≤ sizeLine; decide, ⟨flat_en _, rfl⟩, ?_⟩
            · rw [eM, List.length_map]
              exact sx _ _ hj
            · rw [mem_open]
              refine ⟨fun h3 => ⟨⟨_, rfl⟩, _, rfl, by rw [List.length_eraseIdx, List.length_map]; split <;> omega, ⟨_, rfl⟩, _, rfl, by rw [List.length_eraseIdx, List.length_map]; split <;> omega, M.eraseIdx (M.idxOf a) ++ [i], L.eraseIdx (L.length - 1 - M.idxOf a) ++ [i], acc ++ [(b, i)], .d (.int (i : Nat)), .d (enD (true, o)), .d (.int (M.idxOf a : Nat)), c4, ?_, ?_, ?_, ?_, ?_⟩, fun h3 => ⟨M.eraseIdx (M.idxOf a), L.eraseIdx (L.length - 1 - M.idxOf a), acc ++ [(b, i)], .d (.int (i : Nat)), .d (enD (true, o)), .d (.int (M.idxOf a : Nat)), c4, ?_, ?_, ?_, ?_, ?_⟩⟩
              · rw [List.map_append, List.map_append, List.map_append, map_erase, map_erase]; rfl
              · rw [List.length_append]; show _ + 1 ≤ _; omega
              · rw [List.length_append]; show _ + 1 ≤ _; omega
              · rw [List.length_append]; show _ + 1 ≤ _; omega
              · have h3 : o = true := h3
                rw [h3] at hp
                exact hp
              · rw [List.map_append, map_erase, map_erase]; rfl
              · omega
              · omega
              · rw [List.length_append]; show _ + 1 ≤ _; omega
              · have h3 : o = false := h3
                rw [h3] at hp
                simpa using hp
          · rw [if_neg hML] at hp
            cases hp
    · have h1 : c = false := h1
      subst h1
      rw [if_neg Bool.false_ne_true] at hp
      refine ⟨by show 2 ≤ sizeLine; decide, ⟨flat_en _, rfl⟩, ?_⟩
      rw [mem_open]
      refine ⟨fun h3 => ⟨⟨_, rfl⟩, _, rfl, by rw [List.length_map]; omega, ⟨_, rfl⟩, _, rfl, by rw [List.length_map]; omega, M ++ [i], L ++ [i], acc, .d (.int (i : Nat)), .d (enD (false, o)), c3, c4, ?_, ?_, ?_, ?_, ?_⟩, fun h3 => ⟨M, L, acc, .d (.int (i : Nat)), .d (enD (false, o)), c3, c4, ?_, ?_, ?_, ?_, ?_⟩⟩
      · rw [List.map_append, List.map_append]; rfl
      · rw [List.length_append]; show _ + 1 ≤ _; omega
      · rw [List.length_append]; show _ + 1 ≤ _; omega
      · omega
      · have h3 : o = true := h3
        rw [h3] at hp
        exact hp
      · rfl
      · omega
      · omega
      · omega
      · have h3 : o = false := h3
        rw [h3] at hp
        simpa using hp
  · rintro e ⟨M, L, acc, c1, c2, c3, c4, rfl, hMl, hLl, hal, hp⟩
    rw [enum_len', List.length_map] at hp hal
    rw [List.drop_length, playX] at hp
    split at hp
    · have hp : some (acc ++ []) = some R' := hp
      rw [List.append_nil] at hp
      cases hp
      obtain ⟨h1, h2⟩ := playX_ok _ _ _ _ _ _ (fun a h => by cases h) hX
      refine ⟨ns.length, R', ?_, hl, by omega, fun k a hk => h2 (a, k) (gR_mem _ _ _ hk), q⟩
      rw [List.length_map]
    · cases hp
end
end K10

namespace K10
open PySem L2 DL
/-! numbers of lots -/
def frcN (x : Nat) (f : Nat → Bool) : Bool := match x with
  | 0 => f 0
  | n + 1 => f (n + 1)
theorem frcN_eq (x : Nat) (f : Nat → Bool) : frcN x f = f x := by cases x <;> rfl
/-- the next row of lots by number: the entry before, and j times the own one -/
def nxS (p j : Nat) : List Nat → List Nat
  | [] => [p]
  | x :: r => (p + j * x) :: nxS x (j + 1) r
def stir : Nat → List Nat
  | 0 => [1]
  | n + 1 => nxS 0 0 (stir n)
def nxB (s : Nat) : List Nat → List Nat
  | [] => [s]
  | x :: r => s :: nxB (s + x) r
def bell : Nat → List Nat
  | 0 => [1]
  | n + 1 => nxB ((bell n).getLastD 0) (bell n)
def kS : List Nat → Nat → Nat → (List Nat → Bool) → Bool
  | [], p, _, k => k [p]
  | x :: r, p, j, k => frcN (p + j * x) fun v => kS r x (j + 1) fun l => k (v :: l)
def kB : List Nat → Nat → (List Nat → Bool) → Bool
  | [], s, k => k [s]
  | x :: r, s, k => frcN (s + x) fun t => kB r t fun l => k (s :: l)
theorem kS_eq : ∀ (r : List Nat) (p j : Nat) (k : List Nat → Bool), kS r p j k = k (nxS p j r)
  | [], p, j, k => rfl
  | x :: r, p, j, k => by rw [kS, frcN_eq, kS_eq r]; rfl
theorem kB_eq : ∀ (r : List Nat) (s : Nat) (k : List Nat → Bool), kB r s k = k (nxB s r)
  | [], s, k => rfl
  | x :: r, s, k => by rw [kB, frcN_eq, kB_eq r]; rfl
def sumN : List Nat → Nat → Nat
  | [], s => s
  | x :: r, s => sumN r (s + x)
theorem sumN_eq : ∀ (l : List Nat) (s : Nat), sumN l s = s + l.sum
  | [], s => rfl
  | x :: r, s => by rw [sumN, sumN_eq r, List.sum_cons]; omega
def lastN : Nat → List Nat → Nat
  | d, [] => d
  | _, x :: r => lastN x r
theorem lastN_eq : ∀ (l : List Nat) (d : Nat), lastN d l = l.getLastD d
  | [], d => rfl
  | [x], d => rfl
  | x :: y :: r, d => by
    rw [lastN, lastN_eq (y :: r) x]
    rfl
def chk : Nat → List Nat → List Nat → Bool
  | 0, _, _ => true
  | f + 1, r, b => Nat.beq (b.headD 0) (sumN r 0) && frcN (lastN 0 b) fun s => kS r 0 0 fun r' => kB b s fun b' => chk f r' b'
theorem chk_out : ∀ (f n : Nat), chk f (stir n) (bell n) = true → ∀ m, m < f → (bell (n + m)).headD 0 = (stir (n + m)).sum
  | 0, n, _, m, hm => absurd hm (Nat.not_lt_zero m)
  | f + 1, n, h, m, hm => by
    rw [chk, Bool.and_eq_true, frcN_eq, kS_eq, kB_eq, lastN_eq] at h
    cases m with
    | zero =>
      have := Nat.eq_of_beq_eq_true h.1
      rw [sumN_eq] at this
      rw [Nat.add_zero, this]
      omega
    | succ m =>
      have := chk_out f (n + 1) h.2 m (by omega)
      rwa [show n + (m + 1) = n + 1 + m by omega]
theorem chk_ok : chk 202 [1] [1] = true := by decide +kernel
theorem bell_stir (n : Nat) (h : n ≤ 200) : (bell n).headD 0 = (stir n).sum := by
  have := chk_out 202 0 chk_ok n (by omega)
  rwa [Nat.zero_add] at this
end K10

namespace K10
open PySem L2 DL
def eS (r : List Nat) (j m : Nat) : Nat := (if 1 ≤ m ∧ m ≤ j then r.getD (m - 1) 0 else 0) + (if m < j then m * r.getD m 0 else 0)
def lonL (r : List Nat) (j : Nat) : List Nat := (List.range (r.length + 1)).map (eS r j)
theorem lonL_len (r : List Nat) (j : Nat) : (lonL r j).length = r.length + 1 := by unfold lonL; rw [List.length_map, List.length_range]
theorem lonL_at {r : List Nat} {j m : Nat} (h : m < r.length + 1) : (lonL r j)[m]? = some (eS r j m) := by
  unfold lonL
  rw [List.getElem?_map, List.getElem?_range h]
  rfl
theorem lonL_zero (r : List Nat) : lonL r 0 = List.replicate (r.length + 1) 0 := by
  refine List.ext_getElem? fun m => ?_
  by_cases h : m < r.length + 1
  · rw [lonL_at h, List.getElem?_replicate, if_pos h]
    unfold eS
    rw [if_neg (by omega), if_neg (by omega)]
  · rw [List.getElem?_eq_none (by rw [lonL_len]; omega), List.getElem?_eq_none (by rw [List.length_replicate]; omega)]
theorem lonL_step {r : List Nat} {j x : Nat} (h : r[j]? = some x) : ((lonL r j).set (j + 1) (eS r j (j + 1) + x)).set j (eS r j j + j * x) = lonL r (j + 1) := by
  have hj := lt_at h
  have hx : r.getD j 0 = x := by rw [List.getD_eq_getElem?_getD, h]; rfl
  refine List.ext_getElem? fun m => ?_
  by_cases hm : m < r.length + 1
  · rw [lonL_at hm]
    by_cases e1 : m = j
    · subst e1
      rw [List.getElem?_set_self (by rw [List.length_set, lonL_len]; omega)]
      unfold eS
      rw [if_neg (show ¬ m < m by omega), if_pos (show m < m + 1 by omega), hx]
      by_cases z : 1 ≤ m
      · rw [if_pos ⟨z, Nat.le_refl _⟩, if_pos ⟨z, by omega⟩, Nat.add_zero]
      · rw [if_neg (fun w => z w.1), if_neg (fun w => z w.1), Nat.add_zero]
    · rw [List.getElem?_set_ne (fun w => e1 w.symm)]
      by_cases e2 : m = j + 1
      · subst e2
        rw [List.getElem?_set_self (by rw [lonL_len]; omega)]
        unfold eS
        rw [if_neg (show ¬ (1 ≤ j + 1 ∧ j + 1 ≤ j) by omega), if_neg (show ¬ j + 1 < j by omega), if_pos (show 1 ≤ j + 1 ∧ j + 1 ≤ j + 1 by omega), if_neg (show ¬ j + 1 < j + 1 by omega), Nat.add_sub_cancel, hx]
        congr 1
        omega
      · rw [List.getElem?_set_ne (fun w => e2 w.symm), lonL_at hm]
        have h1 : (1 ≤ m ∧ m ≤ j) = (1 ≤ m ∧ m ≤ j + 1) := propext ⟨fun w => ⟨w.1, by omega⟩, fun w => ⟨w.1, by omega⟩⟩
        have h2 : (m < j) = (m < j + 1) := propext ⟨fun w => by omega, fun w => by omega⟩
        unfold eS
        simp only [h1, h2]
  · rw [List.getElem?_eq_none (by rw [List.length_set, List.length_set, lonL_len]; omega), List.getElem?_eq_none (by rw [lonL_len]; omega)]
theorem nxS_eq : ∀ (r : List Nat) (p j : Nat), nxS p j r = (List.range (r.length + 1)).map fun m => (if m = 0 then p else r.getD (m - 1) 0) + (j + m) * r.getD m 0
  | [], p, j => by simp [nxS]
  | x :: r, p, j => by
    rw [nxS, nxS_eq r, List.length_cons, List.range_succ_eq_map (n := r.length + 1), List.map_cons, List.map_map]
    congr 1
    · refine List.map_congr_left fun m _ => ?_
      show _ = (if m + 1 = 0 then p else (x :: r).getD (m + 1 - 1) 0) + (j + (m + 1)) * (x :: r).getD (m + 1) 0
      rw [if_neg (Nat.succ_ne_zero m), Nat.add_sub_cancel, List.getD_cons_succ, show j + 1 + m = j + (m + 1) by omega]
      congr 1
      by_cases z : m = 0
      · subst z; rfl
      · rw [if_neg z]
        obtain ⟨k, rfl⟩ := Nat.exists_eq_succ_of_ne_zero z
        rfl
theorem lonL_all (r : List Nat) : lonL r r.length = nxS 0 0 r := by
  rw [nxS_eq]
  unfold lonL
  refine List.map_congr_left fun m hm => ?_
  have hm : m < r.length + 1 := List.mem_range.mp hm
  unfold eS
  by_cases z : m = 0
  · subst z; simp
  · rw [if_pos (show 1 ≤ m ∧ m ≤ r.length by omega), if_neg z, Nat.zero_add]
    by_cases b : m < r.length
    · rw [if_pos b]
    · have e : r.getD m 0 = 0 := by
        rw [List.getD_eq_getElem?_getD, List.getElem?_eq_none (by omega)]
        rfl
      rw [if_neg b, e, Nat.mul_zero]
theorem stir_len : ∀ n, (stir n).length = n + 1
  | 0 => rfl
  | n + 1 => by rw [stir, nxS_eq, List.length_map, List.length_range, stir_len n]
theorem nxB_len : ∀ (r : List Nat) (s : Nat), (nxB s r).length = r.length + 1
  | [], s => rfl
  | x :: r, s => by rw [nxB, List.length_cons, nxB_len r, List.length_cons]
theorem bell_len : ∀ n, (bell n).length = n + 1
  | 0 => rfl
  | n + 1 => by rw [bell, nxB_len, bell_len n]
theorem nxB_take : ∀ (r : List Nat) (s j : Nat), j ≤ r.length → (nxB s r).take (j + 1) = nxB s (r.take j)
  | r, s, 0, _ => by cases r <;> rfl
  | [], s, j + 1, h => by simp at h
  | x :: r, s, j + 1, h => by
    rw [nxB, List.take_succ_cons, nxB_take r (s + x) j (by simpa using h), List.take_succ_cons, nxB]
theorem nxB_snoc : ∀ (r : List Nat) (s x : Nat), nxB s (r ++ [x]) = nxB s r ++ [(nxB s r).getLastD 0 + x]
  | [], s, x => rfl
  | y :: r, s, x => by
    rw [List.cons_append, nxB, nxB_snoc r, nxB, List.cons_append]
    congr 3
    cases hz : nxB (s + y) r with
    | nil =>
      have := nxB_len r (s + y)
      rw [hz] at this
      cases this
    | cons a b => simp [List.getLastD]
theorem rep_flat (n : Nat) (d : D) : (List.replicate n [d]).flatten = List.replicate n d := by
  induction n with
  | zero => rfl
  | succ n ih => rw [List.replicate_succ, List.flatten_cons, ih]; rfl
theorem at_last (l : List Nat) (h : 0 < l.length) : atI (l.map natD) (-1) = some (natD (l.getLastD 0)) := by
  unfold atI ixN
  rw [List.length_map, if_neg (by omega), if_pos (by omega)]
  show (l.map natD)[((-1 : Int) + (l.length : Nat)).toNat]? = _
  rw [show ((-1 : Int) + (l.length : Nat)).toNat = l.length - 1 by omega, List.getElem?_map, ← List.getLast?_eq_getElem?]
  cases hl : l.getLast? with
  | none =>
    rw [List.getLast?_eq_none_iff.mp hl] at h
    exact absurd h (by decide)
  | some x =>
    rw [List.getLastD_eq_getLast?, hl]
    rfl
section
variable {P : Program} {w : World} {K : PySem.W.Frag} {mg : Str → Option Value} {base : Heap}
def spCount : DL.Spec := fun ds Q => ∃ n k : Nat, ds = [.int (n : Nat), .int (k : Nat)] ∧ n ≤ 1000 ∧ Q (.dat (.int (((stir n).getD k 0 : Nat) : Int)))
theorem k_count_lots (T : Txt K mg) : Known P w K mg base "count_lots" ["n", "k"] 1 spCount := by
  refine knownD T.h_count_lots sc_count_lots ?_ (w_count_lots T).2 ?_
  · rintro ds Q ⟨n, k, rfl, _⟩; rfl
  rintro ds Q ⟨n, k, rfl, hn, q⟩
  refine ⟨by show 1 ≤ sizeLine; decide, ⟨by omega, by omega⟩, ?_⟩
  rw [Int.toNat_natCast]
  refine ⟨fun i e => ∃ c2 c3 c4 c5 c6 : Cel, e = [.d (.int (n : Nat)), .d (.int (k : Nat)), c2, c3, c4, c5, c6] ∧ (c2 = .own (.lst ((stir i).map natD)) ∨ c2 = .d (.lst ((stir i).map natD))), ⟨_, _, _, _, _, rfl, .inl rfl⟩, ?_, ?_⟩
  · rintro i d e hd ⟨c2, c3, c4, c5, c6, rfl, hc⟩
    obtain ⟨hi, rfl⟩ := rangeD_out hd
    have sl := stir_len i
    have go : ∀ e1 : SE, e1 = [.d (.int (n : Nat)), .d (.int (k : Nat)), .d (.lst ((stir i).map natD)), .d (.int ((0 : Int) + (i : Nat))), .own (.lst ((lonL (stir i) 0).map natD)), c5, c6] → True := fun _ _ => trivial
    rcases hc with rfl | rfl
    all_goals
      refine ⟨by show 1 ≤ sizeLine; decide, ⟨by rw [List.length_map, sl]; omega, by omega, by rw [List.length_map, sl]; show 1 * _ ≤ _; omega⟩, ?_⟩
      rw [rep_flat]
      refine ⟨fun j e => ∃ c5 c6 : Cel, e = [.d (.int (n : Nat)), .d (.int (k : Nat)), .d (.lst ((stir i).map natD)), .d (.int ((0 : Int) + (i : Nat))), .own (.lst ((lonL (stir i) j).map natD)), c5, c6], ⟨c5, c6, ?_⟩, ?_, ?_⟩
      · rw [lonL_zero, List.map_replicate, List.length_map]
        have : ((((stir i).length : Nat) : Int) + 1).toNat = (stir i).length + 1 := by omega
        rw [this]
        rfl
      · rintro j d e hd ⟨c5, c6, rfl⟩
        obtain ⟨y, hy, rfl⟩ := enum_out hd
        obtain ⟨x, hx, rfl⟩ := at_map hy
        have hj := lt_at hx
        have ll := lonL_len (stir i) j
        have g1 : ((lonL (stir i) j).map natD)[j + 1]? = some (natD (eS (stir i) j (j + 1))) := by
          rw [List.getElem?_map, lonL_at (by omega)]
          rfl
        have g2 : (((lonL (stir i) j).map natD).set (j + 1) (.int (((eS (stir i) j (j + 1) : Nat) : Int) + (x : Nat))))[j]? = some (natD (eS (stir i) j j)) := by
          rw [List.getElem?_set_ne (by omega), List.getElem?_map, lonL_at (by omega)]
          rfl
        have i1 : ixN ((lonL (stir i) j).map natD).length (((j : Nat) : Int) + 1) = some (j + 1) := by
          rw [List.length_map, ll, show ((j : Nat) : Int) + 1 = ((j + 1 : Nat) : Int) by omega]
          unfold ixN
          rw [if_pos (by omega), if_pos (by omega), Int.toNat_natCast]
        have i2 : ixN (((lonL (stir i) j).map natD).set (j + 1) (.int (((eS (stir i) j (j + 1) : Nat) : Int) + (x : Nat)))).length ((j : Nat) : Int) = some j := by
          rw [List.length_set, List.length_map, ll]
          unfold ixN
          rw [if_pos (by omega), if_pos (by omega), Int.toNat_natCast]
        refine ⟨rfl, natD (eS (stir i) j (j + 1)), by rw [show ((j : Nat) : Int) + 1 = ((j + 1 : Nat) : Int) by omega]; exact atI_nat g1, ⟨_, rfl⟩, _, j + 1, rfl, i1, ?_⟩
        refine ⟨natD (eS (stir i) j j), atI_nat g2, .inl (.inl ⟨by omega, by omega⟩), ⟨_, rfl⟩, _, j, rfl, i2, .d (.int (j : Nat)), .d (natD x), ?_⟩
        rw [← lonL_step hx, List.map_set, List.map_set]
        have e1 : natD (eS (stir i) j (j + 1) + x) = .int (((eS (stir i) j (j + 1) : Nat) : Int) + (x : Nat)) := by unfold natD; rw [Int.natCast_add]
        have e2 : natD (eS (stir i) j j + j * x) = .int (((eS (stir i) j j : Nat) : Int) + (j : Nat) * (x : Nat)) := by unfold natD; rw [Int.natCast_add, Int.natCast_mul]
        rw [e1, e2]
        rfl
      · rintro e ⟨c5, c6, rfl⟩
        rw [enum_len', List.length_map, lonL_all]
        exact ⟨_, _, _, _, _, rfl, .inr rfl⟩
  · rintro e ⟨c2, c3, c4, c5, c6, rfl, hc⟩
    rw [rangeD_len] at hc
    have sl := stir_len n
    rcases hc with rfl | rfl
    all_goals
      refine ⟨fun h => ?_, fun h => ?_⟩
      · have h := of_decide_eq_true h
        rw [List.length_map] at h
        have hk : k < (stir n).length := by omega
        refine ⟨.int (((stir n).getD k 0 : Nat) : Int), atI_nat ?_, q⟩
        rw [List.getElem?_map, List.getD_eq_getElem?_getD, List.getElem?_eq_getElem hk]
        rfl
      · have h := of_decide_eq_false h
        rw [List.length_map] at h
        rw [List.getD_eq_getElem?_getD, List.getElem?_eq_none (by omega)] at q
        exact q
def spAll : DL.Spec := fun ds Q => ∃ n : Nat, ds = [.int (n : Nat)] ∧ n ≤ 1000 ∧ Q (.dat (natD ((bell n).headD 0)))
theorem k_count_all_lots (T : Txt K mg) : Known P w K mg base "count_all_lots" ["n"] 1 spAll := by
  refine knownD T.h_count_all_lots sc_count_all_lots ?_ (w_count_all_lots T).2 ?_
  · rintro ds Q ⟨n, rfl, _⟩; rfl
  rintro ds Q ⟨n, rfl, hn, q⟩
  refine ⟨by show 1 ≤ sizeLine; decide, ⟨by omega, by omega⟩, ?_⟩
  rw [Int.toNat_natCast]
  refine ⟨fun i e => ∃ c1 c2 c3 c4 : Cel, e = [.d (.int (n : Nat)), c1, c2, c3, c4] ∧ (c1 = .own (.lst ((bell i).map natD)) ∨ c1 = .d (.lst ((bell i).map natD))), ⟨_, _, _, _, rfl, .inl rfl⟩, ?_, ?_⟩
  · rintro i d e hd ⟨c1, c2, c3, c4, rfl, hc⟩
    obtain ⟨hi, rfl⟩ := rangeD_out hd
    have sl := bell_len i
    have la := at_last (bell i) (by omega)
    rcases hc with rfl | rfl
    all_goals
      refine ⟨natD ((bell i).getLastD 0), la, by show 1 ≤ sizeLine; decide, ?_⟩
      refine ⟨fun j e => ∃ c4 : Cel, e = [.d (.int (n : Nat)), .d (.lst ((bell i).map natD)), .d (.int ((0 : Int) + (i : Nat))), .own (.lst ((nxB ((bell i).getLastD 0) ((bell i).take j)).map natD)), c4], ⟨c4, rfl⟩, ?_, ?_⟩
      · rintro j d e hd ⟨c4, rfl⟩
        obtain ⟨x, hx, rfl⟩ := at_map hd
        have hj := lt_at hx
        have bl := nxB_len ((bell i).take j) ((bell i).getLastD 0)
        rw [List.length_take] at bl
        refine ⟨⟨_, rfl⟩, natD ((nxB ((bell i).getLastD 0) ((bell i).take j)).getLastD 0), at_last _ (by omega), _, rfl, by rw [List.length_map]; omega, .d (natD x), ?_⟩
        rw [take_at hx, nxB_snoc, List.map_append]
        have e1 : natD ((nxB ((bell i).getLastD 0) ((bell i).take j)).getLastD 0 + x) = .int (((nxB ((bell i).getLastD 0) ((bell i).take j)).getLastD 0 : Nat) + (x : Nat)) := by unfold natD; rw [Int.natCast_add]
        rw [List.map_singleton, e1]
        rfl
      · rintro e ⟨c4, rfl⟩
        rw [List.length_map, List.take_length]
        exact ⟨_, _, _, _, rfl, .inr rfl⟩
  · rintro e ⟨c1, c2, c3, c4, rfl, hc⟩
    rw [rangeD_len] at hc
    have sl := bell_len n
    have h0 : ((bell n).map natD)[0]? = some (natD ((bell n).headD 0)) := by
      cases hb : bell n with
      | nil => rw [hb] at sl; cases sl
      | cons a b => rfl
    rcases hc with rfl | rfl
    all_goals exact ⟨natD ((bell n).headD 0), atI_nat h0, q⟩
end
end K10

namespace K10
open PySem L2 DL
/-! what the law's own helpers compute -/
def topOf (t : Int) (l : List Int) : Int := l.foldl (fun t x => if x > t then x else t) t
theorem growing_snoc : ∀ (l : List Int) (t x : Int), growing t (l ++ [x]) = (growing t l && (decide (0 ≤ x) && decide (x ≤ topOf t l + 1)))
  | [], t, x => by simp [growing, topOf]
  | y :: r, t, x => by
    rw [List.cons_append, growing, growing_snoc r, growing]
    show _ = (_ && (decide (0 ≤ x) && decide (x ≤ topOf (if y > t then y else t) r + 1)))
    simp only [Bool.and_assoc]
theorem topOf_snoc (t x : Int) (l : List Int) : topOf t (l ++ [x]) = if x > topOf t l then x else topOf t l := by
  unfold topOf
  rw [List.foldl_append]
  rfl
theorem topOf_max : ∀ (l : List Int) (t m : Int), m ∈ t :: l → (∀ y, y ∈ t :: l → y ≤ m) → m = topOf t l
  | [], t, m, h1, h2 => by
    cases List.mem_singleton.mp h1
    rfl
  | x :: r, t, m, h1, h2 => by
    show m = topOf (if x > t then x else t) r
    refine topOf_max r _ m ?_ fun y hy => ?_
    · have hx := h2 x (by simp)
      have ht := h2 t (by simp)
      rcases List.mem_cons.mp h1 with z | z
      · rw [← z]
        rw [if_neg (by omega)]
        exact List.mem_cons_self
      · rcases List.mem_cons.mp z with z | z
        · rw [← z]
          by_cases q : m > t
          · rw [if_pos q]
            exact List.mem_cons_self
          · rw [if_neg q]
            have : m = t := by omega
            rw [this]
            exact List.mem_cons_self
        · exact List.mem_cons_of_mem _ z
    · rcases List.mem_cons.mp hy with z | z
      · rw [z]
        split
        · exact h2 x (by simp)
        · exact h2 t (by simp)
      · exact h2 y (List.mem_cons_of_mem _ (List.mem_cons_of_mem _ z))
theorem topOf_ge : ∀ (l : List Int) (t : Int), t ≤ topOf t l
  | [], t => Int.le_refl _
  | x :: r, t => by
    have := topOf_ge r (if x > t then x else t)
    show t ≤ topOf (if x > t then x else t) r
    by_cases h : x > t
    · rw [if_pos h] at this ⊢
      omega
    · rw [if_neg h] at this ⊢
      exact this
/-- the places of the letter of b that lie ahead of b -/
def aheadL (w : List Int) (x : Int) (b : Nat) : List Nat := (List.range b).filter fun a => w[a]? == some x
theorem ahead_last (w : List Int) (x : Int) : ∀ b, (aheadL w x b).getLast? = lastAt w b x
  | 0 => rfl
  | b + 1 => by
    unfold aheadL lastAt
    rw [List.range_succ, List.filter_append]
    by_cases h : w[b]? = some x
    · rw [if_pos h]
      simp [h]
    · rw [if_neg h]
      have : ([b].filter fun a => w[a]? == some x) = [] := by simp [h]
      rw [this, List.append_nil]
      exact ahead_last w x b
theorem arcOf_eq (w : List Int) (b : Nat) (x : Int) (h : w[b]? = some x) : arcOf w b = (((aheadL w x b).drop ((aheadL w x b).length - 1)).map fun a => (a, b)) := by
  unfold arcOf
  rw [h]
  show (match lastAt w b x with | some a => [(a, b)] | none => []) = _
  rw [← ahead_last]
  cases hl : (aheadL w x b).getLast? with
  | none =>
    rw [List.getLast?_eq_none_iff.mp hl]
    rfl
  | some a =>
    obtain ⟨r, hr⟩ := List.getLast?_eq_some_iff.mp hl
    rw [hr, List.length_append, List.length_singleton, Nat.add_sub_cancel, List.drop_left]
    rfl
section
variable {P : Program} {w : World} {K : PySem.W.Frag} {mg : Str → Option Value} {base : Heap}
def spWord : DL.Spec := fun ds Q => ∃ m : Nat, ds = [.sta, .int (m : Nat)] ∧ 1 ≤ m ∧ m ≤ 1000 ∧ ∀ l : List Int, growing (-1) l = true → 1 ≤ l.length → l.length ≤ m → Q (.dat (.tup (l.map D.int)))
theorem k_law_word (T : Txt K mg) : Known P w K mg base "_law_word" ["state", "most"] 3 spWord := by
  refine knownD T.h_law_word sc_law_word ?_ (w_law_word T ((k_law_draw T).mono (by decide)) ((k_law_pick T).mono (by decide))).2 ?_
  · rintro ds Q ⟨m, rfl, _⟩; rfl
  rintro ds Q ⟨m, rfl, hm1, hm2, q⟩
  refine ⟨by show 0 ≤ sizeLine; decide, _, rfl, ⟨by omega, .inl (by omega)⟩, fun n hn0 hn1 => ⟨⟨by omega, by omega⟩, ?_⟩⟩
  refine ⟨fun i e => ∃ (l : List Int) (c3 : Cel), e = [.d .sta, .d (.int (m : Nat)), .own (.lst (l.map D.int)), c3] ∧ l.length = i ∧ growing (-1) l = true, ⟨[], _, rfl, rfl, rfl⟩, ?_, ?_⟩
  · rintro i d e hd ⟨l, c3, rfl, hl, hg⟩
    obtain ⟨hi, rfl⟩ := rangeD_out hd
    have hge := topOf_ge l (-1)
    refine ⟨⟨_, rfl⟩, by show 1 ≤ sizeLine; decide, by rw [List.length_map]; show 1 + _ ≤ _; omega, (-1) :: l, rfl, by simp, fun top h1 h2 => ?_⟩
    have et := topOf_max l (-1) top h1 h2
    refine ⟨by show 3 ≤ sizeLine; decide, _, [.int 1, .int 3, .int 50], rfl, .inl rfl, by decide, by decide, fun j p hp => ?_⟩
    obtain ⟨v, rfl, hv⟩ : ∃ v : Int, p = .int v ∧ 1 ≤ v ∧ v ≤ 50 := by
      match j, hp with
      | 0, hp => cases hp; exact ⟨1, rfl, by omega, by omega⟩
      | 1, hp => cases hp; exact ⟨3, rfl, by omega, by omega⟩
      | 2, hp => cases hp; exact ⟨50, rfl, by omega, by omega⟩
      | j + 3, hp => simp at hp
    refine ⟨_, rfl, ?_, fun r hr0 hr1 => ⟨_, rfl, by rw [List.length_map]; omega, l ++ [r], .d (.int ((0 : Int) + (i : Nat))), ?_, by simp [hl], ?_⟩⟩
    · unfold CD
      split
      · exact ⟨by omega, .inl (by omega)⟩
      · exact ⟨by omega, .inl (by omega)⟩
    · rw [List.map_append]
      rfl
    · rw [growing_snoc, hg, decide_eq_true hr0, decide_eq_true]
      · rfl
      · split at hr1 <;> omega
  · rintro e ⟨l, c3, rfl, hl, hg⟩
    rw [rangeD_len] at hl
    exact q l hg (by omega) (by omega)
def spLArcs : DL.Spec := fun ds Q => ∃ ns : List Int, ds = [.tup (ns.map D.int)] ∧ ns.length ≤ 1000 ∧ Q (.new (.lst ((rows ns).map pairD)))
theorem cut_last (l : List D) : cutD l (some (-1)) none = l.drop (l.length - 1) := by
  unfold cutD
  rw [HT.sIx_none]
  have : HT.sIx l.length 0 (some (-1)) = l.length - 1 := by
    show (if (-1 : Int) < 0 then ((-1 : Int) + (l.length : Nat)).toNat else 0) = _
    rw [if_pos (by decide)]
    omega
  rw [this]
  refine List.take_of_length_le ?_
  rw [List.length_drop]
  omega
theorem k_law_arcs (T : Txt K mg) : Known P w K mg base "_law_arcs" ["word"] 1 spLArcs := by
  refine knownD T.h_law_arcs sc_law_arcs ?_ (w_law_arcs T).2 ?_
  · rintro ds Q ⟨ns, rfl, _⟩; rfl
  rintro ds Q ⟨ns, rfl, hl, q⟩
  refine ⟨by show 0 ≤ sizeLine; decide, ⟨by rw [List.length_map]; omega, by rw [List.length_map]; omega⟩, ?_⟩
  rw [Int.toNat_natCast, List.length_map]
  refine ⟨fun i e => ∃ (c2 c3 c4 : Cel), e = [.d (.tup (ns.map D.int)), .own (.lst ((arcsTo ns i).map pairD)), c2, c3, c4], ⟨_, _, _, rfl⟩, ?_, ?_⟩
  · rintro i d e hd ⟨c2, c3, c4, rfl⟩
    obtain ⟨hi, rfl⟩ := rangeD_out hd
    have hx : ns[i]? = some ns[i] := List.getElem?_eq_getElem hi
    generalize ns[i] = x at hx
    have hal := arcsTo_len ns i
    refine ⟨⟨by omega, by omega⟩, ?_⟩
    have e0 : ((0 : Int) + (i : Nat)) = ((i : Nat) : Int) := Int.zero_add _
    rw [e0, Int.toNat_natCast]
    refine ⟨fun j acc => acc = ((List.range j).filter fun a => ns[a]? == some x).map natD, rfl, ?_, ?_⟩
    · rintro j d acc hd rfl
      obtain ⟨hj, rfl⟩ := rangeD_out hd
      have e1 : ((0 : Int) + (j : Nat)) = ((j : Nat) : Int) := Int.zero_add _
      rw [e1]
      have hy : ns[j]? = some ns[j] := List.getElem?_eq_getElem (by omega)
      generalize ns[j] = y at hy
      have fl : ((List.range j).filter fun a => ns[a]? == some x).length ≤ j := Nat.le_trans (List.length_filter_le _ _) (by rw [List.length_range]; exact Nat.le_refl _)
      refine ⟨.int y, atI_nat (by rw [List.getElem?_map, hy]; rfl), .int x, atI_nat (by rw [List.getElem?_map, hx]; rfl), rfl, fun h => ⟨rfl, by rw [List.length_map]; omega, ?_⟩, fun h => ?_⟩
      · have h := of_decide_eq_true h
        show _ = _
        rw [List.range_succ, List.filter_append, List.map_append]
        simp [hy, h, natD]
      · have h := of_decide_eq_false h
        show _ = _
        rw [List.range_succ, List.filter_append, List.map_append]
        simp [hy, h, natD]
    · rintro acc rfl
      rw [rangeD_len]
      show _
      have hc : cutD ((aheadL ns x i).map natD) (some (-1)) none = ((aheadL ns x i).drop ((aheadL ns x i).length - 1)).map natD := by
        rw [cut_last, List.length_map, List.map_drop]
      have ha := arcOf_eq ns i x hx
      have hlast : ((aheadL ns x i).drop ((aheadL ns x i).length - 1)).length ≤ 1 := by rw [List.length_drop]; omega
      generalize (aheadL ns x i).drop ((aheadL ns x i).length - 1) = la at hc ha hlast
      refine ⟨fun j acc => acc = ((la.take j).map fun a => (a, i)).map pairD, rfl, ?_, ?_⟩
      · rintro j d acc hd rfl
        have hd : (cutD ((aheadL ns x i).map natD) (some (-1)) none)[j]? = some d := hd
        rw [hc] at hd
        obtain ⟨a, hq, rfl⟩ := at_map hd
        have hj := lt_at hq
        refine ⟨rfl, ⟨fun _ => ⟨by show 2 ≤ sizeLine; decide, rfl, by rw [List.length_map, List.length_map, List.length_take]; omega, ?_⟩, fun h => (nomatch h)⟩⟩
        show _ = _
        rw [take_at hq, List.map_append, List.map_append]
        rfl
      · intro acc hacc
        have hacc : acc = ((la.take (cutD ((aheadL ns x i).map natD) (some (-1)) none).length).map fun a => (a, i)).map pairD := hacc
        rw [hc, List.length_map, List.take_length, ← ha] at hacc
        subst hacc
        have hao : (arcOf ns i).length ≤ 1 := by rw [ha, List.length_map]; exact hlast
        refine ⟨by rw [List.length_map, List.length_map]; omega, .d (.int (i : Nat)), .own (.lst ((aheadL ns x i).map natD)), c4, ?_⟩
        show _ = _
        have : arcsTo ns (i + 1) = arcsTo ns i ++ arcOf ns i := rfl
        rw [this, List.map_append]
        rfl
  · rintro e ⟨c2, c3, c4, rfl⟩
    rw [rangeD_len]
    refine ⟨sortOk_pr _, ?_⟩
    show Q (.new (.lst (sortD ((arcsTo ns ns.length).map pairD))))
    rw [srt_map]
    exact q
end
end K10

namespace K10
open PySem L2 DL
def cntN (nested : Bool) (p q : Nat × Nat) : Bool := decide (p.1 < q.1) && (if nested = true then decide (q.1 < q.2) && decide (q.2 < p.2) else decide (q.1 < p.2) && decide (p.2 < q.2))
theorem cnt_cross (R : List (Nat × Nat)) : (R.map fun p => (R.filter (cntN false p)).length).sum = crossN R := by
  unfold crossN
  congr 1
  refine List.map_congr_left fun p _ => ?_
  congr 1
  refine List.filter_congr fun q _ => ?_
  unfold cntN
  simp [Bool.decide_and]
theorem cnt_nest (R : List (Nat × Nat)) : (R.map fun p => (R.filter (cntN true p)).length).sum = nestN R := by
  unfold nestN
  congr 1
  refine List.map_congr_left fun p _ => ?_
  congr 1
  refine List.filter_congr fun q _ => ?_
  unfold cntN
  simp [Bool.decide_and]
/-- the arcs that begin at k, that end at k: as many ones -/
def begL (R : List (Nat × Nat)) (k : Nat) : List (Nat × Nat) := R.filter fun p => p.1 == k
def endL (R : List (Nat × Nat)) (k : Nat) : List (Nat × Nat) := R.filter fun p => p.2 == k
def gF (R : List (Nat × Nat)) (k : Nat) : Option Nat := ((endL R k).map (·.1)).head?
theorem any_beg (R : List (Nat × Nat)) (k : Nat) : (begL R k).isEmpty = !opB R k := by
  unfold begL opB
  rw [Bool.eq_iff_iff, List.isEmpty_iff, List.filter_eq_nil_iff]
  simp
theorem any_end (R : List (Nat × Nat)) (k : Nat) : (endL R k).isEmpty = !clB R k := by
  unfold endL clB
  rw [Bool.eq_iff_iff, List.isEmpty_iff, List.filter_eq_nil_iff]
  simp
theorem deq_empty (l : List D) : deq (.lst l) (.lst []) = l.isEmpty := by
  cases l with
  | nil => rfl
  | cons x r => rfl
theorem shp_ints {n : Nat} (l : List Int) : Shp (n + 1) (.lst (l.map D.int)) := .lst fun d hd => by
  obtain ⟨x, _, rfl⟩ := List.mem_map.mp hd
  exact .int _
theorem shp_nats {n : Nat} (l : List Nat) : Shp (n + 1) (.lst (l.map natD)) := .lst fun d hd => by
  obtain ⟨x, _, rfl⟩ := List.mem_map.mp hd
  exact .int _
section
variable {P : Program} {w : World} {K : PySem.W.Frag} {mg : Str → Option Value} {base : Heap}
def spLCount : DL.Spec := fun ds Q => ∃ (R : List (Nat × Nat)) (b : Bool), ds = [.lst (R.map pairD), .bl b] ∧ R.length ≤ 1000 ∧ Q (.dat (natD (if b = true then nestN R else crossN R)))
theorem k_law_count (T : Txt K mg) : Known P w K mg base "_law_count" ["rows", "nested"] 1 spLCount := by
  refine knownD T.h_law_count sc_law_count ?_ (w_law_count T).2 ?_
  · rintro ds Q ⟨R, b, rfl, _⟩; rfl
  rintro ds Q ⟨R, b, rfl, hR, q⟩
  let f : Nat × Nat → Nat := fun p => (R.filter (cntN b p)).length
  refine ⟨fun i e => ∃ c3 c4 c5 c6 : Cel, e = [.d (.lst (R.map pairD)), .d (.bl b), .d (natD ((R.take i).map f).sum), c3, c4, c5, c6], ⟨_, _, _, _, rfl⟩, ?_, ?_⟩
  · rintro i d e hd ⟨c3, c4, c5, c6, rfl⟩
    obtain ⟨p, hp, rfl⟩ := at_map hd
    refine ⟨rfl, ?_⟩
    refine ⟨fun j acc => acc.length = ((R.take j).filter (cntN b p)).length, rfl, ?_, ?_⟩
    · rintro j d' acc hd' hJ
      obtain ⟨q', hq, rfl⟩ := at_map hd'
      have ft := filter_take_at (p := cntN b p) hq
      have hfl : ((R.take j).filter (cntN b p)).length ≤ R.length := Nat.le_trans (List.length_filter_le _ _) (by rw [List.length_take]; omega)
      have no : cntN b p q' = false → acc.length = ((R.take (j + 1)).filter (cntN b p)).length := fun h => by
        rw [ft, hJ, h]
        rfl
      have yes : cntN b p q' = true → (acc ++ [D.int 1]).length = ((R.take (j + 1)).filter (cntN b p)).length := fun h => by
        rw [ft, List.length_append, hJ, h]
        rfl
      refine ⟨rfl, ⟨fun h1 => ?_, fun h1 => ⟨rfl, ⟨fun h => (nomatch h), fun _ => no ?_⟩⟩⟩⟩
      · have h1 := of_decide_eq_true h1
        have h1 : p.1 < q'.1 := by omega
        cases b with
        | true =>
          refine ⟨fun _ => ⟨fun h2 => ⟨rfl, ⟨fun h3 => ⟨rfl, by omega, yes ?_⟩, fun h3 => no ?_⟩⟩, fun h2 => ⟨rfl, ⟨fun h => (nomatch h), fun _ => no ?_⟩⟩⟩, fun h => (nomatch h)⟩
          · have h2 := of_decide_eq_true h2
            have h3 := of_decide_eq_true h3
            simp [cntN]
            omega
          · have h3 := of_decide_eq_false h3
            simp [cntN]
            omega
          · have h2 := of_decide_eq_false h2
            simp [cntN]
            omega
        | false =>
          refine ⟨fun h => (nomatch h), fun _ => ⟨fun h2 => ⟨rfl, ⟨fun h3 => ⟨rfl, by omega, yes ?_⟩, fun h3 => no ?_⟩⟩, fun h2 => ⟨rfl, ⟨fun h => (nomatch h), fun _ => no ?_⟩⟩⟩⟩
          · have h2 := of_decide_eq_true h2
            have h3 := of_decide_eq_true h3
            simp [cntN]
            omega
          · have h3 := of_decide_eq_false h3
            simp [cntN]
            omega
          · have h2 := of_decide_eq_false h2
            simp [cntN]
            omega
      · have h1 := of_decide_eq_false h1
        simp [cntN]
        omega
    · intro acc hJ
      have hJ : acc.length = ((R.take (R.map pairD).length).filter (cntN b p)).length := hJ
      rw [List.length_map, List.take_length] at hJ
      refine ⟨.d (natD p.1), .d (natD p.2), c5, c6, ?_⟩
      rw [sum_take_at hp]
      have e1 : natD (((R.take i).map f).sum + f p) = .int (((((R.take i).map f).sum : Nat) : Int) + ((acc.length : Nat) : Int)) := by
        unfold natD
        rw [Int.natCast_add, hJ]
      rw [e1]
      rfl
  · rintro e ⟨c3, c4, c5, c6, rfl⟩
    rw [List.length_map, List.take_length]
    have : (R.map f).sum = if b = true then nestN R else crossN R := by
      cases b
      · exact cnt_cross R
      · exact cnt_nest R
    rw [this]
    exact q
def spLEnds : DL.Spec := fun ds Q => ∃ ns : List Int, ds = [.tup (ns.map D.int)] ∧ ns.length ≤ 1000 ∧ Q (.dat (.tup ((flags (rows ns) ns.length).map enD)))
/-- as many ones as there are pairs so -/
def onesI (R : List (Nat × Nat)) (c : Nat × Nat → Bool) (j : Nat) (acc : List D) : Prop := acc = (List.replicate ((R.take j).filter c).length (1 : Int)).map D.int
theorem ones_add {R : List (Nat × Nat)} {c : Nat × Nat → Bool} {j : Nat} {acc : List D} {p : Nat × Nat} (h : onesI R c j acc) (hp : R[j]? = some p) (hc : c p = true) : onesI R c (j + 1) (acc ++ [.int 1]) := by
  unfold onesI at h ⊢
  rw [filter_take_at hp, hc, h, if_pos rfl, List.replicate_succ', List.map_append]
  rfl
theorem ones_not {R : List (Nat × Nat)} {c : Nat × Nat → Bool} {j : Nat} {acc : List D} {p : Nat × Nat} (h : onesI R c j acc) (hp : R[j]? = some p) (hc : c p = false) : onesI R c (j + 1) acc := by
  unfold onesI at h ⊢
  rw [filter_take_at hp, hc, h]
  rfl
theorem ones_len {R : List (Nat × Nat)} {c : Nat × Nat → Bool} {j : Nat} {acc : List D} (h : onesI R c j acc) : acc.length ≤ R.length := by
  unfold onesI at h
  rw [h, List.length_map, List.length_replicate]
  exact Nat.le_trans (List.length_filter_le _ _) (by rw [List.length_take]; omega)
theorem ones_end {R : List (Nat × Nat)} {c : Nat × Nat → Bool} {acc : List D} (h : onesI R c (R.map pairD).length acc) : Shp 60 (.lst acc) ∧ acc.isEmpty = (R.filter c).isEmpty := by
  unfold onesI at h
  rw [List.length_map, List.take_length] at h
  subst h
  refine ⟨shp_ints _, ?_⟩
  cases R.filter c <;> rfl
theorem shp_nil : Shp 60 (.lst []) := shp_ints []
theorem k_law_ends (T : Txt K mg) : Known P w K mg base "_law_ends" ["word"] 2 spLEnds := by
  refine knownD T.h_law_ends sc_law_ends ?_ (w_law_ends T (k_law_arcs T)).2 ?_
  · rintro ds Q ⟨ns, rfl, _⟩; rfl
  rintro ds Q ⟨ns, rfl, hl, q⟩
  have hR := rows_len ns
  refine ⟨ns, rfl, hl, by show 0 ≤ sizeLine; decide, rfl, ?_⟩
  generalize rows ns = R at hR q ⊢
  refine ⟨⟨by rw [List.length_map]; omega, by rw [List.length_map]; omega⟩, ?_⟩
  rw [List.length_map, Int.toNat_natCast]
  refine ⟨fun i e => ∃ c1 c2 c4 c5 c6 c7, e = [.d (.tup (ns.map D.int)), c1, c2, .own (.lst ((flags R i).map enD)), c4, c5, c6, c7] ∧ (c2 = .own (.lst (R.map pairD)) ∨ c2 = .d (.lst (R.map pairD))), ⟨_, _, _, _, _, _, rfl, .inl rfl⟩, ?_, ?_⟩
  · rintro i d e hd ⟨c1, c2, c4, c5, c6, c7, rfl, hc⟩
    obtain ⟨hi, rfl⟩ := rangeD_out hd
    have e0 : ((0 : Int) + (i : Nat)) = ((i : Nat) : Int) := Int.zero_add _
    rw [e0]
    have fl : (flags R i).length < 10000000 := by rw [flags_len]; omega
    rcases hc with rfl | rfl
    all_goals
      refine ⟨onesI R (fun p => p.1 == i), rfl, ?_, ?_⟩
      · rintro j d acc hd hJ
        obtain ⟨p, hp, rfl⟩ := at_map hd
        have := ones_len hJ
        refine ⟨rfl, rfl, ⟨fun h => ⟨rfl, by omega, ones_add hJ hp ?_⟩, fun h => ones_not hJ hp ?_⟩⟩
        · have h := of_decide_eq_true h
          have h : p.1 = i := by omega
          simp [h]
        · have h := of_decide_eq_false h
          have h : ¬ p.1 = i := by omega
          simp [h]
      intro acc hacc
      obtain ⟨s1, m1⟩ := ones_end hacc
      refine ⟨by show 0 ≤ sizeLine; decide, ⟨s1, shp_nil⟩, ?_⟩
      refine ⟨onesI R (fun p => p.2 == i), rfl, ?_, ?_⟩
      · rintro j d acc hd hJ
        obtain ⟨p, hp, rfl⟩ := at_map hd
        have := ones_len hJ
        refine ⟨rfl, rfl, ⟨fun h => ⟨rfl, by omega, ones_add hJ hp ?_⟩, fun h => ones_not hJ hp ?_⟩⟩
        · have h := of_decide_eq_true h
          have h : p.2 = i := by omega
          simp [h]
        · have h := of_decide_eq_false h
          have h : ¬ p.2 = i := by omega
          simp [h]
      intro acc2 hacc2
      obtain ⟨s2, m2⟩ := ones_end hacc2
      refine ⟨by show 0 ≤ sizeLine; decide, ⟨s2, shp_nil⟩, ?_⟩
      rw [deq_empty, deq_empty, m1, m2]
      have b1 := any_beg R i
      have b2 := any_end R i
      unfold begL at b1
      unfold endL at b2
      rw [b1, b2, Bool.not_not, Bool.not_not]
      refine ⟨rfl, ⟨_, rfl⟩, ⟨fun h1 => ⟨fun h2 => ?_, fun h2 => ?_⟩, fun h1 => ?_⟩⟩
      · refine ⟨_, rfl, by rw [List.length_map]; exact fl, .d (.int (i : Nat)), .d (.lst (R.map pairD)), .d (.bl (opB R i)), .d (.bl (clB R i)), c6, c7, ?_, .inr rfl⟩
        rw [flags_succ, h1, h2, List.map_append]; rfl
      · refine ⟨fun _ => ?_, fun h => ?_⟩
        · refine ⟨_, rfl, by rw [List.length_map]; exact fl, .d (.int (i : Nat)), .d (.lst (R.map pairD)), .d (.bl (opB R i)), .d (.bl (clB R i)), c6, c7, ?_, .inr rfl⟩
          rw [flags_succ, h1, h2, List.map_append]; rfl
        · rw [h1] at h; cases h
      · refine ⟨fun h => (nomatch h), fun _ => ⟨fun h => ?_, fun _ => ⟨fun h2 => ?_, fun h2 => ?_⟩⟩⟩
        · rw [h1] at h; cases h
        · refine ⟨_, rfl, by rw [List.length_map]; exact fl, .d (.int (i : Nat)), .d (.lst (R.map pairD)), .d (.bl (opB R i)), .d (.bl (clB R i)), c6, c7, ?_, .inr rfl⟩
          rw [flags_succ, h1, h2, List.map_append]; rfl
        · refine ⟨_, rfl, by rw [List.length_map]; exact fl, .d (.int (i : Nat)), .d (.lst (R.map pairD)), .d (.bl (opB R i)), .d (.bl (clB R i)), c6, c7, ?_, .inr rfl⟩
          rw [flags_succ, h1, h2, List.map_append]; rfl
  · rintro e ⟨c1, c2, c4, c5, c6, c7, rfl, hc⟩
    rw [rangeD_len]
    exact q
end
end K10

namespace K10
open PySem L2 DL
/-- where the arcs that end at k begin -/
def begsI (R : List (Nat × Nat)) (k j : Nat) (acc : List D) : Prop := acc = (((R.take j).filter fun p => p.2 == k).map (·.1)).map natD
theorem begs_add {R : List (Nat × Nat)} {k j : Nat} {acc : List D} {p : Nat × Nat} (h : begsI R k j acc) (hp : R[j]? = some p) (hc : p.2 = k) : begsI R k (j + 1) (acc ++ [natD p.1]) := by
  unfold begsI at h ⊢
  rw [take_at hp, List.filter_append, List.map_append, List.map_append, h]
  simp [hc]
theorem begs_not {R : List (Nat × Nat)} {k j : Nat} {acc : List D} {p : Nat × Nat} (h : begsI R k j acc) (hp : R[j]? = some p) (hc : ¬ p.2 = k) : begsI R k (j + 1) acc := by
  unfold begsI at h ⊢
  rw [take_at hp, List.filter_append, List.map_append, List.map_append, h]
  simp [hc]
theorem begs_len {R : List (Nat × Nat)} {k j : Nat} {acc : List D} (h : begsI R k j acc) : acc.length ≤ R.length := by
  unfold begsI at h
  rw [h, List.length_map, List.length_map]
  exact Nat.le_trans (List.length_filter_le _ _) (by rw [List.length_take]; omega)
theorem begs_end {R : List (Nat × Nat)} {k : Nat} {acc : List D} (h : begsI R k (R.map pairD).length acc) : acc = ((endL R k).map (·.1)).map natD := by
  unfold begsI at h
  rw [List.length_map, List.take_length] at h
  exact h
def toI (M : List Nat) : List Int := M.map fun k => ((k : Nat) : Int)
theorem toI_nat (M : List Nat) : (toI M).map D.int = M.map natD := by
  unfold toI
  rw [List.map_map]
  rfl
section
variable {P : Program} {w : World} {K : PySem.W.Frag} {mg : Str → Option Value} {base : Heap}
def spMade : DL.Spec := fun ds Q => ∃ (n : Nat) (R : List (Nat × Nat)), ds = [.int (n : Nat), .lst (R.map pairD)] ∧ n ≤ 1000 ∧ R.length ≤ 1000 ∧ (∀ k a, gF R k = some a → a < k) ∧ Q (.dat (.tup ((madeTo (gF R) n).1.map D.int)))
theorem k_law_made (T : Txt K mg) : Known P w K mg base "_law_made" ["many", "rows"] 1 spMade := by
  refine knownD T.h_law_made sc_law_made ?_ (w_law_made T).2 ?_
  · rintro ds Q ⟨n, R, rfl, _⟩; rfl
  rintro ds Q ⟨n, R, rfl, hn, hR, hlt, q⟩
  refine ⟨by show 0 ≤ sizeLine; decide, rfl, ⟨by omega, by omega⟩, ?_⟩
  rw [Int.toNat_natCast]
  refine ⟨fun i e => ∃ c2 c5 c6 c7, e = [.d (.int (n : Nat)), .d (.lst (R.map pairD)), c2, .own (.lst ((madeTo (gF R) i).1.map D.int)), .d (natD (madeTo (gF R) i).2), c5, c6, c7], ⟨_, _, _, _, rfl⟩, ?_, ?_⟩
  · rintro i d e hd ⟨c2, c5, c6, c7, rfl⟩
    obtain ⟨hi, rfl⟩ := rangeD_out hd
    have e0 : ((0 : Int) + (i : Nat)) = ((i : Nat) : Int) := Int.zero_add _
    rw [e0]
    have ml := made_len (gF R) i
    refine ⟨begsI R i, rfl, ?_, ?_⟩
    · rintro j d acc hd hJ
      obtain ⟨p, hp, rfl⟩ := at_map hd
      have := begs_len hJ
      refine ⟨rfl, rfl, ⟨fun h => ⟨rfl, by omega, begs_add hJ hp ?_⟩, fun h => begs_not hJ hp ?_⟩⟩
      · have h := of_decide_eq_true h
        omega
      · have h := of_decide_eq_false h
        omega
    intro acc hacc
    have hacc := begs_end hacc
    subst hacc
    generalize hL : (endL R i).map (·.1) = La
    have hgF : gF R i = La.head? := by rw [← hL]; rfl
    refine ⟨⟨_, rfl⟩, by show 0 ≤ sizeLine; decide, ⟨shp_nats La, shp_nil⟩, ?_⟩
    rw [deq_empty]
    cases La with
    | nil =>
      have hk : gF R i = none := hgF
      refine ⟨fun h => absurd h (by decide), fun _ => ⟨_, rfl, by rw [List.length_map, ml]; omega, by show 0 ≤ sizeLine; decide, ⟨shp_nats [], shp_nil⟩, .d (natD i), .own (.lst []), c6, c7, ?_⟩⟩
      rw [madeTo, hk]
      show _ = [_, _, _, Cel.own (.lst (((madeTo (gF R) i).1 ++ [((madeTo (gF R) i).2 : Int)]).map D.int)), Cel.d (natD ((madeTo (gF R) i).2 + 1)), _, _, _]
      rw [List.map_append]
      rfl
    | cons a r =>
      have hk : gF R i = some a := hgF
      have ha := hlt i a hk
      have hm : (madeTo (gF R) i).1[a]? = some ((madeTo (gF R) i).1.getD a 0) := by
        rw [List.getD_eq_getElem?_getD, List.getElem?_eq_getElem (by rw [ml]; exact ha)]
        rfl
      refine ⟨fun _ => ⟨natD a, atI_nat rfl, .int ((madeTo (gF R) i).1.getD a 0), atI_nat (by rw [List.getElem?_map, hm]; rfl), _, rfl, by rw [List.length_map, ml]; omega, by show 0 ≤ sizeLine; decide, ⟨shp_nats (a :: r), shp_nil⟩, .d (natD i), .own (.lst ((a :: r).map natD)), c6, c7, ?_⟩, fun h => absurd h (by show ¬ (!false) = false; decide)⟩
      rw [madeTo, hk]
      show _ = [_, _, _, Cel.own (.lst (((madeTo (gF R) i).1 ++ [(madeTo (gF R) i).1.getD a 0]).map D.int)), Cel.d (natD (madeTo (gF R) i).2), _, _, _]
      rw [List.map_append]
      show [_, _, _, _, Cel.d (.int (((madeTo (gF R) i).2 : Int) + 0)), _, _, _] = _
      rw [Int.add_zero]
      rfl
  · rintro e ⟨c2, c5, c6, c7, rfl⟩
    rw [rangeD_len]
    exact q
end
end K10

namespace K10
open PySem L2 DL
theorem sx_at {n j : Nat} (h : j < n) : seqIndex? (j : Nat) n = some j := (ixN_seq (show ixN n (j : Nat) = some j by simp [ixN]; omega)).1
theorem toI_erase (M : List Nat) (i : Nat) : (toI M).eraseIdx i = toI (M.eraseIdx i) := map_erase _ M i
theorem toI_at {M : List Nat} {i a : Nat} (h : M[i]? = some a) : (toI M)[i]? = some (a : Int) := by
  unfold toI
  rw [List.getElem?_map, h]
  rfl
section
variable {P : Program} {w : World} {K : PySem.W.Frag} {mg : Str → Option Value} {base : Heap}
def readV (o : Option (List (Nat × Nat))) : Val := match o with
  | none => .dat .non
  | some R => .new (.lst ((srtP R).map pairD))
def spRead : DL.Spec := fun ds Q => (∃ (fl : List (Bool × Bool)) (last : Bool) (wv : Int) (d : D), ds = [.tup (fl.map enD), .int wv, d] ∧ ((last = true ∧ wv = 0) ∨ (last = false ∧ wv = 1)) ∧ fl.length ≤ 1000 ∧ Q (readV (play (posL last) fl 0 []))) ∨
  (∃ (fl : List (Bool × Bool)) (ns : List Int) (R : List (Nat × Nat)), ds = [.tup (fl.map enD), .int 2, .tup (ns.map D.int)] ∧ fl.length ≤ 1000 ∧ ns.length ≤ 1000 ∧ playX (gF (rows ns)) fl 0 [] [] = some R ∧ Q (readV (some R)))
theorem k_law_read (T : Txt K mg) : Known P w K mg base "_law_read" ["row", "way", "word"] 2 spRead := by
  refine knownD T.h_law_read sc_law_read ?_ (w_law_read T (k_law_arcs T)).2 ?_
  · rintro ds Q (⟨fl, last, wv, d, rfl, _⟩ | ⟨fl, ns, R, rfl, _⟩)
    · rfl
    · rfl
  rintro ds Q (⟨fl, last, wv, dw, rfl, hw, hl, q⟩ | ⟨fl, ns, R', rfl, hl, hns, hX, q⟩)
  · have hw2 : wv ≠ 2 := by omega
    refine ⟨by show 0 ≤ sizeLine; decide, by show 0 ≤ sizeLine; decide, fun h => absurd (of_decide_eq_true h) hw2, fun _ => ⟨by show 0 ≤ sizeLine; decide, by show 0 ≤ sizeLine; decide, rfl, ⟨by rw [List.length_map]; omega, by rw [List.length_map]; omega⟩, ?_⟩⟩
    rw [List.length_map, Int.toNat_natCast]
    refine ⟨fun i e => ∃ (L M : List Nat) (acc : List (Nat × Nat)) (c3 c6 c8 c9 c10 c11 : Cel), e = [.d (.tup (fl.map enD)), .d (.int wv), .d dw, c3, .own (.lst (L.map natD)), .own (.lst (acc.map pairD)), c6, .own (.lst (M.map natD)), c8, c9, c10, c11] ∧ L.length ≤ i ∧ M.length ≤ i ∧ acc.length ≤ i ∧ play (posL last) fl 0 [] = (play (posL last) (fl.drop i) i L).map (acc ++ ·), ⟨[], [], [], _, _, _, _, _, _, rfl, Nat.le_refl _, Nat.le_refl _, Nat.le_refl _, ?_⟩, ?_, ?_⟩
    · rw [List.drop_zero]
      cases play (posL last) fl 0 [] <;> rfl
    · rintro i d e hd ⟨L, M, acc, c3, c6, c8, c9, c10, c11, rfl, hLl, hMl, hal, hp⟩
      obtain ⟨hi, rfl⟩ := rangeD_out hd
      have e0 : ((0 : Int) + (i : Nat)) = ((i : Nat) : Int) := Int.zero_add _
      rw [e0]
      obtain ⟨⟨c, o⟩, hx⟩ : ∃ f, fl[i]? = some f := ⟨_, List.getElem?_eq_getElem hi⟩
      have hrow : atI (fl.map enD) ((i : Nat) : Int) = some (enD (c, o)) := atI_nat (by rw [List.getElem?_map, hx]; rfl)
      rw [drop_at hx, play] at hp
      refine ⟨enD (c, o), hrow, by show 2 ≤ sizeLine; decide, ⟨flat_en _, rfl⟩, ?_⟩
      rw [mem_close]
      refine ⟨fun h1 => ?_, fun h1 => ?_⟩
      · have h1 : c = true := h1
        subst h1
        rw [if_pos rfl] at hp
        refine ⟨by show 0 ≤ sizeLine; decide, ⟨shp_nats L, shp_nil⟩, ?_⟩
        rw [deq_empty]
        refine ⟨fun h2 => ?_, fun h2 => ?_⟩
        · have e0 : L = [] := by
            cases L with
            | nil => rfl
            | cons x r => simp at h2
          subst e0
          have hp : play (posL last) fl 0 [] = none := hp
          rw [hp] at q
          exact q
        · have e0 : L ≠ [] := fun z => by
            subst z
            simp at h2
          have hpos : 0 < L.length := List.length_pos_iff.mpr e0
          have hpl : posL last i L.length < L.length := by
            unfold posL
            split <;> omega
          rw [List.getElem?_eq_getElem hpl] at hp
          have hp : play (posL last) fl 0 [] = ((play (posL last) (fl.drop (i + 1)) (i + 1) (L.eraseIdx (posL last i L.length) ++ if o = true then [i] else [])).map ((L[posL last i L.length], i) :: ·)).map (acc ++ ·) := hp
          have hp2 : play (posL last) fl 0 [] = (play (posL last) (fl.drop (i + 1)) (i + 1) (L.eraseIdx (posL last i L.length) ++ if o = true then [i] else [])).map ((acc ++ [(L[posL last i L.length], i)]) ++ ·) := by
            rw [hp, Option.map_map]
            congr 1
            funext z
            simp
          have hel : (L.eraseIdx (posL last i L.length)).length + 1 = L.length := by
            rw [List.length_eraseIdx, if_pos hpl]
            omega
          refine ⟨fun h3 => ⟨fun h4 => absurd (of_decide_eq_true h4) hw2, fun _ => ?_⟩, fun h3 => ⟨fun h4 => absurd (of_decide_eq_true h4) hw2, fun _ => ?_⟩⟩
          · have hv : seqIndex? (if decide (wv = 0) = true then (((L.map natD).length : Nat) : Int) - 1 else 0) (L.map natD).length = some (posL last i L.length) := by
              rw [List.length_map, h3]
              unfold posL
              rcases hw with ⟨z1, z2⟩ | ⟨z1, z2⟩
              · subst z1
                first
                  | (rw [if_pos rfl, if_pos rfl, show ((L.length : Nat) : Int) - 1 = ((L.length - 1 : Nat) : Int) by omega]; exact sx_at (by omega))
                  | exact absurd z2 (of_decide_eq_false h3)
              · subst z1
                first
                  | (rw [if_neg Bool.false_ne_true, if_neg Bool.false_ne_true]; exact sx_at (j := 0) (by omega))
                  | exact absurd (of_decide_eq_true h3) (by omega)
            rw [h3] at hv
            refine ⟨⟨_, rfl⟩, ⟨_, rfl⟩, L.map natD, posL last i L.length, natD L[posL last i L.length], rfl, by first | (rw [List.length_map]; omega) | omega, hv, by rw [List.getElem?_map, List.getElem?_eq_getElem hpl]; rfl, by show 2 ≤ sizeLine; decide, acc.map pairD, rfl, by rw [List.length_map]; omega, enD (true, o), hrow, by show 2 ≤ sizeLine; decide, ⟨flat_en _, rfl⟩, ?_⟩
            rw [mem_open]
            refine ⟨fun h3 => ⟨⟨_, rfl⟩, _, rfl, by rw [List.length_eraseIdx, List.length_map]; split <;> omega, ⟨_, rfl⟩, _, rfl, by rw [List.length_map]; omega, L.eraseIdx (posL last i L.length) ++ [i], M ++ [i], acc ++ [(L[posL last i L.length], i)], .d (natD i), c6, .d (.int ((((L.map natD).length : Nat) : Int) - 1)), c9, c10, c11, ?_, ?_, ?_, ?_, ?_⟩, fun h3 => ⟨L.eraseIdx (posL last i L.length), M, acc ++ [(L[posL last i L.length], i)], .d (natD i), c6, .d (.int ((((L.map natD).length : Nat) : Int) - 1)), c9, c10, c11, ?_, ?_, ?_, ?_, ?_⟩⟩
            · rw [List.map_append, List.map_append, List.map_append, map_erase]; rfl
            · rw [List.length_append]; show _ + 1 ≤ _; omega
            · rw [List.length_append]; show _ + 1 ≤ _; omega
            · rw [List.length_append]; show _ + 1 ≤ _; omega
            · have h3 : o = true := h3
              rw [hp2, h3]; rfl
            · rw [List.map_append, map_erase]; rfl
            · omega
            · omega
            · rw [List.length_append]; show _ + 1 ≤ _; omega
            · have h3 : o = false := h3
              rw [hp2, h3]
              simp
          · have hv : seqIndex? (if decide (wv = 0) = true then (((L.map natD).length : Nat) : Int) - 1 else 0) (L.map natD).length = some (posL last i L.length) := by
              rw [List.length_map, h3]
              unfold posL
              rcases hw with ⟨z1, z2⟩ | ⟨z1, z2⟩
              · subst z1
                first
                  | (rw [if_pos rfl, if_pos rfl, show ((L.length : Nat) : Int) - 1 = ((L.length - 1 : Nat) : Int) by omega]; exact sx_at (by omega))
                  | exact absurd z2 (of_decide_eq_false h3)
              · subst z1
                first
                  | (rw [if_neg Bool.false_ne_true, if_neg Bool.false_ne_true]; exact sx_at (j := 0) (by omega))
                  | exact absurd (of_decide_eq_true h3) (by omega)
            rw [h3] at hv
            refine ⟨⟨_, rfl⟩, ⟨_, rfl⟩, L.map natD, posL last i L.length, natD L[posL last i L.length], rfl, by first | (rw [List.length_map]; omega) | omega, hv, by rw [List.getElem?_map, List.getElem?_eq_getElem hpl]; rfl, by show 2 ≤ sizeLine; decide, acc.map pairD, rfl, by rw [List.length_map]; omega, enD (true, o), hrow, by show 2 ≤ sizeLine; decide, ⟨flat_en _, rfl⟩, ?_⟩
            rw [mem_open]
            refine ⟨fun h3 => ⟨⟨_, rfl⟩, _, rfl, by rw [List.length_eraseIdx, List.length_map]; split <;> omega, ⟨_, rfl⟩, _, rfl, by rw [List.length_map]; omega, L.eraseIdx (posL last i L.length) ++ [i], M ++ [i], acc ++ [(L[posL last i L.length], i)], .d (natD i), c6, .d (.int 0), c9, c10, c11, ?_, ?_, ?_, ?_, ?_⟩, fun h3 => ⟨L.eraseIdx (posL last i L.length), M, acc ++ [(L[posL last i L.length], i)], .d (natD i), c6, .d (.int 0), c9, c10, c11, ?_, ?_, ?_, ?_, ?_⟩⟩
            · rw [List.map_append, List.map_append, List.map_append, map_erase]; rfl
            · rw [List.length_append]; show _ + 1 ≤ _; omega
            · rw [List.length_append]; show _ + 1 ≤ _; omega
            · rw [List.length_append]; show _ + 1 ≤ _; omega
            · have h3 : o = true := h3
              rw [hp2, h3]; rfl
            · rw [List.map_append, map_erase]; rfl
            · omega
            · omega
            · rw [List.length_append]; show _ + 1 ≤ _; omega
            · have h3 : o = false := h3
              rw [hp2, h3]
              simp
      · have h1 : c = false := h1
        subst h1
        rw [if_neg Bool.false_ne_true] at hp
        refine ⟨enD (false, o), hrow, by show 2 ≤ sizeLine; decide, ⟨flat_en _, rfl⟩, ?_⟩
        rw [mem_open]
        refine ⟨fun h3 => ⟨⟨_, rfl⟩, _, rfl, by rw [List.length_map]; omega, ⟨_, rfl⟩, _, rfl, by rw [List.length_map]; omega, L ++ [i], M ++ [i], acc, .d (natD i), c6, c8, c9, c10, c11, ?_, ?_, ?_, ?_, ?_⟩, fun h3 => ⟨L, M, acc, .d (natD i), c6, c8, c9, c10, c11, ?_, ?_, ?_, ?_, ?_⟩⟩
        · rw [List.map_append, List.map_append]; rfl
        · rw [List.length_append]; show _ + 1 ≤ _; omega
        · rw [List.length_append]; show _ + 1 ≤ _; omega
        · omega
        · have h3 : o = true := h3
          rw [hp, h3]; rfl
        · rfl
        · omega
        · omega
        · omega
        · have h3 : o = false := h3
          rw [hp, h3]
          simp
    · rintro e ⟨L, M, acc, c3, c6, c8, c9, c10, c11, rfl, hLl, hMl, hal, hp⟩
      rw [rangeD_len, List.drop_length, play] at hp
      refine ⟨by show 0 ≤ sizeLine; decide, ⟨shp_nats L, shp_nil⟩, ?_⟩
      rw [deq_empty]
      refine ⟨fun h => ?_, fun h => ?_⟩
      · have e0 : L = [] := by
          cases L with
          | nil => rfl
          | cons x r => simp at h
        subst e0
        have hp : play (posL last) fl 0 [] = some (acc ++ []) := hp
        rw [List.append_nil] at hp
        rw [hp] at q
        refine ⟨sortOk_pr _, ?_⟩
        show Q (.new (.lst (sortD (acc.map pairD))))
        rw [srt_map]
        exact q
      · have e0 : L ≠ [] := fun z => by
          subst z
          simp at h
        have hp : play (posL last) fl 0 [] = none := by
          rw [hp, if_neg e0]
          rfl
        rw [hp] at q
        exact q
  · have hR := rows_len ns
    refine ⟨by show 0 ≤ sizeLine; decide, by show 0 ≤ sizeLine; decide, fun _ => ⟨ns, rfl, hns, ?_⟩, fun h => absurd h (by decide)⟩
    generalize rows ns = R at hR hX ⊢
    refine ⟨by show 0 ≤ sizeLine; decide, rfl, ⟨by rw [List.length_map]; omega, by rw [List.length_map]; omega⟩, ?_⟩
    rw [List.length_map, Int.toNat_natCast]
    refine ⟨fun i e => ∃ (L M : List Nat) (acc : List (Nat × Nat)) (c3 c6 c8 c9 c10 c11 : Cel), e = [.d (.tup (fl.map enD)), .d (.int 2), .d (.tup (ns.map D.int)), c3, .own (.lst (L.map natD)), .own (.lst (acc.map pairD)), c6, .own (.lst (M.map natD)), c8, c9, c10, c11] ∧ (c6 = .own (.lst (R.map pairD)) ∨ c6 = .d (.lst (R.map pairD))) ∧ L.length ≤ i ∧ M.length ≤ i ∧ acc.length ≤ i ∧ (playX (gF R) (fl.drop i) i M L).map (acc ++ ·) = some R', ⟨[], [], [], _, _, _, _, _, _, rfl, .inl rfl, Nat.le_refl _, Nat.le_refl _, Nat.le_refl _, ?_⟩, ?_, ?_⟩
    · rw [List.drop_zero, hX]
      rfl
    · rintro i d e hd ⟨L, M, acc, c3, c6, c8, c9, c10, c11, rfl, hc6, hLl, hMl, hal, hp⟩
      obtain ⟨hi, rfl⟩ := rangeD_out hd
      have e0 : ((0 : Int) + (i : Nat)) = ((i : Nat) : Int) := Int.zero_add _
      rw [e0]
      obtain ⟨⟨c, o⟩, hx⟩ : ∃ f, fl[i]? = some f := ⟨_, List.getElem?_eq_getElem hi⟩
      have hrow : atI (fl.map enD) ((i : Nat) : Int) = some (enD (c, o)) := atI_nat (by rw [List.getElem?_map, hx]; rfl)
      rw [drop_at hx, playX] at hp
      refine ⟨enD (c, o), hrow, by show 2 ≤ sizeLine; decide, ⟨flat_en _, rfl⟩, ?_⟩
      rw [mem_close]
      refine ⟨fun h1 => ?_, fun h1 => ?_⟩
      · have h1 : c = true := h1
        subst h1
        rw [if_pos rfl] at hp
        cases hg : gF R i with
        | none => rw [hg] at hp; cases hp
        | some a =>
          simp only [hg] at hp
          cases hb : L[L.length - 1 - M.idxOf a]? with
          | none => rw [hb] at hp; cases hp
          | some b =>
            simp only [hb] at hp
            by_cases hML : a ∈ M ∧ M.length = L.length
            · rw [if_pos hML, Option.map_map] at hp
              obtain ⟨hM, hML⟩ := hML
              have him : M.idxOf a < M.length := List.idxOf_lt_length_of_mem hM
              have hget : M[M.idxOf a] = a := List.getElem_idxOf him
              have hgM : M[M.idxOf a]? = some a := by rw [List.getElem?_eq_getElem him, hget]
              have hfirst : ∀ (m : Nat), m < M.idxOf a → M[m]? ≠ some a := fun m hm hz => by
                have := idx_first hz
                omega
              have hplace : ∀ (m : Nat) (z : D), m < M.idxOf a → (M.map natD)[m]? = some z → deq z (natD a) = false := fun m z hm hz => by
                obtain ⟨x, hx, rfl⟩ := at_map hz
                rw [deq_nat, decide_eq_false_iff_not]
                intro e
                subst e
                exact hfirst m hm hx
              have hMe : (M.eraseIdx (M.idxOf a)).length + 1 = M.length := by
                rw [List.length_eraseIdx, if_pos him]
                omega
              have hj : L.length - 1 - M.idxOf a < L.length := by omega
              have hLe : (L.eraseIdx (L.length - 1 - M.idxOf a)).length + 1 = L.length := by
                rw [List.length_eraseIdx, if_pos hj]
                omega
              have hp : (playX (gF R) (fl.drop (i + 1)) (i + 1) (M.eraseIdx (M.idxOf a) ++ if o = true then [i] else []) (L.eraseIdx (L.length - 1 - M.idxOf a) ++ if o = true then [i] else [])).map ((acc ++ [(b, i)]) ++ ·) = some R' := by
                rw [← hp]
                congr 1
                funext z
                simp
              have eM : ((M.map natD).length : Int) - 1 - ((M.idxOf a : Nat) : Int) = ((L.length - 1 - M.idxOf a : Nat) : Int) := by
                rw [List.length_map]
                omega
              have hL0 : (L.map natD).isEmpty = false := by
                cases L with
                | nil => simp at hj
                | cons x r => rfl
              refine ⟨by show 0 ≤ sizeLine; decide, ⟨shp_nats L, shp_nil⟩, ?_⟩
              rw [deq_empty, hL0]
              refine ⟨fun h => (nomatch h), fun _ => ⟨fun h => absurd h (by decide), fun _ => ⟨fun _ => ?_, fun h => absurd h (by decide)⟩⟩⟩
              rcases hc6 with rfl | rfl
              all_goals
                refine ⟨begsI R i, rfl, ?_, ?_⟩
                · rintro j d acc2 hd2 hJ
                  obtain ⟨p, hp2, rfl⟩ := at_map hd2
                  have := begs_len hJ
                  refine ⟨rfl, rfl, ⟨fun h => ⟨rfl, by omega, begs_add hJ hp2 ?_⟩, fun h => begs_not hJ hp2 ?_⟩⟩
                  · have h := of_decide_eq_true h
                    omega
                  · have h := of_decide_eq_false h
                    omega
                intro acc2 hacc2
                have hacc2 := begs_end hacc2
                subst hacc2
                have hgF : ((endL R i).map (·.1)).head? = some a := hg
                have h0 : atI (((endL R i).map (·.1)).map natD) 0 = some (natD a) := by
                  cases hq : (endL R i).map (·.1) with
                  | nil => rw [hq] at hgF; cases hgF
                  | cons x r =>
                    rw [hq] at hgF
                    cases hgF
                    exact atI_nat rfl
                refine ⟨natD a, h0, ?_⟩
                refine ⟨trivial, rfl, all_nat M, M.idxOf a, natD a, by rw [List.getElem?_map, hgM]; rfl, by rw [deq_nat]; simp, hplace, ?_⟩
                refine ⟨⟨_, rfl⟩, toI M, M.idxOf a, by rw [toI_nat]; rfl, toI_at hgM, fun m hm hz => ?_, ?_⟩
                · unfold toI at hz
                  rw [List.getElem?_map] at hz
                  cases hq : M[m]? with
                  | none => rw [hq] at hz; cases hz
                  | some y =>
                    rw [hq] at hz
                    injection hz with hz
                    have hz : ((y : Nat) : Int) = ((a : Nat) : Int) := hz
                    have : y = a := by omega
                    subst this
                    exact hfirst m hm hq
                rw [toI_erase, toI_nat]
                refine ⟨⟨_, rfl⟩, ⟨_, rfl⟩, L.map natD, L.length - 1 - M.idxOf a, natD b, rfl, by omega, by rw [eM, List.length_map]; exact sx_at hj, by rw [List.getElem?_map, hb]; rfl, by show 2 ≤ sizeLine; decide, acc.map pairD, rfl, by rw [List.length_map]; omega, enD (true, o), hrow, by show 2 ≤ sizeLine; decide, ⟨flat_en _, rfl⟩, ?_⟩
                rw [mem_open]
                refine ⟨fun h3 => ⟨⟨_, rfl⟩, _, rfl, by rw [List.length_eraseIdx, List.length_map]; split <;> omega, ⟨_, rfl⟩, _, rfl, by rw [List.length_map]; omega, L.eraseIdx (L.length - 1 - M.idxOf a) ++ [i], M.eraseIdx (M.idxOf a) ++ [i], acc ++ [(b, i)], .d (natD i), .d (.lst (R.map pairD)), .d (.int (((M.map natD).length : Int) - 1 - ((M.idxOf a : Nat) : Int))), .d (natD a), c10, c11, ?_, .inr rfl, ?_, ?_, ?_, ?_⟩, fun h3 => ⟨L.eraseIdx (L.length - 1 - M.idxOf a), M.eraseIdx (M.idxOf a), acc ++ [(b, i)], .d (natD i), .d (.lst (R.map pairD)), .d (.int (((M.map natD).length : Int) - 1 - ((M.idxOf a : Nat) : Int))), .d (natD a), c10, c11, ?_, .inr rfl, ?_, ?_, ?_, ?_⟩⟩
                · rw [List.map_append, List.map_append, List.map_append, map_erase]; rfl
                · rw [List.length_append]; show _ + 1 ≤ _; omega
                · rw [List.length_append]; show _ + 1 ≤ _; omega
                · rw [List.length_append]; show _ + 1 ≤ _; omega
                · have h3 : o = true := h3
                  rw [h3] at hp
                  exact hp
                · rw [List.map_append, map_erase]; rfl
                · omega
                · omega
                · rw [List.length_append]; show _ + 1 ≤ _; omega
                · have h3 : o = false := h3
                  rw [h3] at hp
                  simpa using hp
            · rw [if_neg hML] at hp
              cases hp
      · have h1 : c = false := h1
        subst h1
        rw [if_neg Bool.false_ne_true] at hp
        refine ⟨enD (false, o), hrow, by show 2 ≤ sizeLine; decide, ⟨flat_en _, rfl⟩, ?_⟩
        rw [mem_open]
        refine ⟨fun h3 => ⟨⟨_, rfl⟩, _, rfl, by rw [List.length_map]; omega, ⟨_, rfl⟩, _, rfl, by rw [List.length_map]; omega, L ++ [i], M ++ [i], acc, .d (natD i), c6, c8, c9, c10, c11, ?_, hc6, ?_, ?_, ?_, ?_⟩, fun h3 => ⟨L, M, acc, .d (natD i), c6, c8, c9, c10, c11, ?_, hc6, ?_, ?_, ?_, ?_⟩⟩
        · rw [List.map_append, List.map_append]; rfl
        · rw [List.length_append]; show _ + 1 ≤ _; omega
        · rw [List.length_append]; show _ + 1 ≤ _; omega
        · omega
        · have h3 : o = true := h3
          rw [h3] at hp
          exact hp
        · rfl
        · omega
        · omega
        · omega
        · have h3 : o = false := h3
          rw [h3] at hp
          simpa using hp
    · rintro e ⟨L, M, acc, c3, c6, c8, c9, c10, c11, rfl, hc6, hLl, hMl, hal, hp⟩
      rw [rangeD_len, List.drop_length, playX] at hp
      split at hp
      · rename_i hL0
        subst hL0
        have hp : some (acc ++ []) = some R' := hp
        rw [List.append_nil] at hp
        cases hp
        refine ⟨by show 0 ≤ sizeLine; decide, ⟨shp_nats [], shp_nil⟩, fun _ => ⟨sortOk_pr _, ?_⟩, fun h => absurd h (by decide)⟩
        show Q (.new (.lst (sortD (R'.map pairD))))
        rw [srt_map]
        exact q
      · cases hp
end
end K10

namespace K10
open PySem L2 DL
/-! ### the mathematics of lots, with no program in sight -/
abbrev AR := List (Nat × Nat)
/-- arcs of n things: each place begins one at most, ends one at most -/
structure Val (R : AR) (n : Nat) : Prop where
  lt : ∀ p ∈ R, p.1 < p.2 ∧ p.2 < n
  bu : ∀ p ∈ R, ∀ q ∈ R, p.1 = q.1 → p = q
  eu : ∀ p ∈ R, ∀ q ∈ R, p.2 = q.2 → p = q
  nd : R.Nodup
theorem Val.perm {R S : AR} {n : Nat} (h : Val R n) (p : R.Perm S) : Val S n :=
  ⟨fun q hq => h.lt q (p.mem_iff.mpr hq), fun q hq r hr => h.bu q (p.mem_iff.mpr hq) r (p.mem_iff.mpr hr), fun q hq r hr => h.eu q (p.mem_iff.mpr hq) r (p.mem_iff.mpr hr), p.nodup h.nd⟩
theorem gR_of {R : AR} {n k a : Nat} (h : Val R n) (m : (a, k) ∈ R) : gR R k = some a := by
  have key : ∀ (l : AR) (o : Option Nat), (∀ p ∈ l, p.2 = k → p.1 = a) → ((a, k) ∈ l ∨ o = some a) → l.foldl (fun o p => if p.2 = k then some p.1 else o) o = some a := by
    intro l
    induction l with
    | nil =>
      intro o _ h
      rcases h with h | h
      · cases h
      · exact h
    | cons p r ih =>
      intro o hl h
      refine ih _ (fun q hq => hl q (List.mem_cons_of_mem _ hq)) ?_
      by_cases e : p.2 = k
      · right
        show (if p.2 = k then some p.1 else o) = some a
        rw [if_pos e, hl p List.mem_cons_self e]
      · rcases h with h | h
        · rcases List.mem_cons.mp h with z | z
          · exact absurd (by rw [← z]) e
          · exact .inl z
        · right
          show (if p.2 = k then some p.1 else o) = some a
          rw [if_neg e, h]
  exact key R none (fun p hp e => by
    have := h.eu p hp (a, k) m e
    rw [this]) (.inl m)
theorem gR_iff {R : AR} {n k a : Nat} (h : Val R n) : gR R k = some a ↔ (a, k) ∈ R := ⟨gR_mem R k a, gR_of h⟩
theorem gF_iff {R : AR} {n k a : Nat} (h : Val R n) : gF R k = some a ↔ (a, k) ∈ R := by
  unfold gF endL
  constructor
  · intro e
    cases hf : R.filter (fun p => p.2 == k) with
    | nil => rw [hf] at e; cases e
    | cons p r =>
      rw [hf] at e
      have hp : p ∈ R.filter (fun p => p.2 == k) := by rw [hf]; exact List.mem_cons_self
      obtain ⟨h1, h2⟩ := List.mem_filter.mp hp
      have e : p.1 = a := Option.some.inj e
      have h2 : p.2 = k := by simpa using h2
      rw [← e, ← h2]
      exact h1
  · intro m
    have hm : (a, k) ∈ R.filter (fun p => p.2 == k) := List.mem_filter.mpr ⟨m, by simp⟩
    cases hf : R.filter (fun p => p.2 == k) with
    | nil => rw [hf] at hm; cases hm
    | cons p r =>
      have hp : p ∈ R.filter (fun p => p.2 == k) := by rw [hf]; exact List.mem_cons_self
      obtain ⟨h1, h2⟩ := List.mem_filter.mp hp
      have h2 : p.2 = k := by simpa using h2
      have := h.eu p h1 (a, k) m h2
      rw [this]
      rfl
theorem g_same {R S : AR} {n : Nat} (h : Val R n) (p : R.Perm S) : gR R = gR S ∧ gR R = gF S ∧ gF R = gF S := by
  have hS := h.perm p
  refine ⟨funext fun k => Option.ext fun a => ?_, funext fun k => Option.ext fun a => ?_, funext fun k => Option.ext fun a => ?_⟩
  · rw [gR_iff h, gR_iff hS, p.mem_iff]
  · rw [gR_iff h, gF_iff hS, p.mem_iff]
  · rw [gF_iff h, gF_iff hS, p.mem_iff]
theorem cross_perm {R S : AR} (p : R.Perm S) : crossN R = crossN S := by
  unfold crossN
  have e : (fun p : Nat × Nat => (R.filter fun q => decide (p.1 < q.1 ∧ q.1 < p.2 ∧ p.2 < q.2)).length) = fun p => (S.filter fun q => decide (p.1 < q.1 ∧ q.1 < p.2 ∧ p.2 < q.2)).length := funext fun x => (p.filter _).length_eq
  rw [e]
  exact (p.map _).sum_nat
theorem nest_perm {R S : AR} (p : R.Perm S) : nestN R = nestN S := by
  unfold nestN
  have e : (fun p : Nat × Nat => (R.filter fun q => decide (p.1 < q.1 ∧ q.1 < q.2 ∧ q.2 < p.2)).length) = fun p => (S.filter fun q => decide (p.1 < q.1 ∧ q.1 < q.2 ∧ q.2 < p.2)).length := funext fun x => (p.filter _).length_eq
  rw [e]
  exact (p.map _).sum_nat
theorem any_perm {R S : AR} (p : R.Perm S) (f : Nat × Nat → Bool) : R.any f = S.any f := by
  rw [Bool.eq_iff_iff, List.any_eq_true, List.any_eq_true]
  exact ⟨fun ⟨x, hx, e⟩ => ⟨x, p.mem_iff.mp hx, e⟩, fun ⟨x, hx, e⟩ => ⟨x, p.mem_iff.mpr hx, e⟩⟩
theorem flags_perm {R S : AR} (p : R.Perm S) (n : Nat) : flags R n = flags S n := by
  unfold flags clB opB
  refine List.map_congr_left fun k _ => ?_
  rw [any_perm p, any_perm p]
/-! the arcs of a word -/
theorem lastAt_some {w : List Int} {x : Int} : ∀ {k a : Nat}, lastAt w k x = some a → a < k ∧ w[a]? = some x ∧ ∀ j, a < j → j < k → w[j]? ≠ some x
  | 0, a, h => by cases h
  | k + 1, a, h => by
    unfold lastAt at h
    by_cases e : w[k]? = some x
    · rw [if_pos e] at h
      cases h
      exact ⟨Nat.lt_succ_self k, e, fun j h1 h2 => absurd h2 (by omega)⟩
    · rw [if_neg e] at h
      obtain ⟨h1, h2, h3⟩ := lastAt_some h
      refine ⟨by omega, h2, fun j g1 g2 => ?_⟩
      by_cases z : j = k
      · rw [z]; exact e
      · exact h3 j g1 (by omega)
theorem lastAt_none {w : List Int} {x : Int} : ∀ {k : Nat}, lastAt w k x = none → ∀ j, j < k → w[j]? ≠ some x
  | 0, _, j, h => absurd h (Nat.not_lt_zero j)
  | k + 1, h, j, hj => by
    unfold lastAt at h
    by_cases e : w[k]? = some x
    · rw [if_pos e] at h; cases h
    · rw [if_neg e] at h
      by_cases z : j = k
      · rw [z]; exact e
      · exact lastAt_none h j (by omega)
theorem lastAt_of {w : List Int} {x : Int} {k a : Nat} (h1 : a < k) (h2 : w[a]? = some x) (h3 : ∀ j, a < j → j < k → w[j]? ≠ some x) : lastAt w k x = some a := by
  cases h : lastAt w k x with
  | none => exact absurd h2 (lastAt_none h a h1)
  | some b =>
    obtain ⟨g1, g2, g3⟩ := lastAt_some h
    by_cases z : a = b
    · rw [z]
    · rcases Nat.lt_or_gt_of_ne z with q | q
      · exact absurd g2 (h3 b q g1)
      · exact absurd h2 (g3 a q h1)
/-- the arc that ends at k -/
def pv (w : List Int) (k : Nat) : Option Nat := match w[k]? with
  | some x => lastAt w k x
  | none => none
theorem arcOf_pv (w : List Int) (k : Nat) : arcOf w k = match pv w k with
    | some a => [(a, k)]
    | none => [] := by
  unfold arcOf pv
  cases w[k]? with
  | none => rfl
  | some x => rfl
theorem arcs_mem {w : List Int} {a k : Nat} : ∀ {n : Nat}, (a, k) ∈ arcsTo w n ↔ k < n ∧ pv w k = some a
  | 0 => ⟨fun h => (List.not_mem_nil h).elim, fun h => absurd h.1 (Nat.not_lt_zero k)⟩
  | n + 1 => by
    rw [arcsTo, List.mem_append, arcs_mem, arcOf_pv]
    constructor
    · rintro (⟨h1, h2⟩ | h)
      · exact ⟨by omega, h2⟩
      · cases hp : pv w n with
        | none => rw [hp] at h; cases h
        | some b =>
          rw [hp] at h
          have := List.mem_singleton.mp h
          cases this
          exact ⟨Nat.lt_succ_self _, hp⟩
    · rintro ⟨h1, h2⟩
      by_cases z : k = n
      · subst z
        right
        rw [h2]
        exact List.mem_singleton.mpr rfl
      · exact .inl ⟨by omega, h2⟩
theorem pv_some {w : List Int} {k a : Nat} (h : pv w k = some a) : ∃ x, w[k]? = some x ∧ lastAt w k x = some a := by
  unfold pv at h
  cases hx : w[k]? with
  | none => rw [hx] at h; cases h
  | some x => rw [hx] at h; exact ⟨x, rfl, h⟩
theorem arcs_nodup (w : List Int) : ∀ n, (arcsTo w n).Nodup
  | 0 => List.nodup_nil
  | n + 1 => by
    rw [arcsTo]
    refine List.nodup_append.mpr ⟨arcs_nodup w n, ?_, ?_⟩
    · rw [arcOf_pv]
      cases pv w n with
      | none => exact List.nodup_nil
      | some a => simp
    · rintro ⟨a, k⟩ h1 q h2 rfl
      have h1 := (arcs_mem.mp h1).1
      rw [arcOf_pv] at h2
      cases hp : pv w n with
      | none => rw [hp] at h2; cases h2
      | some b =>
        rw [hp] at h2
        have := List.mem_singleton.mp h2
        cases this
        omega
theorem arcs_val (w : List Int) (n : Nat) : Val (arcsTo w n) n := by
  refine ⟨?_, ?_, ?_, arcs_nodup w n⟩
  · rintro ⟨a, k⟩ h
    obtain ⟨h1, h2⟩ := arcs_mem.mp h
    obtain ⟨x, hx, hl⟩ := pv_some h2
    exact ⟨(lastAt_some hl).1, h1⟩
  · rintro ⟨a, k⟩ h ⟨b, m⟩ g e
    have e : a = b := e
    subst e
    obtain ⟨h1, h2⟩ := arcs_mem.mp h
    obtain ⟨g1, g2⟩ := arcs_mem.mp g
    obtain ⟨x, hx, hl⟩ := pv_some h2
    obtain ⟨y, hy, gl⟩ := pv_some g2
    obtain ⟨l1, l2, l3⟩ := lastAt_some hl
    obtain ⟨m1, m2, m3⟩ := lastAt_some gl
    have exy : x = y := by
      rw [l2] at m2
      exact Option.some.inj m2
    subst exy
    by_cases z : k = m
    · rw [z]
    · rcases Nat.lt_or_gt_of_ne z with q | q
      · exact absurd hx (m3 k l1 q)
      · exact absurd hy (l3 m m1 q)
  · rintro ⟨a, k⟩ h ⟨b, m⟩ g e
    have e : k = m := e
    subst e
    have h2 := (arcs_mem.mp h).2
    have g2 := (arcs_mem.mp g).2
    rw [h2] at g2
    cases g2
    rfl
theorem rows_perm (w : List Int) : (arcsTo w w.length).Perm (rows w) := (srt_perm _).symm
theorem rows_val (w : List Int) : Val (rows w) w.length := (arcs_val w _).perm (rows_perm w)
/-! a growing word comes back out of its arcs -/
theorem growing_pre : ∀ (l r : List Int) (t : Int), growing t (l ++ r) = true → growing t l = true
  | [], _, _, _ => rfl
  | x :: l, r, t, h => by
    rw [List.cons_append, growing, Bool.and_eq_true] at h
    rw [growing, h.1, growing_pre l r _ h.2]
    rfl
theorem growing_at {w : List Int} (h : growing (-1) w = true) {k : Nat} {x : Int} (hx : w[k]? = some x) : 0 ≤ x ∧ x ≤ topOf (-1) (w.take k) + 1 := by
  have h1 : growing (-1) (w.take k ++ [x]) = true := by
    rw [← take_at hx]
    exact growing_pre (w.take (k + 1)) (w.drop (k + 1)) (-1) (by rw [List.take_append_drop]; exact h)
  rw [growing_snoc, Bool.and_eq_true, Bool.and_eq_true] at h1
  exact ⟨of_decide_eq_true h1.2.1, of_decide_eq_true h1.2.2⟩
theorem made_back {w : List Int} (h : growing (-1) w = true) {g : Nat → Option Nat} (hg : ∀ k, k < w.length → g k = pv w k) : ∀ k, k ≤ w.length → (madeTo g k).1 = w.take k
  | 0, _ => by rw [List.take_zero]; rfl
  | k + 1, hk => by
    have ih := made_back h hg k (by omega)
    have hx : w[k]? = some w[k] := List.getElem?_eq_getElem (by omega)
    generalize w[k] = x at hx
    have hgk := hg k (by omega)
    have hlt : ∀ j a, j < k → g j = some a → a < j := fun j a hj e => by
      rw [hg j (by omega)] at e
      obtain ⟨y, _, hl⟩ := pv_some e
      exact (lastAt_some hl).1
    obtain ⟨m1, m2⟩ := made_in g k hlt
    rw [ih] at m1 m2
    have hpv : pv w k = lastAt w k x := by unfold pv; rw [hx]
    rw [take_at hx, madeTo]
    cases hp : pv w k with
    | some a =>
      rw [hgk, hp]
      show (madeTo g k).1 ++ [(madeTo g k).1.getD a 0] = _
      rw [hpv] at hp
      obtain ⟨l1, l2, _⟩ := lastAt_some hp
      rw [ih, List.getD_eq_getElem?_getD, List.getElem?_take_of_lt l1, l2]
      rfl
    | none =>
      rw [hgk, hp]
      show (madeTo g k).1 ++ [((madeTo g k).2 : Int)] = _
      rw [hpv] at hp
      have hn := lastAt_none hp
      have hnot : x ∉ w.take k := fun hm => by
        obtain ⟨j, hj, e⟩ := List.getElem_of_mem hm
        rw [List.length_take] at hj
        have : w[j]? = some x := by
          rw [← e, List.getElem_take]
          exact List.getElem?_eq_getElem _
        exact hn j (by omega) this
      obtain ⟨x0, x1⟩ := growing_at h hx
      have htop : topOf (-1) (w.take k) = ((madeTo g k).2 : Int) - 1 := by
        refine (topOf_max (w.take k) (-1) _ ?_ fun y hy => ?_).symm
        · by_cases z : (madeTo g k).2 = 0
          · rw [z]; exact List.mem_cons_self
          · have := m2 ((madeTo g k).2 - 1) (by omega)
            rw [show (((madeTo g k).2 - 1 : Nat) : Int) = ((madeTo g k).2 : Int) - 1 by omega] at this
            exact List.mem_cons_of_mem _ this
        · rcases List.mem_cons.mp hy with e | e
          · rw [e]; omega
          · have := (m1 y e).2
            omega
      have : x = ((madeTo g k).2 : Int) := by
        rw [htop] at x1
        by_cases z : x = ((madeTo g k).2 : Int)
        · exact z
        · have hm := m2 x.toNat (by omega)
          rw [Int.toNat_of_nonneg x0] at hm
          exact absurd hm hnot
      rw [ih, ← this]
theorem rows_back {w : List Int} (h : growing (-1) w = true) : (madeTo (gR (rows w)) w.length).1 = w := by
  have V := rows_val w
  have e : (madeTo (gR (rows w)) w.length).1 = w.take w.length := made_back h (fun k hk => Option.ext fun a => by
    rw [gR_iff V, ← (rows_perm w).mem_iff, arcs_mem]
    exact ⟨fun z => z.2, fun z => ⟨hk, z⟩⟩) _ (Nat.le_refl _)
  rw [e, List.take_length]
theorem at_end {l : List Int} {y : Int} {k : Nat} (h : l.length = k) : (l ++ [y])[k]? = some y := by
  subst h
  rw [List.getElem?_append_right (Nat.le_refl _), Nat.sub_self]
  rfl
/-! the arcs of a made word are the given ones -/
theorem made_take (g : Nat → Option Nat) : ∀ (n k : Nat), k ≤ n → (madeTo g n).1.take k = (madeTo g k).1
  | 0, k, h => by
    have : k = 0 := by omega
    subst this
    rfl
  | n + 1, k, h => by
    by_cases z : k = n + 1
    · subst z
      rw [List.take_of_length_le]
      rw [made_len]
      exact Nat.le_refl _
    · have e : ∃ y, (madeTo g (n + 1)).1 = (madeTo g n).1 ++ [y] := by
        rw [madeTo]
        cases g n with
        | some a => exact ⟨_, rfl⟩
        | none => exact ⟨_, rfl⟩
      obtain ⟨y, e⟩ := e
      rw [e, List.take_append_of_le_length (by rw [made_len]; omega)]
      exact made_take g n k (by omega)
theorem made_at (g : Nat → Option Nat) {n k : Nat} (h : k < n) : (madeTo g n).1[k]? = some (match g k with
    | some a => (madeTo g k).1.getD a 0
    | none => ((madeTo g k).2 : Int)) := by
  have e : (madeTo g n).1[k]? = (madeTo g (k + 1)).1[k]? := by
    rw [← made_take g n (k + 1) (by omega), List.getElem?_take_of_lt (Nat.lt_succ_self k)]
  rw [e, madeTo]
  cases g k with
  | some a => exact at_end (made_len g k)
  | none => exact at_end (made_len g k)
theorem made_pv {R : AR} {n : Nat} (V : Val R n) : ∀ k, k < n → pv (madeTo (gR R) n).1 k = gR R k := by
  have hlt : ∀ j a, gR R j = some a → a < j := fun j a e => (V.lt _ ((gR_iff V).mp e)).1
  generalize hW : (madeTo (gR R) n).1 = W
  -- a closed place has its opener's letter
  have F1 : ∀ k a, k < n → gR R k = some a → W[k]? = W[a]? := fun k a hk e => by
    have ha := hlt k a e
    rw [← hW, made_at _ hk, e]
    show some ((madeTo (gR R) k).1.getD a 0) = _
    rw [← made_take _ n k (by omega), List.getD_eq_getElem?_getD, List.getElem?_take_of_lt ha]
    rw [made_at _ (by omega)]
    rfl
  -- a place that closes nothing has a new letter
  have F2 : ∀ k, k < n → gR R k = none → ∀ j, j < k → W[j]? ≠ W[k]? := fun k hk e j hj he => by
    have m1 := (made_in (gR R) k fun i a _ => hlt i a).1
    have h1 : W[k]? = some (((madeTo (gR R) k).2 : Nat) : Int) := by rw [← hW, made_at _ hk, e]
    have h2 : W[j]? = (madeTo (gR R) k).1[j]? := by rw [← hW, ← made_take _ n k (by omega), List.getElem?_take_of_lt hj]
    rw [h1, h2] at he
    have := (m1 _ (List.mem_of_getElem? he)).2
    omega
  have main : ∀ k, k < n → ∀ a, gR R k = some a → ∀ j, a < j → j < k → W[j]? ≠ W[a]? := by
    intro k
    induction k using Nat.strongRecOn with
    | _ k ihk =>
      intro hk a hg j
      induction j using Nat.strongRecOn with
      | _ j ihj =>
        intro haj hjk hw
        cases hj : gR R j with
        | none => exact F2 j (by omega) hj a haj hw.symm
        | some b =>
          have hb := hlt j b hj
          have hbw := F1 j b (by omega) hj
          by_cases z : b = a
          · subst z
            have := V.bu _ ((gR_iff V).mp hj) _ ((gR_iff V).mp hg) rfl
            have : j = k := congrArg Prod.snd this
            omega
          · rcases Nat.lt_or_gt_of_ne z with q | q
            · exact ihk j hjk (by omega) b hj a q haj (hw.symm.trans hbw)
            · exact ihj b hb q (by omega) (hbw.symm.trans hw)
  intro k hk
  have hkl : k < W.length := by rw [← hW, made_len]; exact hk
  obtain ⟨x, hx⟩ : ∃ x, W[k]? = some x := ⟨_, List.getElem?_eq_getElem hkl⟩
  have e : pv W k = lastAt W k x := by unfold pv; rw [hx]
  rw [e]
  cases hg : gR R k with
  | some a =>
    have ha := hlt k a hg
    have hwa := F1 k a hk hg
    exact lastAt_of ha (hwa.symm.trans hx) fun j h1 h2 h3 => main k hk a hg j h1 h2 (h3.trans (hx.symm.trans hwa))
  | none =>
    cases hl : lastAt W k x with
    | none => rfl
    | some b =>
      obtain ⟨l1, l2, _⟩ := lastAt_some hl
      exact absurd (l2.trans hx.symm) (F2 k hk hg b l1)
theorem rows_made {R : AR} {n : Nat} (V : Val R n) : R.Perm (rows (madeTo (gR R) n).1) := by
  refine List.Perm.trans ?_ (rows_perm _)
  rw [made_len]
  refine (List.perm_ext_iff_of_nodup V.nd (arcs_nodup _ _)).mpr ?_
  rintro ⟨a, k⟩
  rw [arcs_mem]
  constructor
  · intro h
    have hk := (V.lt _ h).2
    exact ⟨hk, by rw [made_pv V k hk]; exact (gR_iff V).mpr h⟩
  · rintro ⟨h1, h2⟩
    rw [made_pv V k h1] at h2
    exact (gR_iff V).mp h2
/-! ### a row of ends walked: arcs and the places in the row of open ones -/
def opn (o : Bool) (k : Nat) : List Nat := if o = true then [k] else []
inductive Run : List (Bool × Bool) → Nat → List Nat → AR → List (Nat × Nat) → Prop
  | nil {k : Nat} : Run [] k [] [] []
  | close {o : Bool} {r : List (Bool × Bool)} {k : Nat} {L : List Nat} {i a : Nat} {R : AR} {cs : List (Nat × Nat)} (h : L[i]? = some a) (t : Run r (k + 1) (L.eraseIdx i ++ opn o k) R cs) : Run ((true, o) :: r) k L ((a, k) :: R) ((i, L.length - 1 - i) :: cs)
  | skip {o : Bool} {r : List (Bool × Bool)} {k : Nat} {L : List Nat} {R : AR} {cs : List (Nat × Nat)} (t : Run r (k + 1) (L ++ opn o k) R cs) : Run ((false, o) :: r) k L R cs
theorem Run.det : ∀ {fl : List (Bool × Bool)} {k : Nat} {L : List Nat} {R S : AR} {cs : List (Nat × Nat)}, Run fl k L R cs → Run fl k L S cs → R = S
  | _, _, _, _, _, _, .nil, .nil => rfl
  | _, _, _, _, _, _, .close h t, .close h' t' => by
    rw [h] at h'
    cases h'
    rw [Run.det t t']
  | _, _, _, _, _, _, .skip t, .skip t' => Run.det t t'
def swp (cs : List (Nat × Nat)) : List (Nat × Nat) := cs.map fun p => (p.2, p.1)
theorem swp_swp (cs : List (Nat × Nat)) : swp (swp cs) = cs := by
  unfold swp
  rw [List.map_map]
  exact List.map_id' cs
/-- the open ones stand in order, below k -/
def Asc (L : List Nat) (k : Nat) : Prop := L.Pairwise (· < ·) ∧ ∀ a ∈ L, a < k
theorem Asc.nd {L : List Nat} {k : Nat} (h : Asc L k) : L.Nodup := h.1.imp fun h => Nat.ne_of_lt h
theorem Asc.add {L : List Nat} {k : Nat} (h : Asc L k) (o : Bool) : Asc (L ++ opn o k) (k + 1) := by
  refine ⟨List.pairwise_append.mpr ⟨h.1, ?_, fun a ha b hb => ?_⟩, fun a ha => ?_⟩
  · unfold opn
    split <;> simp
  · unfold opn at hb
    split at hb
    · rw [List.mem_singleton.mp hb]
      exact h.2 a ha
    · cases hb
  · rcases List.mem_append.mp ha with z | z
    · have := h.2 a z
      omega
    · unfold opn at z
      split at z
      · rw [List.mem_singleton.mp z]
        omega
      · cases z
theorem Asc.erase {L : List Nat} {k : Nat} (h : Asc L k) (i : Nat) : Asc (L.eraseIdx i) k := ⟨h.1.sublist (List.eraseIdx_sublist L i), fun a ha => h.2 a (List.mem_of_mem_eraseIdx ha)⟩
/-- the other way of closing: the places counted from the other end -/
theorem run_playX {g : Nat → Option Nat} : ∀ {fl : List (Bool × Bool)} {k : Nat} {M L : List Nat} {B : AR} {cs : List (Nat × Nat)}, Run fl k M B cs → Asc M k → M.length = L.length → (∀ p ∈ B, g p.2 = some p.1) → ∃ R, playX g fl k M L = some R ∧ Run fl k L R (swp cs)
  | _, _, _, L, _, _, .nil, _, hl, _ => by
    have : L = [] := List.length_eq_zero_iff.mp (by rw [← hl]; rfl)
    subst this
    exact ⟨[], rfl, .nil⟩
  | _, k, M, L, _, _, .close (o := o) (r := r) (i := i) (a := a) (R := R) (cs := cs) h t, hA, hl, hg => by
    have hi := lt_at h
    have hk : g k = some a := hg (a, k) List.mem_cons_self
    have hidx : M.idxOf a = i := by
      have e : M[i] = a := by
        rw [List.getElem?_eq_getElem hi] at h
        exact Option.some.inj h
      rw [← e]
      exact hA.nd.idxOf_getElem i hi
    have hb : L[L.length - 1 - i]? = some L[L.length - 1 - i] := List.getElem?_eq_getElem (by omega)
    generalize L[L.length - 1 - i]'(by omega) = b at hb
    have hl2 : (M.eraseIdx i ++ opn o k).length = (L.eraseIdx (L.length - 1 - i) ++ opn o k).length := by
      rw [List.length_append, List.length_append, List.length_eraseIdx, List.length_eraseIdx, if_pos hi, if_pos (by omega), hl]
    obtain ⟨R2, h1, h2⟩ := run_playX t ((hA.erase i).add o) hl2 fun p hp => hg p (List.mem_cons_of_mem _ hp)
    refine ⟨(b, k) :: R2, ?_, ?_⟩
    · rw [playX, if_pos rfl, hk]
      simp only []
      rw [hidx, hb]
      simp only []
      rw [if_pos ⟨List.mem_of_getElem? h, hl⟩]
      have h1 : playX g r (k + 1) (M.eraseIdx i ++ if o = true then [k] else []) (L.eraseIdx (L.length - 1 - i) ++ if o = true then [k] else []) = some R2 := h1
      rw [h1]
      rfl
    · have := Run.close (o := o) hb h2
      rw [show L.length - 1 - (L.length - 1 - i) = i by omega] at this
      rw [hl]
      exact this
  | _, k, M, L, _, _, .skip (o := o) (r := r) t, hA, hl, hg => by
    obtain ⟨R2, h1, h2⟩ := run_playX (L := L ++ opn o k) t (hA.add o) (by rw [List.length_append, List.length_append, hl]) hg
    refine ⟨R2, ?_, .skip h2⟩
    rw [playX, if_neg Bool.false_ne_true]
    exact h1
/-- the last or the first is closed: so walks the program without crossings, without nestings -/
theorem run_play {last : Bool} : ∀ {fl : List (Bool × Bool)} {k : Nat} {M L : List Nat} {B : AR} {cs : List (Nat × Nat)}, Run fl k M B cs → M.length = L.length → ∃ R ds, play (posL last) fl k L = some R ∧ Run fl k L R ds ∧ ∀ p ∈ ds, (if last = true then p.2 else p.1) = 0
  | _, _, _, L, _, _, .nil, hl => by
    have : L = [] := List.length_eq_zero_iff.mp (by rw [← hl]; rfl)
    subst this
    exact ⟨[], [], rfl, .nil, fun p hp => by cases hp⟩
  | _, k, M, L, _, _, .close (o := o) (r := r) (i := i) (a := a) (R := R) (cs := cs) h t, hl => by
    have hi := lt_at h
    have hj : posL last k L.length < L.length := by
      unfold posL
      split <;> omega
    obtain ⟨b, hb⟩ : ∃ b, L[posL last k L.length]? = some b := ⟨_, List.getElem?_eq_getElem hj⟩
    have hl2 : (M.eraseIdx i ++ opn o k).length = (L.eraseIdx (posL last k L.length) ++ opn o k).length := by
      rw [List.length_append, List.length_append, List.length_eraseIdx, List.length_eraseIdx, if_pos hi, if_pos hj, hl]
    obtain ⟨R2, ds, h1, h2, h3⟩ := run_play t hl2
    refine ⟨(b, k) :: R2, (posL last k L.length, L.length - 1 - posL last k L.length) :: ds, ?_, .close hb h2, fun p hp => ?_⟩
    · rw [play, if_pos rfl, hb]
      have h1 : play (posL last) r (k + 1) (L.eraseIdx (posL last k L.length) ++ if o = true then [k] else []) = some R2 := h1
      show (play (posL last) r (k + 1) (L.eraseIdx (posL last k L.length) ++ if o = true then [k] else [])).map ((b, k) :: ·) = _
      rw [h1]
      rfl
    · rcases List.mem_cons.mp hp with z | z
      · rw [z]
        unfold posL
        cases last
        · rfl
        · show L.length - 1 - (L.length - 1) = 0
          omega
      · exact h3 p z
  | _, k, M, L, _, _, .skip (o := o) (r := r) t, hl => by
    obtain ⟨R2, ds, h1, h2, h3⟩ := run_play (last := last) (L := L ++ opn o k) t (by rw [List.length_append, List.length_append, hl])
    refine ⟨R2, ds, ?_, .skip h2, h3⟩
    rw [play, if_neg Bool.false_ne_true]
    exact h1
/-- what is walked is walked -/
theorem play_run {pos : Nat → Nat → Nat} : ∀ (fl : List (Bool × Bool)) (k : Nat) (L : List Nat) (R : AR), play pos fl k L = some R → ∃ cs, Run fl k L R cs
  | [], k, L, R, h => by
    unfold play at h
    split at h
    · rename_i e
      cases h
      subst e
      exact ⟨[], .nil⟩
    · cases h
  | (true, o) :: r, k, L, R, h => by
    rw [play, if_pos rfl] at h
    cases ha : L[pos k L.length]? with
    | none => rw [ha] at h; cases h
    | some a =>
      rw [ha] at h
      have h : (play pos r (k + 1) (L.eraseIdx (pos k L.length) ++ opn o k)).map ((a, k) :: ·) = some R := h
      cases hp : play pos r (k + 1) (L.eraseIdx (pos k L.length) ++ opn o k) with
      | none => rw [hp] at h; cases h
      | some R' =>
        rw [hp] at h
        cases h
        obtain ⟨cs, t⟩ := play_run r (k + 1) _ R' hp
        exact ⟨_, .close ha t⟩
  | (false, o) :: r, k, L, R, h => by
    rw [play, if_neg Bool.false_ne_true] at h
    obtain ⟨cs, t⟩ := play_run r (k + 1) (L ++ opn o k) R h
    exact ⟨cs, .skip t⟩
/-- arcs walked: where they begin and end -/
structure Walked (fl : List (Bool × Bool)) (k : Nat) (L : List Nat) (R : AR) : Prop where
  lt : ∀ p ∈ R, p.1 < p.2 ∧ k ≤ p.2 ∧ p.2 < k + fl.length ∧ (p.1 ∈ L ∨ k ≤ p.1)
  en : R.Pairwise fun p q => p.2 < q.2
  be : (R.map (·.1)).Nodup
  op : ∀ a ∈ L, a ∈ R.map (·.1)
  fl : ∀ j f, fl[j]? = some f → clB R (k + j) = f.1 ∧ opB R (k + j) = f.2
theorem any_false {R : AR} {f : Nat × Nat → Bool} (h : ∀ p ∈ R, f p = false) : R.any f = false := by
  rw [List.any_eq_false]
  intro p hp
  rw [h p hp]
  exact Bool.false_ne_true
theorem Run.walked : ∀ {fl : List (Bool × Bool)} {k : Nat} {L : List Nat} {R : AR} {cs : List (Nat × Nat)}, Run fl k L R cs → Asc L k → Walked fl k L R
  | _, k, _, _, _, .nil, hA => ⟨fun p hp => (List.not_mem_nil hp).elim, List.Pairwise.nil, List.nodup_nil, fun a ha => (List.not_mem_nil ha).elim, fun j f h => (by simp at h)⟩
  | _, k, L, _, _, .close (o := o) (r := r) (i := i) (a := a) (R := R) h t, hA => by
    have W := Run.walked t ((hA.erase i).add o)
    have haL := List.mem_of_getElem? h
    have hak := hA.2 a haL
    have hi := lt_at h
    have hna : a ∉ L.eraseIdx i := fun z => by
      have e : L[i] = a := by
        rw [List.getElem?_eq_getElem hi] at h
        exact Option.some.inj h
      obtain ⟨j, hj, ej⟩ := List.mem_eraseIdx_iff_getElem.mp z
      obtain ⟨hj1, ej⟩ := ej
      have pw := List.pairwise_iff_getElem.mp hA.1
      rcases Nat.lt_or_gt_of_ne hj1 with q | q
      · have := pw j i hj hi q
        omega
      · have := pw i j hi hj q
        omega
    have hopn : ∀ x, x ∈ opn o k → x = k ∧ o = true := fun x hx => by
      unfold opn at hx
      split at hx
      · exact ⟨List.mem_singleton.mp hx, by assumption⟩
      · cases hx
    have hnR : a ∉ R.map (·.1) := fun z => by
      obtain ⟨p, hp, e⟩ := List.mem_map.mp z
      rcases (W.lt p hp).2.2.2 with q | q
      · rcases List.mem_append.mp q with q | q
        · exact hna (e ▸ q)
        · have := (hopn _ q).1
          omega
      · omega
    refine ⟨fun p hp => ?_, List.pairwise_cons.mpr ⟨fun q hq => ?_, W.en⟩, ?_, fun b hb => ?_, fun j f hf => ?_⟩
    · rcases List.mem_cons.mp hp with z | z
      · rw [z]
        refine ⟨hak, Nat.le_refl _, ?_, .inl haL⟩
        show k < k + (r.length + 1)
        omega
      · obtain ⟨w1, w2, w3, w4⟩ := W.lt p z
        refine ⟨w1, by omega, by rw [List.length_cons]; omega, ?_⟩
        rcases w4 with q | q
        · rcases List.mem_append.mp q with q | q
          · exact .inl (List.mem_of_mem_eraseIdx q)
          · have := (hopn _ q).1
            exact .inr (by omega)
        · exact .inr (by omega)
    · have := (W.lt q hq).2.1
      show k < q.2
      omega
    · rw [List.map_cons]
      exact List.nodup_cons.mpr ⟨hnR, W.be⟩
    · rw [List.map_cons]
      by_cases e : b = a
      · rw [e]; exact List.mem_cons_self
      · refine List.mem_cons_of_mem _ (W.op b (List.mem_append_left _ ?_))
        obtain ⟨j, hj, ej⟩ := List.getElem_of_mem hb
        refine List.mem_eraseIdx_iff_getElem.mpr ⟨j, hj, fun z => e ?_, ej⟩
        subst z
        rw [List.getElem?_eq_getElem hj, ej] at h
        exact Option.some.inj h
    · cases j with
      | zero =>
        have hf : (true, o) = f := by simpa using hf
        subst hf
        rw [Nat.add_zero]
        constructor
        · unfold clB
          rw [List.any_cons]
          simp
        · unfold opB
          rw [List.any_cons, show ((a, k).1 == k) = false by simp; omega, Bool.false_or]
          cases o with
          | true =>
            have := W.op k (List.mem_append_right _ (by unfold opn; simp))
            obtain ⟨p, hp, e⟩ := List.mem_map.mp this
            exact List.any_eq_true.mpr ⟨p, hp, by simp [e]⟩
          | false =>
            refine any_false fun p hp => ?_
            have : p.1 ≠ k := fun e => by
              rcases (W.lt p hp).2.2.2 with q | q
              · rcases List.mem_append.mp q with q | q
                · have := (hA.erase i).2 _ q
                  omega
                · cases q
              · omega
            simpa using this
      | succ j =>
        have hf : r[j]? = some f := by simpa using hf
        have := W.fl j f hf
        rw [show k + 1 + j = k + (j + 1) by omega] at this
        unfold clB opB at this ⊢
        rw [List.any_cons, List.any_cons, show ((a, k).2 == k + (j + 1)) = false by simp, show ((a, k).1 == k + (j + 1)) = false by simp; omega, Bool.false_or, Bool.false_or]
        exact this
  | _, k, L, _, _, .skip (o := o) (r := r) (R := R) t, hA => by
    have W := Run.walked t (hA.add o)
    have hopn : ∀ x, x ∈ opn o k → x = k ∧ o = true := fun x hx => by
      unfold opn at hx
      split at hx
      · exact ⟨List.mem_singleton.mp hx, by assumption⟩
      · cases hx
    refine ⟨fun p hp => ?_, W.en, W.be, fun b hb => W.op b (List.mem_append_left _ hb), fun j f hf => ?_⟩
    · obtain ⟨w1, w2, w3, w4⟩ := W.lt p hp
      refine ⟨w1, by omega, by rw [List.length_cons]; omega, ?_⟩
      rcases w4 with q | q
      · rcases List.mem_append.mp q with q | q
        · exact .inl q
        · have := (hopn _ q).1
          exact .inr (by omega)
      · exact .inr (by omega)
    · cases j with
      | zero =>
        have hf : (false, o) = f := by simpa using hf
        subst hf
        rw [Nat.add_zero]
        constructor
        · refine any_false fun p hp => ?_
          have := (W.lt p hp).2.1
          have : p.2 ≠ k := by omega
          simpa using this
        · cases o with
          | true =>
            have := W.op k (List.mem_append_right _ (by unfold opn; simp))
            obtain ⟨p, hp, e⟩ := List.mem_map.mp this
            exact List.any_eq_true.mpr ⟨p, hp, by simp [e]⟩
          | false =>
            refine any_false fun p hp => ?_
            have : p.1 ≠ k := fun e => by
              rcases (W.lt p hp).2.2.2 with q | q
              · rcases List.mem_append.mp q with q | q
                · have := hA.2 _ q
                  omega
                · cases q
              · omega
            simpa using this
      | succ j =>
        have hf : r[j]? = some f := by simpa using hf
        have := W.fl j f hf
        rwa [show k + 1 + j = k + (j + 1) by omega] at this
theorem Walked.val {fl : List (Bool × Bool)} {R : AR} (W : Walked fl 0 [] R) : Val R fl.length := by
  have inj : ∀ (l : AR), (l.map (·.1)).Nodup → ∀ p ∈ l, ∀ q ∈ l, p.1 = q.1 → p = q := by
    intro l
    induction l with
    | nil => intro _ p hp; cases hp
    | cons x r ih =>
      intro hn p hp q hq e
      rw [List.map_cons, List.nodup_cons] at hn
      rcases List.mem_cons.mp hp with z | z <;> rcases List.mem_cons.mp hq with y | y
      · rw [z, y]
      · exact absurd (List.mem_map.mpr ⟨q, y, by rw [← e, z]⟩) hn.1
      · exact absurd (List.mem_map.mpr ⟨p, z, by rw [e, y]⟩) hn.1
      · exact ih hn.2 p z q y e
  have inj2 : ∀ (l : AR), l.Pairwise (fun p q => p.2 < q.2) → ∀ p ∈ l, ∀ q ∈ l, p.2 = q.2 → p = q := by
    intro l
    induction l with
    | nil => intro _ p hp; cases hp
    | cons x r ih =>
      intro hn p hp q hq e
      rw [List.pairwise_cons] at hn
      rcases List.mem_cons.mp hp with z | z <;> rcases List.mem_cons.mp hq with y | y
      · rw [z, y]
      · have := hn.1 q y
        rw [← z] at this
        omega
      · have := hn.1 p z
        rw [← y] at this
        omega
      · exact ih hn.2 p z q y e
  refine ⟨fun p hp => ⟨(W.lt p hp).1, by have := (W.lt p hp).2.2.1; omega⟩, inj R W.be, inj2 R W.en, W.en.imp fun h e => ?_⟩
  rw [e] at h
  omega
theorem Walked.flags_eq {fl : List (Bool × Bool)} {R : AR} (W : Walked fl 0 [] R) : flags R fl.length = fl := by
  refine List.ext_getElem? fun j => ?_
  unfold flags
  by_cases h : j < fl.length
  · have hf : fl[j]? = some fl[j] := List.getElem?_eq_getElem h
    have := W.fl j _ hf
    rw [Nat.zero_add] at this
    rw [List.getElem?_map, List.getElem?_range h, hf]
    show some (clB R j, opB R j) = some fl[j]
    rw [this.1, this.2]
  · rw [List.getElem?_eq_none (by rw [List.length_map, List.length_range]; omega), List.getElem?_eq_none (by omega)]
/-- the open ones by their begins -/
theorem walked_count {fl : List (Bool × Bool)} {k i a : Nat} {L : List Nat} {R : AR} {o : Bool} (W : Walked fl (k + 1) (L.eraseIdx i ++ opn o k) R) (hA : Asc L k) (h : L[i]? = some a) :
    (R.filter fun q => decide (a < q.1 ∧ q.1 < k)).length = L.length - 1 - i ∧ (R.filter fun q => decide (q.1 < a)).length = i := by
  have hi := lt_at h
  have ha : L[i] = a := by
    rw [List.getElem?_eq_getElem hi] at h
    exact Option.some.inj h
  have hak := hA.2 a (List.mem_of_getElem? h)
  have hE := hA.erase i
  have mem : ∀ x, x < k → (x ∈ R.map (·.1) ↔ x ∈ L.eraseIdx i) := fun x hx => by
    constructor
    · intro z
      obtain ⟨p, hp, e⟩ := List.mem_map.mp z
      subst e
      rcases (W.lt p hp).2.2.2 with q | q
      · rcases List.mem_append.mp q with q | q
        · exact q
        · unfold opn at q
          split at q
          · have := List.mem_singleton.mp q
            omega
          · cases q
      · omega
    · intro z
      exact W.op x (List.mem_append_left _ z)
  have cnt : ∀ (f : Nat → Bool), (∀ x, f x = true → x < k) → (R.filter fun q => f q.1).length = ((L.eraseIdx i).filter f).length := fun f hf => by
    have e : (R.filter fun q => f q.1).length = ((R.map (·.1)).filter f).length := by
      rw [List.filter_map, List.length_map]
      rfl
    rw [e]
    refine List.Perm.length_eq ((List.perm_ext_iff_of_nodup (W.be.filter _) (hE.nd.filter _)).mpr fun x => ?_)
    rw [List.mem_filter, List.mem_filter]
    constructor
    · rintro ⟨h1, h2⟩
      exact ⟨(mem x (hf x h2)).mp h1, h2⟩
    · rintro ⟨h1, h2⟩
      exact ⟨(mem x (hf x h2)).mpr h1, h2⟩
  have pw := List.pairwise_iff_getElem.mp hA.1
  have low : ∀ x ∈ L.take i, x < a := fun x hx => by
    obtain ⟨j, hj, e⟩ := List.getElem_of_mem hx
    rw [List.length_take] at hj
    rw [List.getElem_take] at e
    have := pw j i (by omega) hi (by omega)
    omega
  have high : ∀ x ∈ L.drop (i + 1), a < x := fun x hx => by
    obtain ⟨j, hj, e⟩ := List.getElem_of_mem hx
    rw [List.length_drop] at hj
    rw [List.getElem_drop] at e
    have := pw i (i + 1 + j) hi (by omega) (by omega)
    omega
  have e1 := cnt (fun x => decide (a < x ∧ x < k)) fun x hx => (of_decide_eq_true hx).2
  have e2 := cnt (fun x => decide (x < a)) fun x hx => by have := of_decide_eq_true hx; omega
  rw [e1, e2, List.eraseIdx_eq_take_drop_succ, List.filter_append, List.filter_append, List.length_append, List.length_append]
  have t1 : (L.take i).filter (fun x => decide (a < x ∧ x < k)) = [] := List.filter_eq_nil_iff.mpr fun x hx hd => by
    have := low x hx
    have := (of_decide_eq_true hd).1
    omega
  have t2 : (L.drop (i + 1)).filter (fun x => decide (a < x ∧ x < k)) = L.drop (i + 1) := List.filter_eq_self.mpr fun x hx => by
    have := high x hx
    have := hA.2 x (List.mem_of_mem_drop hx)
    exact decide_eq_true ⟨by omega, by omega⟩
  have t3 : (L.take i).filter (fun x => decide (x < a)) = L.take i := List.filter_eq_self.mpr fun x hx => decide_eq_true (low x hx)
  have t4 : (L.drop (i + 1)).filter (fun x => decide (x < a)) = [] := List.filter_eq_nil_iff.mpr fun x hx hd => by
    have := high x hx
    have := of_decide_eq_true hd
    omega
  rw [t1, t2, t3, t4, List.length_drop, List.length_take]
  simp only [List.length_nil]
  omega
theorem sum_add {α : Type} (f g : α → Nat) : ∀ l : List α, (l.map fun x => f x + g x).sum = (l.map f).sum + (l.map g).sum
  | [] => rfl
  | x :: r => by
    rw [List.map_cons, List.sum_cons, sum_add f g r, List.map_cons, List.sum_cons, List.map_cons, List.sum_cons]
    omega
theorem sum_if {α : Type} (f : α → Bool) : ∀ l : List α, (l.map fun x => if f x = true then 1 else 0).sum = (l.filter f).length
  | [] => rfl
  | x :: r => by
    rw [List.map_cons, List.sum_cons, sum_if f r, List.filter_cons]
    split
    · rw [List.length_cons]; omega
    · omega
theorem Run.counts : ∀ {fl : List (Bool × Bool)} {k : Nat} {L : List Nat} {R : AR} {cs : List (Nat × Nat)}, Run fl k L R cs → Asc L k → crossN R = (cs.map (·.2)).sum ∧ nestN R = (cs.map (·.1)).sum
  | _, _, _, _, _, .nil, _ => ⟨rfl, rfl⟩
  | _, _, _, _, _, .skip (o := o) t, hA => Run.counts t (hA.add o)
  | _, k, L, _, _, .close (o := o) (i := i) (a := a) (R := R) (cs := cs) h t, hA => by
    have W := Run.walked t ((hA.erase i).add o)
    obtain ⟨i1, i2⟩ := Run.counts t ((hA.erase i).add o)
    obtain ⟨c1, c2⟩ := walked_count W hA h
    have hak := hA.2 a (List.mem_of_getElem? h)
    constructor
    · rw [List.map_cons, List.sum_cons, ← i1, ← c1]
      unfold crossN
      rw [List.map_cons, List.sum_cons]
      congr 1
      · rw [List.filter_cons, if_neg (by simp)]
        congr 1
        refine List.filter_congr fun q hq => ?_
        have := (W.lt q hq).2.1
        exact decide_eq_decide.mpr ⟨fun z => ⟨z.1, z.2.1⟩, fun z => ⟨z.1, z.2, by show k < q.2; omega⟩⟩
      · congr 1
        refine List.map_congr_left fun p hp => ?_
        have := (W.lt p hp).2.1
        rw [List.filter_cons, if_neg]
        intro z
        have := (of_decide_eq_true z).2.2
        simp only [] at this
        omega
    · rw [List.map_cons, List.sum_cons, ← i2]
      unfold nestN
      rw [List.map_cons, List.sum_cons]
      have z0 : (((a, k) :: R).filter fun q => decide ((a, k).1 < q.1 ∧ q.1 < q.2 ∧ q.2 < (a, k).2)) = [] := List.filter_eq_nil_iff.mpr fun q hq hd => by
        have hd := (of_decide_eq_true hd).2.2
        rcases List.mem_cons.mp hq with e | e
        · rw [e] at hd
          omega
        · have := (W.lt q e).2.1
          simp only [] at hd
          omega
      rw [z0, List.length_nil, Nat.zero_add]
      have e1 : (R.map fun p => (((a, k) :: R).filter fun q => decide (p.1 < q.1 ∧ q.1 < q.2 ∧ q.2 < p.2)).length) = R.map fun p => (if decide (p.1 < a) = true then 1 else 0) + (R.filter fun q => decide (p.1 < q.1 ∧ q.1 < q.2 ∧ q.2 < p.2)).length := by
        refine List.map_congr_left fun p hp => ?_
        have h2 := (W.lt p hp).2.1
        rw [List.filter_cons]
        by_cases z : p.1 < a
        · rw [if_pos (decide_eq_true ⟨z, hak, by show k < p.2; omega⟩), if_pos (decide_eq_true z), List.length_cons]
          omega
        · rw [if_neg (fun w => z (of_decide_eq_true w).1), if_neg (fun w => z (of_decide_eq_true w)), Nat.zero_add]
      rw [e1, sum_add, sum_if, c2]
/-! any arcs are walked -/
def opens (R : AR) (k : Nat) : List Nat := (List.range k).filter fun a => R.any fun p => p.1 == a && decide (k ≤ p.2)
def segF (R : AR) (k m : Nat) : List (Bool × Bool) := (List.range' k m).map fun j => (clB R j, opB R j)
def clos (R : AR) (k m : Nat) : AR := (List.range' k m).filterMap fun j => (gR R j).map fun a => (a, j)
theorem erase_filter : ∀ {l : List Nat} {i a : Nat}, l.Nodup → l[i]? = some a → l.eraseIdx i = l.filter fun x => decide (x ≠ a)
  | [], i, a, _, h => by simp at h
  | x :: r, 0, a, hn, h => by
    have e : x = a := Option.some.inj h
    subst e
    rw [List.nodup_cons] at hn
    rw [List.eraseIdx_cons_zero, List.filter_cons, if_neg (by simp)]
    exact (List.filter_eq_self.mpr fun y hy => decide_eq_true (show y ≠ x from fun e => hn.1 (by rw [← e]; exact hy))).symm
  | x :: r, i + 1, a, hn, h => by
    rw [List.nodup_cons] at hn
    have h : r[i]? = some a := by simpa using h
    have hx : x ≠ a := fun e => hn.1 (e ▸ List.mem_of_getElem? h)
    rw [List.eraseIdx_cons_succ, List.filter_cons, if_pos (decide_eq_true hx), erase_filter hn.2 h]
theorem opens_mem {R : AR} {k a : Nat} : a ∈ opens R k ↔ a < k ∧ ∃ p ∈ R, p.1 = a ∧ k ≤ p.2 := by
  unfold opens
  rw [List.mem_filter, List.mem_range, List.any_eq_true]
  constructor
  · rintro ⟨h1, p, hp, e⟩
    rw [Bool.and_eq_true] at e
    exact ⟨h1, p, hp, by simpa using e.1, of_decide_eq_true e.2⟩
  · rintro ⟨h1, p, hp, e1, e2⟩
    exact ⟨h1, p, hp, by rw [Bool.and_eq_true]; exact ⟨by simpa using e1, decide_eq_true e2⟩⟩
theorem opens_asc (R : AR) (k : Nat) : Asc (opens R k) k := ⟨(List.pairwise_lt_range).filter _, fun a ha => (opens_mem.mp ha).1⟩
theorem asc_ext {l1 l2 : List Nat} {k1 k2 : Nat} (h1 : Asc l1 k1) (h2 : Asc l2 k2) (h : ∀ a, a ∈ l1 ↔ a ∈ l2) : l1 = l2 :=
  List.Perm.eq_of_pairwise (fun a b _ _ x y => absurd (Nat.lt_trans x y) (Nat.lt_irrefl a)) h1.1 h2.1 ((List.perm_ext_iff_of_nodup h1.nd h2.nd).mpr h)
theorem opens_step {R : AR} {n k : Nat} (V : Val R n) : (∀ (i a : Nat), (a, k) ∈ R → (opens R k)[i]? = some a → (opens R k).eraseIdx i ++ opn (opB R k) k = opens R (k + 1)) ∧ (clB R k = false → opens R k ++ opn (opB R k) k = opens R (k + 1)) := by
  have hopn : ∀ x, x ∈ opn (opB R k) k ↔ x = k ∧ ∃ p ∈ R, p.1 = k := fun x => by
    unfold opn
    cases ho : opB R k with
    | true =>
      rw [if_pos rfl, List.mem_singleton]
      unfold opB at ho
      obtain ⟨p, hp, e⟩ := List.any_eq_true.mp ho
      exact ⟨fun h => ⟨h, p, hp, by simpa using e⟩, fun h => h.1⟩
    | false =>
      rw [if_neg Bool.false_ne_true]
      unfold opB at ho
      rw [List.any_eq_false] at ho
      exact ⟨fun h => (List.not_mem_nil h).elim, fun ⟨_, p, hp, e⟩ => absurd (by simpa using e) (ho p hp)⟩
  constructor
  · intro i a hm hi
    refine asc_ext (((opens_asc R k).erase i).add _) (opens_asc R (k + 1)) fun x => ?_
    rw [List.mem_append, hopn, erase_filter (opens_asc R k).nd hi, List.mem_filter, opens_mem, opens_mem]
    constructor
    · rintro (⟨⟨h1, p, hp, e1, e2⟩, h3⟩ | ⟨rfl, p, hp, e⟩)
      · refine ⟨by omega, p, hp, e1, ?_⟩
        have h3 : x ≠ a := of_decide_eq_true h3
        by_cases z : p.2 = k
        · have := V.eu p hp _ hm z
          rw [this] at e1
          exact absurd e1.symm h3
        · omega
      · exact ⟨Nat.lt_succ_self _, p, hp, e, by have := (V.lt p hp).1; omega⟩
    · rintro ⟨h1, p, hp, e1, e2⟩
      by_cases z : x = k
      · exact .inr ⟨z, p, hp, e1.trans z⟩
      · refine .inl ⟨⟨by omega, p, hp, e1, by omega⟩, decide_eq_true fun e => ?_⟩
        have := V.bu p hp _ hm (e1.trans e)
        rw [this] at e2
        simp only [] at e2
        omega
  · intro hc
    refine asc_ext ((opens_asc R k).add _) (opens_asc R (k + 1)) fun x => ?_
    rw [List.mem_append, hopn, opens_mem, opens_mem]
    unfold clB at hc
    rw [List.any_eq_false] at hc
    constructor
    · rintro (⟨h1, p, hp, e1, e2⟩ | ⟨rfl, p, hp, e⟩)
      · have := hc p hp
        have : p.2 ≠ k := by simpa using this
        exact ⟨by omega, p, hp, e1, by omega⟩
      · exact ⟨Nat.lt_succ_self _, p, hp, e, by have := (V.lt p hp).1; omega⟩
    · rintro ⟨h1, p, hp, e1, e2⟩
      by_cases z : x = k
      · exact .inr ⟨z, p, hp, e1.trans z⟩
      · exact .inl ⟨by omega, p, hp, e1, by omega⟩
theorem run_any {R : AR} {n : Nat} (V : Val R n) : ∀ (m k : Nat), k + m = n → ∃ cs, Run (segF R k m) k (opens R k) (clos R k m) cs
  | 0, k, h => by
    have e : opens R k = [] := List.eq_nil_iff_forall_not_mem.mpr fun a ha => by
      obtain ⟨_, p, hp, _, e2⟩ := opens_mem.mp ha
      have := (V.lt p hp).2
      omega
    rw [e]
    exact ⟨[], .nil⟩
  | m + 1, k, h => by
    obtain ⟨cs, t⟩ := run_any V m (k + 1) (by omega)
    obtain ⟨s1, s2⟩ := opens_step (k := k) V
    unfold segF clos
    rw [List.range'_succ, List.map_cons, List.filterMap_cons]
    cases hc : clB R k with
    | true =>
      have hc' := hc
      unfold clB at hc'
      obtain ⟨p, hp, e⟩ := List.any_eq_true.mp hc'
      have e : p.2 = k := by simpa using e
      have hm : (p.1, k) ∈ R := by rw [← e]; exact hp
      have hmo : p.1 ∈ opens R k := opens_mem.mpr ⟨by have := (V.lt p hp).1; omega, p, hp, rfl, by omega⟩
      obtain ⟨i, hi, ei⟩ := List.getElem_of_mem hmo
      have hi' : (opens R k)[i]? = some p.1 := by rw [List.getElem?_eq_getElem hi, ei]
      rw [gR_of V hm]
      rw [← s1 i p.1 hm hi'] at t
      exact ⟨_, .close hi' t⟩
    | false =>
      have hg : gR R k = none := by
        cases hg : gR R k with
        | none => rfl
        | some a =>
          have hm := (gR_iff V).mp hg
          unfold clB at hc
          rw [List.any_eq_false] at hc
          exact absurd (by simp) (hc _ hm)
      rw [hg]
      rw [← s2 hc] at t
      exact ⟨_, .skip t⟩
theorem clos_perm {R : AR} {n : Nat} (V : Val R n) (W : Val (clos R 0 n) n) : R.Perm (clos R 0 n) := by
  refine (List.perm_ext_iff_of_nodup V.nd W.nd).mpr ?_
  rintro ⟨a, k⟩
  unfold clos
  rw [List.mem_filterMap]
  constructor
  · intro h
    refine ⟨k, List.mem_range'_1.mpr ⟨Nat.zero_le _, by have := (V.lt _ h).2; omega⟩, ?_⟩
    rw [gR_of V h]
    rfl
  · rintro ⟨j, _, e⟩
    cases hg : gR R j with
    | none => rw [hg] at e; cases e
    | some b =>
      rw [hg] at e
      cases e
      exact (gR_iff V).mp hg
/-- arcs are walked by their own ends -/
theorem run_of {R : AR} {n : Nat} (V : Val R n) : ∃ B cs, Run (flags R n) 0 [] B cs ∧ R.Perm B := by
  obtain ⟨cs, t⟩ := run_any V n 0 (Nat.zero_add n)
  have e : segF R 0 n = flags R n := by
    unfold segF flags
    rw [List.range_eq_range']
  rw [e] at t
  have t : Run (flags R n) 0 [] (clos R 0 n) cs := t
  have W := (t.walked ⟨List.Pairwise.nil, fun a ha => (List.not_mem_nil ha).elim⟩).val
  rw [flags_len] at W
  exact ⟨_, cs, t, clos_perm V W⟩
theorem asc_nil (k : Nat) : Asc [] k := ⟨List.Pairwise.nil, fun a ha => (List.not_mem_nil ha).elim⟩
theorem run_val {fl : List (Bool × Bool)} {R : AR} {cs : List (Nat × Nat)} (t : Run fl 0 [] R cs) : Val R fl.length ∧ flags R fl.length = fl := ⟨(t.walked (asc_nil 0)).val, (t.walked (asc_nil 0)).flags_eq⟩
theorem play_val {last : Bool} {fl : List (Bool × Bool)} {R : AR} (h : play (posL last) fl 0 [] = some R) : Val R fl.length := by
  obtain ⟨cs, t⟩ := play_run _ _ _ _ h
  exact (run_val t).1
theorem play_both {fl : List (Bool × Bool)} {last : Bool} {R : AR} (h : play (posL last) fl 0 [] = some R) (last' : Bool) : ∃ S, play (posL last') fl 0 [] = some S := by
  obtain ⟨cs, t⟩ := play_run _ _ _ _ h
  obtain ⟨S, _, e, _⟩ := run_play (last := last') t (L := []) rfl
  exact ⟨S, e⟩
theorem made_srt {R : AR} {n : Nat} (V : Val R n) : madeTo (gF (srtP R)) n = madeTo (gR R) n := by rw [(g_same V (srt_perm R).symm).2.1]
theorem gF_lt {R : AR} {n : Nat} (V : Val R n) {k a : Nat} (h : gF R k = some a) : a < k := (V.lt _ ((gF_iff V).mp h)).1
theorem gR_lt {R : AR} {n : Nat} (V : Val R n) {k a : Nat} (h : gR R k = some a) : a < k := (V.lt _ ((gR_iff V).mp h)).1
theorem sum_zero {cs : List (Nat × Nat)} {f : Nat × Nat → Nat} (h : ∀ p ∈ cs, f p = 0) : (cs.map f).sum = 0 := by
  induction cs with
  | nil => rfl
  | cons p r ih => rw [List.map_cons, List.sum_cons, h p List.mem_cons_self, ih fun q hq => h q (List.mem_cons_of_mem _ hq)]
theorem lot_plain (w : List Int) (last : Bool) : ∃ R, play (posL last) (flags (rows w) w.length) 0 [] = some R ∧ Val R w.length ∧ (if last = true then crossN (rows (madeTo (gR R) w.length).1) else nestN (rows (madeTo (gR R) w.length).1)) = 0 := by
  obtain ⟨B, cs, t, _⟩ := run_of (rows_val w)
  obtain ⟨R, ds, e, t2, z⟩ := run_play (last := last) t (L := []) rfl
  have V := (run_val t2).1
  rw [flags_len] at V
  refine ⟨R, e, V, ?_⟩
  obtain ⟨c1, c2⟩ := t2.counts (asc_nil 0)
  rw [← cross_perm (rows_made V), ← nest_perm (rows_made V), c1, c2]
  cases last
  · exact sum_zero z
  · exact sum_zero z
theorem swp_fst (cs : List (Nat × Nat)) : ((swp cs).map (·.1)).sum = (cs.map (·.2)).sum := by unfold swp; rw [List.map_map]; rfl
theorem swp_snd (cs : List (Nat × Nat)) : ((swp cs).map (·.2)).sum = (cs.map (·.1)).sum := by unfold swp; rw [List.map_map]; rfl
theorem lot_exch {w : List Int} (hg : growing (-1) w = true) : ∃ R2, playX (gR (rows w)) (flags (rows w) w.length) 0 [] [] = some R2 ∧ gF (rows w) = gR (rows w) ∧ Val R2 w.length ∧
    crossN (rows (madeTo (gR R2) w.length).1) = nestN (rows w) ∧ nestN (rows (madeTo (gR R2) w.length).1) = crossN (rows w) ∧
    ∃ R3, playX (gR (rows (madeTo (gR R2) w.length).1)) (flags (rows (madeTo (gR R2) w.length).1) (madeTo (gR R2) w.length).1.length) 0 [] [] = some R3 ∧ (madeTo (gR R3) w.length).1 = w := by
  have V0 := rows_val w
  obtain ⟨B, cs, t, pB⟩ := run_of V0
  have VB := V0.perm pB
  obtain ⟨R2, e2, t2⟩ := run_playX (g := gR (rows w)) t (asc_nil 0) (L := []) rfl fun p hp => gR_of V0 (pB.mem_iff.mpr hp)
  obtain ⟨V2, f2⟩ := run_val t2
  rw [flags_len] at V2 f2
  obtain ⟨b1, b2⟩ := t.counts (asc_nil 0)
  obtain ⟨d1, d2⟩ := t2.counts (asc_nil 0)
  rw [swp_fst] at d2
  rw [swp_snd] at d1
  have pW := rows_made V2
  have VW := V2.perm pW
  refine ⟨R2, e2, (g_same V0 (List.Perm.refl _)).2.1.symm, V2, ?_, ?_, ?_⟩
  · rw [← cross_perm pW, d1, ← b2, nest_perm pB]
  · rw [← nest_perm pW, d2, ← b1, cross_perm pB]
  · rw [made_len, ← flags_perm pW, f2]
    obtain ⟨R3, e3, t3⟩ := run_playX (g := gR (rows (madeTo (gR R2) w.length).1)) t2 (asc_nil 0) (L := []) rfl fun p hp => gR_of VW (pW.mem_iff.mp hp)
    rw [swp_swp] at t3
    have := Run.det t3 t
    subst this
    refine ⟨_, e3, ?_⟩
    rw [← (g_same V0 pB).1]
    exact rows_back hg
end K10

namespace K10
open PySem L2 DL
theorem fine_nat {n : Nat} (k : Nat) : Fine n (natD k) := .int _
theorem fine_rows {n : Nat} {R : AR} (h : R.length ≤ 1000) : Fine (n + 2) (.lst (R.map pairD)) := .lst (by rw [List.length_map]; omega) fun d hd => by
  obtain ⟨p, _, rfl⟩ := List.mem_map.mp hd
  exact .tup (by show 2 < 10000000; omega) fun d hd => by
    rcases List.mem_cons.mp hd with rfl | hd
    · exact .int _
    · cases List.mem_singleton.mp hd
      exact .int _
theorem fine_word {n : Nat} {l : List Int} (h : l.length ≤ 1000) : Fine (n + 1) (.tup (l.map D.int)) := .tup (by rw [List.length_map]; omega) fun d hd => by
  obtain ⟨p, _, rfl⟩ := List.mem_map.mp hd
  exact .int _
theorem fine_flags {n : Nat} {fl : List (Bool × Bool)} (h : fl.length ≤ 1000) : Fine (n + 1) (.tup (fl.map enD)) := .tup (by rw [List.length_map]; omega) fun d hd => by
  obtain ⟨⟨c, o⟩, _, rfl⟩ := List.mem_map.mp hd
  cases c <;> cases o <;> exact .str (by decide +kernel)
theorem fine_two {n : Nat} {a b : D} (ha : Fine n a) (hb : Fine n b) : Fine (n + 1) (.lst [a, b]) := .lst (by show 2 < 10000000; omega) fun d hd => by
  rcases List.mem_cons.mp hd with rfl | hd
  · exact ha
  · cases List.mem_singleton.mp hd
    exact hb
theorem deq_two (a b : Nat) : deq (.lst [natD a, natD b]) (.lst [natD a, natD b]) = true := by
  show PyData.eqv (.list [.int a, .int b]) (.list [.int a, .int b]) = true
  simp [PyData.eqv, PyData.eqvAll]
theorem shp_two (a b : Nat) : Shp 60 (.lst [natD a, natD b]) := shp_nats [a, b]
theorem lay21 {e : SE} (h : e.length = 21) (h1 : e[1]? = some (.d .sta)) : ∃ c0 c2 c3 c4 c5 c6 c7 c8 c9 c10 c11 c12 c13 c14 c15 c16 c17 c18 c19 c20, e = [c0, .d .sta, c2, c3, c4, c5, c6, c7, c8, c9, c10, c11, c12, c13, c14, c15, c16, c17, c18, c19, c20] := by
  match e, h with
  | [c0, c1, c2, c3, c4, c5, c6, c7, c8, c9, c10, c11, c12, c13, c14, c15, c16, c17, c18, c19, c20], _ =>
    cases h1
    exact ⟨c0, c2, c3, c4, c5, c6, c7, c8, c9, c10, c11, c12, c13, c14, c15, c16, c17, c18, c19, c20, rfl⟩
theorem lay21n {e : SE} {a b : Cel} (h : e.length = 21) (h1 : e[1]? = some (.d .sta)) (h3 : e[3]? = some a) (h4 : e[4]? = some b) : ∃ c0 c2 c5 c6 c7 c8 c9 c10 c11 c12 c13 c14 c15 c16 c17 c18 c19 c20, e = [c0, .d .sta, c2, a, b, c5, c6, c7, c8, c9, c10, c11, c12, c13, c14, c15, c16, c17, c18, c19, c20] := by
  obtain ⟨c0, c2, c3, c4, c5, c6, c7, c8, c9, c10, c11, c12, c13, c14, c15, c16, c17, c18, c19, c20, rfl⟩ := lay21 h h1
  cases h3
  cases h4
  exact ⟨c0, c2, c5, c6, c7, c8, c9, c10, c11, c12, c13, c14, c15, c16, c17, c18, c19, c20, rfl⟩
theorem toI_sum (l : List Nat) : (toI l).sum = ((l.sum : Nat) : Int) := by
  unfold toI
  induction l with
  | nil => rfl
  | cons x r ih => rw [List.map_cons, List.sum_cons, ih, List.sum_cons]; omega
theorem nx_zero (r : List Nat) : nxS 0 0 r = 0 :: (nxS 0 0 r).tail := by
  cases r with
  | nil => rfl
  | cons x r => rw [nxS, Nat.zero_mul]; rfl
theorem nx_tail (r : List Nat) {j : Nat} (h : j < r.length) : (nxS 0 0 r).tail[j]? = some (r.getD j 0 + (1 + j) * r.getD (1 + j) 0) := by
  rw [List.getElem?_tail, nxS_eq, List.getElem?_map, List.getElem?_range (by omega)]
  show some ((if j + 1 = 0 then 0 else r.getD (j + 1 - 1) 0) + (0 + (j + 1)) * r.getD (j + 1) 0) = _
  rw [if_neg (Nat.succ_ne_zero j), Nat.add_sub_cancel, Nat.zero_add, Nat.add_comm j 1]
theorem nx_tlen (r : List Nat) : (nxS 0 0 r).tail.length = r.length := by
  rw [List.length_tail, nxS_eq, List.length_map, List.length_range, Nat.add_sub_cancel]
theorem cross_ex : crossN (rows [0, 1, 0, 1]) = 1 := by rw [← cross_perm (rows_perm _)]; decide
theorem nest_ex : nestN (rows [0, 1, 1, 0]) = 1 := by rw [← nest_perm (rows_perm _)]; decide
theorem bell_ex : (bell 5).headD 0 = 52 := by decide
/-- what the law says is True -/
def yes : DEnds := { nx := fun _ => False, rt := fun x => x = .dat (.bl true) }
theorem srt_len (R : AR) : (srtP R).length = R.length := by unfold srtP; exact List.length_mergeSort _
theorem play_len {last : Bool} {fl : List (Bool × Bool)} {R : AR} (h : play (posL last) fl 0 [] = some R) : R.length ≤ fl.length := (play_ok _ _ _ _ _ (fun a h => (List.not_mem_nil h).elim) h).1
theorem playX_len {g : Nat → Option Nat} {fl : List (Bool × Bool)} {R : AR} (h : playX g fl 0 [] [] = some R) : R.length ≤ fl.length := (playX_ok _ _ _ _ _ _ (fun a h => (List.not_mem_nil h).elim) h).1
section
variable {P : Program} {w : World} {K : PySem.W.Frag} {mg : Str → Option Value} {base : Heap}
theorem rd_law (T : Txt K mg) : frc (Cel.un :: .d .sta :: List.replicate 19 Cel.un) ((w_law (P := P) (w := w) (base := base) (s8 := spNo) T (k_law_arcs T) (k_law_count T) (k_law_draw T) (k_law_ends T) (k_law_eq T 3 (by decide)) (k_law_made T) (k_law_pick T) (k_law_read T) (k_law_word T) (k_arcs T) (k_count_all_lots T) (k_count_lots T) (k_crossings T) (k_ends_of T) (k_exchanged T) (k_from_arcs T) (k_is_growing T) (k_nestings T) (k_without_crossings T) (k_without_nestings T)).1 yes) := by
  refine ⟨⟨by decide, by decide⟩, fun i e => e.length = 21 ∧ e[1]? = some (.d .sta), ⟨rfl, rfl⟩, ?_, ?_⟩
  · rintro i d e hd ⟨hlen, h1⟩
    obtain ⟨c0, c2, c3, c4, c5, c6, c7, c8, c9, c10, c11, c12, c13, c14, c15, c16, c17, c18, c19, c20, rfl⟩ := lay21 hlen h1
    -- the word
    refine ⟨40, rfl, by decide, by decide, fun l hg hl1 hl2 => ?_⟩
    have hR := rows_len l
    have V := rows_val l
    -- its arcs and ends
    refine ⟨l, rfl, by omega, l, rfl, by omega, rfl, ?_⟩
    -- the program's own
    refine ⟨l, rfl, ?_⟩
    rw [hg]
    refine ⟨fun h => absurd h (by decide), fun _ => ?_⟩
    refine ⟨l, rfl, by omega, fun i acc => acc = ((rows l).take i).map pairD, rfl, ?_, ?_⟩
    · rintro i d acc hd rfl
      obtain ⟨p, hp, rfl⟩ := at_map hd
      have := lt_at hp
      refine ⟨rfl, ⟨fun _ => ⟨rfl, by rw [List.length_map, List.length_take]; omega, ?_⟩, fun h => (nomatch h)⟩⟩
      show _ = _
      rw [take_at hp, List.map_append]
      rfl
    rintro acc rfl
    rw [List.length_map, List.take_length]
    refine ⟨_, rfl, fine_rows (by omega), ?_⟩
    refine ⟨fun h => absurd h (by decide), fun _ => ?_⟩
    have fll := flags_len (rows l) l.length
    refine ⟨l.length, rows l, by rw [List.length_map], by omega, by omega, fun k a h => gR_lt V h, ?_⟩
    rw [rows_back hg]
    refine ⟨l, rfl, by omega, by show 2 ≤ sizeLine; decide, by show 2 ≤ sizeLine; decide, _, rfl, fine_two (fine_word (by omega)) (fine_flags (by omega)), fun h => absurd h (by decide), fun _ => ?_⟩
    -- crossings, nestings
    refine ⟨rows l, false, rfl, by omega, rows l, true, rfl, by omega, rfl, ?_⟩
    refine ⟨l, rfl, by omega, l, rfl, by omega, by show 2 ≤ sizeLine; decide, by show 2 ≤ sizeLine; decide, _, rfl, fine_two (fine_nat _) (fine_nat _), fun h => absurd h (by decide), fun _ => ?_⟩
    -- without crossings, without nestings
    obtain ⟨R1, e1, V1, z1⟩ := lot_plain l true
    obtain ⟨R1', e1', V1', z1'⟩ := lot_plain l false
    have l1 := play_len e1
    have l1' := play_len e1'
    have s1 := srt_len R1
    have s1' := srt_len R1'
    refine .inl ⟨flags (rows l) l.length, true, 0, _, rfl, .inl ⟨rfl, rfl⟩, by omega, ?_⟩
    rw [e1]
    refine ⟨l.length, srtP R1, by rw [List.length_map], by omega, by omega, fun k a h => gF_lt (V1.perm (srt_perm R1).symm) h, ?_⟩
    rw [made_srt V1]
    refine .inl ⟨flags (rows l) l.length, false, 1, _, rfl, .inr ⟨rfl, rfl⟩, by omega, ?_⟩
    rw [e1']
    refine ⟨l.length, srtP R1', by rw [List.length_map], by omega, by omega, fun k a h => gF_lt (V1'.perm (srt_perm R1').symm) h, ?_⟩
    rw [made_srt V1']
    refine ⟨rfl, flags (rows l) l.length, rfl, by omega, ?_⟩
    rw [e1]
    refine ⟨flags (rows l) l.length, rfl, by omega, ?_⟩
    rw [e1', fll]
    have m1 := made_len (gR R1) l.length
    have m1' := made_len (gR R1') l.length
    refine ⟨by show 2 ≤ sizeLine; decide, by show 2 ≤ sizeLine; decide, _, rfl, fine_two (fine_word (by omega)) (fine_word (by omega)), fun h => absurd h (by decide), fun _ => ?_⟩
    refine ⟨_, rfl, by omega, fun h => ?_, fun _ => ⟨_, rfl, by omega, fun h => ?_, fun _ => ?_⟩⟩
    · have z1 : crossN (rows (madeTo (gR R1) l.length).1) = 0 := z1
      rw [z1] at h
      exact absurd h (by decide)
    · have z1' : nestN (rows (madeTo (gR R1') l.length).1) = 0 := z1'
      rw [z1'] at h
      exact absurd h (by decide)
    -- exchanged
    obtain ⟨R2, e2, eF, V2, x1, x2, R3, e3, e4⟩ := lot_exch hg
    have l2 := playX_len e2
    have s2 := srt_len R2
    have m2 := made_len (gR R2) l.length
    refine .inr ⟨flags (rows l) l.length, l, R2, rfl, by omega, by omega, by rw [eF]; exact e2, ?_⟩
    refine ⟨l.length, srtP R2, by rw [List.length_map], by omega, by omega, fun k a h => gF_lt (V2.perm (srt_perm R2).symm) h, ?_⟩
    rw [made_srt V2]
    refine ⟨l, R2, rfl, by omega, e2, (madeTo (gR R2) l.length).1, R3, rfl, by omega, e3, ?_⟩
    rw [m2, e4]
    refine ⟨by show 2 ≤ sizeLine; decide, by show 2 ≤ sizeLine; decide, _, rfl, fine_two (fine_word (by omega)) (fine_word (by omega)), fun h => absurd h (by decide), fun _ => ?_⟩
    refine ⟨_, rfl, by omega, _, rfl, by omega, by show 2 ≤ sizeLine; decide, by show 2 ≤ sizeLine; decide, ?_⟩
    rw [x1, x2]
    refine ⟨⟨shp_two _ _, shp_two _ _⟩, fun h => ?_, fun _ => ?_⟩
    · exact absurd h (by show ¬ (!deq (.lst [natD (nestN (rows l)), natD (crossN (rows l))]) (.lst [natD (nestN (rows l)), natD (crossN (rows l))])) = true; rw [deq_two]; decide)
    -- any row of ends
    refine ⟨7, rfl, ⟨by decide, .inl (by decide)⟩, fun r hr0 hr1 => ⟨⟨by omega, by omega⟩, ?_⟩⟩
    refine ⟨fun i acc => ∃ fl : List (Bool × Bool), acc = fl.map enD ∧ fl.length = i, ⟨[], rfl, rfl⟩, ?_, ?_⟩
    · rintro i d acc hd ⟨fl, rfl, hfl⟩
      obtain ⟨hi, rfl⟩ := rangeD_out hd
      refine ⟨rfl, ⟨fun _ => ⟨by show 4 ≤ sizeLine; decide, _, [.str "begin", .str "end", .str "both", .str "none"], rfl, .inl rfl, by show 0 < 4; decide, by show 4 < 1000000; decide, fun j d hj => ?_⟩, fun h => (nomatch h)⟩⟩
      obtain ⟨f, rfl⟩ : ∃ f, d = enD f := by
        match j, hj with
        | 0, hj => cases hj; exact ⟨(false, true), rfl⟩
        | 1, hj => cases hj; exact ⟨(true, false), rfl⟩
        | 2, hj => cases hj; exact ⟨(true, true), rfl⟩
        | 3, hj => cases hj; exact ⟨(false, false), rfl⟩
        | j + 4, hj => simp at hj
      exact ⟨rfl, by rw [List.length_map]; omega, fl ++ [f], by rw [List.map_append]; rfl, by rw [List.length_append, hfl]; rfl⟩
    rintro acc ⟨fl, rfl, hfl⟩
    rw [rangeD_len] at hfl
    have hfl7 : fl.length ≤ 7 := by omega
    refine ⟨by show 0 ≤ sizeLine; decide, .inl ⟨fl, true, 0, _, rfl, .inl ⟨rfl, rfl⟩, by omega, ?_⟩⟩
    have both := fun R h => play_both (last := true) (fl := fl) (R := R) h false
    have both' := fun R h => play_both (last := false) (fl := fl) (R := R) h true
    have pval := fun R h => play_val (last := true) (fl := fl) (R := R) h
    have plen := fun R h => play_len (last := true) (fl := fl) (R := R) h
    have tail : ∀ (E : Prop), E → E := fun _ h => h
    cases hp : play (posL true) fl 0 [] with
    | none =>
      have hp' : play (posL false) fl 0 [] = none := by
        cases h : play (posL false) fl 0 [] with
        | none => rfl
        | some R =>
          obtain ⟨S, hS⟩ := both' R h
          rw [hp] at hS
          cases hS
      refine ⟨fl, rfl, by omega, ?_⟩
      rw [hp]
      refine ⟨⟨.bl _, .bl _⟩, fun h => absurd h (by decide), fun _ => ⟨fl, rfl, by omega, ?_⟩⟩
      rw [hp']
      refine ⟨⟨.bl _, .bl _⟩, fun h => absurd h (by decide), fun _ => ?_⟩
      refine ⟨fun h => absurd h (by decide), fun _ => ⟨fun h => absurd h (by decide), fun _ => ?_⟩⟩
      -- a bent word
      refine ⟨l, rfl, by omega, fun top ht1 ht2 => ⟨by show 5 ≤ sizeLine; decide, _, [.int 0, .int (0 - 1), .int ((l.map D.int).length : Nat), .int (top + 1), .int 1], rfl, .inl rfl, by show 0 < 5; decide, by show 5 < 1000000; decide, fun j d hj => ?_⟩⟩
      obtain ⟨v, rfl⟩ : ∃ v : Int, d = .int v := by
        match j, hj with
        | 0, hj => cases hj; exact ⟨_, rfl⟩
        | 1, hj => cases hj; exact ⟨_, rfl⟩
        | 2, hj => cases hj; exact ⟨_, rfl⟩
        | 3, hj => cases hj; exact ⟨_, rfl⟩
        | 4, hj => cases hj; exact ⟨_, rfl⟩
        | j + 5, hj => simp at hj
      refine ⟨⟨_, rfl⟩, _, rfl, ⟨by rw [List.length_map]; omega, .inl (by rw [List.length_map]; omega)⟩, fun at_ ha0 ha1 => ?_⟩
      rw [List.length_map] at ha1
      refine ⟨_, at_.toNat, rfl, ?_, ?_⟩
      · rw [List.length_map]
        unfold ixN
        rw [if_pos ha0, if_pos ha1]
      rw [show (l.map D.int).set at_.toNat (.int v) = (l.set at_.toNat v).map D.int from (List.map_set).symm]
      generalize hb : l.set at_.toNat v = b
      have hbl : b.length = l.length := by rw [← hb, List.length_set]
      refine ⟨⟨by rw [List.length_map]; omega, by rw [List.length_map]; omega⟩, fun j acc => ∃ L : List Nat, acc = L.map natD ∧ L.length ≤ j ∧ L.isEmpty = growing (-1) (b.take j), ⟨[], rfl, Nat.le_refl _, rfl⟩, ?_, ?_⟩
      · rintro j d acc hd ⟨L, rfl, hL1, hL2⟩
        obtain ⟨hj, rfl⟩ := rangeD_out hd
        have e0 : ((0 : Int) + (j : Nat)) = ((j : Nat) : Int) := Int.zero_add _
        rw [List.length_map, Int.toNat_natCast] at hj
        obtain ⟨x, hx⟩ : ∃ x, b[j]? = some x := ⟨_, List.getElem?_eq_getElem (by omega)⟩
        have hgs : growing (-1) (b.take (j + 1)) = (growing (-1) (b.take j) && (decide (0 ≤ x) && decide (x ≤ topOf (-1) (b.take j) + 1))) := by
          rw [take_at hx, growing_snoc]
        rw [e0]
        have add : (decide (0 ≤ x) && decide (x ≤ topOf (-1) (b.take j) + 1)) = false → ∃ L' : List Nat, L.map natD ++ [D.int (j : Nat)] = L'.map natD ∧ L'.length ≤ j + 1 ∧ L'.isEmpty = growing (-1) (b.take (j + 1)) := fun h => by
          refine ⟨L ++ [j], by rw [List.map_append]; rfl, by rw [List.length_append]; show _ + 1 ≤ _; omega, ?_⟩
          rw [hgs, h, Bool.and_false]
          simp
        have not_ : (decide (0 ≤ x) && decide (x ≤ topOf (-1) (b.take j) + 1)) = true → ∃ L' : List Nat, L.map natD = L'.map natD ∧ L'.length ≤ j + 1 ∧ L'.isEmpty = growing (-1) (b.take (j + 1)) := fun h => by
          refine ⟨L, rfl, by omega, ?_⟩
          rw [hgs, h, Bool.and_true]
          exact hL2
        refine ⟨.int x, atI_nat (by rw [List.getElem?_map, hx]; rfl), fun h1 => ⟨by show 1 ≤ sizeLine; decide, ?_⟩, fun h1 => ⟨rfl, fun _ => ⟨rfl, by rw [List.length_map]; omega, add ?_⟩, fun h => (nomatch h)⟩⟩
        · have hc : cutD (b.map D.int) none (some ((j : Nat) : Int)) = (b.take j).map D.int := by
            unfold cutD
            rw [HT.sIx_none, HT.sIx_nat, List.drop_zero, List.length_map, Nat.sub_zero, List.map_take]
            congr 1
            omega
          show _ ∧ _
          rw [hc]
          refine ⟨by rw [List.length_map, List.length_take]; show 1 + _ ≤ _; omega, (-1) :: b.take j, rfl, by simp, fun m hm1 hm2 => ?_⟩
          have em := topOf_max _ _ _ hm1 hm2
          refine ⟨rfl, fun h2 => ⟨rfl, by rw [List.length_map]; omega, add ?_⟩, fun h2 => not_ ?_⟩
          · rw [← em, h1]
            simpa using h2
          · rw [← em, h1]
            simpa using h2
        · rw [h1]
          rfl
      rintro acc ⟨L, rfl, hL1, hL2⟩
      rw [rangeD_len, List.length_map, Int.toNat_natCast, ← hbl, List.take_length] at hL2
      refine ⟨by show 0 ≤ sizeLine; decide, ⟨shp_nats L, shp_nil⟩, ?_⟩
      refine ⟨b, rfl, ?_⟩
      have hd : deq (.lst (L.map natD)) (.lst []) = growing (-1) b := by
        rw [deq_empty, ← hL2]
        cases L <;> rfl
      rw [hd]
      exact ⟨_, rfl, .bl _, fun h => absurd h (by decide), fun _ => ⟨rfl, rfl⟩⟩
    | some R =>
      have Vp := pval R hp
      have Lp := plen R hp
      have sp := srt_len R
      have mp := made_len (gR R) fl.length
      obtain ⟨S, hS⟩ := both R hp
      refine ⟨fl, rfl, by omega, ?_⟩
      rw [hp]
      refine ⟨⟨.bl _, .bl _⟩, fun h => absurd h (by decide), fun _ => ⟨fl, rfl, by omega, ?_⟩⟩
      rw [hS]
      refine ⟨⟨.bl _, .bl _⟩, fun h => absurd h (by decide), fun _ => ?_⟩
      refine ⟨fun _ => ⟨fl, rfl, by omega, ?_⟩, fun h => absurd h (by decide)⟩
      rw [hp]
      refine ⟨fl.length, srtP R, by rw [List.length_map], by omega, by omega, fun k a h => gF_lt (Vp.perm (srt_perm R).symm) h, ?_⟩
      rw [made_srt Vp]
      refine ⟨_, rfl, fine_word (by omega), fun h => absurd h (by decide), fun _ => ?_⟩
      -- a bent word
      refine ⟨l, rfl, by omega, fun top ht1 ht2 => ⟨by show 5 ≤ sizeLine; decide, _, [.int 0, .int (0 - 1), .int ((l.map D.int).length : Nat), .int (top + 1), .int 1], rfl, .inl rfl, by show 0 < 5; decide, by show 5 < 1000000; decide, fun j d hj => ?_⟩⟩
      obtain ⟨v, rfl⟩ : ∃ v : Int, d = .int v := by
        match j, hj with
        | 0, hj => cases hj; exact ⟨_, rfl⟩
        | 1, hj => cases hj; exact ⟨_, rfl⟩
        | 2, hj => cases hj; exact ⟨_, rfl⟩
        | 3, hj => cases hj; exact ⟨_, rfl⟩
        | 4, hj => cases hj; exact ⟨_, rfl⟩
        | j + 5, hj => simp at hj
      refine ⟨⟨_, rfl⟩, _, rfl, ⟨by rw [List.length_map]; omega, .inl (by rw [List.length_map]; omega)⟩, fun at_ ha0 ha1 => ?_⟩
      rw [List.length_map] at ha1
      refine ⟨_, at_.toNat, rfl, ?_, ?_⟩
      · rw [List.length_map]
        unfold ixN
        rw [if_pos ha0, if_pos ha1]
      rw [show (l.map D.int).set at_.toNat (.int v) = (l.set at_.toNat v).map D.int from (List.map_set).symm]
      generalize hb : l.set at_.toNat v = b
      have hbl : b.length = l.length := by rw [← hb, List.length_set]
      refine ⟨⟨by rw [List.length_map]; omega, by rw [List.length_map]; omega⟩, fun j acc => ∃ L : List Nat, acc = L.map natD ∧ L.length ≤ j ∧ L.isEmpty = growing (-1) (b.take j), ⟨[], rfl, Nat.le_refl _, rfl⟩, ?_, ?_⟩
      · rintro j d acc hd ⟨L, rfl, hL1, hL2⟩
        obtain ⟨hj, rfl⟩ := rangeD_out hd
        have e0 : ((0 : Int) + (j : Nat)) = ((j : Nat) : Int) := Int.zero_add _
        rw [List.length_map, Int.toNat_natCast] at hj
        obtain ⟨x, hx⟩ : ∃ x, b[j]? = some x := ⟨_, List.getElem?_eq_getElem (by omega)⟩
        have hgs : growing (-1) (b.take (j + 1)) = (growing (-1) (b.take j) && (decide (0 ≤ x) && decide (x ≤ topOf (-1) (b.take j) + 1))) := by
          rw [take_at hx, growing_snoc]
        rw [e0]
        have add : (decide (0 ≤ x) && decide (x ≤ topOf (-1) (b.take j) + 1)) = false → ∃ L' : List Nat, L.map natD ++ [D.int (j : Nat)] = L'.map natD ∧ L'.length ≤ j + 1 ∧ L'.isEmpty = growing (-1) (b.take (j + 1)) := fun h => by
          refine ⟨L ++ [j], by rw [List.map_append]; rfl, by rw [List.length_append]; show _ + 1 ≤ _; omega, ?_⟩
          rw [hgs, h, Bool.and_false]
          simp
        have not_ : (decide (0 ≤ x) && decide (x ≤ topOf (-1) (b.take j) + 1)) = true → ∃ L' : List Nat, L.map natD = L'.map natD ∧ L'.length ≤ j + 1 ∧ L'.isEmpty = growing (-1) (b.take (j + 1)) := fun h => by
          refine ⟨L, rfl, by omega, ?_⟩
          rw [hgs, h, Bool.and_true]
          exact hL2
        refine ⟨.int x, atI_nat (by rw [List.getElem?_map, hx]; rfl), fun h1 => ⟨by show 1 ≤ sizeLine; decide, ?_⟩, fun h1 => ⟨rfl, fun _ => ⟨rfl, by rw [List.length_map]; omega, add ?_⟩, fun h => (nomatch h)⟩⟩
        · have hc : cutD (b.map D.int) none (some ((j : Nat) : Int)) = (b.take j).map D.int := by
            unfold cutD
            rw [HT.sIx_none, HT.sIx_nat, List.drop_zero, List.length_map, Nat.sub_zero, List.map_take]
            congr 1
            omega
          show _ ∧ _
          rw [hc]
          refine ⟨by rw [List.length_map, List.length_take]; show 1 + _ ≤ _; omega, (-1) :: b.take j, rfl, by simp, fun m hm1 hm2 => ?_⟩
          have em := topOf_max _ _ _ hm1 hm2
          refine ⟨rfl, fun h2 => ⟨rfl, by rw [List.length_map]; omega, add ?_⟩, fun h2 => not_ ?_⟩
          · rw [← em, h1]
            simpa using h2
          · rw [← em, h1]
            simpa using h2
        · rw [h1]
          rfl
      rintro acc ⟨L, rfl, hL1, hL2⟩
      rw [rangeD_len, List.length_map, Int.toNat_natCast, ← hbl, List.take_length] at hL2
      refine ⟨by show 0 ≤ sizeLine; decide, ⟨shp_nats L, shp_nil⟩, ?_⟩
      refine ⟨b, rfl, ?_⟩
      have hd : deq (.lst (L.map natD)) (.lst []) = growing (-1) b := by
        rw [deq_empty, ← hL2]
        cases L <;> rfl
      rw [hd]
      exact ⟨_, rfl, .bl _, fun h => absurd h (by decide), fun _ => ⟨rfl, rfl⟩⟩
  · rintro e ⟨hlen, h1⟩
    obtain ⟨c0, c2, c3, c4, c5, c6, c7, c8, c9, c10, c11, c12, c13, c14, c15, c16, c17, c18, c19, c20, rfl⟩ := lay21 hlen h1
    refine ⟨201, rfl, ⟨by decide, .inl (by decide)⟩, fun r hr0 hr1 => ⟨by show 6 ≤ sizeLine; decide, _, [.int 9, .int 40, .int 120, .int 199, .int 200, .int r], rfl, .inl rfl, by show 0 < 6; decide, by show 6 < 1000000; decide, fun j d hj => ?_⟩⟩
    obtain ⟨n, rfl, hn⟩ : ∃ n : Nat, d = natD n ∧ n ≤ 200 := by
      match j, hj with
      | 0, hj => cases hj; exact ⟨9, rfl, by decide⟩
      | 1, hj => cases hj; exact ⟨40, rfl, by decide⟩
      | 2, hj => cases hj; exact ⟨120, rfl, by decide⟩
      | 3, hj => cases hj; exact ⟨199, rfl, by decide⟩
      | 4, hj => cases hj; exact ⟨200, rfl, by decide⟩
      | 5, hj =>
        cases hj
        obtain ⟨m, rfl⟩ := Int.eq_ofNat_of_zero_le hr0
        exact ⟨m, rfl, by omega⟩
      | j + 6, hj => simp at hj
    refine ⟨by show 1 ≤ sizeLine; decide, ⟨by omega, by omega⟩, ?_⟩
    rw [Int.toNat_natCast]
    refine ⟨fun i e => e.length = 21 ∧ e[1]? = some (.d .sta) ∧ e[3]? = some (.d (natD n)) ∧ e[4]? = some (.own (.lst ((stir i).map natD))), ⟨rfl, rfl, rfl, rfl⟩, ?_, ?_⟩
    · rintro i d e hd ⟨q1, q2, q3, q4⟩
      obtain ⟨hi, rfl⟩ := rangeD_out hd
      obtain ⟨c0, c2, c5, c6, c7, c8, c9, c10, c11, c12, c13, c14, c15, c16, c17, c18, c19, c20, rfl⟩ := lay21n q1 q2 q3 q4
      have sl := stir_len i
      have nt := nx_tlen (stir i)
      refine ⟨by show 1 ≤ sizeLine; decide, ⟨by omega, by omega, by rw [List.length_map]; omega, by rw [List.length_map]; omega⟩, fun j acc => acc = ((nxS 0 0 (stir i)).tail.take j).map natD, rfl, ?_, ?_⟩
      · rintro j d acc hd rfl
        obtain ⟨hj, rfl⟩ := rangeD_out hd
        rw [List.length_map] at hj
        have hj : j < (stir i).length := by omega
        have ht := nx_tail (stir i) hj
        have g1 : atI ((stir i).map natD) ((1 : Int) + (j : Nat) - 1) = some (natD ((stir i).getD j 0)) := by
          rw [show (1 : Int) + (j : Nat) - 1 = ((j : Nat) : Int) by omega]
          refine atI_nat ?_
          rw [List.getElem?_map, List.getElem?_eq_getElem hj, List.getD_eq_getElem?_getD, List.getElem?_eq_getElem hj]
          rfl
        have fin : ∀ v : Int, v = (((stir i).getD j 0 + (1 + j) * (stir i).getD (1 + j) 0 : Nat) : Int) → ((nxS 0 0 (stir i)).tail.take j).map natD ++ [D.int v] = ((nxS 0 0 (stir i)).tail.take (j + 1)).map natD := fun v hv => by
          rw [take_at ht, List.map_append, hv]
          rfl
        have tl : ((nxS 0 0 (stir i)).tail.take j).length ≤ j := by rw [List.length_take]; omega
        refine ⟨rfl, ⟨fun _ => ⟨natD ((stir i).getD j 0), g1, fun h => ?_, fun h => ?_⟩, fun h => (nomatch h)⟩⟩
        · have h := of_decide_eq_true h
          rw [List.length_map] at h
          have hj1 : 1 + j < (stir i).length := by omega
          refine ⟨natD ((stir i).getD (1 + j) 0), ?_, .inl (.inl ⟨by omega, by omega⟩), rfl, by rw [List.length_map]; omega, fin _ ?_⟩
          · rw [show (1 : Int) + (j : Nat) = ((1 + j : Nat) : Int) by omega]
            refine atI_nat ?_
            rw [List.getElem?_map, List.getElem?_eq_getElem hj1, List.getD_eq_getElem?_getD, List.getElem?_eq_getElem hj1]
            rfl
          · rw [Int.natCast_add, Int.natCast_mul, Int.natCast_add]
            rfl
        · have h := of_decide_eq_false h
          rw [List.length_map] at h
          have e0 : (stir i).getD (1 + j) 0 = 0 := by
            rw [List.getD_eq_getElem?_getD, List.getElem?_eq_none (by omega)]
            rfl
          refine ⟨rfl, by rw [List.length_map]; omega, fin _ ?_⟩
          rw [e0, Nat.mul_zero, Nat.add_zero]
          exact Int.add_zero _
      · intro acc hacc
        have hacc : acc = ((nxS 0 0 (stir i)).tail.take (rangeD 1 (((((stir i).map natD).length : Nat) : Int) + 1 - 1).toNat).length).map natD := hacc
        rw [rangeD_len, List.length_map, show ((((stir i).length : Nat) : Int) + 1 - 1).toNat = (stir i).length by omega, ← nt, List.take_length] at hacc
        subst hacc
        refine ⟨by rw [List.length_map]; show 1 + _ ≤ _; omega, rfl, rfl, rfl, ?_⟩
        show some (Cel.own (.lst (natD 0 :: (nxS 0 0 (stir i)).tail.map natD))) = some (Cel.own (.lst ((nxS 0 0 (stir i)).map natD)))
        rw [← List.map_cons, ← nx_zero]
    · rintro e ⟨q1, q2, q3, q4⟩
      obtain ⟨c0, c2, c5, c6, c7, c8, c9, c10, c11, c12, c13, c14, c15, c16, c17, c18, c19, c20, rfl⟩ := lay21n q1 q2 q3 q4
      rw [rangeD_len]
      have sl := stir_len n
      have hcd : CD 0 (((n : Nat) : Int) + 1) := ⟨by omega, .inl (by omega)⟩
      refine ⟨⟨by decide, .inl (by decide)⟩, _, rfl, hcd, fun r1 hr10 hr11 => ⟨_, rfl, hcd, fun r2 hr20 hr21 => ⟨by show 8 ≤ sizeLine; decide, ?_⟩⟩⟩
      refine ⟨fun i e => e.length = 21 ∧ e[1]? = some (.d .sta) ∧ e[3]? = some (.d (natD n)) ∧ e[4]? = some (.own (.lst ((stir n).map natD))), ⟨rfl, rfl, rfl, rfl⟩, ?_, ?_⟩
      · rintro i d e hd ⟨q1, q2, q3, q4⟩
        obtain ⟨c0, c2, c5, c6, c7, c8, c9, c10, c11, c12, c13, c14, c15, c16, c17, c18, c19, c20, rfl⟩ := lay21n q1 q2 q3 q4
        obtain ⟨kk, rfl⟩ : ∃ kk : Nat, d = natD kk := by
          match i, hd with
          | 0, hd => cases hd; exact ⟨0, rfl⟩
          | 1, hd => cases hd; exact ⟨1, rfl⟩
          | 2, hd => cases hd; exact ⟨2, rfl⟩
          | 3, hd => cases hd; exact ⟨n, rfl⟩
          | 4, hd => cases hd; exact ⟨n + 1, rfl⟩
          | 5, hd => cases hd; exact ⟨n / 2, rfl⟩
          | 6, hd =>
            cases hd
            obtain ⟨m, rfl⟩ := Int.eq_ofNat_of_zero_le hr10
            exact ⟨m, rfl⟩
          | 7, hd =>
            cases hd
            obtain ⟨m, rfl⟩ := Int.eq_ofNat_of_zero_le hr20
            exact ⟨m, rfl⟩
          | i + 8, hd => simp at hd
        refine ⟨n, kk, rfl, by omega, fun h => ?_, fun h => ?_⟩
        · have h := of_decide_eq_true h
          have hk : kk < (stir n).length := by omega
          refine ⟨natD ((stir n).getD kk 0), atI_nat ?_, _, rfl, .int _, fun h => absurd h (by decide), fun _ => ⟨rfl, rfl, rfl, rfl⟩⟩
          rw [List.getElem?_map, List.getElem?_eq_getElem hk, List.getD_eq_getElem?_getD, List.getElem?_eq_getElem hk]
          rfl
        · have h := of_decide_eq_false h
          have e0 : (stir n).getD kk 0 = 0 := by
            rw [List.getD_eq_getElem?_getD, List.getElem?_eq_none (by omega)]
            rfl
          rw [e0]
          exact ⟨_, rfl, .int _, fun h => absurd h (by decide), fun _ => ⟨rfl, rfl, rfl, rfl⟩⟩
      · rintro e ⟨q1, q2, q3, q4⟩
        obtain ⟨c0, c2, c5, c6, c7, c8, c9, c10, c11, c12, c13, c14, c15, c16, c17, c18, c19, c20, rfl⟩ := lay21n q1 q2 q3 q4
        refine ⟨n, rfl, by omega, toI (stir n), (toI_nat _).symm, ?_⟩
        rw [toI_sum, bell_stir n hn]
        refine ⟨_, rfl, .int _, fun h => absurd h (by decide), fun _ => ?_⟩
        refine ⟨by show 4 ≤ sizeLine; decide, [0, 1, 0, 1], rfl, by show 4 ≤ 1000; decide, by show 4 ≤ sizeLine; decide, [0, 1, 1, 0], rfl, by show 4 ≤ 1000; decide, 5, rfl, by decide, by show 3 ≤ sizeLine; decide, by show 3 ≤ sizeLine; decide, ?_⟩
        rw [cross_ex, nest_ex, bell_ex]
        refine ⟨.lst [natD 1, natD 1, natD 52], rfl, .lst (by show 3 < 10000000; decide) fun d hd => ?_, rfl⟩
        rcases List.mem_cons.mp hd with rfl | hd
        · exact fine_nat _
        · rcases List.mem_cons.mp hd with rfl | hd
          · exact fine_nat _
          · cases List.mem_singleton.mp hd
            exact fine_nat _
end
end K10

namespace K10
open PySem PySem.Spec PyProof.Rows L2 DL
section
variable {P : Program} {w : World} {K : PySem.W.Frag} {mg : Str → Option Value} {base : Heap}
def spLaw (K : PySem.W.Frag) : Sp := fun vs H Q _ => ∃ (a : Addr) (ns : List Int), vs = [.ref a] ∧ SqL K H a (ns.map V.int) ∧ ns.length ≤ 63 ∧ (∀ z ∈ ns, Builtin.Int.intBits z ≤ 1048576) ∧ Only H ∧ ∀ H', Q (.bl true) H'
theorem env_sta {i : Nat} {c : Cel} (h : (Cel.un :: .d .sta :: List.replicate 19 Cel.un)[i]? = some c) : c = .un ∨ (i = 1 ∧ c = .d .sta) := by
  match i, h with
  | 0, h => cases h; exact .inl rfl
  | 1, h => cases h; exact .inr ⟨rfl, rfl⟩
  | i + 2, h =>
    have h : (List.replicate 19 Cel.un)[i]? = some c := h
    exact .inl (List.eq_of_mem_replicate (List.mem_of_getElem? h))
theorem ok_law (T : Txt K mg) {f : Addr} {fd : FuncData} (F : Fun K "law" "law" s_law f fd) : FnOk P w K mg base CX0 5 f fd ["script"] (spLaw K) := by
  refine F.ok sc_law (fun vs H Q E h => ?_) (fun cdv A outer s H vs Q E hr h => ?_)
  · obtain ⟨a, ns, rfl, _⟩ := h
    rfl
  · obtain ⟨a, ns, rfl, hS, hl, _, _, q⟩ := h
    obtain ⟨fs, fds, Fs, hm, bs⟩ := T.h_law_state.ex
    have GS : FnOk P w K mg base CX0 1 fs fds ["script"] (spState K) := ok_law_state T Fs
    refine ⟨_, pss_cons (ps_set (i := 1) sc_law.nd rfl (by first | exact .inl rfl | exact .inr rfl) (pe_call GS (hr.mono (by decide)) (by rfl) hm Fs.kp bs .nil pass0 (pa_cons (L2.pv 0) pa_nil)))
      ((w_law (P := P) (w := w) (base := base) (s8 := spNo) T (k_law_arcs T) (k_law_count T) (k_law_draw T) (k_law_ends T) (k_law_eq T 3 (by decide)) (k_law_made T) (k_law_pick T) (k_law_read T) (k_law_word T) (k_arcs T) (k_count_all_lots T) (k_count_lots T) (k_crossings T) (k_ends_of T) (k_exchanged T) (k_from_arcs T) (k_is_growing T) (k_nestings T) (k_without_crossings T) (k_without_nestings T)).2 f cdv A outer s H E hr), ?_⟩
    refine ⟨.ref a, rfl, a, ns, rfl, hS, hl, fun H' s' c ok => ?_⟩
    refine ⟨⟨some (s', c), fun _ => none, H'⟩, Cel.un :: .d .sta :: List.replicate 19 Cel.un, fun _ => none, ?_, yes, frc_out (rd_law T), ?_⟩
    · refine ⟨rfl, fun b o h => (nomatch h), Same.refl _, fun b o h _ => h, fun b o _ h => h, ok, fun b z => ok.there z, fun b _ => rfl, fun i d h => ?_, fun i oc h => ?_, fun i j o c1 c2 h _ _ _ => ?_⟩
      · rcases env_sta h with e | ⟨rfl, e⟩
        · cases e
        · cases e
          exact ⟨.ref s', rfl, .sta rfl⟩
      · rcases env_sta h with e | ⟨_, e⟩ <;> cases e
      · rcases env_sta h with e | ⟨_, e⟩ <;> cases e
    · refine ⟨fun _ _ _ _ h _ => (show False from h).elim, fun x v env σ F1 H1 h G r => ?_, fun _ _ _ _ h _ => (show False from h).elim, fun _ _ _ _ h _ => (show False from h).elim⟩
      have h : x = .dat (.bl true) := h
      subst h
      have e := Rp.bl_eq (show Rp _ F1 v (.bl true) from r)
      subst e
      exact q H1
end
theorem all_mk {l : PySem.W.OpenLaw} {w : World} {K : PySem.W.Frag} {h : Heap} {mg : Str → Option Value} {fa f0 f1 f2 f3 f4 f5 f6 f7 f8 f9 f10 f11 f12 f13 f14 f15 f16 f17 f18 f19 f20 f21 f22 : Addr} (X : K.In h) (G : h.Ns mainGlobals mg) (hfa : mg "law" = some (.ref fa))
    {od0 an0 od1 an1 od2 an2 od3 an3 od4 an4 od5 an5 od6 an6 od7 an7 od8 an8 od9 an9 od10 an10 od11 an11 od12 an12 od13 an13 od14 an14 od15 an15 od16 an16 od17 an17 od18 an18 od19 an19 od20 an20 od21 an21 od22 an22 : Option Addr} {sl0 sl1 sl2 sl3 sl4 sl5 sl6 sl7 sl8 sl9 sl10 sl11 sl12 sl13 sl14 sl15 sl16 sl17 sl18 sl19 sl20 sl21 sl22 : Array (Option Value)} {oc0 kV0 dc0 pm0 cd0 ct0 oc1 kV1 dc1 pm1 cd1 ct1 oc2 kV2 dc2 pm2 cd2 ct2 oc3 kV3 dc3 pm3 cd3 ct3 oc4 kV4 dc4 pm4 cd4 ct4 oc5 kV5 dc5 pm5 cd5 ct5 oc6 kV6 dc6 pm6 cd6 ct6 oc7 kV7 dc7 pm7 cd7 ct7 oc8 kV8 dc8 pm8 cd8 ct8 oc9 kV9 dc9 pm9 cd9 ct9 oc10 kV10 dc10 pm10 cd10 ct10 oc11 kV11 dc11 pm11 cd11 ct11 oc12 kV12 dc12 pm12 cd12 ct12 oc13 kV13 dc13 pm13 cd13 ct13 oc14 kV14 dc14 pm14 cd14 ct14 oc15 kV15 dc15 pm15 cd15 ct15 oc16 kV16 dc16 pm16 cd16 ct16 oc17 kV17 dc17 pm17 cd17 ct17 oc18 kV18 dc18 pm18 cd18 ct18 oc19 kV19 dc19 pm19 cd19 ct19 oc20 kV20 dc20 pm20 cd20 ct20 oc21 kV21 dc21 pm21 cd21 ct21 oc22 kV22 dc22 pm22 cd22 ct22 : Value}
    (a0 : PySem.W.nsIn K mainGlobals "is_growing" = some (some (.ref f0))) (l0 : K.lookup f0 = some ⟨oc0, od0, .func (PySem.W.fnOf "is_growing" "is_growing" (defArgs s_is_growing) (defBody s_is_growing) (defScope s_is_growing) .none kV0 dc0 pm0 an0 cd0 ct0), sl0⟩) (c0 : PySem.W.codeIn K cd0 "is_growing" = true) (k0 : PySem.W.keepIn K (.ref f0) = true)
    (a1 : PySem.W.nsIn K mainGlobals "count_lots" = some (some (.ref f1))) (l1 : K.lookup f1 = some ⟨oc1, od1, .func (PySem.W.fnOf "count_lots" "count_lots" (defArgs s_count_lots) (defBody s_count_lots) (defScope s_count_lots) .none kV1 dc1 pm1 an1 cd1 ct1), sl1⟩) (c1 : PySem.W.codeIn K cd1 "count_lots" = true) (k1 : PySem.W.keepIn K (.ref f1) = true)
    (a2 : PySem.W.nsIn K mainGlobals "count_all_lots" = some (some (.ref f2))) (l2 : K.lookup f2 = some ⟨oc2, od2, .func (PySem.W.fnOf "count_all_lots" "count_all_lots" (defArgs s_count_all_lots) (defBody s_count_all_lots) (defScope s_count_all_lots) .none kV2 dc2 pm2 an2 cd2 ct2), sl2⟩) (c2 : PySem.W.codeIn K cd2 "count_all_lots" = true) (k2 : PySem.W.keepIn K (.ref f2) = true)
    (a3 : PySem.W.nsIn K mainGlobals "arcs" = some (some (.ref f3))) (l3 : K.lookup f3 = some ⟨oc3, od3, .func (PySem.W.fnOf "arcs" "arcs" (defArgs s_arcs) (defBody s_arcs) (defScope s_arcs) .none kV3 dc3 pm3 an3 cd3 ct3), sl3⟩) (c3 : PySem.W.codeIn K cd3 "arcs" = true) (k3 : PySem.W.keepIn K (.ref f3) = true)
    (a4 : PySem.W.nsIn K mainGlobals "from_arcs" = some (some (.ref f4))) (l4 : K.lookup f4 = some ⟨oc4, od4, .func (PySem.W.fnOf "from_arcs" "from_arcs" (defArgs s_from_arcs) (defBody s_from_arcs) (defScope s_from_arcs) .none kV4 dc4 pm4 an4 cd4 ct4), sl4⟩) (c4 : PySem.W.codeIn K cd4 "from_arcs" = true) (k4 : PySem.W.keepIn K (.ref f4) = true)
    (a5 : PySem.W.nsIn K mainGlobals "crossings" = some (some (.ref f5))) (l5 : K.lookup f5 = some ⟨oc5, od5, .func (PySem.W.fnOf "crossings" "crossings" (defArgs s_crossings) (defBody s_crossings) (defScope s_crossings) .none kV5 dc5 pm5 an5 cd5 ct5), sl5⟩) (c5 : PySem.W.codeIn K cd5 "crossings" = true) (k5 : PySem.W.keepIn K (.ref f5) = true)
    (a6 : PySem.W.nsIn K mainGlobals "nestings" = some (some (.ref f6))) (l6 : K.lookup f6 = some ⟨oc6, od6, .func (PySem.W.fnOf "nestings" "nestings" (defArgs s_nestings) (defBody s_nestings) (defScope s_nestings) .none kV6 dc6 pm6 an6 cd6 ct6), sl6⟩) (c6 : PySem.W.codeIn K cd6 "nestings" = true) (k6 : PySem.W.keepIn K (.ref f6) = true)
    (a7 : PySem.W.nsIn K mainGlobals "ends_of" = some (some (.ref f7))) (l7 : K.lookup f7 = some ⟨oc7, od7, .func (PySem.W.fnOf "ends_of" "ends_of" (defArgs s_ends_of) (defBody s_ends_of) (defScope s_ends_of) .none kV7 dc7 pm7 an7 cd7 ct7), sl7⟩) (c7 : PySem.W.codeIn K cd7 "ends_of" = true) (k7 : PySem.W.keepIn K (.ref f7) = true)
    (a8 : PySem.W.nsIn K mainGlobals "joined" = some (some (.ref f8))) (l8 : K.lookup f8 = some ⟨oc8, od8, .func (PySem.W.fnOf "joined" "joined" (defArgs s_joined) (defBody s_joined) (defScope s_joined) .none kV8 dc8 pm8 an8 cd8 ct8), sl8⟩) (c8 : PySem.W.codeIn K cd8 "joined" = true) (k8 : PySem.W.keepIn K (.ref f8) = true)
    (a9 : PySem.W.nsIn K mainGlobals "without_crossings" = some (some (.ref f9))) (l9 : K.lookup f9 = some ⟨oc9, od9, .func (PySem.W.fnOf "without_crossings" "without_crossings" (defArgs s_without_crossings) (defBody s_without_crossings) (defScope s_without_crossings) .none kV9 dc9 pm9 an9 cd9 ct9), sl9⟩) (c9 : PySem.W.codeIn K cd9 "without_crossings" = true) (k9 : PySem.W.keepIn K (.ref f9) = true)
    (a10 : PySem.W.nsIn K mainGlobals "without_nestings" = some (some (.ref f10))) (l10 : K.lookup f10 = some ⟨oc10, od10, .func (PySem.W.fnOf "without_nestings" "without_nestings" (defArgs s_without_nestings) (defBody s_without_nestings) (defScope s_without_nestings) .none kV10 dc10 pm10 an10 cd10 ct10), sl10⟩) (c10 : PySem.W.codeIn K cd10 "without_nestings" = true) (k10 : PySem.W.keepIn K (.ref f10) = true)
    (a11 : PySem.W.nsIn K mainGlobals "exchanged" = some (some (.ref f11))) (l11 : K.lookup f11 = some ⟨oc11, od11, .func (PySem.W.fnOf "exchanged" "exchanged" (defArgs s_exchanged) (defBody s_exchanged) (defScope s_exchanged) .none kV11 dc11 pm11 an11 cd11 ct11), sl11⟩) (c11 : PySem.W.codeIn K cd11 "exchanged" = true) (k11 : PySem.W.keepIn K (.ref f11) = true)
    (a12 : PySem.W.nsIn K mainGlobals "_law_state" = some (some (.ref f12))) (l12 : K.lookup f12 = some ⟨oc12, od12, .func (PySem.W.fnOf "_law_state" "_law_state" (defArgs s_law_state) (defBody s_law_state) (defScope s_law_state) .none kV12 dc12 pm12 an12 cd12 ct12), sl12⟩) (c12 : PySem.W.codeIn K cd12 "_law_state" = true) (k12 : PySem.W.keepIn K (.ref f12) = true)
    (a13 : PySem.W.nsIn K mainGlobals "_law_draw" = some (some (.ref f13))) (l13 : K.lookup f13 = some ⟨oc13, od13, .func (PySem.W.fnOf "_law_draw" "_law_draw" (defArgs s_law_draw) (defBody s_law_draw) (defScope s_law_draw) .none kV13 dc13 pm13 an13 cd13 ct13), sl13⟩) (c13 : PySem.W.codeIn K cd13 "_law_draw" = true) (k13 : PySem.W.keepIn K (.ref f13) = true)
    (a14 : PySem.W.nsIn K mainGlobals "_law_pick" = some (some (.ref f14))) (l14 : K.lookup f14 = some ⟨oc14, od14, .func (PySem.W.fnOf "_law_pick" "_law_pick" (defArgs s_law_pick) (defBody s_law_pick) (defScope s_law_pick) .none kV14 dc14 pm14 an14 cd14 ct14), sl14⟩) (c14 : PySem.W.codeIn K cd14 "_law_pick" = true) (k14 : PySem.W.keepIn K (.ref f14) = true)
    (a15 : PySem.W.nsIn K mainGlobals "_law_eq" = some (some (.ref f15))) (l15 : K.lookup f15 = some ⟨oc15, od15, .func (PySem.W.fnOf "_law_eq" "_law_eq" (defArgs s_law_eq) (defBody s_law_eq) (defScope s_law_eq) .none kV15 dc15 pm15 an15 cd15 ct15), sl15⟩) (c15 : PySem.W.codeIn K cd15 "_law_eq" = true) (k15 : PySem.W.keepIn K (.ref f15) = true)
    (a16 : PySem.W.nsIn K mainGlobals "_law_word" = some (some (.ref f16))) (l16 : K.lookup f16 = some ⟨oc16, od16, .func (PySem.W.fnOf "_law_word" "_law_word" (defArgs s_law_word) (defBody s_law_word) (defScope s_law_word) .none kV16 dc16 pm16 an16 cd16 ct16), sl16⟩) (c16 : PySem.W.codeIn K cd16 "_law_word" = true) (k16 : PySem.W.keepIn K (.ref f16) = true)
    (a17 : PySem.W.nsIn K mainGlobals "_law_arcs" = some (some (.ref f17))) (l17 : K.lookup f17 = some ⟨oc17, od17, .func (PySem.W.fnOf "_law_arcs" "_law_arcs" (defArgs s_law_arcs) (defBody s_law_arcs) (defScope s_law_arcs) .none kV17 dc17 pm17 an17 cd17 ct17), sl17⟩) (c17 : PySem.W.codeIn K cd17 "_law_arcs" = true) (k17 : PySem.W.keepIn K (.ref f17) = true)
    (a18 : PySem.W.nsIn K mainGlobals "_law_count" = some (some (.ref f18))) (l18 : K.lookup f18 = some ⟨oc18, od18, .func (PySem.W.fnOf "_law_count" "_law_count" (defArgs s_law_count) (defBody s_law_count) (defScope s_law_count) .none kV18 dc18 pm18 an18 cd18 ct18), sl18⟩) (c18 : PySem.W.codeIn K cd18 "_law_count" = true) (k18 : PySem.W.keepIn K (.ref f18) = true)
    (a19 : PySem.W.nsIn K mainGlobals "_law_ends" = some (some (.ref f19))) (l19 : K.lookup f19 = some ⟨oc19, od19, .func (PySem.W.fnOf "_law_ends" "_law_ends" (defArgs s_law_ends) (defBody s_law_ends) (defScope s_law_ends) .none kV19 dc19 pm19 an19 cd19 ct19), sl19⟩) (c19 : PySem.W.codeIn K cd19 "_law_ends" = true) (k19 : PySem.W.keepIn K (.ref f19) = true)
    (a20 : PySem.W.nsIn K mainGlobals "_law_read" = some (some (.ref f20))) (l20 : K.lookup f20 = some ⟨oc20, od20, .func (PySem.W.fnOf "_law_read" "_law_read" (defArgs s_law_read) (defBody s_law_read) (defScope s_law_read) .none kV20 dc20 pm20 an20 cd20 ct20), sl20⟩) (c20 : PySem.W.codeIn K cd20 "_law_read" = true) (k20 : PySem.W.keepIn K (.ref f20) = true)
    (a21 : PySem.W.nsIn K mainGlobals "_law_made" = some (some (.ref f21))) (l21 : K.lookup f21 = some ⟨oc21, od21, .func (PySem.W.fnOf "_law_made" "_law_made" (defArgs s_law_made) (defBody s_law_made) (defScope s_law_made) .none kV21 dc21 pm21 an21 cd21 ct21), sl21⟩) (c21 : PySem.W.codeIn K cd21 "_law_made" = true) (k21 : PySem.W.keepIn K (.ref f21) = true)
    (a22 : PySem.W.nsIn K mainGlobals "law" = some (some (.ref f22))) (l22 : K.lookup f22 = some ⟨oc22, od22, .func (PySem.W.fnOf "law" "law" (defArgs s_law) (defBody s_law) (defScope s_law) .none kV22 dc22 pm22 an22 cd22 ct22), sl22⟩) (c22 : PySem.W.codeIn K cd22 "law" = true) (k22 : PySem.W.keepIn K (.ref f22) = true)
    (z0 : PySem.W.nsIn K mainGlobals "abs" = some none) (z1 : PySem.W.nsIn K mainGlobals "bool" = some none) (z2 : PySem.W.nsIn K mainGlobals "enumerate" = some none) (z3 : PySem.W.nsIn K mainGlobals "int" = some none) (z4 : PySem.W.nsIn K mainGlobals "isinstance" = some none) (z5 : PySem.W.nsIn K mainGlobals "len" = some none) (z6 : PySem.W.nsIn K mainGlobals "list" = some none) (z7 : PySem.W.nsIn K mainGlobals "max" = some none) (z8 : PySem.W.nsIn K mainGlobals "min" = some none) (z9 : PySem.W.nsIn K mainGlobals "range" = some none) (z10 : PySem.W.nsIn K mainGlobals "sorted" = some none) (z11 : PySem.W.nsIn K mainGlobals "str" = some none) (z12 : PySem.W.nsIn K mainGlobals "sum" = some none) (z13 : PySem.W.nsIn K mainGlobals "tuple" = some none) :
    ∃ fd : FuncData, (∀ (s : Shared) (v : Value), BindsTo s fd ⟨[v], []⟩ [("script", v)]) ∧ ∀ base : Heap, K.In base → base.Ns mainGlobals mg → FnOk l.prog w K mg base CX0 5 fa fd ["script"] (spLaw K) := by
  have e := hfa.symm.trans (PySem.W.mg_of X G a22)
  cases e
  have F0 := fun_mk (st := s_is_growing) l0 c0 k0
  have b0 := F0.binds (ps := ["word"]) fun _ _ _ _ _ _ us hl => match us, hl with | [_], _ => rfl
  have F1 := fun_mk (st := s_count_lots) l1 c1 k1
  have b1 := F1.binds (ps := ["n", "k"]) fun _ _ _ _ _ _ us hl => match us, hl with | [_, _], _ => rfl
  have F2 := fun_mk (st := s_count_all_lots) l2 c2 k2
  have b2 := F2.binds (ps := ["n"]) fun _ _ _ _ _ _ us hl => match us, hl with | [_], _ => rfl
  have F3 := fun_mk (st := s_arcs) l3 c3 k3
  have b3 := F3.binds (ps := ["word"]) fun _ _ _ _ _ _ us hl => match us, hl with | [_], _ => rfl
  have F4 := fun_mk (st := s_from_arcs) l4 c4 k4
  have b4 := F4.binds (ps := ["n", "pairs"]) fun _ _ _ _ _ _ us hl => match us, hl with | [_, _], _ => rfl
  have F5 := fun_mk (st := s_crossings) l5 c5 k5
  have b5 := F5.binds (ps := ["word"]) fun _ _ _ _ _ _ us hl => match us, hl with | [_], _ => rfl
  have F6 := fun_mk (st := s_nestings) l6 c6 k6
  have b6 := F6.binds (ps := ["word"]) fun _ _ _ _ _ _ us hl => match us, hl with | [_], _ => rfl
  have F7 := fun_mk (st := s_ends_of) l7 c7 k7
  have b7 := F7.binds (ps := ["word"]) fun _ _ _ _ _ _ us hl => match us, hl with | [_], _ => rfl
  have F8 := fun_mk (st := s_joined) l8 c8 k8
  have b8 := F8.binds (ps := ["row", "place"]) fun _ _ _ _ _ _ us hl => match us, hl with | [_, _], _ => rfl
  have F9 := fun_mk (st := s_without_crossings) l9 c9 k9
  have b9 := F9.binds (ps := ["row"]) fun _ _ _ _ _ _ us hl => match us, hl with | [_], _ => rfl
  have F10 := fun_mk (st := s_without_nestings) l10 c10 k10
  have b10 := F10.binds (ps := ["row"]) fun _ _ _ _ _ _ us hl => match us, hl with | [_], _ => rfl
  have F11 := fun_mk (st := s_exchanged) l11 c11 k11
  have b11 := F11.binds (ps := ["word"]) fun _ _ _ _ _ _ us hl => match us, hl with | [_], _ => rfl
  have F12 := fun_mk (st := s_law_state) l12 c12 k12
  have b12 := F12.binds (ps := ["script"]) fun _ _ _ _ _ _ us hl => match us, hl with | [_], _ => rfl
  have F13 := fun_mk (st := s_law_draw) l13 c13 k13
  have b13 := F13.binds (ps := ["state", "many"]) fun _ _ _ _ _ _ us hl => match us, hl with | [_, _], _ => rfl
  have F14 := fun_mk (st := s_law_pick) l14 c14 k14
  have b14 := F14.binds (ps := ["state", "row"]) fun _ _ _ _ _ _ us hl => match us, hl with | [_, _], _ => rfl
  have F15 := fun_mk (st := s_law_eq) l15 c15 k15
  have b15 := F15.binds (ps := ["told", "due"]) fun _ _ _ _ _ _ us hl => match us, hl with | [_, _], _ => rfl
  have F16 := fun_mk (st := s_law_word) l16 c16 k16
  have b16 := F16.binds (ps := ["state", "most"]) fun _ _ _ _ _ _ us hl => match us, hl with | [_, _], _ => rfl
  have F17 := fun_mk (st := s_law_arcs) l17 c17 k17
  have b17 := F17.binds (ps := ["word"]) fun _ _ _ _ _ _ us hl => match us, hl with | [_], _ => rfl
  have F18 := fun_mk (st := s_law_count) l18 c18 k18
  have b18 := F18.binds (ps := ["rows", "nested"]) fun _ _ _ _ _ _ us hl => match us, hl with | [_, _], _ => rfl
  have F19 := fun_mk (st := s_law_ends) l19 c19 k19
  have b19 := F19.binds (ps := ["word"]) fun _ _ _ _ _ _ us hl => match us, hl with | [_], _ => rfl
  have F20 := fun_mk (st := s_law_read) l20 c20 k20
  have b20 := F20.binds (ps := ["row", "way", "word"]) fun _ _ _ _ _ _ us hl => match us, hl with | [_, _, _], _ => rfl
  have F21 := fun_mk (st := s_law_made) l21 c21 k21
  have b21 := F21.binds (ps := ["many", "rows"]) fun _ _ _ _ _ _ us hl => match us, hl with | [_, _], _ => rfl
  have F22 := fun_mk (st := s_law) l22 c22 k22
  have T : Txt K mg := ⟨PySem.W.mg_none_of X G z0, PySem.W.mg_none_of X G z1, PySem.W.mg_none_of X G z2, PySem.W.mg_none_of X G z3, PySem.W.mg_none_of X G z4, PySem.W.mg_none_of X G z5, PySem.W.mg_none_of X G z6, PySem.W.mg_none_of X G z7, PySem.W.mg_none_of X G z8, PySem.W.mg_none_of X G z9, PySem.W.mg_none_of X G z10, PySem.W.mg_none_of X G z11, PySem.W.mg_none_of X G z12, PySem.W.mg_none_of X G z13, ⟨⟨_, _, F0, PySem.W.mg_of X G a0, b0⟩⟩, ⟨⟨_, _, F1, PySem.W.mg_of X G a1, b1⟩⟩, ⟨⟨_, _, F2, PySem.W.mg_of X G a2, b2⟩⟩, ⟨⟨_, _, F3, PySem.W.mg_of X G a3, b3⟩⟩, ⟨⟨_, _, F4, PySem.W.mg_of X G a4, b4⟩⟩, ⟨⟨_, _, F5, PySem.W.mg_of X G a5, b5⟩⟩, ⟨⟨_, _, F6, PySem.W.mg_of X G a6, b6⟩⟩, ⟨⟨_, _, F7, PySem.W.mg_of X G a7, b7⟩⟩, ⟨⟨_, _, F8, PySem.W.mg_of X G a8, b8⟩⟩, ⟨⟨_, _, F9, PySem.W.mg_of X G a9, b9⟩⟩, ⟨⟨_, _, F10, PySem.W.mg_of X G a10, b10⟩⟩, ⟨⟨_, _, F11, PySem.W.mg_of X G a11, b11⟩⟩, ⟨⟨_, _, F12, PySem.W.mg_of X G a12, b12⟩⟩, ⟨⟨_, _, F13, PySem.W.mg_of X G a13, b13⟩⟩, ⟨⟨_, _, F14, PySem.W.mg_of X G a14, b14⟩⟩, ⟨⟨_, _, F15, PySem.W.mg_of X G a15, b15⟩⟩, ⟨⟨_, _, F16, PySem.W.mg_of X G a16, b16⟩⟩, ⟨⟨_, _, F17, PySem.W.mg_of X G a17, b17⟩⟩, ⟨⟨_, _, F18, PySem.W.mg_of X G a18, b18⟩⟩, ⟨⟨_, _, F19, PySem.W.mg_of X G a19, b19⟩⟩, ⟨⟨_, _, F20, PySem.W.mg_of X G a20, b20⟩⟩, ⟨⟨_, _, F21, PySem.W.mg_of X G a21, b21⟩⟩⟩
  exact ⟨PySem.W.fnOf "law" "law" (defArgs s_law) (defBody s_law) (defScope s_law) .none kV22 dc22 pm22 an22 cd22 ct22, fun s v => .of_eq rfl, fun base _ _ => ok_law T F22⟩
end K10
open PySem PySem.W PyProof.Rows
set_option maxRecDepth 100000 in
set_option maxHeartbeats 0 in
theorem PySem.Challenge.cw_sumwright_k10_lots_of_many_things_holds : PySem.Challenge.rw_sumwright_k10_lots_of_many_things.Holds := by
  w_on; o_law; k_head; (case hw => w_witness2)
  k_fill
  refine L2.walk_ofB (l := PySem.Challenge.rw_sumwright_k10_lots_of_many_things) (n := 63) (k := 5) (x := "script") (CX := fun _ => L2.CX0) (sp := fun w => K10.spLaw _) rfl (by decide) rfl ⟨rfl, by decide, by decide⟩ (fun w h Y => PySem.W.kIn_of Y) ?F (fun _ _ a ns hl hb ho hS => ⟨a, ns, rfl, hS, hl, hb, ho, fun _ => rfl⟩) (fun _ _ _ _ _ h => h)
  case F =>
    intro w mg fa h KX G hmg
    refine' K10.all_mk KX G hmg ?a0 ?l0 ?c0 ?k0 ?a1 ?l1 ?c1 ?k1 ?a2 ?l2 ?c2 ?k2 ?a3 ?l3 ?c3 ?k3 ?a4 ?l4 ?c4 ?k4 ?a5 ?l5 ?c5 ?k5 ?a6 ?l6 ?c6 ?k6 ?a7 ?l7 ?c7 ?k7 ?a8 ?l8 ?c8 ?k8 ?a9 ?l9 ?c9 ?k9 ?a10 ?l10 ?c10 ?k10 ?a11 ?l11 ?c11 ?k11 ?a12 ?l12 ?c12 ?k12 ?a13 ?l13 ?c13 ?k13 ?a14 ?l14 ?c14 ?k14 ?a15 ?l15 ?c15 ?k15 ?a16 ?l16 ?c16 ?k16 ?a17 ?l17 ?c17 ?k17 ?a18 ?l18 ?c18 ?k18 ?a19 ?l19 ?c19 ?k19 ?a20 ?l20 ?c20 ?k20 ?a21 ?l21 ?c21 ?k21 ?a22 ?l22 ?c22 ?k22 ?z0 ?z1 ?z2 ?z3 ?z4 ?z5 ?z6 ?z7 ?z8 ?z9 ?z10 ?z11 ?z12 ?z13
    (case a0 => k_is); (case l0 => k_is); (case c0 => k_is); (case k0 => k_is); (case a1 => k_is); (case l1 => k_is); (case c1 => k_is); (case k1 => k_is); (case a2 => k_is); (case l2 => k_is); (case c2 => k_is); (case k2 => k_is); (case a3 => k_is); (case l3 => k_is); (case c3 => k_is); (case k3 => k_is); (case a4 => k_is); (case l4 => k_is); (case c4 => k_is); (case k4 => k_is); (case a5 => k_is); (case l5 => k_is); (case c5 => k_is); (case k5 => k_is); (case a6 => k_is); (case l6 => k_is); (case c6 => k_is); (case k6 => k_is); (case a7 => k_is); (case l7 => k_is); (case c7 => k_is); (case k7 => k_is); (case a8 => k_is); (case l8 => k_is); (case c8 => k_is); (case k8 => k_is); (case a9 => k_is); (case l9 => k_is); (case c9 => k_is); (case k9 => k_is); (case a10 => k_is); (case l10 => k_is); (case c10 => k_is); (case k10 => k_is); (case a11 => k_is); (case l11 => k_is); (case c11 => k_is); (case k11 => k_is); (case a12 => k_is); (case l12 => k_is); (case c12 => k_is); (case k12 => k_is); (case a13 => k_is); (case l13 => k_is); (case c13 => k_is); (case k13 => k_is); (case a14 => k_is); (case l14 => k_is); (case c14 => k_is); (case k14 => k_is); (case a15 => k_is); (case l15 => k_is); (case c15 => k_is); (case k15 => k_is); (case a16 => k_is); (case l16 => k_is); (case c16 => k_is); (case k16 => k_is); (case a17 => k_is); (case l17 => k_is); (case c17 => k_is); (case k17 => k_is); (case a18 => k_is); (case l18 => k_is); (case c18 => k_is); (case k18 => k_is); (case a19 => k_is); (case l19 => k_is); (case c19 => k_is); (case k19 => k_is); (case a20 => k_is); (case l20 => k_is); (case c20 => k_is); (case k20 => k_is); (case a21 => k_is); (case l21 => k_is); (case c21 => k_is); (case k21 => k_is); (case a22 => k_is); (case l22 => k_is); (case c22 => k_is); (case k22 => k_is); (case z0 => k_is); (case z1 => k_is); (case z2 => k_is); (case z3 => k_is); (case z4 => k_is); (case z5 => k_is); (case z6 => k_is); (case z7 => k_is); (case z8 => k_is); (case z9 => k_is); (case z10 => k_is); (case z11 => k_is); (case z12 => k_is); (case z13 => k_is)

