import PyProof.Rows.All
import Wide.All
import OpenK.AllK
import Wide.FinOn
import HandS.ForMost
import HandS.ForExc
import HandS.Deep
import HandS.Conv
import HandS.Style
import HandS.IsInst
import HandS.SortRule
import HandS.SortInts
import HandS.TupSets
import HandS.Flow
import HandS.TupAny
import HandS.TupLe
import HandS.SetFor
import HandS.WordsDict
import PySem.Challenge.RW_oddbarriers_k78_sides_and_odd_rounds
set_option Elab.async false
set_option linter.all false
set_option maxRecDepth 100000
set_option maxHeartbeats 2000000
/-! Zd: values of Python as data (D), local objects that change apart (Mu), readings over both. -/
namespace Zd
open PySem PySem.Spec PyProof.Rows L2

/-- a value, by what it is: what never changes by its content, an object that changes by its address -/
inductive D where
  | non | bl (b : Bool) | int (i : Int) | str (x : Str) | ty (n : String)
  | tup (ds : List D) | lst (ds : List D) | frz (ds : List D)
  | dct (ks : List Key) (ds : List D)
  | ins (C : Addr) (ns : List Str) (ds : List D)
  | set (L : List (List Int))
  | adr (a : Addr)

mutual
inductive Is (P : Program) (w : World) (K : PySem.W.Frag) (H : Hp) : V → D → Prop
  | non : Is P w K H .non .non
  | bl (b : Bool) : Is P w K H (.bl b) (.bl b)
  | int (i : Int) : Is P w K H (.int i) (.int i)
  | str (x : Str) : Is P w K H (.str x) (.str x)
  | ty (n : String) : Is P w K H (.ty n) (.ty n)
  | tup {a : Addr} {vs : List V} {ds : List D} : H a = some (.tup vs) → IsAll P w K H vs ds → Is P w K H (.ref a) (.tup ds)
  | lst {a : Addr} {vs : List V} {ds : List D} : H a = some (.lst vs) → IsAll P w K H vs ds → Is P w K H (.ref a) (.lst ds)
  | frz {a : Addr} {vs : List V} {ds : List D} : SqL K H a vs → IsAll P w K H vs ds → Is P w K H (.ref a) (.frz ds)
  | dct {a : Addr} {ks : List Key} {vs : List V} {ds : List D} : H a = some (.dK (ks.zip vs)) → ks.length = vs.length → IsAll P w K H vs ds → Is P w K H (.ref a) (.dct ks ds)
  | ins {a dx C : Addr} {ns : List Str} {vs : List V} {ds : List D} : H a = some (.ins C dx (ns.zip vs)) → ns.length = vs.length → IsAll P w K H vs ds → Is P w K H (.ref a) (.ins C ns ds)
  | set {a : Addr} {L : List (List Int)} {L' : List (Addr × List Int)} (h : H a = some (SetTO P w a L')) (t : ∀ p ∈ L', SqT K H p.1 (p.2.map V.int)) (e : L'.map (·.2) = L) : Is P w K H (.ref a) (.set L)
  | adr (a : Addr) : Is P w K H (.ref a) (.adr a)
inductive IsAll (P : Program) (w : World) (K : PySem.W.Frag) (H : Hp) : List V → List D → Prop
  | nil : IsAll P w K H [] []
  | cons {v : V} {vs : List V} {d : D} {ds : List D} : Is P w K H v d → IsAll P w K H vs ds → IsAll P w K H (v :: vs) (d :: ds)
end

section
variable {P : Program} {w : World} {K : PySem.W.Frag} {H H' : Hp}
theorem sqT_same {a : Addr} {xs : List V} (e : Same H H') (h : SqT K H a xs) : SqT K H' a xs := by
  rcases h with (h | ⟨o, h⟩) | h
  · exact .inl (.inl (e _ _ h))
  · exact .inl (.inr ⟨o, e _ _ h⟩)
  · exact .inr h
mutual
theorem Is.same (e : Same H H') : ∀ {v : V} {d : D}, Is P w K H v d → Is P w K H' v d
  | _, _, .non => .non
  | _, _, .bl b => .bl b
  | _, _, .int i => .int i
  | _, _, .str x => .str x
  | _, _, .ty n => .ty n
  | _, _, .tup h t => .tup (e _ _ h) (IsAll.same e t)
  | _, _, .lst h t => .lst (e _ _ h) (IsAll.same e t)
  | _, _, .frz h t => .frz (e.seq h) (IsAll.same e t)
  | _, _, .dct h l t => .dct (e _ _ h) l (IsAll.same e t)
  | _, _, .ins h l t => .ins (e _ _ h) l (IsAll.same e t)
  | _, _, .set h t l => .set (e _ _ h) (fun p hp => sqT_same e (t p hp)) l
  | _, _, .adr a => .adr a
theorem IsAll.same (e : Same H H') : ∀ {vs : List V} {ds : List D}, IsAll P w K H vs ds → IsAll P w K H' vs ds
  | _, _, .nil => .nil
  | _, _, .cons h t => .cons (Is.same e h) (IsAll.same e t)
end
theorem IsAll.length : ∀ {vs : List V} {ds : List D}, IsAll P w K H vs ds → vs.length = ds.length
  | _, _, .nil => rfl
  | _, _, .cons _ t => congrArg (· + 1) (IsAll.length t)
theorem IsAll.append : ∀ {vs us : List V} {ds es : List D}, IsAll P w K H vs ds → IsAll P w K H us es → IsAll P w K H (vs ++ us) (ds ++ es)
  | _, _, _, _, .nil, s => s
  | _, _, _, _, .cons h t, s => .cons h (IsAll.append t s)
theorem IsAll.get : ∀ {vs : List V} {ds : List D} {i : Nat} {d : D}, IsAll P w K H vs ds → ds[i]? = some d → ∃ v, vs[i]? = some v ∧ Is P w K H v d
  | _, _, i, _, .nil, e => by simp at e
  | _, _, 0, d, .cons h _, e => by simp at e; subst e; exact ⟨_, rfl, h⟩
  | _, _, i + 1, d, .cons _ t, e => IsAll.get (i := i) t (by simpa using e)
theorem IsAll.getV : ∀ {vs : List V} {ds : List D} {i : Nat} {v : V}, IsAll P w K H vs ds → vs[i]? = some v → ∃ d, ds[i]? = some d ∧ Is P w K H v d
  | _, _, i, _, .nil, e => by simp at e
  | _, _, 0, v, .cons h _, e => by simp at e; subst e; exact ⟨_, rfl, h⟩
  | _, _, i + 1, v, .cons _ t, e => IsAll.getV (i := i) t (by simpa using e)
theorem IsAll.take : ∀ {vs : List V} {ds : List D} (n : Nat), IsAll P w K H vs ds → IsAll P w K H (vs.take n) (ds.take n)
  | _, _, 0, _ => .nil
  | _, _, _ + 1, .nil => .nil
  | _, _, n + 1, .cons h t => .cons h (IsAll.take n t)
theorem IsAll.drop : ∀ {vs : List V} {ds : List D} (n : Nat), IsAll P w K H vs ds → IsAll P w K H (vs.drop n) (ds.drop n)
  | _, _, 0, r => r
  | _, _, _ + 1, .nil => .nil
  | _, _, n + 1, .cons _ t => IsAll.drop n t
theorem IsAll.set : ∀ {vs : List V} {ds : List D} {v : V} {d : D} (i : Nat), IsAll P w K H vs ds → Is P w K H v d → IsAll P w K H (vs.set i v) (ds.set i d)
  | _, _, _, _, _, .nil, _ => .nil
  | _, _, _, _, 0, .cons _ t, h => .cons h t
  | _, _, _, _, i + 1, .cons q t, h => .cons q (IsAll.set i t h)
theorem IsAll.eraseIdx : ∀ {vs : List V} {ds : List D} (i : Nat), IsAll P w K H vs ds → IsAll P w K H (vs.eraseIdx i) (ds.eraseIdx i)
  | _, _, _, .nil => .nil
  | _, _, 0, .cons _ t => t
  | _, _, i + 1, .cons q t => .cons q (IsAll.eraseIdx i t)
theorem IsAll.reverse {vs : List V} {ds : List D} (h : IsAll P w K H vs ds) : IsAll P w K H vs.reverse ds.reverse := by
  induction vs generalizing ds with
  | nil => cases h; exact .nil
  | cons v vs ih =>
    cases h with
    | cons q t =>
      rw [List.reverse_cons, List.reverse_cons]
      exact (ih t).append (.cons q .nil)
theorem IsAll.ints : ∀ {vs : List V} {ns : List Int}, IsAll P w K H vs (ns.map D.int) → vs = ns.map V.int
  | [], [], _ => rfl
  | _, n :: ns, h => by
    cases h with
    | cons h t =>
      cases h
      rw [IsAll.ints (ns := ns) t]
      rfl
theorem isAll_ints : ∀ (ns : List Int), IsAll P w K H (ns.map V.int) (ns.map D.int)
  | [] => .nil
  | n :: ns => .cons (.int n) (isAll_ints ns)
theorem IsAll.bls : ∀ {vs : List V} {bs : List Bool}, IsAll P w K H vs (bs.map D.bl) → vs = bs.map V.bl
  | [], [], _ => rfl
  | _, n :: ns, h => by
    cases h with
    | cons h t =>
      cases h
      rw [IsAll.bls (bs := ns) t]
      rfl
end

/-- what stands at the address of an object that changes -/
inductive MO where
  | lst (ds : List D)
  | dct (kvs : List (Key × D))
  | dtt (kvs : List (List Key × D))
  | ins (C : Addr) (fs : List (Str × D))

abbrev Mu := Addr → Option MO
def updM (μ : Mu) (a : Addr) (m : MO) : Mu := fun b => if b = a then some m else μ b
theorem updM_same {μ : Mu} {a : Addr} {m : MO} : updM μ a m a = some m := by unfold updM; rw [if_pos rfl]
theorem updM_ne {μ : Mu} {a b : Addr} {m : MO} (h : b ≠ a) : updM μ a m b = μ b := by unfold updM; rw [if_neg h]
theorem updM_updM {μ : Mu} {a : Addr} {m n : MO} : updM (updM μ a m) a n = updM μ a n := by
  funext b; unfold updM; split <;> rfl
theorem neM_of_none {μ : Mu} {a b : Addr} {m : MO} (h : μ a = some m) (h' : μ b = none) : a ≠ b := by
  intro e; subst e; rw [h] at h'; cases h'

def KVD (P : Program) (w : World) (K : PySem.W.Frag) (G : Hp) {κ : Type} : List (κ × V) → List (κ × D) → Prop := Paired fun p q => p.1 = q.1 ∧ Is P w K G p.2 q.2
def MOk (P : Program) (w : World) (K : PySem.W.Frag) (G H : Hp) (a : Addr) : MO → Prop
  | .lst ds => ∃ vs, H a = some (.lst vs) ∧ IsAll P w K G vs ds
  | .dct kvs => ∃ kvv, H a = some (.dK kvv) ∧ KVD P w K G kvv kvs
  | .dtt kvs => ∃ kvv, H a = some (.dT kvv) ∧ KVD P w K G kvv kvs
  | .ins C fs => ∃ dx fvs, H a = some (.ins C dx fvs) ∧ KVD P w K G fvs fs

open Classical in
/-- the heap without what changes (μ) and what is not looked at (Z) -/
noncomputable def msk (Z : Addr → Prop) (μ : Mu) (H : Hp) : Hp := fun b => if Z b ∨ μ b ≠ none then none else H b
theorem msk_in {Z : Addr → Prop} {μ : Mu} {H : Hp} {b : Addr} (h1 : ¬ Z b) (h2 : μ b = none) : msk Z μ H b = H b := by
  unfold msk
  rw [if_neg]
  rintro (h | h)
  · exact h1 h
  · exact h h2
theorem msk_some {Z : Addr → Prop} {μ : Mu} {H : Hp} {b : Addr} {o : HO} (h : msk Z μ H b = some o) : ¬ Z b ∧ μ b = none ∧ H b = some o := by
  unfold msk at h
  split at h
  · cases h
  · rename_i q
    refine ⟨fun z => q (.inl z), ?_, h⟩
    cases e : μ b with
    | none => rfl
    | some m => exact (q (.inr (by rw [e]; exact fun z => nomatch z))).elim
theorem msk_le (Z : Addr → Prop) (μ : Mu) (H : Hp) : Same (msk Z μ H) H := fun _ _ h => (msk_some h).2.2

structure Rl (P : Program) (w : World) (K : PySem.W.Frag) (Z : Addr → Prop) (μ : Mu) (H : Hp) : Prop where
  mu : ∀ a m, μ a = some m → MOk P w K (msk Z μ H) H a m
  dis : ∀ a, Z a → μ a = none
  occ : ∀ a, Z a → H a ≠ none
structure Stp (Z : Addr → Prop) (μ : Mu) (H : Hp) (μ' : Mu) (H' : Hp) : Prop where
  same : Same (msk Z μ H) (msk Z μ' H')
  hid : ∀ a, Z a → H' a = H a
theorem Stp.refl {Z : Addr → Prop} {μ : Mu} {H : Hp} : Stp Z μ H μ H := ⟨Same.refl _, fun _ _ => rfl⟩
theorem Stp.trans {Z : Addr → Prop} {μ μ1 μ2 : Mu} {H H1 H2 : Hp} (a : Stp Z μ H μ1 H1) (b : Stp Z μ1 H1 μ2 H2) : Stp Z μ H μ2 H2 :=
  ⟨a.same.trans b.same, fun x h => (b.hid x h).trans (a.hid x h)⟩
section
variable {P : Program} {w : World} {K : PySem.W.Frag} {Z : Addr → Prop} {μ μ' : Mu} {H H' : Hp}
theorem MOk.there {a : Addr} {m : MO} {G : Hp} (h : MOk P w K G H a m) : H a ≠ none := by
  cases m with
  | lst ds => obtain ⟨vs, e, _⟩ := h; rw [e]; exact fun z => nomatch z
  | dct ds => obtain ⟨vs, e, _⟩ := h; rw [e]; exact fun z => nomatch z
  | dtt ds => obtain ⟨vs, e, _⟩ := h; rw [e]; exact fun z => nomatch z
  | ins C ds => obtain ⟨_, vs, e, _⟩ := h; rw [e]; exact fun z => nomatch z
theorem MOk.mono {a : Addr} {m : MO} {G G' : Hp} (h : MOk P w K G H a m) (s : Same G G') (e : H' a = H a) : MOk P w K G' H' a m := by
  cases m with
  | lst ds => obtain ⟨vs, q, t⟩ := h; exact ⟨vs, by rw [e]; exact q, t.same s⟩
  | dct ds => obtain ⟨vs, q, t⟩ := h; exact ⟨vs, by rw [e]; exact q, L2.Paired.mapP t fun p q z => ⟨z.1, z.2.same s⟩⟩
  | dtt ds => obtain ⟨vs, q, t⟩ := h; exact ⟨vs, by rw [e]; exact q, L2.Paired.mapP t fun p q z => ⟨z.1, z.2.same s⟩⟩
  | ins C ds => obtain ⟨dx, vs, q, t⟩ := h; exact ⟨dx, vs, by rw [e]; exact q, L2.Paired.mapP t fun p q z => ⟨z.1, z.2.same s⟩⟩
theorem Rl.free (r : Rl P w K Z μ H) {p : Addr} (hp : H p = none) : ¬ Z p ∧ μ p = none := by
  refine ⟨fun z => r.occ p z hp, ?_⟩
  cases e : μ p with
  | none => rfl
  | some m => exact absurd hp (r.mu p m e).there
/-- a new object that never changes -/
theorem Rl.alloc (r : Rl P w K Z μ H) {p : Addr} (hp : H p = none) (o : HO) : Rl P w K Z μ (upd H p o) ∧ Stp Z μ H μ (upd H p o) ∧ msk Z μ (upd H p o) p = some o := by
  obtain ⟨h1, h2⟩ := r.free hp
  have sm : Same (msk Z μ H) (msk Z μ (upd H p o)) := fun b ob e => by
    obtain ⟨q1, q2, q3⟩ := msk_some e
    have ne : b ≠ p := fun z => by rw [z, hp] at q3; cases q3
    rw [msk_in q1 q2, upd_ne ne]
    exact q3
  refine ⟨⟨fun a m e => ?_, r.dis, fun a z => ?_⟩, ⟨sm, fun a z => ?_⟩, ?_⟩
  · have ne : a ≠ p := fun z => by rw [z, h2] at e; cases e
    exact (r.mu a m e).mono sm (upd_ne ne)
  · have ne : a ≠ p := fun q => h1 (q ▸ z)
    rw [upd_ne ne]
    exact r.occ a z
  · have ne : a ≠ p := fun q => h1 (q ▸ z)
    exact upd_ne ne
  · rw [msk_in h1 h2, upd_same]
/-- a new object that may change -/
theorem Rl.allocM (r : Rl P w K Z μ H) {p : Addr} (hp : H p = none) (o : HO) (m : MO) (hm : MOk P w K (msk Z μ H) (upd H p o) p m) :
    Rl P w K Z (updM μ p m) (upd H p o) ∧ Stp Z μ H (updM μ p m) (upd H p o) := by
  obtain ⟨h1, h2⟩ := r.free hp
  have sm : Same (msk Z μ H) (msk Z (updM μ p m) (upd H p o)) := fun b ob e => by
    obtain ⟨q1, q2, q3⟩ := msk_some e
    have ne : b ≠ p := fun z => by rw [z, hp] at q3; cases q3
    rw [msk_in q1 (by rw [updM_ne ne]; exact q2), upd_ne ne]
    exact q3
  refine ⟨⟨fun a m' e => ?_, fun a z => ?_, fun a z => ?_⟩, ⟨sm, fun a z => ?_⟩⟩
  · by_cases ne : a = p
    · subst ne
      rw [updM_same] at e
      cases e
      exact hm.mono sm rfl
    · rw [updM_ne ne] at e
      exact (r.mu a m' e).mono sm (upd_ne ne)
  · have ne : a ≠ p := fun q => h1 (q ▸ z)
    rw [updM_ne ne]
    exact r.dis a z
  · have ne : a ≠ p := fun q => h1 (q ▸ z)
    rw [upd_ne ne]
    exact r.occ a z
  · have ne : a ≠ p := fun q => h1 (q ▸ z)
    exact upd_ne ne
/-- an object changes -/
theorem Rl.write (r : Rl P w K Z μ H) {p : Addr} {m0 : MO} (h0 : μ p = some m0) (o : HO) (m : MO) (hm : MOk P w K (msk Z μ H) (upd H p o) p m) :
    Rl P w K Z (updM μ p m) (upd H p o) ∧ Stp Z μ H (updM μ p m) (upd H p o) := by
  have h1 : ¬ Z p := fun z => by rw [r.dis p z] at h0; cases h0
  have sm : Same (msk Z μ H) (msk Z (updM μ p m) (upd H p o)) := fun b ob e => by
    obtain ⟨q1, q2, q3⟩ := msk_some e
    have ne : b ≠ p := fun z => by rw [z, h0] at q2; cases q2
    rw [msk_in q1 (by rw [updM_ne ne]; exact q2), upd_ne ne]
    exact q3
  refine ⟨⟨fun a m' e => ?_, fun a z => ?_, fun a z => ?_⟩, ⟨sm, fun a z => ?_⟩⟩
  · by_cases ne : a = p
    · subst ne
      rw [updM_same] at e
      cases e
      exact hm.mono sm rfl
    · rw [updM_ne ne] at e
      exact (r.mu a m' e).mono sm (upd_ne ne)
  · have ne : a ≠ p := fun q => h1 (q ▸ z)
    rw [updM_ne ne]
    exact r.dis a z
  · have ne : a ≠ p := fun q => h1 (q ▸ z)
    rw [upd_ne ne]
    exact r.occ a z
  · have ne : a ≠ p := fun q => h1 (q ▸ z)
    exact upd_ne ne
/-- more is hidden -/
theorem Rl.hide (r : Rl P w K Z μ H) (Y : Addr → Prop) (h1 : ∀ a, Y a → μ a = none) (h2 : ∀ a, Y a → H a ≠ none)
    (h3 : ∀ a m, μ a = some m → MOk P w K (msk (fun b => Z b ∨ Y b) μ H) H a m) : Rl P w K (fun b => Z b ∨ Y b) μ H :=
  ⟨h3, fun a z => z.elim (r.dis a) (h1 a), fun a z => z.elim (r.occ a) (h2 a)⟩
end
end Zd


set_option Elab.async false
set_option linter.all false
set_option maxRecDepth 100000
set_option maxHeartbeats 2000000
namespace Zd
open PySem PySem.Spec PyProof.Rows L2

abbrev EnvD := List (Option D)
abbrev QD := D → Mu → Prop
abbrev TD := EnvD → Mu → QD → Prop
abbrev TTD := EnvD → Mu → (Bool → Mu → Prop) → Prop
abbrev TAD := EnvD → Mu → (List D → Mu → Prop) → Prop
structure EndsD where
  nx : EnvD → Mu → Prop
  rt : QD
  bk : EnvD → Mu → Prop := fun _ _ => False
  ct : EnvD → Mu → Prop := fun _ _ => False
abbrev TSD := EndsD → EnvD → Mu → Prop
abbrev TGD := D → EnvD → Mu → (EnvD → Mu → Prop) → Prop
abbrev TGsD := List D → EnvD → Mu → (EnvD → Mu → Prop) → Prop
/-- what a loop walks: its items, and that their source stands as it was -/
structure ItD where
  items : List D
  live : Mu → Prop
abbrev TID := EnvD → Mu → (ItD → Mu → Prop) → Prop

/-- the world's part that the relations ask -/
structure KW where
  P : Program
  w : World
  K : PySem.W.Frag
abbrev kw (X : Cx) : KW := ⟨X.prog, X.w, X.K⟩
abbrev IsK (k : KW) := Is k.P k.w k.K
abbrev IsAllK (k : KW) := IsAll k.P k.w k.K
abbrev RlK (k : KW) := Rl k.P k.w k.K

/-- slots and data -/
structure Rel (k : KW) (Z : Addr → Prop) (ρ : EnvD) (μ : Mu) (σ : L2.St) (H : Hp) : Prop where
  rl : RlK k Z μ H
  len : ρ.length = σ.length
  slot : ∀ (i : Nat) (d : D), ρ[i]? = some (some d) → ∃ v, σ[i]? = some (some v) ∧ IsK k (msk Z μ H) v d

theorem Rel.step {k : KW} {Z : Addr → Prop} {ρ : EnvD} {μ μ' : Mu} {σ : L2.St} {H H' : Hp} (r : Rel k Z ρ μ σ H) (s : Stp Z μ H μ' H') (q : RlK k Z μ' H') : Rel k Z ρ μ' σ H' :=
  ⟨q, r.len, fun i d e => let ⟨v, h1, h2⟩ := r.slot i d e; ⟨v, h1, h2.same s.same⟩⟩
theorem Rel.set {k : KW} {Z : Addr → Prop} {ρ : EnvD} {μ : Mu} {σ : L2.St} {H : Hp} (r : Rel k Z ρ μ σ H) (i : Nat) {v : V} {d : D} (h : IsK k (msk Z μ H) v d) : Rel k Z (ρ.set i (some d)) μ (σ.set i (some v)) H := by
  refine ⟨r.rl, by rw [List.length_set, List.length_set, r.len], fun j e he => ?_⟩
  by_cases ij : i = j
  · subst ij
    by_cases hl : i < ρ.length
    · rw [List.getElem?_set_self hl] at he
      cases he
      exact ⟨v, by rw [List.getElem?_set_self (by rw [← r.len]; exact hl)], h⟩
    · rw [List.getElem?_eq_none (by rw [List.length_set]; omega)] at he
      cases he
  · rw [List.getElem?_set_ne ij] at he
    obtain ⟨u, h1, h2⟩ := r.slot j e he
    exact ⟨u, by rw [List.getElem?_set_ne ij]; exact h1, h2⟩

/-- what is wanted behind -/
def Fin (k : KW) (Z : Addr → Prop) (μ : Mu) (H : Hp) (Q0 : QD) (Q : VK) : Prop :=
  ∀ d μ' v H', Q0 d μ' → RlK k Z μ' H' → Stp Z μ H μ' H' → IsK k (msk Z μ' H') v d → Q v H'
def lift (k : KW) (td : TD) : TE := fun σ H Q => ∃ Z ρ μ Q0, Rel k Z ρ μ σ H ∧ td ρ μ Q0 ∧ Fin k Z μ H Q0 Q
def liftT (k : KW) (td : TTD) : TT := fun σ H Q => ∃ Z ρ μ Q0, Rel k Z ρ μ σ H ∧ td ρ μ Q0 ∧ ∀ b μ' H', Q0 b μ' → RlK k Z μ' H' → Stp Z μ H μ' H' → Q b H'
def liftA (k : KW) (td : TAD) : TA := fun σ H Q => ∃ Z ρ μ Q0, Rel k Z ρ μ σ H ∧ td ρ μ Q0 ∧ ∀ ds μ' vs H', Q0 ds μ' → RlK k Z μ' H' → Stp Z μ H μ' H' → IsAllK k (msk Z μ' H') vs ds → Q vs H'
structure Cnt (k : KW) (Z : Addr → Prop) (μb : Mu) (Hb : Hp) (DD : EndsD) (D : Ends) : Prop where
  nx : ∀ ρ μ σ H, DD.nx ρ μ → Rel k Z ρ μ σ H → Stp Z μb Hb μ H → D.nx σ H
  rt : ∀ d μ v H, DD.rt d μ → RlK k Z μ H → Stp Z μb Hb μ H → IsK k (msk Z μ H) v d → D.rt v H
  bk : ∀ ρ μ σ H, DD.bk ρ μ → Rel k Z ρ μ σ H → Stp Z μb Hb μ H → D.bk σ H
  ct : ∀ ρ μ σ H, DD.ct ρ μ → Rel k Z ρ μ σ H → Stp Z μb Hb μ H → D.ct σ H
def liftS (k : KW) (td : TSD) : TS := fun D σ H => ∃ Z μb Hb ρ μ DD, Rel k Z ρ μ σ H ∧ Stp Z μb Hb μ H ∧ td DD ρ μ ∧ Cnt k Z μb Hb DD D
/-- a target: vs are the slots that may change -/
def liftG (k : KW) (vs : List Nat) (td : TGD) : TG := fun v σ H Q => ∃ Z d ρ μ Q0, Rel k Z ρ μ σ H ∧ IsK k (msk Z μ H) v d ∧ td d ρ μ Q0 ∧
  ∀ ρ' μ' σ' H', Q0 ρ' μ' → Rel k Z ρ' μ' σ' H' → Stp Z μ H μ' H' → (∀ j, j ∉ vs → σ'[j]? = σ[j]?) → σ'.length = σ.length → Q σ' H'
def liftGs (k : KW) (vs : List Nat) (td : TGsD) : TGs := fun xs σ H Q => ∃ Z ds ρ μ Q0, Rel k Z ρ μ σ H ∧ IsAllK k (msk Z μ H) xs ds ∧ td ds ρ μ Q0 ∧
  ∀ ρ' μ' σ' H', Q0 ρ' μ' → Rel k Z ρ' μ' σ' H' → Stp Z μ H μ' H' → (∀ j, j ∉ vs → σ'[j]? = σ[j]?) → σ'.length = σ.length → Q σ' H'
structure ItOk (k : KW) (Z : Addr → Prop) (J : It) (it : ItD) (μ1 : Mu) (H1 : Hp) : Prop where
  go : ∀ i μ H, RlK k Z μ H → Stp Z μ1 H1 μ H → it.live μ → i < it.items.length → J.go i H
  yld : ∀ i μ H x H', RlK k Z μ H → Stp Z μ1 H1 μ H → it.live μ → i < it.items.length → J.yld i H x H' →
    ∃ d, it.items[i]? = some d ∧ RlK k Z μ H' ∧ Stp Z μ H μ H' ∧ IsK k (msk Z μ H') x d
  stop : ∀ i μ H, RlK k Z μ H → Stp Z μ1 H1 μ H → it.live μ → it.items.length ≤ i → J.stop i H
def liftI (k : KW) (td : TID) : TI := fun σ H R => ∃ Z ρ μ Q0, Rel k Z ρ μ σ H ∧ td ρ μ Q0 ∧
  ∀ it μ' J H', Q0 it μ' → RlK k Z μ' H' → Stp Z μ H μ' H' → (∀ (Y : Addr → Prop) μ2 H2, RlK k (fun b => Z b ∨ Y b) μ2 H2 → Stp Z μ' H' μ2 H2 → (∀ b, Y b → H' b = none) → ItOk k (fun b => Z b ∨ Y b) J it μ2 H2) → R J H'

structure PD (X : Cx) (e : Expr) (td : TD) : Prop where
  ok : PE X e (lift (kw X) td)
structure PTD (X : Cx) (e : Expr) (td : TTD) : Prop where
  ok : PT X e (liftT (kw X) td)
structure PWD (X : Cx) (e : Expr) (td : TTD) : Prop where
  ok : PW X e (liftT (kw X) td)
structure PAD (X : Cx) (es : List Expr) (td : TAD) : Prop where
  ok : PA X es (liftA (kw X) td)
structure PSD (X : Cx) (st : Stmt) (td : TSD) : Prop where
  ok : PS X st (liftS (kw X) td)
structure PSsD (X : Cx) (st : List Stmt) (td : TSD) : Prop where
  ok : PSs X st (liftS (kw X) td)
structure PGD (X : Cx) (vs : List Nat) (e : Expr) (td : TGD) : Prop where
  ok : PG X e (liftG (kw X) vs td)
structure PGsD (X : Cx) (vs : List Nat) (es : List Expr) (td : TGsD) : Prop where
  ok : PGs X es (liftGs (kw X) vs td)
structure PID (X : Cx) (tg e : Expr) (td : TID) : Prop where
  ok : PI X tg e (liftI (kw X) td)

section
variable {X : Cx} {e : Expr}
theorem PE.cq {t t' : TE} (h : PE X e t) (c : ∀ σ H Q, t' σ H Q → t σ H Q) : PE X e t' := ⟨fun pins s σ H Q I q => h.run pins s σ H Q I (c σ H Q q)⟩
theorem PT.cq {t t' : TT} (h : PT X e t) (c : ∀ σ H Q, t' σ H Q → t σ H Q) : PT X e t' := ⟨fun pins s σ H Q I q => h.run pins s σ H Q I (c σ H Q q)⟩
theorem PW.cq {t t' : TT} (h : PW X e t) (c : ∀ σ H Q, t' σ H Q → t σ H Q) : PW X e t' := ⟨fun wh pins s σ H Q I q => h.run wh pins s σ H Q I (c σ H Q q)⟩
theorem PA.cq {es : List Expr} {t t' : TA} (h : PA X es t) (c : ∀ σ H Q, t' σ H Q → t σ H Q) : PA X es t' := ⟨fun pos pins s σ H Q I q => h.run pos pins s σ H Q I (c σ H Q q)⟩
theorem PS.cq {st : Stmt} {t t' : TS} (h : PS X st t) (c : ∀ D σ H, t' D σ H → t D σ H) : PS X st t' := ⟨fun pins s σ H D I q => h.run pins s σ H D I (c D σ H q)⟩
theorem PSs.cq {st : List Stmt} {t t' : TS} (h : PSs X st t) (c : ∀ D σ H, t' D σ H → t D σ H) : PSs X st t' := ⟨fun pins s σ H D I q => h.run pins s σ H D I (c D σ H q)⟩
theorem PG.cq {t t' : TG} (h : PG X e t) (c : ∀ v σ H Q, t' v σ H Q → t v σ H Q) : PG X e t' := ⟨fun pins s σ H v u Q I r q => h.run pins s σ H v u Q I r (c v σ H Q q)⟩
theorem PGs.cq {es : List Expr} {t t' : TGs} (h : PGs X es t) (c : ∀ v σ H Q, t' v σ H Q → t v σ H Q) : PGs X es t' := ⟨fun pins s σ H v u Q I r q => h.run pins s σ H v u Q I r (c v σ H Q q)⟩
theorem PI.cq {tg : Expr} {t t' : TI} (h : PI X tg e t) (c : ∀ σ H Q, t' σ H Q → t σ H Q) : PI X tg e t' := ⟨fun pins s σ H R I q => h.run pins s σ H R I (c σ H R q)⟩
end

/-! ### names, constants, operators -/
section
variable {X : Cx} {a b : Expr} {ta tb : TD} {pos : Pos} {k : KW}
def dVar (i : Nat) : TD := fun ρ μ Q => ∃ d, ρ[i]? = some (some d) ∧ Q d μ
def dC (d : D) : TD := fun _ μ Q => Q d μ
theorem pd_var (i : Nat) {x : Str} {pos : Pos} (hN : X.N[i]? = some x := by rfl) (hv : Vis X.env.scope x := by first | exact Or.inl rfl | exact Or.inr (Or.inl rfl) | exact Or.inr (Or.inr rfl)) (hd : (x == ("__debug__" : Str)) = false := by decide)
    (hcd : (x == ("__classdict__" : Str)) = false := by decide) : PD X (.Name x pos) (dVar i) := ⟨PE.cq (pe_var hN hv hd hcd) fun σ H Q ⟨Z, ρ, μ, Q0, r, ⟨d, e, q⟩, f⟩ => by
  obtain ⟨v, h1, h2⟩ := r.slot i d e
  exact ⟨v, h1, f d μ v H q r.rl Stp.refl h2⟩⟩
theorem pd_c {v : V} {d : D} (h : PE X e (tC v)) (hd : ∀ (k : KW) (H : Hp), IsK k H v d) : PD X e (dC d) := ⟨PE.cq h fun σ H Q ⟨Z, ρ, μ, Q0, r, q, f⟩ => f d μ v H q r.rl Stp.refl (hd _ _)⟩
def dOp (rd : D → D → Mu → QD → Prop) (ta tb : TD) : TD := fun ρ μ Q => ta ρ μ fun x μ1 => tb ρ μ1 fun y μ2 => rd x y μ2 Q
def RS (k : KW) (r : R2) (rd : D → D → Mu → QD → Prop) : Prop := ∀ Z μ H x y dx dy Q0 Q, RlK k Z μ H → IsK k (msk Z μ H) x dx → IsK k (msk Z μ H) y dy → rd dx dy μ Q0 → Fin k Z μ H Q0 Q → r x y H Q
theorem Fin.step {Z : Addr → Prop} {μ μ1 : Mu} {H H1 : Hp} {Q0 : QD} {Q : VK} (f : Fin k Z μ H Q0 Q) (s : Stp Z μ H μ1 H1) : Fin k Z μ1 H1 Q0 Q := fun d μ' v H' q rl s' h => f d μ' v H' q rl (s.trans s') h
theorem op_s {r : R2} {rd : D → D → Mu → QD → Prop} (hs : RS k r rd) {σ : L2.St} {H : Hp} {Q : VK} (h : lift k (dOp rd ta tb) σ H Q) : tOp r (lift k ta) (lift k tb) σ H Q := by
  obtain ⟨Z, ρ, μ, Q0, rel, q, f⟩ := h
  refine ⟨Z, ρ, μ, _, rel, q, fun dx μ1 x H1 q1 rl1 s1 i1 => ?_⟩
  refine ⟨Z, ρ, μ1, _, rel.step s1 rl1, q1, fun dy μ2 y H2 q2 rl2 s2 i2 => ?_⟩
  exact hs Z μ2 H2 x y dx dy Q0 Q rl2 (i1.same s2.same) i2 q2 (f.step (s1.trans s2))
theorem pd_op {op : Operator} {r : R2} {rd : D → D → Mu → QD → Prop} (ho : OpR X (binaryOp op) r) (hs : RS (kw X) r rd) (ha : PD X a ta) (hb : PD X b tb) : PD X (.BinOp a op b pos) (dOp rd ta tb) :=
  ⟨PE.cq (pe_op ho ha.ok hb.ok) fun _ _ _ h => op_s hs h⟩
theorem pd_cmp {op : CmpOp} {r : R2} {rd : D → D → Mu → QD → Prop} (ho : OpR X (compareOp op) r) (hs : RS (kw X) r rd) (ha : PD X a ta) (hb : PD X b tb) (hm : behindInMarks op b = false) : PD X (.Compare a [op] [b] pos) (dOp rd ta tb) :=
  ⟨PE.cq (pe_cmpR ho ha.ok hb.ok hm) fun _ _ _ h => op_s hs h⟩
/-- a value that is a bool, as a test -/
def dTest (t : TD) : TTD := fun ρ μ Q => t ρ μ fun x μ1 => ∃ b, x = .bl b ∧ Q b μ1
theorem test_s {t : TD} {σ : L2.St} {H : Hp} {Q : Bool → Hp → Prop} (h : liftT k (dTest t) σ H Q) : lift k t σ H fun x H' => ∃ c, x = .bl c ∧ Q c H' := by
  obtain ⟨Z, ρ, μ, Q0, rel, q, f⟩ := h
  refine ⟨Z, ρ, μ, _, rel, q, fun d μ1 x H1 q1 rl1 s1 i1 => ?_⟩
  obtain ⟨c, rfl, q1⟩ := q1
  cases i1
  exact ⟨c, rfl, f c μ1 H1 q1 rl1 s1⟩
theorem ptd_cmp {op : CmpOp} {r : R2} {rd : D → D → Mu → QD → Prop} (ho : OpR X (compareOp op) r) (hs : RS (kw X) r rd) (ha : PD X a ta) (hb : PD X b tb) (hm : behindInMarks op b = false) : PTD X (.Compare a [op] [b] pos) (dTest (dOp rd ta tb)) :=
  ⟨PT.cq (pt_cmpR ho ha.ok hb.ok hm) fun σ H Q h => op_s hs (by
    obtain ⟨Z, ρ, μ, Q0, rel, q, f⟩ := test_s h
    exact ⟨Z, ρ, μ, Q0, rel, q, f⟩)⟩
theorem ptd_val {e : Expr} {t : TD} (h : PD X e t) (he : ∀ whole, isTrue e X.env whole = (do let v ← whole; standAt e.pos; holding [v] (truthy v)) := by intro _; rfl) : PTD X e (dTest t) :=
  ⟨PT.cq (pt_val h.ok he) fun _ _ _ q => test_s q⟩
/-! ### and, or, not, if -/
def dAnd (t u : TTD) : TTD := fun ρ μ Q => t ρ μ fun c μ1 => if c = true then u ρ μ1 Q else Q false μ1
def dOr (t u : TTD) : TTD := fun ρ μ Q => t ρ μ fun c μ1 => if c = true then Q true μ1 else u ρ μ1 Q
def dNot (t : TTD) : TTD := fun ρ μ Q => t ρ μ fun c μ1 => Q (!c) μ1
def FinT (k : KW) (Z : Addr → Prop) (μ : Mu) (H : Hp) (Q0 : Bool → Mu → Prop) (Q : Bool → Hp → Prop) : Prop := ∀ b μ' H', Q0 b μ' → RlK k Z μ' H' → Stp Z μ H μ' H' → Q b H'
variable {t u : TTD} {rest : List Expr}
theorem pwd_and1 (ha : PTD X a t) : PWD X (.BoolOp .And [a] pos) t := ⟨pw_and1 ha.ok⟩
theorem pwd_or1 (ha : PTD X a t) : PWD X (.BoolOp .Or [a] pos) t := ⟨pw_or1 ha.ok⟩
theorem pwd_and (ha : PTD X a t) (hb : PWD X (.BoolOp .And (b :: rest) pos) u) : PWD X (.BoolOp .And (a :: b :: rest) pos) (dAnd t u) := ⟨PW.cq (pw_and ha.ok hb.ok) fun σ H Q ⟨Z, ρ, μ, Q0, rel, q, f⟩ => by
  refine ⟨Z, ρ, μ, _, rel, q, fun c μ1 H1 q1 rl1 s1 => ?_⟩
  cases c with
  | true => exact ⟨Z, ρ, μ1, Q0, rel.step s1 rl1, q1, fun b μ2 H2 q2 rl2 s2 => f b μ2 H2 q2 rl2 (s1.trans s2)⟩
  | false => exact f false μ1 H1 q1 rl1 s1⟩
theorem pwd_or (ha : PTD X a t) (hb : PWD X (.BoolOp .Or (b :: rest) pos) u) : PWD X (.BoolOp .Or (a :: b :: rest) pos) (dOr t u) := ⟨PW.cq (pw_or ha.ok hb.ok) fun σ H Q ⟨Z, ρ, μ, Q0, rel, q, f⟩ => by
  refine ⟨Z, ρ, μ, _, rel, q, fun c μ1 H1 q1 rl1 s1 => ?_⟩
  cases c with
  | false => exact ⟨Z, ρ, μ1, Q0, rel.step s1 rl1, q1, fun b μ2 H2 q2 rl2 s2 => f b μ2 H2 q2 rl2 (s1.trans s2)⟩
  | true => exact f true μ1 H1 q1 rl1 s1⟩
theorem PWD.pt {e : Expr} (h : PWD X e t) : PTD X e t := ⟨h.ok.pt⟩
theorem ptd_not (ha : PTD X a t) : PTD X (.UnaryOp .Not a pos) (dNot t) := ⟨PT.cq (pt_not ha.ok) fun σ H Q ⟨Z, ρ, μ, Q0, rel, q, f⟩ =>
  ⟨Z, ρ, μ, _, rel, q, fun c μ1 H1 q1 rl1 s1 => f (!c) μ1 H1 q1 rl1 s1⟩⟩
/-- as values -/
def dAndV (ta tb : TD) : TD := fun ρ μ Q => ta ρ μ fun x μ1 => ∃ c, x = .bl c ∧ if c = true then tb ρ μ1 Q else Q (.bl false) μ1
def dOrV (ta tb : TD) : TD := fun ρ μ Q => ta ρ μ fun x μ1 => ∃ c, x = .bl c ∧ if c = true then Q (.bl true) μ1 else tb ρ μ1 Q
def dNotV (ta : TD) : TD := fun ρ μ Q => ta ρ μ fun x μ1 => ∃ c, x = .bl c ∧ Q (.bl (!c)) μ1
theorem pd_one {op} (h : PD X a ta) : PD X (.BoolOp op [a] pos) ta := ⟨pe_one h.ok⟩
theorem pd_and (ha : PD X a ta) (hb : PD X (.BoolOp .And (b :: rest) pos) tb) : PD X (.BoolOp .And (a :: b :: rest) pos) (dAndV ta tb) := ⟨PE.cq (pe_and ha.ok hb.ok) fun σ H Q ⟨Z, ρ, μ, Q0, rel, q, f⟩ => by
  refine ⟨Z, ρ, μ, _, rel, q, fun d μ1 x H1 q1 rl1 s1 i1 => ?_⟩
  obtain ⟨c, rfl, q1⟩ := q1
  cases i1
  refine ⟨c, rfl, ?_⟩
  cases c with
  | true => exact ⟨Z, ρ, μ1, Q0, rel.step s1 rl1, q1, f.step s1⟩
  | false => exact f _ μ1 _ H1 q1 rl1 s1 (.bl false)⟩
theorem pd_or (ha : PD X a ta) (hb : PD X (.BoolOp .Or (b :: rest) pos) tb) : PD X (.BoolOp .Or (a :: b :: rest) pos) (dOrV ta tb) := ⟨PE.cq (pe_or ha.ok hb.ok) fun σ H Q ⟨Z, ρ, μ, Q0, rel, q, f⟩ => by
  refine ⟨Z, ρ, μ, _, rel, q, fun d μ1 x H1 q1 rl1 s1 i1 => ?_⟩
  obtain ⟨c, rfl, q1⟩ := q1
  cases i1
  refine ⟨c, rfl, ?_⟩
  cases c with
  | false => exact ⟨Z, ρ, μ1, Q0, rel.step s1 rl1, q1, f.step s1⟩
  | true => exact f _ μ1 _ H1 q1 rl1 s1 (.bl true)⟩
theorem pd_not (ha : PD X a ta) : PD X (.UnaryOp .Not a pos) (dNotV ta) := ⟨PE.cq (pe_not ha.ok) fun σ H Q ⟨Z, ρ, μ, Q0, rel, q, f⟩ => by
  refine ⟨Z, ρ, μ, _, rel, q, fun d μ1 x H1 q1 rl1 s1 i1 => ?_⟩
  obtain ⟨c, rfl, q1⟩ := q1
  cases i1
  exact ⟨c, rfl, f _ μ1 _ H1 q1 rl1 s1 (.bl _)⟩⟩
def dIf (t : TTD) (ta tb : TD) : TD := fun ρ μ Q => t ρ μ fun c μ1 => if c = true then ta ρ μ1 Q else tb ρ μ1 Q
theorem pd_if {c : Expr} (hc : PTD X c t) (ha : PD X a ta) (hb : PD X b tb) : PD X (.IfExp c a b pos) (dIf t ta tb) := ⟨PE.cq (pe_ifExp hc.ok ha.ok hb.ok) fun σ H Q ⟨Z, ρ, μ, Q0, rel, q, f⟩ => by
  refine ⟨Z, ρ, μ, _, rel, q, fun c μ1 H1 q1 rl1 s1 => ?_⟩
  cases c with
  | true => exact ⟨Z, ρ, μ1, Q0, rel.step s1 rl1, q1, f.step s1⟩
  | false => exact ⟨Z, ρ, μ1, Q0, rel.step s1 rl1, q1, f.step s1⟩⟩
def dChain (rd rd' : D → D → Mu → QD → Prop) (ta tb tc : TD) : TD := fun ρ μ Q => ta ρ μ fun x μ1 => tb ρ μ1 fun y μ2 => rd x y μ2 fun z μ3 => ∃ c, z = .bl c ∧ if c = true then tc ρ μ3 fun u μ4 => rd' y u μ4 Q else Q (.bl false) μ3
end

/-! ### arguments, displays -/
section
variable {X : Cx} {e : Expr} {es : List Expr} {te : TD} {tr : TAD} {pos : Pos} {k : KW}
def dNil : TAD := fun _ μ Q => Q [] μ
def dCons (ta : TD) (tr : TAD) : TAD := fun ρ μ Q => ta ρ μ fun x μ1 => tr ρ μ1 fun xs μ2 => Q (x :: xs) μ2
theorem pad_nil : PAD X [] dNil := ⟨PA.cq pa_nil fun σ H Q ⟨Z, ρ, μ, Q0, rel, q, f⟩ => f [] μ [] H q rel.rl Stp.refl .nil⟩
theorem pad_cons (ha : PD X e te) (hr : PAD X es tr) (hs : starEach (e :: es) X.env = (false, eval e X.env) :: starEach es X.env := by rfl) : PAD X (e :: es) (dCons te tr) := ⟨PA.cq (pa_cons ha.ok hr.ok hs) fun σ H Q ⟨Z, ρ, μ, Q0, rel, q, f⟩ => by
  refine ⟨Z, ρ, μ, _, rel, q, fun d μ1 x H1 q1 rl1 s1 i1 => ?_⟩
  refine ⟨Z, ρ, μ1, _, rel.step s1 rl1, q1, fun ds μ2 xs H2 q2 rl2 s2 i2 => ?_⟩
  exact f _ μ2 _ H2 q2 rl2 (s1.trans s2) (.cons (i1.same s2.same) i2)⟩
def dTup (t : TAD) : TD := fun ρ μ Q => t ρ μ fun ds μ1 => ds.length ≤ sizeLine ∧ Q (.tup ds) μ1
def dLst (t : TAD) : TD := fun ρ μ Q => t ρ μ fun ds μ1 => ds.length ≤ sizeLine ∧ Q (.lst ds) μ1
/-- .. that will change -/
def dLstN (t : TAD) : TD := fun ρ μ Q => t ρ μ fun ds μ1 => ds.length ≤ sizeLine ∧ ∀ p, μ1 p = none → Q (.adr p) (updM μ1 p (.lst ds))
theorem pd_tup {x1} (h : PAD X es tr) : PD X (.Tuple es x1 pos) (dTup tr) := ⟨PE.cq (pe_tup h.ok) fun σ H Q ⟨Z, ρ, μ, Q0, rel, q, f⟩ => by
  refine ⟨Z, ρ, μ, _, rel, q, fun ds μ1 xs H1 ⟨l, q1⟩ rl1 s1 i1 => ?_⟩
  refine ⟨by rw [i1.length]; exact l, fun p hp => ?_⟩
  obtain ⟨r2, s2, e2⟩ := rl1.alloc hp (.tup xs)
  exact f _ μ1 _ _ q1 r2 (s1.trans s2) (.tup e2 (i1.same s2.same))⟩
theorem pd_lst (h : PAD X es tr) : PD X (.List es pos) (dLst tr) := ⟨PE.cq (pe_lst h.ok) fun σ H Q ⟨Z, ρ, μ, Q0, rel, q, f⟩ => by
  refine ⟨Z, ρ, μ, _, rel, q, fun ds μ1 xs H1 ⟨l, q1⟩ rl1 s1 i1 => ?_⟩
  refine ⟨by rw [i1.length]; exact l, fun p hp => ?_⟩
  obtain ⟨r2, s2, e2⟩ := rl1.alloc hp (.lst xs)
  exact f _ μ1 _ _ q1 r2 (s1.trans s2) (.lst e2 (i1.same s2.same))⟩
theorem pd_lstN (h : PAD X es tr) : PD X (.List es pos) (dLstN tr) := ⟨PE.cq (pe_lst h.ok) fun σ H Q ⟨Z, ρ, μ, Q0, rel, q, f⟩ => by
  refine ⟨Z, ρ, μ, _, rel, q, fun ds μ1 xs H1 ⟨l, q1⟩ rl1 s1 i1 => ?_⟩
  refine ⟨by rw [i1.length]; exact l, fun p hp => ?_⟩
  obtain ⟨r2, s2⟩ := rl1.allocM hp (.lst xs) (.lst ds) ⟨xs, upd_same, i1⟩
  exact f _ _ _ _ (q1 p (rl1.free hp).2) r2 (s1.trans s2) (.adr p)⟩
/-- {} that will change, its keys ints and texts -/
def dDictN : TD := fun _ μ Q => ∀ p, μ p = none → Q (.adr p) (updM μ p (.dct []))
def dDictT : TD := fun _ μ Q => ∀ p, μ p = none → Q (.adr p) (updM μ p (.dtt []))
theorem pd_dictN : PD X (.Dict [] [] pos) dDictN := ⟨PE.cq pe_dnewK fun σ H Q ⟨Z, ρ, μ, Q0, rel, q, f⟩ p hp => by
  obtain ⟨r2, s2⟩ := rel.rl.allocM hp (.dK []) (.dct []) ⟨[], upd_same, .nil⟩
  exact f _ _ _ _ (q p (rel.rl.free hp).2) r2 s2 (.adr p)⟩
theorem pd_dictT : PD X (.Dict [] [] pos) dDictT := ⟨PE.cq pe_dnewT fun σ H Q ⟨Z, ρ, μ, Q0, rel, q, f⟩ p hp => by
  obtain ⟨r2, s2⟩ := rel.rl.allocM hp (.dT []) (.dtt []) ⟨[], upd_same, .nil⟩
  exact f _ _ _ _ (q p (rel.rl.free hp).2) r2 s2 (.adr p)⟩
end

/-! ### statements -/
section
variable {X : Cx} {st : Stmt} {rest : List Stmt} {t u : TSD} {e : Expr} {te : TD} {pos : Pos} {k : KW}
theorem Cnt.nx' {Z : Addr → Prop} {μb : Mu} {Hb : Hp} {DD : EndsD} {D : Ends} {N : EnvD → Mu → Prop} {M : L2.St → Hp → Prop} (c : Cnt k Z μb Hb DD D) (h : ∀ ρ μ σ H, N ρ μ → Rel k Z ρ μ σ H → Stp Z μb Hb μ H → M σ H) :
    Cnt k Z μb Hb { DD with nx := N } { D with nx := M } := ⟨h, c.rt, c.bk, c.ct⟩
theorem Cnt.step {Z : Addr → Prop} {μb μ1 : Mu} {Hb H1 : Hp} {DD : EndsD} {D : Ends} (c : Cnt k Z μb Hb DD D) (s : Stp Z μb Hb μ1 H1) : Cnt k Z μ1 H1 DD D :=
  ⟨fun ρ μ σ H n r q => c.nx ρ μ σ H n r (s.trans q), fun d μ v H n r q => c.rt d μ v H n r (s.trans q), fun ρ μ σ H n r q => c.bk ρ μ σ H n r (s.trans q), fun ρ μ σ H n r q => c.ct ρ μ σ H n r (s.trans q)⟩
def dNext : TSD := fun D ρ μ => D.nx ρ μ
def dSeq (t u : TSD) : TSD := fun D ρ μ => t { D with nx := u D } ρ μ
theorem pssd_nil : PSsD X [] dNext := ⟨PSs.cq pss_nil fun D σ H ⟨Z, μb, Hb, ρ, μ, DD, rel, s, q, c⟩ => c.nx ρ μ σ H q rel s⟩
theorem pssd_cons (h1 : PSD X st t) (h2 : PSsD X rest u) : PSsD X (st :: rest) (dSeq t u) := ⟨PSs.cq (pss_cons h1.ok h2.ok) fun D σ H ⟨Z, μb, Hb, ρ, μ, DD, rel, s, q, c⟩ =>
  ⟨Z, μb, Hb, ρ, μ, _, rel, s, q, c.nx' fun ρ1 μ1 σ1 H1 n r s1 => ⟨Z, μb, Hb, ρ1, μ1, DD, r, s1, n, c⟩⟩⟩
theorem pssd_one (h1 : PSD X st t) : PSsD X [st] t := ⟨pss_one h1.ok⟩
def dBreak : TSD := fun D ρ μ => D.bk ρ μ
def dCont : TSD := fun D ρ μ => D.ct ρ μ
theorem psd_pass : PSD X (.Pass pos) dNext := ⟨PS.cq ps_pass fun D σ H ⟨Z, μb, Hb, ρ, μ, DD, rel, s, q, c⟩ => c.nx ρ μ σ H q rel s⟩
theorem psd_break : PSD X (.Break pos) dBreak := ⟨PS.cq ps_break fun D σ H ⟨Z, μb, Hb, ρ, μ, DD, rel, s, q, c⟩ => c.bk ρ μ σ H q rel s⟩
theorem psd_continue : PSD X (.Continue pos) dCont := ⟨PS.cq ps_continue fun D σ H ⟨Z, μb, Hb, ρ, μ, DD, rel, s, q, c⟩ => c.ct ρ μ σ H q rel s⟩
def dNever : TSD := fun _ _ _ => False
theorem psd_never : PSD X st dNever := ⟨PS.cq ps_never fun D σ H ⟨Z, μb, Hb, ρ, μ, DD, rel, s, q, c⟩ => q.elim⟩
theorem pssd_never {sts : List Stmt} : PSsD X sts dNever := ⟨PSs.cq pss_never fun D σ H ⟨Z, μb, Hb, ρ, μ, DD, rel, s, q, c⟩ => q.elim⟩
def dDrop (te : TD) : TSD := fun D ρ μ => te ρ μ fun _ μ1 => D.nx ρ μ1
theorem psd_expr (he : PD X e te) (hs : swapsWith e none pos.line X.env = pure false := by rfl) : PSD X (.Expr e pos) (dDrop te) := ⟨PS.cq (ps_expr he.ok hs) fun D σ H ⟨Z, μb, Hb, ρ, μ, DD, rel, s, q, c⟩ =>
  ⟨Z, ρ, μ, _, rel, q, fun d μ1 v H1 q1 rl1 s1 i1 => c.nx ρ μ1 σ H1 q1 (rel.step s1 rl1) (s.trans s1)⟩⟩
def dRet (te : TD) : TSD := fun D ρ μ => te ρ μ D.rt
theorem psd_ret (he : PD X e te) : PSD X (.Return (some e) pos) (dRet te) := ⟨PS.cq (ps_ret he.ok) fun D σ H ⟨Z, μb, Hb, ρ, μ, DD, rel, s, q, c⟩ =>
  ⟨Z, ρ, μ, _, rel, q, fun d μ1 v H1 q1 rl1 s1 i1 => c.rt d μ1 v H1 q1 rl1 (s.trans s1) i1⟩⟩
def dRetN : TSD := fun D _ μ => D.rt .non μ
theorem psd_retN : PSD X (.Return none pos) dRetN := ⟨PS.cq ps_retN fun D σ H ⟨Z, μb, Hb, ρ, μ, DD, rel, s, q, c⟩ => c.rt .non μ .non H q rel.rl s .non⟩
def dIfS (c : TTD) (t u : TSD) : TSD := fun D ρ μ => c ρ μ fun b μ1 => if b = true then t D ρ μ1 else u D ρ μ1
theorem psd_if {c : Expr} {a b : List Stmt} {tc : TTD} (hc : PTD X c tc) (ha : PSsD X a t) (hb : PSsD X b u) : PSD X (.If c a b pos) (dIfS tc t u) := ⟨PS.cq (ps_if hc.ok ha.ok hb.ok) fun D σ H ⟨Z, μb, Hb, ρ, μ, DD, rel, s, q, c⟩ => by
  refine ⟨Z, ρ, μ, _, rel, q, fun b μ1 H1 q1 rl1 s1 => ?_⟩
  cases b with
  | true => exact ⟨Z, μb, Hb, ρ, μ1, DD, rel.step s1 rl1, s.trans s1, q1, c⟩
  | false => exact ⟨Z, μb, Hb, ρ, μ1, DD, rel.step s1 rl1, s.trans s1, q1, c⟩⟩
/-! targets -/
def gdName (i : Nat) : TGD := fun d ρ μ Q => Q (ρ.set i (some d)) μ
theorem pgd_name {i : Nat} {x : Str} (hN : X.N.Nodup) (hi : X.N[i]? = some x) (hx : Loc X.env.scope x) (hf : X.fn x = true ∨ X.env.scope.names.lookup x = some .local := by first | exact .inl rfl | exact .inr rfl | assumption) : PGD X [i] (.Name x pos) (gdName i) :=
  ⟨PG.cq (pg_name hN hi hx hf) fun v σ H Q ⟨Z, d, ρ, μ, Q0, rel, i1, q, f⟩ => f _ μ _ H q (rel.set i i1) Stp.refl (fun j hj => List.getElem?_set_ne fun z => hj (by rw [z]; exact List.mem_singleton.mpr rfl)) (by rw [List.length_set])⟩
def gdNil : TGsD := fun ds ρ μ Q => ds = [] ∧ Q ρ μ
def gdCons (t : TGD) (u : TGsD) : TGsD := fun ds ρ μ Q => ∃ d r, ds = d :: r ∧ t d ρ μ fun ρ' μ' => u r ρ' μ' Q
theorem pgsd_nil : PGsD X [] [] gdNil := ⟨PGs.cq pgs_nil fun vs σ H Q ⟨Z, ds, ρ, μ, Q0, rel, i1, ⟨e, q⟩, f⟩ => by
  subst e
  cases i1
  exact ⟨rfl, f ρ μ σ H q rel Stp.refl (fun _ _ => rfl) rfl⟩⟩
theorem pgsd_cons {e : Expr} {es : List Expr} {t : TGD} {u : TGsD} {vs us : List Nat} (h1 : PGD X vs e t) (h2 : PGsD X us es u)
    (hs : (assignEach (e :: es) X.env).map (·.2) = assign e X.env :: (assignEach es X.env).map (·.2) := by rfl) : PGsD X (vs ++ us) (e :: es) (gdCons t u) := ⟨PGs.cq (pgs_cons h1.ok h2.ok hs) fun xs σ H Q ⟨Z, ds, ρ, μ, Q0, rel, i1, ⟨d, r, e, q⟩, f⟩ => by
  subst e
  cases i1 with
  | cons j1 j2 =>
    refine ⟨_, _, rfl, Z, d, ρ, μ, _, rel, j1, q, fun ρ1 μ1 σ1 H1 q1 rel1 s1 n1 l1 => ?_⟩
    refine ⟨Z, r, ρ1, μ1, _, rel1, j2.same s1.same, q1, fun ρ2 μ2 σ2 H2 q2 rel2 s2 n2 l2 => ?_⟩
    refine f ρ2 μ2 σ2 H2 q2 rel2 (s1.trans s2) (fun j hj => ?_) (l2.trans l1)
    rw [List.mem_append, not_or] at hj
    exact (n2 j hj.2).trans (n1 j hj.1)⟩
def gdTup (n : Nat) (t : TGsD) : TGD := fun d ρ μ Q => ∃ ds, d = .tup ds ∧ ds.length = n ∧ t ds ρ μ Q
theorem pgd_tup {es : List Expr} {kk : Nat} {t : TGsD} {n : Nat} {vs : List Nat} (hc : X.calm = true) (h : PGsD X vs es t)
    (hn : (assignEach es X.env).length = n := by rfl) (hst : (assignEach es X.env).findIdx? (·.1) = none := by rfl) : PGD X vs (.Tuple es kk pos) (gdTup n t) := ⟨PG.cq (pg_tup hc h.ok hn hst) fun v σ H Q ⟨Z, d, ρ, μ, Q0, rel, i1, ⟨ds, e, l, q⟩, f⟩ => by
  subst e
  cases i1 with
  | @tup a xs _ hs ha => exact ⟨a, xs, rfl, SqT.of (msk_le _ _ _ _ _ hs), by rw [ha.length]; exact l, Z, ds, ρ, μ, Q0, rel, ha, q, f⟩⟩
def dAsg (te : TD) (g : TGD) : TSD := fun D ρ μ => te ρ μ fun d μ1 => g d ρ μ1 D.nx
theorem asg_s {g : TGD} {vs : List Nat} {D : Ends} {σ : L2.St} {H : Hp} (h : liftS k (dAsg te g) D σ H) : tAsg (lift k te) (liftG k vs g) D σ H := by
  obtain ⟨Z, μb, Hb, ρ, μ, DD, rel, s, q, c⟩ := h
  refine ⟨Z, ρ, μ, _, rel, q, fun d μ1 v H1 q1 rl1 s1 i1 => ?_⟩
  exact ⟨Z, d, ρ, μ1, _, rel.step s1 rl1, i1, q1, fun ρ2 μ2 σ2 H2 q2 rel2 s2 _ _ => c.nx ρ2 μ2 σ2 H2 q2 rel2 ((s.trans s1).trans s2)⟩
theorem psd_asg {tg e : Expr} {g : TGD} {vs : List Nat} (he : PD X e te) (hg : PGD X vs tg g) (hs : swapsWithSole [tg] e pos.line X.env = pure false := by rfl) (hw : swappedStores [tg] e X.env = pure none := by rfl)
    (h1 : (assignEach [tg] X.env).map (·.2) = [assign tg X.env] := by rfl) : PSD X (.Assign [tg] e pos) (dAsg te g) := ⟨PS.cq (ps_asg he.ok hg.ok hs hw h1) fun D σ H h => asg_s h⟩
def dSet (i : Nat) (te : TD) : TSD := fun D ρ μ => te ρ μ fun d μ1 => D.nx (ρ.set i (some d)) μ1
theorem set_s {i : Nat} {D : Ends} {σ : L2.St} {H : Hp} (h : liftS k (dSet i te) D σ H) : tAsg (lift k te) (gName i) D σ H := by
  obtain ⟨Z, μb, Hb, ρ, μ, DD, rel, s, q, c⟩ := h
  exact ⟨Z, ρ, μ, _, rel, q, fun d μ1 v H1 q1 rl1 s1 i1 => c.nx _ μ1 _ H1 q1 ((rel.step s1 rl1).set i i1) (s.trans s1)⟩
theorem psd_set {i : Nat} {x : Str} {e : Expr} {pos' : Pos} (hN : X.N.Nodup) (hi : X.N[i]? = some x) (hx : Loc X.env.scope x) (he : PD X e te) (hs : swapsWith e (some (.Name x pos')) pos.line X.env = pure false := by rfl) (hf : X.fn x = true ∨ X.env.scope.names.lookup x = some .local := by first | exact .inl rfl | exact .inr rfl | assumption) :
    PSD X (.Assign [.Name x pos'] e pos) (dSet i te) := ⟨PS.cq (ps_set hN hi hx he.ok hs hf) fun D σ H h => set_s h⟩
/-- a, b = x, y -/
def dPar (i j : Nat) (ta : TAD) : TSD := fun D ρ μ => ta ρ μ fun ds μ1 => ∃ x y, ds = [x, y] ∧ D.nx ((ρ.set i (some x)).set j (some y)) μ1
theorem psd_par {i j : Nat} {x y : Str} {a b : Expr} {ta : TAD} {px py pt : Pos} {kt k2 pt2} (hc : X.calm = true) (hN : X.N.Nodup) (hi : X.N[i]? = some x) (hj : X.N[j]? = some y) (hij : i ≠ j)
    (hx : X.env.scope.names.lookup x = some .local) (hy : X.env.scope.names.lookup y = some .local) (ha : PAD X [a, b] ta)
    (hw : swappedStores [.Tuple [.Name x px, .Name y py] kt pt] (.Tuple [a, b] k2 pt2) X.env = pure (some [x, y]))
    (hs : swapsWithSole [.Tuple [.Name x px, .Name y py] kt pt] (.Tuple [a, b] k2 pt2) pos.line X.env = pure false := by rfl) :
    PSD X (.Assign [.Tuple [.Name x px, .Name y py] kt pt] (.Tuple [a, b] k2 pt2) pos) (dPar i j ta) := ⟨PS.cq (ps_par hc hN hi hj hij hx hy ha.ok hw hs) fun D σ H ⟨Z, μb, Hb, ρ, μ, DD, rel, s, q, c⟩ => by
  refine ⟨Z, ρ, μ, _, rel, q, fun ds μ1 vs H1 ⟨d1, d2, e, q1⟩ rl1 s1 i1 => ?_⟩
  subst e
  cases i1 with
  | cons j1 j2 =>
    cases j2 with
    | cons j2 j3 =>
      cases j3
      exact ⟨_, _, rfl, c.nx _ μ1 _ H1 q1 (((rel.step s1 rl1).set i j1).set j j2) (s.trans s1)⟩⟩
/-- name op= e -/
def dAug (i : Nat) (te : TD) (rd : D → D → Mu → QD → Prop) : TSD := fun D ρ μ => ∃ x, ρ[i]? = some (some x) ∧ te ρ μ fun y μ1 => rd x y μ1 fun z μ2 => D.nx (ρ.set i (some z)) μ2
theorem psd_aug {i : Nat} {x : Str} {e : Expr} {op : Operator} {r : R2} {rd : D → D → Mu → QD → Prop} {pos' : Pos} (hN : X.N.Nodup) (hi : X.N[i]? = some x) (hx : Loc X.env.scope x) (he : PD X e te) (ho : PIp X op r) (hs : RS (kw X) r rd) (hf : X.fn x = true ∨ X.env.scope.names.lookup x = some .local := by first | exact .inl rfl | exact .inr rfl | assumption) :
    PSD X (.AugAssign (.Name x pos') op e pos) (dAug i te rd) := ⟨PS.cq (ps_aug hN hi hx he.ok ho hf) fun D σ H ⟨Z, μb, Hb, ρ, μ, DD, rel, s, ⟨d0, e0, q⟩, c⟩ => by
  obtain ⟨v, h1, h2⟩ := rel.slot i d0 e0
  refine ⟨v, h1, Z, ρ, μ, _, rel, q, fun d μ1 y H1 q1 rl1 s1 i1 => ?_⟩
  exact hs Z μ1 H1 v y d0 d _ _ rl1 (h2.same s1.same) i1 q1 fun z μ2 u H2 q2 rl2 s2 i2 => c.nx _ μ2 _ H2 q2 ((rel.step (s1.trans s2) rl2).set i i2) ((s.trans s1).trans s2)⟩
/-- while: the invariant with its measure -/
def dWhile (c : TTD) (tb : TSD) : TSD := fun D ρ μ => ∃ W : Nat → EnvD → Mu → Prop, (∃ m, W m ρ μ) ∧ ∀ m ρ μ, W m ρ μ →
  c ρ μ fun b μ1 => if b = true then ∃ N : EnvD → Mu → Prop, (∀ ρ' μ', N ρ' μ' → ∃ m', m' < m ∧ W m' ρ' μ') ∧ tb { D with nx := N, ct := N, bk := D.nx } ρ μ1 else D.nx ρ μ1
theorem psd_while {c : Expr} {body : List Stmt} {tc : TTD} {tb : TSD} (hp : PassesOwn (model X.prog X.w) X.A X.env X.xe) (hc : PTD X c tc) (hb : PSsD X body tb) : PSD X (.While c body [] pos) (dWhile tc tb) := ⟨PS.cq (ps_while hp hc.ok hb.ok) fun D σ H ⟨Z, μb, Hb, ρ, μ, DD, rel, s, ⟨W, ⟨m0, w0⟩, turn⟩, c⟩ => by
  refine ⟨fun m σ H => ∃ ρ μ, Rel (kw X) Z ρ μ σ H ∧ Stp Z μb Hb μ H ∧ W m ρ μ, ⟨m0, ρ, μ, rel, s, w0⟩, ?_⟩
  rintro m σ1 H1 ⟨ρ1, μ1, rel1, s1, w1⟩
  refine ⟨Z, ρ1, μ1, _, rel1, turn m ρ1 μ1 w1, fun b μ2 H2 q2 rl2 s2 => ?_⟩
  cases b with
  | false => exact c.nx ρ1 μ2 σ1 H2 q2 (rel1.step s2 rl2) (s1.trans s2)
  | true =>
    obtain ⟨N, hN, q2⟩ := q2
    refine ⟨fun σ H => ∃ ρ μ, Rel (kw X) Z ρ μ σ H ∧ Stp Z μb Hb μ H ∧ N ρ μ, fun σ3 H3 ⟨ρ3, μ3, rel3, s3, n3⟩ => ?_, Z, μb, Hb, ρ1, μ2, _, rel1.step s2 rl2, s1.trans s2, q2, ⟨?_, ?_, ?_, ?_⟩⟩
    · obtain ⟨m', hm, w3⟩ := hN ρ3 μ3 n3
      exact ⟨m', hm, ρ3, μ3, rel3, s3, w3⟩
    · exact fun ρ3 μ3 σ3 H3 n3 rel3 s3 => ⟨ρ3, μ3, rel3, s3, n3⟩
    · exact c.rt
    · exact fun ρ3 μ3 σ3 H3 n3 rel3 s3 => c.nx ρ3 μ3 σ3 H3 n3 rel3 s3
    · exact fun ρ3 μ3 σ3 H3 n3 rel3 s3 => ⟨ρ3, μ3, rel3, s3, n3⟩⟩
/-- for -/
def dFor (wi : TID) (g : TGD) (tb : TSD) : TSD := fun D ρ μ => wi ρ μ fun it μ1 => ∃ W : Nat → EnvD → Mu → Prop, W 0 ρ μ1 ∧
  (∀ i x ρ μ, it.items[i]? = some x → W i ρ μ → it.live μ ∧ g x ρ μ fun ρ2 μ2 => tb { D with nx := W (i + 1), ct := W (i + 1), bk := D.nx } ρ2 μ2) ∧ (∀ ρ μ, W it.items.length ρ μ → it.live μ ∧ D.nx ρ μ)
theorem psd_for {tg iter : Expr} {body : List Stmt} {wi : TID} {g : TGD} {vs : List Nat} {tb : TSD} (hp : PassesOwn (model X.prog X.w) X.A X.env X.xe) (hc : X.calm = true) (hi : PID X tg iter wi) (hg : PGD X vs tg g) (hb : PSsD X body tb)
    (hs : ∀ x, foldedSetIterable iter X.env x = pure x := by intro _; rfl) : PSD X (.For tg iter body [] pos) (dFor wi g tb) := ⟨PS.cq (ps_for hp hc hi.ok hg.ok hb.ok hs) fun D σ H ⟨Z, μb, Hb, ρ, μ, DD, rel, s, q, c⟩ => by
  refine ⟨Z, ρ, μ, _, rel, q, fun it μ1 J H1 ⟨W, w0, turn, fin⟩ rl1 s1 ok0 => ?_⟩
  have ok : ItOk (kw X) Z J it μ1 H1 := by
    have e : (fun b => Z b ∨ (fun _ => False) b) = Z := funext fun b => propext ⟨fun z => z.elim id False.elim, .inl⟩
    have h := ok0 (fun _ => False) μ1 H1 (by rw [e]; exact rl1) Stp.refl fun _ z => z.elim
    rw [e] at h
    exact h
  refine ⟨fun i m σ H => m = it.items.length - i ∧ i ≤ it.items.length ∧ ∃ ρ μ, Rel (kw X) Z ρ μ σ H ∧ Stp Z μb Hb μ H ∧ Stp Z μ1 H1 μ H ∧ W i ρ μ, ⟨_, rfl, Nat.zero_le _, ρ, μ1, rel.step s1 rl1, s.trans s1, Stp.refl, w0⟩, ?_⟩
  rintro i m σ2 H2 ⟨rfl, hle, ρ2, μ2, rel2, s2, t2, w2⟩
  by_cases hlt : i < it.items.length
  · have hx := List.getElem?_eq_getElem hlt
    obtain ⟨lv, step⟩ := turn i _ ρ2 μ2 hx w2
    refine .inr ⟨ok.go i μ2 H2 rel2.rl t2 lv hlt, fun σ H => ∃ ρ μ, Rel (kw X) Z ρ μ σ H ∧ Stp Z μb Hb μ H ∧ Stp Z μ1 H1 μ H ∧ W (i + 1) ρ μ, ?_, fun x H3 hy => ?_⟩
    · rintro σ3 H3 ⟨ρ3, μ3, r3, a3, b3, w3⟩
      exact ⟨_, by omega, rfl, hlt, ρ3, μ3, r3, a3, b3, w3⟩
    · obtain ⟨d, hd, rl3, s3, i3⟩ := ok.yld i μ2 H2 x H3 rel2.rl t2 lv hlt hy
      rw [hx] at hd
      cases hd
      refine ⟨Z, _, ρ2, μ2, _, rel2.step s3 rl3, i3, step, fun ρ4 μ4 σ4 H4 q4 rel4 s4 _ _ => ?_⟩
      refine ⟨Z, μ1, H1, ρ4, μ4, _, rel4, (t2.trans s3).trans s4, q4, ⟨?_, ?_, ?_, ?_⟩⟩
      · exact fun ρ5 μ5 σ5 H5 n5 rel5 s5 => ⟨ρ5, μ5, rel5, (s.trans s1).trans s5, s5, n5⟩
      · exact fun d5 μ5 v5 H5 n5 rl5 s5 i5 => c.rt d5 μ5 v5 H5 n5 rl5 ((s.trans s1).trans s5) i5
      · exact fun ρ5 μ5 σ5 H5 n5 rel5 s5 => c.nx ρ5 μ5 σ5 H5 n5 rel5 ((s.trans s1).trans s5)
      · exact fun ρ5 μ5 σ5 H5 n5 rel5 s5 => ⟨ρ5, μ5, rel5, (s.trans s1).trans s5, s5, n5⟩
  · have e : i = it.items.length := by omega
    subst e
    obtain ⟨lv, n⟩ := fin ρ2 μ2 w2
    exact .inl ⟨ok.stop _ μ2 H2 rel2.rl t2 lv (Nat.le_refl _), c.nx ρ2 μ2 σ2 H2 n rel2 s2⟩⟩
end
end Zd


set_option Elab.async false
set_option linter.all false
set_option maxRecDepth 100000
set_option maxHeartbeats 2000000
namespace Zd
open PySem PySem.Spec PyProof.Rows L2

/-! ### lists and tuples as they stand -/
/-- a list that is read -/
def AsL (μ : Mu) (d : D) (ds : List D) : Prop := d = .lst ds ∨ d = .frz ds ∨ ∃ a, d = .adr a ∧ μ a = some (.lst ds)
section
variable {k : KW} {Z : Addr → Prop} {μ : Mu} {H : Hp} {v : V} {d : D} {ds : List D}
theorem AsL.get (r : RlK k Z μ H) (i : IsK k (msk Z μ H) v d) (h : AsL μ d ds) : ∃ a xs, v = .ref a ∧ SqL k.K H a xs ∧ IsAllK k (msk Z μ H) xs ds := by
  rcases h with rfl | rfl | ⟨a, rfl, e⟩
  · cases i with
    | lst h t => exact ⟨_, _, rfl, SqL.of (msk_le _ _ _ _ _ h), t⟩
  · cases i with
    | frz h t => exact ⟨_, _, rfl, (msk_le Z μ H).seq h, t⟩
  · cases i
    obtain ⟨vs, h, t⟩ := r.mu a _ e
    exact ⟨a, vs, rfl, SqL.of h, t⟩
/-- .. tracked as a list of its own -/
def AsLt (μ : Mu) (d : D) (ds : List D) : Prop := d = .lst ds ∨ ∃ a, d = .adr a ∧ μ a = some (.lst ds)
theorem AsLt.get (r : RlK k Z μ H) (i : IsK k (msk Z μ H) v d) (h : AsLt μ d ds) : ∃ a xs, v = .ref a ∧ H a = some (.lst xs) ∧ IsAllK k (msk Z μ H) xs ds := by
  rcases h with rfl | ⟨a, rfl, e⟩
  · cases i with
    | lst h t => exact ⟨_, _, rfl, (msk_le _ _ _ _ _ h), t⟩
  · cases i
    obtain ⟨vs, h, t⟩ := r.mu a _ e
    exact ⟨a, vs, rfl, h, t⟩
theorem Is.tupGet (i : IsK k (msk Z μ H) v (.tup ds)) : ∃ a xs, v = .ref a ∧ H a = some (.tup xs) ∧ IsAllK k (msk Z μ H) xs ds := by
  cases i with
  | tup h t => exact ⟨_, _, rfl, msk_le _ _ _ _ _ h, t⟩
theorem msk_hide {Y : Addr → Prop} {μ2 : Mu} {H2 : Hp} (s : Stp Z μ H μ2 H2) (hy : ∀ b, Y b → H b = none) : Same (msk Z μ H) (msk (fun b => Z b ∨ Y b) μ2 H2) := fun b o e => by
  obtain ⟨h1, h2, h3⟩ := msk_some (s.same b o e)
  have ny : ¬ Y b := fun y => by
    obtain ⟨_, _, q⟩ := msk_some e
    rw [hy b y] at q
    cases q
  rw [msk_in (fun z => z.elim h1 ny) h2]
  exact h3
end

/-! ### what is walked -/
section
variable {X : Cx} {tg e : Expr} {te : TD} {k : KW}
def dItL (te : TD) : TID := fun ρ μ Q => te ρ μ fun d μ1 => ∃ ds, AsL μ1 d ds ∧ Q ⟨ds, fun μ => AsL μ d ds⟩ μ1
theorem pid_list (he : PD X e te) : PID X tg e (dItL te) := ⟨PI.cq (pi_list he.ok) fun σ H R ⟨Z, ρ, μ, Q0, rel, q, f⟩ => by
  refine ⟨Z, ρ, μ, _, rel, q, fun d μ1 v H1 ⟨ds, as, q1⟩ rl1 s1 i1 => ?_⟩
  obtain ⟨a, xs, rfl, hs, ha⟩ := as.get rl1 i1
  refine ⟨a, rfl, ⟨xs, hs⟩, f _ μ1 _ H1 q1 rl1 s1 fun Y μ2 H2 rl2 s2 hy => ?_⟩
  have i2 : IsK (kw X) (msk (fun b => Z b ∨ Y b) μ2 H2) (.ref a) d := i1.same (msk_hide s2 hy)
  have at_ : ∀ μ H, RlK (kw X) (fun b => Z b ∨ Y b) μ H → Stp (fun b => Z b ∨ Y b) μ2 H2 μ H → AsL μ d ds → ∃ xs, SqL X.K H a xs ∧ IsAllK (kw X) (msk (fun b => Z b ∨ Y b) μ H) xs ds := fun μ H r s as => by
    obtain ⟨b, ys, eb, h1, h2⟩ := as.get r (i2.same s.same)
    cases eb
    exact ⟨ys, h1, h2⟩
  refine ⟨fun i μ H r s lv hi => ?_, fun i μ H x H' r s lv hi hy => ?_, fun i μ H r s lv hi => ?_⟩
  · obtain ⟨ys, h1, h2⟩ := at_ μ H r s lv
    have hl : i < ys.length := by rw [h2.length]; exact hi
    exact ⟨ys, ys[i], h1, List.getElem?_eq_getElem hl⟩
  · obtain ⟨ys, h1, h2⟩ := at_ μ H r s lv
    obtain ⟨rfl, h3⟩ := hy
    obtain ⟨d', h4, h5⟩ := h2.getV (h3 ys h1)
    exact ⟨d', h4, r, Stp.refl, h5⟩
  · obtain ⟨ys, h1, h2⟩ := at_ μ H r s lv
    exact ⟨ys, h1, by rw [h2.length]; exact hi⟩⟩
def dItT (te : TD) : TID := fun ρ μ Q => te ρ μ fun d μ1 => ∃ ds, d = .tup ds ∧ Q ⟨ds, fun _ => True⟩ μ1
theorem pid_tup (he : PD X e te) : PID X tg e (dItT te) := ⟨PI.cq (pi_tup he.ok) fun σ H R ⟨Z, ρ, μ, Q0, rel, q, f⟩ => by
  refine ⟨Z, ρ, μ, _, rel, q, fun d μ1 v H1 ⟨ds, as, q1⟩ rl1 s1 i1 => ?_⟩
  subst as
  obtain ⟨a, xs, rfl, hs, ha⟩ := i1.tupGet
  refine ⟨a, rfl, ⟨xs, SqT.of hs⟩, f _ μ1 _ H1 q1 rl1 s1 fun Y μ2 H2 rl2 s2 hy => ?_⟩
  have i2 : IsK (kw X) (msk (fun b => Z b ∨ Y b) μ2 H2) (.ref a) (.tup ds) := i1.same (msk_hide s2 hy)
  have at_ : ∀ μ H, Stp (fun b => Z b ∨ Y b) μ2 H2 μ H → ∃ xs, SqT X.K H a xs ∧ IsAllK (kw X) (msk (fun b => Z b ∨ Y b) μ H) xs ds := fun μ H s => by
    obtain ⟨b, ys, eb, h1, h2⟩ := (i2.same s.same).tupGet
    cases eb
    exact ⟨ys, SqT.of h1, h2⟩
  refine ⟨fun i μ H r s lv hi => ?_, fun i μ H x H' r s lv hi hy => ?_, fun i μ H r s lv hi => ?_⟩
  · obtain ⟨ys, h1, h2⟩ := at_ μ H s
    have hl : i < ys.length := by rw [h2.length]; exact hi
    exact ⟨ys, ys[i], h1, List.getElem?_eq_getElem hl⟩
  · obtain ⟨ys, h1, h2⟩ := at_ μ H s
    obtain ⟨rfl, h3⟩ := hy
    obtain ⟨d', h4, h5⟩ := h2.getV (h3 ys h1)
    exact ⟨d', h4, r, Stp.refl, h5⟩
  · obtain ⟨ys, h1, h2⟩ := at_ μ H s
    exact ⟨ys, h1, by rw [h2.length]; exact hi⟩⟩
def rngD (lo : Int) (n : Nat) : List D := (List.range n).map fun (i : Nat) => D.int (lo + i)
theorem rngD_len (lo : Int) (n : Nat) : (rngD lo n).length = n := by unfold rngD; rw [List.length_map, List.length_range]
theorem rngD_get {lo : Int} {n i : Nat} {x : D} (h : (rngD lo n)[i]? = some x) : i < n ∧ x = .int (lo + i) := by
  unfold rngD at h
  rw [List.getElem?_map] at h
  by_cases hi : i < n
  · rw [List.getElem?_range hi] at h
    exact ⟨hi, (Option.some.inj h).symm⟩
  · rw [List.getElem?_eq_none (by rw [List.length_range]; omega)] at h
    cases h
theorem rngD_at {lo : Int} {n i : Nat} (h : i < n) : (rngD lo n)[i]? = some (.int (lo + i)) := by
  unfold rngD
  rw [List.getElem?_map, List.getElem?_range h]
  rfl
theorem itr_ok {Z : Addr → Prop} {lo : Int} {n : Nat} {μ : Mu} {H : Hp} : ItOk k Z (Itr lo n) ⟨rngD lo n, fun _ => True⟩ μ H := by
  refine ⟨fun i μ H r s lv hi => ?_, fun i μ H x H' r s lv hi hy => ?_, fun i μ H r s lv hi => ?_⟩
  · have h : i < (rngD lo n).length := hi
    rw [rngD_len] at h
    exact h
  · have h : i < (rngD lo n).length := hi
    rw [rngD_len] at h
    obtain ⟨rfl, rfl⟩ := hy
    exact ⟨_, rngD_at h, r, Stp.refl, .int _⟩
  · have h : (rngD lo n).length ≤ i := hi
    rw [rngD_len] at h
    exact h
def dIt1 (ta : TAD) : TID := fun ρ μ Q => ta ρ μ fun ds μ1 => ∃ j : Int, ds = [.int j] ∧ j < 2 ^ 62 ∧ -(2 ^ 62) ≤ j ∧ Q ⟨rngD 0 j.toNat, fun _ => True⟩ μ1
def dIt2 (ta : TAD) : TID := fun ρ μ Q => ta ρ μ fun ds μ1 => ∃ i j : Int, ds = [.int i, .int j] ∧ (-(2 ^ 62) ≤ i ∧ i < 2 ^ 62 ∧ -(2 ^ 62) ≤ j ∧ j < 2 ^ 62) ∧ Q ⟨rngD i (j - i).toNat, fun _ => True⟩ μ1
theorem pid_range1 {a : Expr} {ta : TAD} {p pos : Pos} (hg : Gl X "range") (hm : X.mg "range" = none) (ha : PAD X [a] ta) (hs : starEach [a] X.env = [(false, eval a X.env)] := by rfl) : PID X tg (.Call (.Name "range" p) [a] [] pos) (dIt1 ta) :=
  ⟨PI.cq (pi_range1 hg hm ha.ok hs) fun σ H R ⟨Z, ρ, μ, Q0, rel, q, f⟩ => by
  refine ⟨Z, ρ, μ, _, rel, q, fun ds μ1 vs H1 ⟨j, e, l1, l2, q1⟩ rl1 s1 i1 => ?_⟩
  subst e
  cases i1 with
  | cons h t =>
    cases h
    cases t
    exact ⟨j, rfl, l2, l1, f _ μ1 _ H1 q1 rl1 s1 fun Y μ2 H2 rl2 s2 hy => itr_ok⟩⟩
theorem pid_range2 {a b : Expr} {ta : TAD} {p pos : Pos} (hg : Gl X "range") (hm : X.mg "range" = none) (ha : PAD X [a, b] ta) (hs : starEach [a, b] X.env = [(false, eval a X.env), (false, eval b X.env)] := by rfl) (hs2 : starEach [b] X.env = [(false, eval b X.env)] := by rfl) : PID X tg (.Call (.Name "range" p) [a, b] [] pos) (dIt2 ta) :=
  ⟨PI.cq (pi_range2 hg hm ha.ok hs hs2) fun σ H R ⟨Z, ρ, μ, Q0, rel, q, f⟩ => by
  refine ⟨Z, ρ, μ, _, rel, q, fun ds μ1 vs H1 ⟨i, j, e, l, q1⟩ rl1 s1 i1 => ?_⟩
  subst e
  cases i1 with
  | cons h t =>
    cases h
    cases t with
    | cons h t =>
      cases h
      cases t
      exact ⟨i, j, rfl, l, f _ μ1 _ H1 q1 rl1 s1 fun Y μ2 H2 rl2 s2 hy => itr_ok⟩⟩
/-- enumerate of a list -/
def enumD (ds : List D) : List D := ds.zipIdx.map fun p => D.tup [.int (p.2 : Nat), p.1]
theorem enumD_len (ds : List D) : (enumD ds).length = ds.length := by unfold enumD; rw [List.length_map, List.length_zipIdx]
theorem enumD_get {ds : List D} {i : Nat} {x : D} (h : (enumD ds)[i]? = some x) : ∃ d, ds[i]? = some d ∧ x = .tup [.int (i : Nat), d] := by
  unfold enumD at h
  rw [List.getElem?_map, List.getElem?_zipIdx] at h
  cases e : ds[i]? with
  | none => rw [e] at h; cases h
  | some d =>
    rw [e] at h
    refine ⟨d, rfl, ?_⟩
    have h' := (Option.some.inj h).symm
    simp only [Nat.zero_add] at h'
    exact h'
theorem enumD_at {ds : List D} {i : Nat} {d : D} (h : ds[i]? = some d) : (enumD ds)[i]? = some (.tup [.int (i : Nat), d]) := by
  unfold enumD
  rw [List.getElem?_map, List.getElem?_zipIdx, h]
  simp
def dItE (ta : TAD) : TID := fun ρ μ Q => ta ρ μ fun es μ1 => ∃ d ds, es = [d] ∧ AsL μ1 d ds ∧ Q ⟨enumD ds, fun μ => AsL μ d ds⟩ μ1
theorem pid_enum {e : Expr} {ta : TAD} {p pos tpos : Pos} {elts : List Expr} {kk : Nat} (hg : Gl X "enumerate") (hm : X.mg "enumerate" = none) (ha : PAD X [e] ta) (hs : starEach [e] X.env = [(false, eval e X.env)] := by rfl) :
    PID X (.Tuple elts kk tpos) (.Call (.Name "enumerate" p) [e] [] pos) (dItE ta) := ⟨PI.cq (pi_enum hg hm ha.ok hs) fun σ H R ⟨Z, ρ, μ, Q0, rel, q, f⟩ => by
  refine ⟨Z, ρ, μ, _, rel, q, fun es μ1 vs H1 ⟨d, ds, e, as, q1⟩ rl1 s1 i1 => ?_⟩
  subst e
  cases i1 with
  | cons i1 t =>
    cases t
    obtain ⟨a, xs, rfl, hs, ha⟩ := as.get rl1 i1
    refine ⟨a, xs, rfl, hs, f _ μ1 _ H1 q1 rl1 s1 fun Y μ2 H2 rl2 s2 hy => ?_⟩
    have i2 : IsK (kw X) (msk (fun b => Z b ∨ Y b) μ2 H2) (.ref a) d := i1.same (msk_hide s2 hy)
    have at_ : ∀ μ H, RlK (kw X) (fun b => Z b ∨ Y b) μ H → Stp (fun b => Z b ∨ Y b) μ2 H2 μ H → AsL μ d ds → ∃ xs, SqL X.K H a xs ∧ IsAllK (kw X) (msk (fun b => Z b ∨ Y b) μ H) xs ds := fun μ H r s as => by
      obtain ⟨b, ys, eb, h1, h2⟩ := as.get r (i2.same s.same)
      cases eb
      exact ⟨ys, h1, h2⟩
    refine ⟨fun i μ H r s lv hi => ?_, fun i μ H x H' r s lv hi hy => ?_, fun i μ H r s lv hi => ?_⟩
    · obtain ⟨ys, h1, h2⟩ := at_ μ H r s lv
      have hi' : i < (enumD ds).length := hi
      rw [enumD_len] at hi'
      have hl : i < ys.length := by rw [h2.length]; exact hi'
      exact ⟨ys, ys[i], h1, List.getElem?_eq_getElem hl⟩
    · obtain ⟨ys, h1, h2⟩ := at_ μ H r s lv
      obtain ⟨T, y, rfl, hT, rfl, h3⟩ := hy
      obtain ⟨d', h4, h5⟩ := h2.getV (h3 ys h1)
      obtain ⟨r2, s2, e2⟩ := r.alloc hT (.tup [.int (i : Nat), y])
      exact ⟨_, enumD_at h4, r2, s2, .tup e2 (.cons (.int _) (.cons (h5.same s2.same) .nil))⟩
    · obtain ⟨ys, h1, h2⟩ := at_ μ H r s lv
      have hi' : (enumD ds).length ≤ i := hi
      rw [enumD_len] at hi'
      exact ⟨ys, h1, by rw [h2.length]; exact hi'⟩⟩
end

/-! ### comprehensions -/
def wipeD (ρ : EnvD) : List Nat → EnvD
  | [] => ρ
  | v :: vs => (wipeD ρ vs).set v none
theorem wipeD_length (ρ : EnvD) : ∀ vs : List Nat, (wipeD ρ vs).length = ρ.length
  | [] => rfl
  | v :: vs => by unfold wipeD; rw [List.length_set, wipeD_length ρ vs]
theorem wipe_get {σ : L2.St} {j : Nat} : ∀ {vs : List Nat}, j ∉ vs → (wipe σ vs)[j]? = σ[j]?
  | [], _ => rfl
  | v :: vs, h => by
    rw [List.mem_cons, not_or] at h
    unfold wipe
    rw [List.getElem?_set_ne (fun z => h.1 z.symm)]
    exact wipe_get h.2
theorem wipe_in {σ : L2.St} {j : Nat} : ∀ {vs : List Nat}, j ∈ vs → j < σ.length → (wipe σ vs)[j]? = some none
  | v :: vs, h, hl => by
    unfold wipe
    by_cases e : v = j
    · subst e
      rw [List.getElem?_set_self (by rw [wipe_length]; exact hl)]
    · rw [List.getElem?_set_ne e]
      rcases List.mem_cons.mp h with h | h
      · exact absurd h.symm e
      · exact wipe_in h hl
theorem wipeD_some {ρ : EnvD} {i : Nat} {x : D} : ∀ {vs : List Nat}, (wipeD ρ vs)[i]? = some (some x) → ρ[i]? = some (some x) ∧ i ∉ vs
  | [], h => ⟨h, by simp⟩
  | v :: vs, h => by
    unfold wipeD at h
    by_cases hi : v = i
    · subst hi
      by_cases hv : v < (wipeD ρ vs).length
      · rw [List.getElem?_set_self hv] at h; cases h
      · rw [List.getElem?_eq_none (by simpa using hv)] at h; cases h
    · rw [List.getElem?_set_ne hi] at h
      obtain ⟨h1, h2⟩ := wipeD_some h
      exact ⟨h1, by simp only [List.mem_cons, not_or]; exact ⟨fun e => hi e.symm, h2⟩⟩
theorem Rel.wipe {k : KW} {Z : Addr → Prop} {ρ : EnvD} {μ : Mu} {σ : L2.St} {H : Hp} (r : Rel k Z ρ μ σ H) (vs : List Nat) : Rel k Z (wipeD ρ vs) μ (L2.wipe σ vs) H := by
  refine ⟨r.rl, by rw [wipeD_length, wipe_length]; exact r.len, fun i d e => ?_⟩
  obtain ⟨h1, h2⟩ := wipeD_some e
  obtain ⟨v, h3, h4⟩ := r.slot i d h1
  exact ⟨v, by rw [wipe_get h2]; exact h3, h4⟩
theorem wipe_back {σ σ2 : L2.St} {vs us : List Nat} (h : ∀ j, j ∉ us → σ2[j]? = (wipe σ vs)[j]?) (hl : σ2.length = (wipe σ vs).length) (hu : ∀ j ∈ us, j ∈ vs) : wipe σ2 vs = wipe σ vs := by
  apply List.ext_getElem?
  intro j
  rw [wipe_length] at hl
  by_cases hj : j ∈ vs
  · by_cases hlt : j < σ.length
    · rw [wipe_in hj (by rw [hl]; exact hlt), wipe_in hj hlt]
    · rw [List.getElem?_eq_none (by rw [wipe_length]; omega), List.getElem?_eq_none (by rw [wipe_length]; omega)]
  · rw [wipe_get hj, h j fun z => hj (hu j z)]
structure PTsD (X : Cx) (ifs : List Expr) (td : TTD) : Prop where
  ok : PTs X ifs (liftT (kw X) td)
def dYes : TTD := fun _ μ Q => Q true μ
section
variable {X : Cx}
theorem ptsd_nil : PTsD X [] dYes := ⟨⟨fun pins s σ H Q I ⟨Z, ρ, μ, Q0, rel, q, f⟩ => pts_nil.run pins s σ H Q I (f true μ H q rel.rl Stp.refl)⟩⟩
theorem ptsd_one {c : Expr} {t : TTD} (h : PTD X c t) : PTsD X [c] t := ⟨pts_one h.ok⟩
/-- W: by the turn, the items made so far, and what may change -/
def dLc (wi : TID) (g : TGD) (tt : TTD) (te : TD) (vs : List Nat) : TD := fun ρ μ Q => wi ρ μ fun it μ1 => it.items.length ≤ sizeLine ∧ ∃ W : Nat → List D → Mu → Prop, W 0 [] μ1 ∧
  (∀ i acc μ x, it.items[i]? = some x → W i acc μ → it.live μ ∧ g x (wipeD ρ vs) μ fun ρ2 μ2 => tt ρ2 μ2 fun b μ3 => if b = true then te ρ2 μ3 fun y μ4 => W (i + 1) (acc ++ [y]) μ4 else W (i + 1) acc μ3) ∧
  (∀ acc μ, W it.items.length acc μ → it.live μ ∧ Q (.lst acc) μ)
/-- .. the new list will change -/
def dLcN (wi : TID) (g : TGD) (tt : TTD) (te : TD) (vs : List Nat) : TD := fun ρ μ Q => wi ρ μ fun it μ1 => it.items.length ≤ sizeLine ∧ ∃ W : Nat → List D → Mu → Prop, W 0 [] μ1 ∧
  (∀ i acc μ x, it.items[i]? = some x → W i acc μ → it.live μ ∧ g x (wipeD ρ vs) μ fun ρ2 μ2 => tt ρ2 μ2 fun b μ3 => if b = true then te ρ2 μ3 fun y μ4 => W (i + 1) (acc ++ [y]) μ4 else W (i + 1) acc μ3) ∧
  (∀ acc μ, W it.items.length acc μ → it.live μ ∧ ∀ p, μ p = none → Q (.adr p) (updM μ p (.lst acc)))
theorem lc_s {k : KW} {wi : TID} {g : TGD} {tt : TTD} {te : TD} {vs us : List Nat} (hu : ∀ j ∈ us, j ∈ vs) (N : Bool) {σ : L2.St} {H : Hp} {Q : VK} (h : lift k (if N then dLcN wi g tt te vs else dLc wi g tt te vs) σ H Q) :
    tLc (liftI k wi) (liftG k us g) (liftT k tt) (lift k te) vs σ H Q := by
  obtain ⟨Z, ρ, μ, Q0, rel, q, f⟩ := h
  have q : wi ρ μ fun it μ1 => it.items.length ≤ sizeLine ∧ ∃ W : Nat → List D → Mu → Prop, W 0 [] μ1 ∧
      (∀ i acc μ x, it.items[i]? = some x → W i acc μ → it.live μ ∧ g x (wipeD ρ vs) μ fun ρ2 μ2 => tt ρ2 μ2 fun b μ3 => if b = true then te ρ2 μ3 fun y μ4 => W (i + 1) (acc ++ [y]) μ4 else W (i + 1) acc μ3) ∧
      (∀ acc μ, W it.items.length acc μ → it.live μ ∧ if N = true then ∀ p, μ p = none → Q0 (.adr p) (updM μ p (.lst acc)) else Q0 (.lst acc) μ) := by
    cases N with
    | true => exact q
    | false => exact q
  refine ⟨Z, ρ, μ, _, rel, q, fun it μ1 J H1 ⟨hz, W, w0, turn, fin⟩ rl1 s1 ok0 => ?_⟩
  intro Dd hD
  obtain ⟨zD, mD⟩ := rl1.free hD
  obtain ⟨rlA, sA, eA⟩ := rl1.alloc hD (.lst [])
  -- the new list is hidden while the block runs
  have hideR : ∀ (μ : Mu) (H : Hp) (vs : List V), RlK k (fun b => Z b ∨ b = Dd) μ H → ∀ vs', RlK k (fun b => Z b ∨ b = Dd) μ (upd H Dd (.lst vs')) := fun μ H _ r vs' => by
    have sm : msk (fun b => Z b ∨ b = Dd) μ (upd H Dd (.lst vs')) = msk (fun b => Z b ∨ b = Dd) μ H := by
      funext b
      by_cases hb : b = Dd
      · subst hb
        unfold msk
        rw [if_pos (.inl (.inr rfl)), if_pos (.inl (.inr rfl))]
      · unfold msk
        rw [upd_ne hb]
    refine ⟨fun a m e => ?_, r.dis, fun a z => ?_⟩
    · have ne : a ≠ Dd := fun q => by rw [r.dis a (.inr q)] at e; cases e
      exact (r.mu a m e).mono (by rw [sm]; exact Same.refl _) (upd_ne ne)
    · by_cases hb : a = Dd
      · subst hb
        rw [upd_same]
        exact fun z => nomatch z
      · rw [upd_ne hb]
        exact r.occ a z
  have rl0 : RlK k (fun b => Z b ∨ b = Dd) μ1 (upd H1 Dd (.lst [])) := by
    refine ⟨fun a m e => ?_, fun a z => ?_, fun a z => ?_⟩
    · have ne : a ≠ Dd := fun q => by rw [q, mD] at e; cases e
      refine (rl1.mu a m e).mono (fun b o eb => ?_) (upd_ne ne)
      obtain ⟨h1, h2, h3⟩ := msk_some eb
      have nb : b ≠ Dd := fun q => by rw [q, hD] at h3; cases h3
      rw [msk_in (fun z => z.elim h1 nb) h2, upd_ne nb]
      exact h3
    · rcases z with z | z
      · exact rl1.dis a z
      · rw [z]; exact mD
    · rcases z with z | z
      · have ne : a ≠ Dd := fun q => zD (q ▸ z)
        rw [upd_ne ne]
        exact rl1.occ a z
      · rw [z, upd_same]
        exact fun z => nomatch z
  have sA' : Stp Z μ1 H1 μ1 (upd H1 Dd (.lst [])) := sA
  have ok : ItOk k (fun b => Z b ∨ b = Dd) J it μ1 (upd H1 Dd (.lst [])) := ok0 (fun b => b = Dd) μ1 _ rl0 sA fun b hb => by rw [hb]; exact hD
  -- from the hidden step to the step ahead of it
  have back : ∀ μ2 H2, Stp (fun b => Z b ∨ b = Dd) μ1 (upd H1 Dd (.lst [])) μ2 H2 → Stp Z μ1 H1 μ2 H2 ∨ True := fun _ _ _ => .inr trivial
  refine ⟨fun i m H => m = it.items.length - i ∧ i ≤ it.items.length ∧ ∃ μ acc vs Hh, RlK k (fun b => Z b ∨ b = Dd) μ H ∧ H = upd Hh Dd (.lst vs) ∧ Stp (fun b => Z b ∨ b = Dd) μ1 (upd H1 Dd (.lst [])) μ (upd Hh Dd (.lst [])) ∧
    IsAllK k (msk (fun b => Z b ∨ b = Dd) μ H) vs acc ∧ acc.length ≤ i ∧ W i acc μ, ⟨_, rfl, Nat.zero_le _, μ1, [], [], upd H1 Dd (.lst []), rl0, (upd_upd).symm, by rw [upd_upd]; exact Stp.refl, .nil, Nat.zero_le _, w0⟩, ?_⟩
  rintro i m H2 ⟨rfl, hle, μ2, acc, ws, Hh, rl2, eH, st2, ia2, la2, w2⟩
  have hD2 : H2 Dd = some (.lst ws) := by rw [eH, upd_same]
  -- the step with the list as it stands
  have swap : ∀ (xs ys : List V) (μ : Mu) (H : Hp), Stp (fun b => Z b ∨ b = Dd) μ1 (upd H1 Dd (.lst [])) μ (upd H Dd (.lst [])) → Same (msk (fun b => Z b ∨ b = Dd) μ1 (upd H1 Dd (.lst []))) (msk (fun b => Z b ∨ b = Dd) μ (upd H Dd (.lst xs))) := fun xs ys μ H s b o e => by
    have h := s.same b o e
    obtain ⟨h1, h2, h3⟩ := msk_some h
    have nb : b ≠ Dd := fun q => h1 (.inr q)
    rw [upd_ne nb] at h3
    rw [msk_in h1 h2, upd_ne nb]
    exact h3
  -- the iterator's word, with the list at Dd as it stands: at a base whose list is the same
  have ok2 : ItOk k (fun b => Z b ∨ b = Dd) J it μ2 H2 := ok0 (fun b => b = Dd) μ2 H2 rl2 (by
    refine ⟨fun b o e => ?_, fun a z => ?_⟩
    · have h := st2.same b o (by
        obtain ⟨h1, h2, h3⟩ := msk_some e
        have nb : b ≠ Dd := fun q => by rw [q, hD] at h3; cases h3
        rw [msk_in (fun z => z.elim h1 nb) h2, upd_ne nb]
        exact h3)
      obtain ⟨h1, h2, h3⟩ := msk_some h
      have nb : b ≠ Dd := fun q => h1 (.inr q)
      rw [upd_ne nb] at h3
      rw [msk_in (fun z => h1 (.inl z)) h2, eH, upd_ne nb]
      exact h3
    · have ne : a ≠ Dd := fun q => zD (q ▸ z)
      have h := st2.hid a (.inl z)
      rw [upd_ne ne, upd_ne ne] at h
      rw [eH, upd_ne ne]
      exact h) fun b hb => by rw [hb]; exact hD
  by_cases hlt : i < it.items.length
  · have hx := List.getElem?_eq_getElem hlt
    obtain ⟨lv, step⟩ := turn i acc μ2 _ hx w2
    refine .inr ⟨ok2.go i μ2 H2 rl2 Stp.refl lv hlt, _, fun H' n => ⟨it.items.length - (i + 1), by omega, rfl, hlt, n⟩, fun x H3 hy => ?_⟩
    obtain ⟨d, hd, rl3, s3, i3⟩ := ok2.yld i μ2 H2 x H3 rl2 Stp.refl lv hlt hy
    rw [hx] at hd
    cases hd
    -- the slots
    have relW : Rel k (fun b => Z b ∨ b = Dd) (wipeD ρ vs) μ2 (L2.wipe σ vs) H3 := by
      have r0 : Rel k (fun b => Z b ∨ b = Dd) ρ μ2 σ H3 := by
        refine ⟨rl3, rel.len, fun j e he => ?_⟩
        obtain ⟨v, h1, h2⟩ := rel.slot j e he
        refine ⟨v, h1, h2.same fun b o eb => ?_⟩
        refine s3.same b o ?_
        have h := s1.same b o eb
        obtain ⟨h1, h2, h3⟩ := msk_some h
        have nb : b ≠ Dd := fun q => by rw [q, hD] at h3; cases h3
        rw [eH]
        refine swap ws [] μ2 Hh st2 b o ?_
        rw [msk_in (fun z => z.elim h1 nb) h2, upd_ne nb]
        exact h3
      exact r0.wipe vs
    have D3 : H3 Dd = some (.lst ws) := by rw [s3.hid Dd (.inr rfl)]; exact hD2
    refine ⟨_, _, _, _, _, relW, i3, step, fun ρ4 μ4 σ4 H4 q4 rel4 s4 n4 l4 => ⟨wipe_back n4 l4 hu, ?_⟩⟩
    refine ⟨_, ρ4, μ4, _, rel4, q4, fun b μ5 H5 q5 rl5 s5 => ?_⟩
    have s25 := (s3.trans s4).trans s5
    have D5 : H5 Dd = some (.lst ws) := by rw [s25.hid Dd (.inr rfl)]; exact hD2
    have stp_to : ∀ μ H (xs : List V), H Dd = some (.lst xs) → Stp (fun b => Z b ∨ b = Dd) μ2 H2 μ H → Stp (fun b => Z b ∨ b = Dd) μ1 (upd H1 Dd (.lst [])) μ (upd H Dd (.lst [])) := fun μ H xs eD s => by
      refine ⟨fun b o e => ?_, fun a z => ?_⟩
      · have h := st2.same b o e
        obtain ⟨h1, h2, h3⟩ := msk_some h
        have nb : b ≠ Dd := fun q => h1 (.inr q)
        have h' := s.same b o (by rw [msk_in h1 h2, eH, upd_ne nb]; rw [upd_ne nb] at h3; exact h3)
        obtain ⟨h4, h5, h6⟩ := msk_some h'
        rw [msk_in h4 h5, upd_ne nb]
        exact h6
      · by_cases ne : a = Dd
        · rw [ne, upd_same, upd_same]
        · have h := st2.hid a z
          have h' := s.hid a z
          rw [upd_ne ne] at h ⊢
          rw [upd_ne ne] at h ⊢
          rw [eH, upd_ne ne] at h'
          exact h'.trans h
    have self_upd : ∀ (H : Hp) (xs : List V), H Dd = some (.lst xs) → H = upd H Dd (.lst xs) := fun H xs e => by
      funext b
      by_cases hb : b = Dd
      · rw [hb, upd_same, e]
      · rw [upd_ne hb]
    cases b with
    | true =>
      refine ⟨_, ρ4, μ5, _, rel4.step s5 rl5, q5, fun y μ6 v H6 q6 rl6 s6 i6 => ?_⟩
      have s26 := s25.trans s6
      have D6 : H6 Dd = some (.lst ws) := by rw [s26.hid Dd (.inr rfl)]; exact hD2
      have la : ws.length = acc.length := ia2.length
      refine ⟨ws, D6, by omega, μ6, acc ++ [y], ws ++ [v], H6, hideR μ6 H6 ws rl6 _, rfl, stp_to μ6 H6 ws D6 s26, ?_, by rw [List.length_append]; simp; omega, q6⟩
      have sm : Same (msk (fun b => Z b ∨ b = Dd) μ6 H6) (msk (fun b => Z b ∨ b = Dd) μ6 (upd H6 Dd (.lst (ws ++ [v])))) := fun b o e => by
        obtain ⟨h1, h2, h3⟩ := msk_some e
        rw [msk_in h1 h2, upd_ne fun q => h1 (.inr q)]
        exact h3
      exact ((ia2.same s26.same).append (.cons i6 .nil)).same sm
    | false =>
      exact ⟨μ5, acc, ws, H5, rl5, self_upd H5 ws D5, stp_to μ5 H5 ws D5 s25, ia2.same s25.same, by omega, q5⟩
  · have e : i = it.items.length := by omega
    subst e
    obtain ⟨lv, n⟩ := fin acc μ2 w2
    refine .inl ⟨ok2.stop _ μ2 H2 rl2 Stp.refl lv (Nat.le_refl _), ?_⟩
    have rlZ : RlK k Z μ2 H2 := by
      refine ⟨fun a m e => (rl2.mu a m e).mono (fun b o eb => ?_) rfl, fun a z => rl2.dis a (.inl z), fun a z => rl2.occ a (.inl z)⟩
      obtain ⟨h1, h2, h3⟩ := msk_some eb
      rw [msk_in (fun z => h1 (.inl z)) h2]
      exact h3
    have sZ : Stp Z μ1 H1 μ2 H2 := by
      refine ⟨fun b o e => ?_, fun a z => ?_⟩
      · obtain ⟨h1, h2, h3⟩ := msk_some e
        have nb : b ≠ Dd := fun q => by rw [q, hD] at h3; cases h3
        have h := st2.same b o (by
          rw [msk_in (fun z => z.elim h1 nb) h2, upd_ne nb]
          exact h3)
        obtain ⟨h4, h5, h6⟩ := msk_some h
        rw [upd_ne nb] at h6
        rw [msk_in h1 h5, eH, upd_ne nb]
        exact h6
      · have ne : a ≠ Dd := fun q => zD (q ▸ z)
        have h := st2.hid a (.inl z)
        rw [upd_ne ne, upd_ne ne] at h
        rw [eH, upd_ne ne]
        exact h
    have smZ : Same (msk (fun b => Z b ∨ b = Dd) μ2 H2) (msk Z μ2 H2) := fun b o e => by
      obtain ⟨h1, h2, h3⟩ := msk_some e
      rw [msk_in (fun z => h1 (.inl z)) h2]
      exact h3
    have mD2 : μ2 Dd = none := rl2.dis Dd (.inr rfl)
    cases N with
    | false => exact f _ μ2 _ H2 n rlZ (s1.trans sZ) (.lst (by rw [msk_in zD mD2]; exact hD2) (ia2.same smZ))
    | true =>
      -- the list is given to what may change
      have rlN : RlK k Z (updM μ2 Dd (.lst acc)) H2 := by
        have sm : Same (msk (fun b => Z b ∨ b = Dd) μ2 H2) (msk Z (updM μ2 Dd (.lst acc)) H2) := fun b o e => by
          obtain ⟨h1, h2, h3⟩ := msk_some e
          have nb : b ≠ Dd := fun q => h1 (.inr q)
          rw [msk_in (fun z => h1 (.inl z)) (by rw [updM_ne nb]; exact h2)]
          exact h3
        refine ⟨fun a m e => ?_, fun a z => ?_, fun a z => rl2.occ a (.inl z)⟩
        · by_cases ne : a = Dd
          · subst ne
            rw [updM_same] at e
            cases e
            exact ⟨ws, hD2, ia2.same sm⟩
          · rw [updM_ne ne] at e
            exact (rl2.mu a m e).mono sm rfl
        · have ne : a ≠ Dd := fun q => zD (q ▸ z)
          rw [updM_ne ne]
          exact rl2.dis a (.inl z)
      have sN : Stp Z μ1 H1 (updM μ2 Dd (.lst acc)) H2 := by
        refine ⟨fun b o e => ?_, sZ.hid⟩
        obtain ⟨h1, h2, h3⟩ := msk_some e
        have nb : b ≠ Dd := fun q => by rw [q, hD] at h3; cases h3
        obtain ⟨h4, h5, h6⟩ := msk_some (sZ.same b o e)
        rw [msk_in h4 (by rw [updM_ne nb]; exact h5)]
        exact h6
      exact f _ _ _ H2 (n Dd mD2) rlN (s1.trans sN) (.adr Dd)
end
end Zd


set_option Elab.async false
set_option linter.all false
set_option maxRecDepth 100000
set_option maxHeartbeats 2000000
namespace Zd
open PySem PySem.Spec PyProof.Rows L2

section
variable {X : Cx}
theorem pd_lc {elt tg iter : Expr} {ifs : List Expr} {scope : Scope} {own : List (Str × Nat)} {pos : Pos} {wi : TID} {g : TGD} {tt : TTD} {te : TD} {us : List Nat} (hc : X.calm = true) (hN : X.N.Nodup) (hi : PID X tg iter wi) (ok : BlkOk X.N X.env.scope scope own)
    (hg : ∀ (s : Shared) (H : Hp) (C : Addr) (cl : List (Str × Addr)) (fp : List Addr), PGD (X.blk s H scope (compEnvC scope cl C X.env) fp) us tg g) (ht : ∀ (s : Shared) (H : Hp) (C : Addr) (cl : List (Str × Addr)) (fp : List Addr), PTsD (X.blk s H scope (compEnvC scope cl C X.env) fp) ifs tt)
    (he : ∀ (s : Shared) (H : Hp) (C : Addr) (cl : List (Str × Addr)) (fp : List Addr), PD (X.blk s H scope (compEnvC scope cl C X.env) fp) elt te) (hu : ∀ j ∈ us, j ∈ own.map (·.2) := by decide) (hs : ∀ x, foldedSetIterable iter X.env x = pure x := by intro _; rfl) :
    PD X (.ListComp elt [⟨tg, iter, ifs, 0⟩] scope pos) (dLc wi g tt te (own.map (·.2))) :=
  ⟨PE.cq (pe_lc hc hN hi.ok ok (fun s H C cl fp => (hg s H C cl fp).ok) (fun s H C cl fp => (ht s H C cl fp).ok) (fun s H C cl fp => (he s H C cl fp).ok) hs) fun σ H Q h => lc_s (k := kw X) hu false h⟩
theorem pd_lcN {elt tg iter : Expr} {ifs : List Expr} {scope : Scope} {own : List (Str × Nat)} {pos : Pos} {wi : TID} {g : TGD} {tt : TTD} {te : TD} {us : List Nat} (hc : X.calm = true) (hN : X.N.Nodup) (hi : PID X tg iter wi) (ok : BlkOk X.N X.env.scope scope own)
    (hg : ∀ (s : Shared) (H : Hp) (C : Addr) (cl : List (Str × Addr)) (fp : List Addr), PGD (X.blk s H scope (compEnvC scope cl C X.env) fp) us tg g) (ht : ∀ (s : Shared) (H : Hp) (C : Addr) (cl : List (Str × Addr)) (fp : List Addr), PTsD (X.blk s H scope (compEnvC scope cl C X.env) fp) ifs tt)
    (he : ∀ (s : Shared) (H : Hp) (C : Addr) (cl : List (Str × Addr)) (fp : List Addr), PD (X.blk s H scope (compEnvC scope cl C X.env) fp) elt te) (hu : ∀ j ∈ us, j ∈ own.map (·.2) := by decide) (hs : ∀ x, foldedSetIterable iter X.env x = pure x := by intro _; rfl) :
    PD X (.ListComp elt [⟨tg, iter, ifs, 0⟩] scope pos) (dLcN wi g tt te (own.map (·.2))) :=
  ⟨PE.cq (pe_lc hc hN hi.ok ok (fun s H C cl fp => (hg s H C cl fp).ok) (fun s H C cl fp => (ht s H C cl fp).ok) (fun s H C cl fp => (he s H C cl fp).ok) hs) fun σ H Q h => lc_s (k := kw X) hu true h⟩
/-- name = [..] on one line -/
theorem psd_setLcB (N : Bool) {i : Nat} {y : Str} {py : Pos} {elt tg iter : Expr} {ifs : List Expr} {scope : Scope} {own : List (Str × Nat)} {pos spos : Pos} {wi : TID} {g : TGD} {tt : TTD} {te : TD} {us : List Nat} (hc : X.calm = true) (hN : X.N.Nodup) (hy : X.N[i]? = some y) (hyl : X.env.scope.names.lookup y = some .local)
    (hsw : swapsWith (.ListComp elt [⟨tg, iter, ifs, 0⟩] scope pos) (some (.Name y py)) spos.line X.env = pure true) (hi : PID X tg iter wi) (ok : BlkOk X.N X.env.scope scope own)
    (hg : ∀ (s : Shared) (H : Hp) (C : Addr) (cl : List (Str × Addr)) (fp : List Addr), PGD (X.blk s H scope (compEnvC scope cl C X.env) fp) us tg g) (ht : ∀ (s : Shared) (H : Hp) (C : Addr) (cl : List (Str × Addr)) (fp : List Addr), PTsD (X.blk s H scope (compEnvC scope cl C X.env) fp) ifs tt)
    (he : ∀ (s : Shared) (H : Hp) (C : Addr) (cl : List (Str × Addr)) (fp : List Addr), PD (X.blk s H scope (compEnvC scope cl C X.env) fp) elt te) (hu : ∀ j ∈ us, j ∈ own.map (·.2) := by decide) (hs : ∀ x, foldedSetIterable iter X.env x = pure x := by intro _; rfl) :
    PSD X (.Assign [.Name y py] (.ListComp elt [⟨tg, iter, ifs, 0⟩] scope pos) spos) (dSet i (if N then dLcN wi g tt te (own.map (·.2)) else dLc wi g tt te (own.map (·.2)))) :=
  ⟨PS.cq (ps_setLc hc hN hy hyl hsw hi.ok ok (fun s H C cl fp => (hg s H C cl fp).ok) (fun s H C cl fp => (ht s H C cl fp).ok) (fun s H C cl fp => (he s H C cl fp).ok) hs) fun D σ H h => by
    have h2 := set_s h
    exact lc_s (k := kw X) hu N h2⟩
end

/-! ### what changed becomes what does not -/
def eraM (μ : Mu) (a : Addr) : Mu := fun b => if b = a then none else μ b
theorem eraM_upd {μ : Mu} {a : Addr} {m : MO} (h : μ a = none) : eraM (updM μ a m) a = μ := by
  funext b
  unfold eraM updM
  by_cases e : b = a
  · rw [if_pos e, e, h]
  · rw [if_neg e, if_neg e]
theorem eraM_ne {μ : Mu} {a b : Addr} (h : b ≠ a) : eraM μ a b = μ b := by unfold eraM; rw [if_neg h]
theorem eraM_same {μ : Mu} {a : Addr} : eraM μ a a = none := by unfold eraM; rw [if_pos rfl]
def SubM (μ' μ : Mu) : Prop := ∀ a m, μ' a = some m → μ a = some m
mutual
inductive Fz (μ μ' : Mu) : D → D → Prop
  | refl (d : D) : Fz μ μ' d d
  | lst {a : Addr} {ds es : List D} : μ a = some (.lst ds) → μ' a = none → FzAll μ μ' ds es → Fz μ μ' (.adr a) (.lst es)
  | dct {a : Addr} {kvs : List (Key × D)} {es : List D} : μ a = some (.dct kvs) → μ' a = none → FzAll μ μ' (kvs.map (·.2)) es → Fz μ μ' (.adr a) (.dct (kvs.map (·.1)) es)
  | ins {a C : Addr} {fs : List (Str × D)} {es : List D} : μ a = some (.ins C fs) → μ' a = none → FzAll μ μ' (fs.map (·.2)) es → Fz μ μ' (.adr a) (.ins C (fs.map (·.1)) es)
  | tup {ds es : List D} : FzAll μ μ' ds es → Fz μ μ' (.tup ds) (.tup es)
inductive FzAll (μ μ' : Mu) : List D → List D → Prop
  | nil : FzAll μ μ' [] []
  | cons {d e : D} {ds es : List D} : Fz μ μ' d e → FzAll μ μ' ds es → FzAll μ μ' (d :: ds) (e :: es)
end
theorem FzAll.refl {μ μ' : Mu} : ∀ ds : List D, FzAll μ μ' ds ds
  | [] => .nil
  | d :: ds => .cons (.refl d) (FzAll.refl ds)
section
variable {k : KW} {Z : Addr → Prop} {μ μ' : Mu} {H : Hp}
theorem sub_same (s : SubM μ' μ) : Same (msk Z μ H) (msk Z μ' H) := fun b o e => by
  obtain ⟨h1, h2, h3⟩ := msk_some e
  rw [msk_in h1]
  · exact h3
  · cases q : μ' b with
    | none => rfl
    | some m => rw [s b m q] at h2; cases h2
theorem sub_rl (r : RlK k Z μ H) (s : SubM μ' μ) : RlK k Z μ' H :=
  ⟨fun a m e => (r.mu a m (s a m e)).mono (sub_same s) rfl, fun a z => by
    cases q : μ' a with
    | none => rfl
    | some m => rw [← s a m q]; exact r.dis a z, r.occ⟩
theorem sub_stp (s : SubM μ' μ) : Stp Z μ H μ' H := ⟨sub_same s, fun _ _ => rfl⟩
theorem kvd_keys {κ : Type} {P : Program} {w : World} {K : PySem.W.Frag} {G : Hp} : ∀ {kvv : List (κ × V)} {kvs : List (κ × D)}, KVD P w K G kvv kvs → kvv.map (·.1) = kvs.map (·.1) ∧ IsAll P w K G (kvv.map (·.2)) (kvs.map (·.2))
  | _, _, .nil => ⟨rfl, .nil⟩
  | _, _, .cons r t => by
    obtain ⟨h1, h2⟩ := kvd_keys t
    exact ⟨by rw [List.map_cons, List.map_cons, r.1, h1], .cons r.2 h2⟩
theorem zip_split {κ : Type} {α : Type} : ∀ (l : List (κ × α)), (l.map (·.1)).zip (l.map (·.2)) = l
  | [] => rfl
  | (a, b) :: l => by rw [List.map_cons, List.map_cons, List.zip_cons_cons, zip_split l]
mutual
theorem Fz.is (r : RlK k Z μ H) (s : SubM μ' μ) : ∀ {v : V} {d e : D}, Fz μ μ' d e → IsK k (msk Z μ H) v d → IsK k (msk Z μ' H) v e
  | _, _, _, .refl d, i => i.same (sub_same s)
  | _, _, _, .lst (a := a) h h' t, i => by
    cases i
    obtain ⟨vs, e, q⟩ := r.mu a _ h
    have nz : ¬ Z a := fun z => by rw [r.dis a z] at h; cases h
    exact .lst (by rw [msk_in nz h']; exact e) (FzAll.is r s t q)
  | _, _, _, .dct (a := a) h h' t, i => by
    cases i
    obtain ⟨kvv, e, q⟩ := r.mu a _ h
    have nz : ¬ Z a := fun z => by rw [r.dis a z] at h; cases h
    obtain ⟨q1, q2⟩ := kvd_keys q
    refine .dct (vs := kvv.map (·.2)) (by rw [msk_in nz h', ← q1, zip_split]; exact e) (by rw [← q1, List.length_map, List.length_map]) (FzAll.is r s t q2)
  | _, _, _, .ins (a := a) h h' t, i => by
    cases i
    obtain ⟨dx, kvv, e, q⟩ := r.mu a _ h
    have nz : ¬ Z a := fun z => by rw [r.dis a z] at h; cases h
    obtain ⟨q1, q2⟩ := kvd_keys q
    refine .ins (vs := kvv.map (·.2)) (by rw [msk_in nz h', ← q1, zip_split]; exact e) (by rw [← q1, List.length_map, List.length_map]) (FzAll.is r s t q2)
  | _, _, _, .tup t, i => by
    cases i with
    | tup h q => exact .tup (sub_same s _ _ h) (FzAll.is r s t q)
theorem FzAll.is (r : RlK k Z μ H) (s : SubM μ' μ) : ∀ {vs : List V} {ds es : List D}, FzAll μ μ' ds es → IsAllK k (msk Z μ H) vs ds → IsAllK k (msk Z μ' H) vs es
  | _, _, _, .nil, i => by cases i; exact .nil
  | _, _, _, .cons h t, i => by
    cases i with
    | cons j q => exact .cons (Fz.is r s h j) (FzAll.is r s t q)
end
/-- behind a def: what it made may be handed out as what does not change -/
def RT (Q : QD) : QD := fun d μ => ∃ e μ', SubM μ' μ ∧ Fz μ μ' d e ∧ Q e μ'
theorem RT.one {Q : QD} {d : D} {μ : Mu} (h : Q d μ) : RT Q d μ := ⟨d, μ, fun _ _ e => e, .refl d, h⟩
/-- slots whose objects change no more -/
def FzE (μ μ' : Mu) (ρ ρ' : EnvD) : Prop := ρ.length = ρ'.length ∧ ∀ (i : Nat) (e : D), ρ'[i]? = some (some e) → ∃ d, ρ[i]? = some (some d) ∧ Fz μ μ' d e
theorem FzE.rel {ρ ρ' : EnvD} {σ : L2.St} (f : FzE μ μ' ρ ρ') (s : SubM μ' μ) (r : Rel k Z ρ μ σ H) : Rel k Z ρ' μ' σ H := by
  refine ⟨sub_rl r.rl s, by rw [← f.1]; exact r.len, fun i e h => ?_⟩
  obtain ⟨d, h1, h2⟩ := f.2 i e h
  obtain ⟨v, h3, h4⟩ := r.slot i d h1
  exact ⟨v, h3, h2.is r.rl s h4⟩
def dFz (t : TSD) : TSD := fun D ρ μ => ∃ ρ' μ', SubM μ' μ ∧ FzE μ μ' ρ ρ' ∧ t D ρ' μ'
theorem pssd_fz {X : Cx} {st : List Stmt} {t : TSD} (h : PSsD X st t) : PSsD X st (dFz t) := ⟨PSs.cq h.ok fun D σ H ⟨Z, μb, Hb, ρ, μ, DD, rel, s, ⟨ρ', μ', hs, hf, q⟩, c⟩ =>
  ⟨Z, μb, Hb, ρ', μ', DD, hf.rel hs rel, s.trans (sub_stp hs), q, c⟩⟩
theorem FzE.refl' {ρ : EnvD} : FzE μ μ' ρ ρ := ⟨rfl, fun i e h => ⟨e, h, .refl e⟩⟩
end

/-! ### defs -/
abbrev SpD := List D → Mu → QD → Prop
def liftF (k : KW) (sp : SpD) : Sp := fun vs H Q _ => ∃ Z ds μ Q0, IsAllK k (msk Z μ H) vs ds ∧ RlK k Z μ H ∧ sp ds μ Q0 ∧ Fin k Z μ H Q0 Q
/-- the def at f keeps the promise sp, over data -/
def FnD (P : Program) (w : World) (K : PySem.W.Frag) (mg : Str → Option Value) (base : Heap) (j : Nat) (f : Addr) (fd : FuncData) (ps : List Str) (sp : SpD) : Prop := FnOk P w K mg base CX0 j f fd ps (liftF ⟨P, w, K⟩ sp)
def startD (N : List Str) (ds : List D) : EnvD := ds.map some ++ List.replicate (N.length - ds.length) none
theorem IsAll.start {k : KW} {Z : Addr → Prop} {μ : Mu} {H : Hp} {N : List Str} {vs : List V} {ds : List D} (r : RlK k Z μ H) (h : IsAllK k (msk Z μ H) vs ds) : Rel k Z (startD N ds) μ (L2.start N vs) H := by
  refine ⟨r, by unfold startD L2.start; simp [h.length], fun i d e => ?_⟩
  have hl := h.length
  unfold startD at e
  by_cases hi : i < ds.length
  · rw [List.getElem?_append_left (by rw [List.length_map]; exact hi), List.getElem?_map] at e
    cases q : ds[i]? with
    | none => rw [q] at e; cases e
    | some d' =>
      rw [q] at e
      cases e
      obtain ⟨v, h1, h2⟩ := h.get q
      refine ⟨v, ?_, h2⟩
      unfold L2.start
      rw [List.getElem?_append_left (by rw [List.length_map, hl]; exact hi), List.getElem?_map, h1]
      rfl
  · rw [List.getElem?_append_right (by rw [List.length_map]; omega), List.getElem?_replicate] at e
    split at e <;> cases e
section
variable {P : Program} {w : World} {K : PySem.W.Frag} {mg : Str → Option Value} {base : Heap}
theorem fnD {x qual : Str} {st : Stmt} {f : Addr} {fd : FuncData} {N ps : List Str} {j : Nat} {sp : SpD} (F : Fun K x qual st f fd) (S : FnScope N ps (defScope st)) (len : ∀ ds μ Q, sp ds μ Q → ds.length = ps.length)
    (hbody : ∀ (cdv : Value) (A : Around) (outer : List Env) (s : Shared) (H : Hp) (E : XK), Room j (A.deeper (envOfC qual (defScope st) s.heap.objs.size f cdv)) →
      ∃ td, PSsD (cxOf CX0 P w K mg base N qual (defScope st) f cdv A outer s H E).nox (defBody st) td ∧ ∀ ds μ Q, sp ds μ Q → td { nx := fun _ μ' => RT Q .non μ', rt := RT Q } (startD N ds) μ) : FnD P w K mg base (j + 1) f fd ps sp := by
  refine F.ok S (fun vs H Q E h => ?_) fun cdv A outer s H vs Q E hr h => ?_
  · obtain ⟨Z, ds, μ, Q0, i, r, q, _⟩ := h
    rw [i.length]
    exact len ds μ Q0 q
  · obtain ⟨td, h1, h2⟩ := hbody cdv A outer s H E hr
    obtain ⟨Z, ds, μ, Q0, i, r, q, f⟩ := h
    refine ⟨_, h1.ok, Z, μ, H, _, μ, _, i.start r, Stp.refl, h2 ds μ Q0 q, ⟨?_, ?_, fun _ _ _ _ z => z.elim, fun _ _ _ _ z => z.elim⟩⟩
    · rintro ρ' μ' σ' H' ⟨e, μ2, hs, hf, hq⟩ rel s'
      exact f e μ2 _ H' hq (sub_rl rel.rl hs) (s'.trans (sub_stp hs)) (hf.is rel.rl hs .non)
    · rintro d μ' v H' ⟨e, μ2, hs, hf, hq⟩ rl s' i'
      exact f e μ2 _ H' hq (sub_rl rl hs) (s'.trans (sub_stp hs)) (hf.is rl hs i')
theorem FnD.mono {j k : Nat} {f : Addr} {fd : FuncData} {ps : List Str} {sp : SpD} (F : FnD P w K mg base j f fd ps sp) (h : j ≤ k) : FnD P w K mg base k f fd ps sp := FnOk.mono F h
theorem FnD.imp {j : Nat} {f : Addr} {fd : FuncData} {ps : List Str} {sp sp' : SpD} (F : FnD P w K mg base j f fd ps sp) (h : ∀ ds μ Q, sp' ds μ Q → sp ds μ Q) : FnD P w K mg base j f fd ps sp' :=
  FnOk.imp F fun vs H Q E ⟨Z, ds, μ, Q0, a, b, c, d⟩ => ⟨Z, ds, μ, Q0, a, b, h _ _ _ c, d⟩
end
section
variable {X : Cx} {j : Nat} {f C : Addr} {fd : FuncData} {ps : List Str} {sp : SpD} {x m : Str} {p pos apos : Pos} {e o : Expr} {es : List Expr} {ta : TD} {t : TAD}
def dCall (sp : SpD) (t : TAD) : TD := fun ρ μ Q => t ρ μ fun ds μ1 => sp ds μ1 Q
theorem call_s {k : KW} {σ : L2.St} {H : Hp} {Q : VK} (h : lift k (dCall sp t) σ H Q) : tCall (liftF k sp) [] E0 (liftA k t) σ H Q := by
  obtain ⟨Z, ρ, μ, Q0, rel, q, f⟩ := h
  refine ⟨Z, ρ, μ, _, rel, q, fun ds μ1 vs H1 q1 rl1 s1 i1 => ?_⟩
  refine ⟨Z, ds, μ1, Q0, by rw [List.append_nil]; exact i1, rl1, q1, f.step s1⟩
theorem pd_call (F : FnD X.prog X.w X.K X.mg X.base j f fd ps sp) (hr : Room j X.A) (hg : Gl X x) (hm : X.mg x = some (.ref f)) (hk : PySem.W.keepIn X.K (.ref f) = true) (hb : Binds X.K fd ps [])
    (ha : PAD X (e :: es) t) (hdb : (x == ("__debug__" : Str)) = false := by decide) (he : starEach (e :: es) X.env = (false, eval e X.env) :: starEach es X.env := by rfl) (hpl : (backTo pos (starEach es X.env)).any (·.1) = false := by rfl) :
    PD X (.Call (.Name x p) (e :: es) [] pos) (dCall sp t) := ⟨PE.cq (pe_call F hr hg hm hk hb .nil pass0 ha.ok hdb he hpl) fun _ _ _ h => call_s h⟩
theorem pd_call0 (F : FnD X.prog X.w X.K X.mg X.base j f fd ps sp) (hr : Room j X.A) (hg : Gl X x) (hm : X.mg x = some (.ref f)) (hk : PySem.W.keepIn X.K (.ref f) = true) (hb : Binds X.K fd ps [])
    (hdb : (x == ("__debug__" : Str)) = false := by decide) : PD X (.Call (.Name x p) [] [] pos) (dCall sp dNil) := ⟨PE.cq (pe_call0 F hr hg hm hk hb .nil pass0 hdb) fun σ H Q h => by
  obtain ⟨Z, ρ, μ, Q0, rel, q, f⟩ := h
  exact ⟨Z, [], μ, Q0, .nil, rel.rl, q, f⟩⟩
/-- C(..): the new instance may change while __init__ runs, behind it no more -/
def dMake (C : Addr) (sp : SpD) (t : TAD) : TD := fun ρ μ Q => t ρ μ fun ds μ1 => ∀ x, μ1 x = none → sp (.adr x :: ds) (updM μ1 x (.ins C [])) fun d μ2 => d = .non ∧ ∃ fs, μ2 x = some (.ins C fs) ∧ Q (.ins C (fs.map (·.1)) (fs.map (·.2))) (eraM μ2 x)
theorem pd_make (M : Mk X.K C f) (F : FnD X.prog X.w X.K X.mg X.base j f fd ps sp) (hr : Room (j + 1) X.A) (hg : Gl X x) (hm : X.mg x = some (.ref C)) (hb : Binds X.K fd ps [])
    (ha : PAD X (e :: es) t) (hdb : (x == ("__debug__" : Str)) = false := by decide) (he : starEach (e :: es) X.env = (false, eval e X.env) :: starEach es X.env := by rfl) (hpl : (backTo pos (starEach es X.env)).any (·.1) = false := by rfl) :
    PD X (.Call (.Name x p) (e :: es) [] pos) (dMake C sp t) := ⟨PE.cq (pe_make M F hr hg hm hb .nil pass0 ha.ok hdb he hpl) fun σ H Q h => by
  obtain ⟨Z, ρ, μ, Q0, rel, q, f⟩ := h
  refine ⟨Z, ρ, μ, _, rel, q, fun ds μ1 vs H1 q1 rl1 s1 i1 => ?_⟩
  intro a dx na nd ne
  obtain ⟨rA, sA, eA⟩ := rl1.alloc nd (.own a)
  have na' : (upd H1 dx (.own a)) a = none := by rw [upd_ne (fun z => ne z.symm)]; exact na
  obtain ⟨rB, sB⟩ := rA.allocM na' (.ins C dx []) (.ins C []) ⟨dx, [], upd_same, .nil⟩
  have q2 := q1 a (rl1.free na).2
  have sAB := sA.trans sB
  rw [List.append_nil]
  refine ⟨Z, _, _, _, .cons (.adr a) (i1.same sAB.same), rB, q2, ?_⟩
  rintro d μ2 v H2 ⟨rfl, fs, e2, q3⟩ rl2 s2 i2
  cases i2
  refine ⟨rfl, ?_⟩
  have sub : SubM (eraM μ2 a) μ2 := fun b m e => by
    by_cases h : b = a
    · rw [h, eraM_same] at e
      cases e
    · rw [eraM_ne h] at e
      exact e
  exact f _ _ _ H2 q3 (sub_rl rl2 sub) (((s1.trans sAB).trans s2).trans (sub_stp sub)) (Fz.is rl2 sub (.ins e2 eraM_same (FzAll.refl _)) (.adr a))⟩
/-- o.f of an instance -/
def fldD (ns : List Str) (ds : List D) (f : Str) : Option D := (ns.zip ds).lookup f
def dFld (C : Addr) (te : TD) (f : Str) : TD := fun ρ μ Q => te ρ μ fun x μ1 => ∃ d, ((∃ ns ds, x = .ins C ns ds ∧ fldD ns ds f = some d) ∨ ∃ a fs, x = .adr a ∧ μ1 a = some (.ins C fs) ∧ fs.lookup f = some d) ∧ Q d μ1
theorem lookup_is {k : KW} {G : Hp} : ∀ {ns : List Str} {vs : List V} {ds : List D} {f : Str} {d : D}, IsAllK k G vs ds → ns.length = vs.length → (ns.zip ds).lookup f = some d → ∃ v, (ns.zip vs).lookup f = some v ∧ IsK k G v d
  | [], _, _, _, _, _, _, e => by simp at e
  | n :: ns, _, _, f, d, .cons h t, hl, e => by
    rw [List.zip_cons_cons, List.lookup_cons] at e
    rw [List.zip_cons_cons, List.lookup_cons]
    cases hb : f == n with
    | true =>
      rw [hb] at e
      cases e
      exact ⟨_, rfl, h⟩
    | false =>
      rw [hb] at e
      exact lookup_is t (by simpa using hl) e
  | n :: ns, _, _, _, _, .nil, hl, e => by simp at hl
theorem pd_fld {f : Str} (c : Cls X.K C) (n : NoAttr X.K C f) (he : PD X e ta) (hb : attributeBase e f X.env (eval e X.env) = eval e X.env := by rfl) : PD X (.Attribute e f pos) (dFld C ta f) := ⟨PE.cq (pe_fld he.ok hb) fun σ H Q h => by
  obtain ⟨Z, ρ, μ, Q0, rel, q, g⟩ := h
  refine ⟨Z, ρ, μ, _, rel, q, fun x μ1 v H1 ⟨d, q1, q2⟩ rl1 s1 i1 => ?_⟩
  rcases q1 with ⟨ns, ds, rfl, e⟩ | ⟨a, fs, rfl, e1, e2⟩
  · cases i1 with
    | @ins a dx _ _ vs _ h l t =>
      obtain ⟨u, h1, h2⟩ := lookup_is t l e
      exact ⟨_, _, _, _, u, rfl, msk_le _ _ _ _ _ h, c, n, h1, g d μ1 u H1 q2 rl1 s1 h2⟩
  · cases i1
    obtain ⟨dx, fvs, e3, t⟩ := rl1.mu a _ e1
    obtain ⟨h1, h2⟩ := kvd_keys t
    have e2' : ((fs.map (·.1)).zip (fs.map (·.2))).lookup f = some d := by rw [zip_split]; exact e2
    obtain ⟨u, h3, h4⟩ := lookup_is (k := kw X) (ns := fs.map (·.1)) h2 (by rw [← h1, List.length_map, List.length_map]) e2'
    rw [← h1, zip_split] at h3
    exact ⟨_, _, _, _, u, rfl, e3, c, n, h3, g d μ1 u H1 q2 rl1 s1 h4⟩⟩
/-- o.f = e, o an instance that changes -/
def putFD (f : Str) (v : D) : List (Str × D) → List (Str × D)
  | [] => [(f, v)]
  | (g, u) :: r => if g = f then (f, v) :: r else (g, u) :: putFD f v r
def dFldSet (C : Addr) (to te : TD) (f : Str) : TSD := fun D ρ μ => te ρ μ fun y μ1 => to ρ μ1 fun x μ2 => ∃ a fs, x = .adr a ∧ μ2 a = some (.ins C fs) ∧ fs.length < 1000 ∧ D.nx ρ (updM μ2 a (.ins C (putFD f y fs)))
theorem kvd_put {P : Program} {w : World} {K : PySem.W.Frag} {G : Hp} {f : Str} {v : V} {d : D} (h : Is P w K G v d) : ∀ {fvs : List (Str × V)} {fs : List (Str × D)}, KVD P w K G fvs fs → KVD P w K G (putF f v fvs) (putFD f d fs)
  | _, _, .nil => .cons ⟨rfl, h⟩ .nil
  | (g, u) :: r, (g', u') :: r', .cons q t => by
    obtain ⟨q1, q2⟩ := q
    have q1 : g = g' := q1
    subst q1
    unfold putF putFD
    by_cases e : g = f
    · rw [if_pos e, if_pos e]
      exact .cons ⟨e, h⟩ t
    · rw [if_neg e, if_neg e]
      exact .cons ⟨rfl, q2⟩ (kvd_put h t)
theorem kvd_len {κ : Type} {P : Program} {w : World} {K : PySem.W.Frag} {G : Hp} : ∀ {kvv : List (κ × V)} {kvs : List (κ × D)}, KVD P w K G kvv kvs → kvv.length = kvs.length
  | _, _, .nil => rfl
  | _, _, .cons _ t => congrArg (· + 1) (kvd_len t)
theorem kvd_mono {κ : Type} {P : Program} {w : World} {K : PySem.W.Frag} {G G' : Hp} (s : Same G G') {kvv : List (κ × V)} {kvs : List (κ × D)} (h : KVD P w K G kvv kvs) : KVD P w K G' kvv kvs := L2.Paired.mapP h fun p q z => ⟨z.1, z.2.same s⟩
theorem psd_fld {f : Str} {value : Expr} {to te : TD} {pos' : Pos} (c : Cls X.K C) (n : NoAttr X.K C f) (ha : PD X o to) (hv : PD X value te) (hs : swapsWith value (some (.Attribute o f pos')) pos.line X.env = pure false := by rfl) : PSD X (.Assign [.Attribute o f pos'] value pos) (dFldSet C to te f) :=
  ⟨PS.cq (ps_fld ha.ok hv.ok hs) fun D σ H ⟨Z, μb, Hb, ρ, μ, DD, rel, s, q, cc⟩ => by
  refine ⟨Z, ρ, μ, _, rel, q, fun y μ1 v H1 q1 rl1 s1 i1 => ?_⟩
  refine ⟨Z, ρ, μ1, _, rel.step s1 rl1, q1, fun x μ2 u H2 ⟨a, fs, e1, e2, l, q2⟩ rl2 s2 i2 => ?_⟩
  subst e1
  cases i2
  obtain ⟨dx, fvs, e3, t⟩ := rl2.mu a _ e2
  obtain ⟨r3, s3⟩ := rl2.write e2 (.ins C dx (putF f v fvs)) (.ins C (putFD f y fs)) ⟨dx, _, upd_same, kvd_put (i1.same s2.same) t⟩
  exact ⟨a, C, dx, fvs, rfl, e3, c, n, by rw [kvd_len t]; exact l, cc.nx ρ _ σ _ q2 (rel.step ((s1.trans s2).trans s3) r3) (((s.trans s1).trans s2).trans s3)⟩⟩
end
end Zd


set_option Elab.async false
set_option linter.all false
set_option maxRecDepth 100000
set_option maxHeartbeats 2000000
namespace Zd
open PySem PySem.Spec PyProof.Rows L2

/-! ### data as the kit's data -/
mutual
def toPy : D → PyData
  | .non => .none
  | .bl b => .bool b
  | .int i => .int i
  | .str x => .str x
  | .tup ds => .tuple (toPyAll ds)
  | .lst ds => .list (toPyAll ds)
  | .frz ds => .list (toPyAll ds)
  | .ty _ => .none
  | .dct _ _ => .none
  | .ins _ _ _ => .none
  | .set _ => .none
  | .adr _ => .none
def toPyAll : List D → List PyData
  | [] => []
  | d :: ds => toPy d :: toPyAll ds
end
mutual
def plain : D → Bool
  | .non => true
  | .bl b => true
  | .int i => true
  | .str x => true
  | .tup ds => plainAll ds
  | .lst ds => plainAll ds
  | .frz ds => plainAll ds
  | .ty _ => false
  | .dct _ _ => false
  | .ins _ _ _ => false
  | .set _ => false
  | .adr _ => false
def plainAll : List D → Bool
  | [] => true
  | d :: ds => plain d && plainAll ds
end
theorem toPyAll_map : ∀ ds : List D, toPyAll ds = ds.map toPy
  | [] => rfl
  | d :: ds => by rw [toPyAll, toPyAll_map ds, List.map_cons]
section
variable {P : Program} {w : World} {K : PySem.W.Frag} {G H : Hp}
mutual
theorem Is.dp (s : Same G H) : ∀ {v : V} {d : D}, plain d = true → Is P w K G v d → Dp K H v (toPy d)
  | _, .non, _, .non => .non
  | _, .bl _, _, .bl b => .bl b
  | _, .int _, _, .int i => .int i
  | _, .str _, _, .str x => .str x
  | _, .tup ds, p, .tup h t => .tup (SqT.of (s _ _ h)) (IsAll.dp s p t)
  | _, .lst ds, p, .lst h t => .lst (SqL.of (s _ _ h)) (IsAll.dp s p t)
  | _, .frz ds, p, .frz h t => .lst (s.seq h) (IsAll.dp s p t)
theorem IsAll.dp (s : Same G H) : ∀ {vs : List V} {ds : List D}, plainAll ds = true → IsAll P w K G vs ds → DpAll K H vs (toPyAll ds)
  | _, [], _, .nil => .nil
  | _, d :: ds, p, .cons h t => by
    have p' : plain d = true ∧ plainAll ds = true := by
      rw [plainAll, Bool.and_eq_true] at p
      exact p
    exact .cons (Is.dp s p'.1 h) (IsAll.dp s p'.2 t)
end
end
/-- a value that may be compared: plain, and not too deep -/
def dat (d : D) : Bool := plain d && SeqAt.shaped (toPy d)
def eqD (d e : D) : Bool := PyData.eqv (toPy d) (toPy e)
/-- the data behind a value: its own, or the list at its address -/
def Dx (μ : Mu) (x d : D) : Prop := x = d ∨ ∃ a ds, x = .adr a ∧ μ a = some (.lst ds) ∧ d = .lst ds
theorem Dx.dp {k : KW} {Z : Addr → Prop} {μ : Mu} {H : Hp} {v : V} {x d : D} (r : RlK k Z μ H) (i : IsK k (msk Z μ H) v x) (h : Dx μ x d) (p : dat d = true) : Dp k.K H v (toPy d) ∧ SeqAt.shaped (toPy d) = true := by
  rw [dat, Bool.and_eq_true] at p
  refine ⟨?_, p.2⟩
  rcases h with rfl | ⟨a, ds, rfl, e, rfl⟩
  · exact i.dp (msk_le _ _ _) p.1
  · cases i
    obtain ⟨vs, h, t⟩ := r.mu a _ e
    exact .lst (SqL.of h) (t.dp (msk_le _ _ _) p.1)

/-! ### operators -/
abbrev RD := D → D → Mu → QD → Prop
section
variable {X : Cx} {k : KW}
theorem RS.or {r r' : R2} {rd rd' : RD} (h : RS k r rd) (h' : RS k r' rd') : RS k (fun x y H Q => r x y H Q ∨ r' x y H Q) (fun x y μ Q => rd x y μ Q ∨ rd' x y μ Q) := by
  intro Z μ H x y dx dy Q0 Q rl ix iy q f
  rcases q with q | q
  · exact .inl (h Z μ H x y dx dy Q0 Q rl ix iy q f)
  · exact .inr (h' Z μ H x y dx dy Q0 Q rl ix iy q f)
/-- ints -/
def rdI (C : Int → Int → Prop) (g : Int → Int → D) : RD := fun x y μ Q => ∃ i j, x = .int i ∧ y = .int j ∧ C i j ∧ Q (g i j) μ
def rdI0 (g : Int → Int → D) : RD := fun x y μ Q => ∃ i j, x = .int i ∧ y = .int j ∧ Q (g i j) μ
theorem rs_I {C : Int → Int → Prop} {g : Int → Int → V} {gd : Int → Int → D} (hg : ∀ i j H, IsK k H (g i j) (gd i j)) : RS k (rI C g) (rdI C gd) := by
  rintro Z μ H x y dx dy Q0 Q rl ix iy ⟨i, j, rfl, rfl, c, q⟩ f
  cases ix
  cases iy
  exact ⟨i, j, rfl, rfl, c, f _ μ _ H q rl Stp.refl (hg i j _)⟩
theorem rs_I0 {g : Int → Int → V} {gd : Int → Int → D} (hg : ∀ i j H, IsK k H (g i j) (gd i j)) : RS k (rI0 g) (rdI0 gd) := by
  rintro Z μ H x y dx dy Q0 Q rl ix iy ⟨i, j, rfl, rfl, q⟩ f
  cases ix
  cases iy
  exact ⟨i, j, rfl, rfl, f _ μ _ H q rl Stp.refl (hg i j _)⟩
theorem is_int {i : Int} {H : Hp} : IsK k H (.int i) (.int i) := .int i
theorem is_bl {b : Bool} {H : Hp} : IsK k H (.bl b) (.bl b) := .bl b

/-! + -/
def rdCatL : RD := fun x y μ Q => ∃ a b, AsLt μ x a ∧ AsLt μ y b ∧ a.length + b.length ≤ sizeLine ∧ Q (.lst (a ++ b)) μ
theorem rs_catL : RS k rCat rdCatL := by
  rintro Z μ H x y dx dy Q0 Q rl ix iy ⟨a, b, ha, hb, l, q⟩ f
  obtain ⟨p, xs, rfl, h1, t1⟩ := ha.get rl ix
  obtain ⟨p', ys, rfl, h2, t2⟩ := hb.get rl iy
  refine ⟨p, p', xs, ys, rfl, rfl, h1, h2, by rw [t1.length, t2.length]; exact l, fun n hn => ?_⟩
  obtain ⟨r2, s2, e2⟩ := rl.alloc hn (.lst (xs ++ ys))
  exact f _ μ _ _ q r2 s2 (.lst e2 ((t1.append t2).same s2.same))
def rdCatT : RD := fun x y μ Q => ∃ a b, x = .tup a ∧ y = .tup b ∧ a.length + b.length ≤ sizeLine ∧ Q (.tup (a ++ b)) μ
theorem rs_catT {K : PySem.W.Frag} : RS k (rCatA K) rdCatT := by
  rintro Z μ H x y dx dy Q0 Q rl ix iy ⟨a, b, rfl, rfl, l, q⟩ f
  obtain ⟨p, xs, rfl, h1, t1⟩ := ix.tupGet
  obtain ⟨p', ys, rfl, h2, t2⟩ := iy.tupGet
  refine ⟨p, p', xs, ys, rfl, rfl, SqT.of h1, SqT.of h2, by rw [t1.length, t2.length]; exact l, fun e => ?_, fun _ e => ?_, fun _ _ n hn => ?_⟩
  · subst e
    cases t1
    exact f _ μ _ H q rl Stp.refl iy
  · subst e
    cases t2
    rw [List.append_nil] at q
    exact f _ μ _ H q rl Stp.refl ix
  · obtain ⟨r2, s2, e2⟩ := rl.alloc hn (.tup (xs ++ ys))
    exact f _ μ _ _ q r2 s2 (.tup e2 ((t1.append t2).same s2.same))
def rdAddS : RD := fun x y μ Q => ∃ i j, x = .str i ∧ y = .str j ∧ i.length + j.length ≤ sizeLine ∧ Q (.str (i ++ j)) μ
theorem rs_addS : RS k (fun x y H Q => ∃ i j, x = .str i ∧ y = .str j ∧ i.length + j.length ≤ sizeLine ∧ Q (.str (i ++ j)) H) rdAddS := by
  rintro Z μ H x y dx dy Q0 Q rl ix iy ⟨i, j, rfl, rfl, l, q⟩ f
  cases ix
  cases iy
  exact ⟨i, j, rfl, rfl, l, f _ μ _ H q rl Stp.refl (.str _)⟩
def rdAdd : RD := fun x y μ Q => rdI0 (fun i j => .int (i + j)) x y μ Q ∨ rdCatL x y μ Q ∨ rdCatT x y μ Q ∨ rdAddS x y μ Q
theorem op_addU : OpR X (binaryOp .Add) (fun x y H Q => rI0 (fun i j => .int (i + j)) x y H Q ∨ rCat x y H Q ∨ rCatA X.K x y H Q ∨ (∃ i j, x = .str i ∧ y = .str j ∧ i.length + j.length ≤ sizeLine ∧ Q (.str (i ++ j)) H)) :=
  op_add.or (op_cat.or (op_catA.or op_add_str))
variable {a b : Expr} {ta tb : TD} {pos : Pos}
theorem pd_add (ha : PD X a ta) (hb : PD X b tb) : PD X (.BinOp a .Add b pos) (dOp rdAdd ta tb) := pd_op op_addU ((rs_I0 fun _ _ _ => is_int).or (rs_catL.or (rs_catT.or rs_addS))) ha hb
def rdSub : RD := rdI0 fun i j => .int (i - j)
theorem pd_sub (ha : PD X a ta) (hb : PD X b tb) : PD X (.BinOp a .Sub b pos) (dOp rdSub ta tb) := pd_op op_sub (rs_I0 fun _ _ _ => is_int) ha hb
/-- xs * k -/
def rdRep : RD := fun x y μ Q => ∃ ds n, AsLt μ x ds ∧ y = .int n ∧ -(2 ^ 63) ≤ n ∧ n < 2 ^ 63 ∧ ds.length * n.toNat ≤ sizeLine ∧ Q (.lst (List.replicate n.toNat ds).flatten) μ
theorem isAll_rep {G : Hp} {vs : List V} {ds : List D} (h : IsAllK k G vs ds) : ∀ n : Nat, IsAllK k G (List.replicate n vs).flatten (List.replicate n ds).flatten
  | 0 => .nil
  | n + 1 => by
    rw [List.replicate_succ, List.replicate_succ, List.flatten_cons, List.flatten_cons]
    exact h.append (isAll_rep h n)
theorem rs_rep : RS k rRep rdRep := by
  rintro Z μ H x y dx dy Q0 Q rl ix iy ⟨ds, n, ha, rfl, l1, l2, l3, q⟩ f
  obtain ⟨p, xs, rfl, h1, t1⟩ := ha.get rl ix
  cases iy
  refine ⟨p, n, xs, rfl, rfl, h1, l1, l2, by rw [t1.length]; exact l3, fun p' hp => ?_⟩
  obtain ⟨r2, s2, e2⟩ := rl.alloc hp (.lst (List.replicate n.toNat xs).flatten)
  exact f _ μ _ _ q r2 s2 (.lst e2 ((isAll_rep t1 _).same s2.same))
def rdMul : RD := fun x y μ Q => rdI CMul (fun i j => .int (i * j)) x y μ Q ∨ rdRep x y μ Q
theorem pd_mul (ha : PD X a ta) (hb : PD X b tb) : PD X (.BinOp a .Mult b pos) (dOp rdMul ta tb) := pd_op (op_mul.or op_rep) ((rs_I fun _ _ _ => is_int).or rs_rep) ha hb
def rdMod : RD := rdI (fun _ j => j ≠ 0) fun i j => .int (i.fmod j)
theorem pd_mod (ha : PD X a ta) (hb : PD X b tb) : PD X (.BinOp a .Mod b pos) (dOp rdMod ta tb) := pd_op op_modN (rs_I fun _ _ _ => is_int) ha hb
def rdDiv : RD := rdI CDivN fun i j => .int (i.fdiv j)
theorem pd_div (ha : PD X a ta) (hb : PD X b tb) : PD X (.BinOp a .FloorDiv b pos) (dOp rdDiv ta tb) := pd_op op_fdivN (rs_I fun _ _ _ => is_int) ha hb
def rdPow : RD := rdI CPow fun i j => .int (i ^ j.toNat)
theorem pd_pow (ha : PD X a ta) (hb : PD X b tb) : PD X (.BinOp a .Pow b pos) (dOp rdPow ta tb) := pd_op op_pow (rs_I fun _ _ _ => is_int) ha hb
def dNeg (ta : TD) : TD := fun ρ μ Q => ta ρ μ fun x μ1 => ∃ i, x = .int i ∧ Q (.int (-i)) μ1
theorem pd_neg (ha : PD X a ta) : PD X (.UnaryOp .USub a pos) (dNeg ta) := ⟨PE.cq (pe_un un_neg ha.ok) fun σ H Q ⟨Z, ρ, μ, Q0, rel, q, f⟩ => by
  refine ⟨Z, ρ, μ, _, rel, q, fun d μ1 x H1 ⟨i, e, q1⟩ rl1 s1 i1 => ?_⟩
  subst e
  cases i1
  exact ⟨i, rfl, f _ μ1 _ H1 q1 rl1 s1 (.int _)⟩⟩
/-! comparisons -/
def rdLt : RD := rdI0 fun i j => .bl (decide (i < j))
def rdLeI : RD := rdI0 fun i j => .bl (decide (i ≤ j))
def rdGt : RD := rdI0 fun i j => .bl (decide (j < i))
def rdGe : RD := rdI0 fun i j => .bl (decide (j ≤ i))
/-- tuples of ints -/
def lexLe : List Int → List Int → Bool := fun ns ms => Ob.lexAt (fun j => decide (ns.getD j 0 = ms.getD j 0)) (fun j => decide (ns.getD j 0 ≤ ms.getD j 0)) (decide (ns.length ≤ ms.length)) 0 (min ns.length ms.length)
def rdLeT : RD := fun x y μ Q => ∃ ns ms : List Int, x = .tup (ns.map .int) ∧ y = .tup (ms.map .int) ∧ Q (.bl (lexLe ns ms)) μ
def rdLtT : RD := fun x y μ Q => ∃ ns ms : List Int, x = .tup (ns.map .int) ∧ y = .tup (ms.map .int) ∧ Q (.bl (HT.lexLt ns ms)) μ
theorem tup_ints {Z : Addr → Prop} {μ : Mu} {H : Hp} {v : V} {ns : List Int} (i : IsK k (msk Z μ H) v (.tup (ns.map .int))) : ∃ a, v = .ref a ∧ H a = some (.tup (ns.map V.int)) := by
  obtain ⟨p, xs, rfl, h1, t1⟩ := i.tupGet
  rw [t1.ints] at h1
  exact ⟨p, rfl, h1⟩
theorem rs_leT {K : PySem.W.Frag} : RS k (rLeT K) rdLeT := by
  rintro Z μ H x y dx dy Q0 Q rl ix iy ⟨ns, ms, rfl, rfl, q⟩ f
  obtain ⟨p, rfl, h1⟩ := tup_ints ix
  obtain ⟨p', rfl, h2⟩ := tup_ints iy
  exact ⟨p, p', ns, ms, rfl, rfl, SqT.of h1, SqT.of h2, f _ μ _ H q rl Stp.refl (.bl _)⟩
theorem rs_ltT {K : PySem.W.Frag} : RS k (rLtT K) rdLtT := by
  rintro Z μ H x y dx dy Q0 Q rl ix iy ⟨ns, ms, rfl, rfl, q⟩ f
  obtain ⟨p, rfl, h1⟩ := tup_ints ix
  obtain ⟨p', rfl, h2⟩ := tup_ints iy
  exact ⟨p, p', ns, ms, rfl, rfl, SqT.of h1, SqT.of h2, f _ μ _ H q rl Stp.refl (.bl _)⟩
def rdLe : RD := fun x y μ Q => rdLeI x y μ Q ∨ rdLeT x y μ Q
def rdLtU : RD := fun x y μ Q => rdLt x y μ Q ∨ rdLtT x y μ Q
/-- == -/
def rdEq : RD := fun x y μ Q => ∃ d e, Dx μ x d ∧ Dx μ y e ∧ dat d = true ∧ dat e = true ∧ Q (.bl (eqD d e)) μ
def rdNe : RD := fun x y μ Q => ∃ d e, Dx μ x d ∧ Dx μ y e ∧ dat d = true ∧ dat e = true ∧ Q (.bl (!eqD d e)) μ
theorem rs_eq : RS k (rEqD k.K) rdEq := by
  rintro Z μ H x y dx dy Q0 Q rl ix iy ⟨d, e, hd, he, pd, pe, q⟩ f
  obtain ⟨h1, h2⟩ := hd.dp rl ix pd
  obtain ⟨h3, h4⟩ := he.dp rl iy pe
  exact ⟨_, _, h1, h3, h2, h4, f _ μ _ H q rl Stp.refl (.bl _)⟩
theorem rs_ne : RS k (rNeD k.K) rdNe := by
  rintro Z μ H x y dx dy Q0 Q rl ix iy ⟨d, e, hd, he, pd, pe, q⟩ f
  obtain ⟨h1, h2⟩ := hd.dp rl ix pd
  obtain ⟨h3, h4⟩ := he.dp rl iy pe
  exact ⟨_, _, h1, h3, h2, h4, f _ μ _ H q rl Stp.refl (.bl _)⟩
/-- is None -/
def isNon : D → Bool | .non => true | _ => false
theorem isNon_of {G : Hp} {v : V} {d : D} (i : IsK k G v d) : decide (v = .non) = isNon d := by
  cases i with
  | non => rfl
  | _ => exact decide_eq_false fun z => nomatch z
def rdIsN : RD := fun x y μ Q => y = .non ∧ Q (.bl (isNon x)) μ
def rdNotN : RD := fun x y μ Q => y = .non ∧ Q (.bl (!isNon x)) μ
theorem rs_isN : RS k (fun x y H Q => y = .non ∧ Q (.bl (decide (x = .non))) H) rdIsN := by
  rintro Z μ H x y dx dy Q0 Q rl ix iy ⟨rfl, q⟩ f
  cases iy
  refine ⟨rfl, ?_⟩
  rw [isNon_of ix]
  exact f _ μ _ H q rl Stp.refl (.bl _)
theorem rs_notN : RS k (fun x y H Q => y = .non ∧ Q (.bl (!decide (x = .non))) H) rdNotN := by
  rintro Z μ H x y dx dy Q0 Q rl ix iy ⟨rfl, q⟩ f
  cases iy
  refine ⟨rfl, ?_⟩
  rw [isNon_of ix]
  exact f _ μ _ H q rl Stp.refl (.bl _)
/-- in, not in: lists, tuples -/
def rInT (K : PySem.W.Frag) : R2 := fun x y H Q => ∃ d ds, Dp K H x d ∧ Dp K H y (.tuple ds) ∧ SeqAt.shaped d = true ∧ SeqAt.shaped (.tuple ds) = true ∧ Q (.bl (ds.any fun z => PyData.eqv z d)) H
def rNotInT (K : PySem.W.Frag) : R2 := fun x y H Q => ∃ d ds, Dp K H x d ∧ Dp K H y (.tuple ds) ∧ SeqAt.shaped d = true ∧ SeqAt.shaped (.tuple ds) = true ∧ Q (.bl (!ds.any fun z => PyData.eqv z d)) H
theorem op_inT (hu : X.A.units + 65 < cLine) : OpR X (compareOp .In) (rInT X.K) := by
  rintro pins s σ H x y v u Q I rx ry ⟨d, ds, hd, he, sd, se, q⟩
  have ⟨as, r1⟩ := Dp.reads I d x v hd rx
  have ⟨bs, r2⟩ := Dp.reads I (.tuple ds) y u he ry
  exact SeqAt.in_tuple_reads r2 r1 (SeqAt.canLay_of_shaped se) (SeqAt.canLay_of_shaped sd) (room_in_shaped sd hu) ⟨_, H, I, (show RelV (.bl _) _ from rfl), q⟩
theorem op_notInT (hu : X.A.units + 65 < cLine) : OpR X (compareOp .NotIn) (rNotInT X.K) := by
  rintro pins s σ H x y v u Q I rx ry ⟨d, ds, hd, he, sd, se, q⟩
  have ⟨as, r1⟩ := Dp.reads I d x v hd rx
  have ⟨bs, r2⟩ := Dp.reads I (.tuple ds) y u he ry
  exact SeqAt.notIn_tuple_reads r2 r1 (SeqAt.canLay_of_shaped se) (SeqAt.canLay_of_shaped sd) (room_in_shaped sd hu) ⟨_, H, I, (show RelV (.bl _) _ from rfl), q⟩
def inD (d : D) (ds : List D) : Bool := ds.any fun z => eqD z d
theorem inD_py (d : D) (ds : List D) : (toPyAll ds).any (fun z => PyData.eqv z (toPy d)) = inD d ds := by
  rw [toPyAll_map, List.any_map]
  rfl
def rdInL (neg : Bool) : RD := fun x y μ Q => ∃ d ds, Dx μ x d ∧ (Dx μ y (.lst ds) ∨ y = .frz ds) ∧ dat d = true ∧ dat (.lst ds) = true ∧ Q (.bl (if neg then !inD d ds else inD d ds)) μ
def rdInT (neg : Bool) : RD := fun x y μ Q => ∃ d ds, Dx μ x d ∧ y = .tup ds ∧ dat d = true ∧ dat (.tup ds) = true ∧ Q (.bl (if neg then !inD d ds else inD d ds)) μ
theorem rs_inL : RS k (rInD k.K) (rdInL false) := by
  rintro Z μ H x y dx dy Q0 Q rl ix iy ⟨d, ds, hd, he, pd, pe, q⟩ f
  obtain ⟨h1, h2⟩ := hd.dp rl ix pd
  obtain ⟨h3, h4⟩ : Dp k.K H y (toPy (.lst ds)) ∧ SeqAt.shaped (toPy (.lst ds)) = true := by
    rcases he with he | rfl
    · exact he.dp rl iy pe
    · exact Dx.dp (d := .frz ds) rl iy (.inl rfl) pe
  refine ⟨_, _, h1, h3, h2, h4, ?_⟩
  rw [inD_py]
  exact f _ μ _ H q rl Stp.refl (.bl _)
theorem rs_notInL : RS k (rNotInD k.K) (rdInL true) := by
  rintro Z μ H x y dx dy Q0 Q rl ix iy ⟨d, ds, hd, he, pd, pe, q⟩ f
  obtain ⟨h1, h2⟩ := hd.dp rl ix pd
  obtain ⟨h3, h4⟩ : Dp k.K H y (toPy (.lst ds)) ∧ SeqAt.shaped (toPy (.lst ds)) = true := by
    rcases he with he | rfl
    · exact he.dp rl iy pe
    · exact Dx.dp (d := .frz ds) rl iy (.inl rfl) pe
  refine ⟨_, _, h1, h3, h2, h4, ?_⟩
  rw [inD_py]
  exact f _ μ _ H q rl Stp.refl (.bl _)
theorem rs_inT : RS k (rInT k.K) (rdInT false) := by
  rintro Z μ H x y dx dy Q0 Q rl ix iy ⟨d, ds, hd, rfl, pd, pe, q⟩ f
  obtain ⟨h1, h2⟩ := hd.dp rl ix pd
  obtain ⟨h3, h4⟩ := Dx.dp rl iy (.inl rfl) pe
  refine ⟨_, _, h1, h3, h2, h4, ?_⟩
  rw [inD_py]
  exact f _ μ _ H q rl Stp.refl (.bl _)
theorem rs_notInT : RS k (rNotInT k.K) (rdInT true) := by
  rintro Z μ H x y dx dy Q0 Q rl ix iy ⟨d, ds, hd, rfl, pd, pe, q⟩ f
  obtain ⟨h1, h2⟩ := hd.dp rl ix pd
  obtain ⟨h3, h4⟩ := Dx.dp rl iy (.inl rfl) pe
  refine ⟨_, _, h1, h3, h2, h4, ?_⟩
  rw [inD_py]
  exact f _ μ _ H q rl Stp.refl (.bl _)
def rdIn (neg : Bool) : RD := fun x y μ Q => rdInL neg x y μ Q ∨ rdInT neg x y μ Q
/-! subscripts -/
def rdIx : RD := fun x y μ Q => ∃ i ds d, y = .int i ∧ (AsL μ x ds ∨ x = .tup ds) ∧ atI ds i = some d ∧ Q d μ
theorem atI_all {G : Hp} {vs : List V} {ds : List D} {i : Int} {d : D} (h : IsAllK k G vs ds) (e : atI ds i = some d) : ∃ v, atI vs i = some v ∧ IsK k G v d := by
  unfold atI at e ⊢
  rw [h.length]
  cases q : ixN ds.length i with
  | none => rw [q] at e; cases e
  | some j =>
    rw [q] at e
    exact h.get e
theorem rs_ix {K : PySem.W.Frag} (hK : K = k.K) : RS k (fun x y H Q => rIxL K x y H Q ∨ rIxT K x y H Q) rdIx := by
  subst hK
  rintro Z μ H x y dx dy Q0 Q rl ix iy ⟨i, ds, d, rfl, h, e, q⟩ f
  cases iy
  rcases h with h | rfl
  · obtain ⟨p, xs, rfl, h1, t1⟩ := h.get rl ix
    obtain ⟨v, h2, h3⟩ := atI_all t1 e
    exact .inl ⟨p, xs, i, v, rfl, rfl, h1, h2, f _ μ _ H q rl Stp.refl h3⟩
  · obtain ⟨p, xs, rfl, h1, t1⟩ := ix.tupGet
    obtain ⟨v, h2, h3⟩ := atI_all t1 e
    exact .inr ⟨p, xs, i, v, rfl, rfl, SqT.of h1, h2, f _ μ _ H q rl Stp.refl h3⟩
theorem pd_ix (ha : PD X a ta) (hb : PD X b tb) (hs : PlainIx b := by exact fun _ _ => rfl) : PD X (.Subscript a b pos) (dOp rdIx ta tb) :=
  ⟨PE.cq (pe_ix (ix_list.or ix_tup) ha.ok hb.ok hs) fun _ _ _ h => op_s (rs_ix rfl) h⟩
theorem pd_lt (ha : PD X a ta) (hb : PD X b tb) (hu : X.A.units < cLine) : PD X (.Compare a [.Lt] [b] pos) (dOp rdLtU ta tb) := pd_cmp (op_lt.or (op_ltT hu)) ((rs_I0 fun _ _ _ => is_bl).or rs_ltT) ha hb (nomark _)
theorem pd_le (ha : PD X a ta) (hb : PD X b tb) (hu : X.A.units < cLine) : PD X (.Compare a [.LtE] [b] pos) (dOp rdLe ta tb) := pd_cmp (op_le.or (op_leT hu)) ((rs_I0 fun _ _ _ => is_bl).or rs_leT) ha hb (nomark _)
theorem pd_gt (ha : PD X a ta) (hb : PD X b tb) : PD X (.Compare a [.Gt] [b] pos) (dOp rdGt ta tb) := pd_cmp op_gt (rs_I0 fun _ _ _ => is_bl) ha hb (nomark _)
theorem pd_ge (ha : PD X a ta) (hb : PD X b tb) : PD X (.Compare a [.GtE] [b] pos) (dOp rdGe ta tb) := pd_cmp op_ge (rs_I0 fun _ _ _ => is_bl) ha hb (nomark _)
theorem pd_eq (ha : PD X a ta) (hb : PD X b tb) (hu : X.A.units + 64 < cLine) : PD X (.Compare a [.Eq] [b] pos) (dOp rdEq ta tb) := pd_cmp (op_eqD hu) rs_eq ha hb (nomark _)
theorem pd_ne (ha : PD X a ta) (hb : PD X b tb) (hu : X.A.units + 64 < cLine) : PD X (.Compare a [.NotEq] [b] pos) (dOp rdNe ta tb) := pd_cmp (op_neD hu) rs_ne ha hb (nomark _)
theorem pd_isN (ha : PD X a ta) (hb : PD X b tb) : PD X (.Compare a [.Is] [b] pos) (dOp rdIsN ta tb) := pd_cmp op_isN rs_isN ha hb (nomark _)
theorem pd_notN (ha : PD X a ta) (hb : PD X b tb) : PD X (.Compare a [.IsNot] [b] pos) (dOp rdNotN ta tb) := pd_cmp op_notN rs_notN ha hb (nomark _)
theorem pd_in (ha : PD X a ta) (hb : PD X b tb) (hu : X.A.units + 65 < cLine) (hm : behindInMarks .In b = false := by rfl) : PD X (.Compare a [.In] [b] pos) (dOp (rdIn false) ta tb) := pd_cmp ((op_inD hu).or (op_inT hu)) (rs_inL.or rs_inT) ha hb hm
theorem pd_notIn (ha : PD X a ta) (hb : PD X b tb) (hu : X.A.units + 65 < cLine) (hm : behindInMarks .NotIn b = false := by rfl) : PD X (.Compare a [.NotIn] [b] pos) (dOp (rdIn true) ta tb) := pd_cmp ((op_notInD hu).or (op_notInT hu)) (rs_notInL.or rs_notInT) ha hb hm
/-- a < b < c -/
theorem pd_chain {c : Expr} {tc : TD} {op op' : CmpOp} {r r' : R2} {rd rd' : RD} (ho : OpR X (compareOp op) r) (ho' : OpR X (compareOp op') r') (hs : RS (kw X) r rd) (hs' : RS (kw X) r' rd') (ha : PD X a ta) (hb : PD X b tb) (hc : PD X c tc)
    (hm : lastMarks [op, op'] [b, c] = false := by with_unfolding_all rfl) : PD X (.Compare a [op, op'] [b, c] pos) (dChain rd rd' ta tb tc) := ⟨PE.cq (pe_chain ho ho' ha.ok hb.ok hc.ok hm) fun σ H Q ⟨Z, ρ, μ, Q0, rel, q, f⟩ => by
  refine ⟨Z, ρ, μ, _, rel, q, fun dx μ1 x H1 q1 rl1 s1 i1 => ?_⟩
  refine ⟨Z, ρ, μ1, _, rel.step s1 rl1, q1, fun dy μ2 y H2 q2 rl2 s2 i2 => ?_⟩
  refine hs Z μ2 H2 x y dx dy _ _ rl2 (i1.same s2.same) i2 q2 fun dz μ3 z H3 ⟨c, e, q3⟩ rl3 s3 i3 => ?_
  subst e
  cases i3
  refine ⟨c, rfl, ?_⟩
  cases c with
  | false => exact f _ μ3 _ H3 q3 rl3 ((s1.trans s2).trans s3) (.bl false)
  | true =>
    refine ⟨Z, ρ, μ3, _, rel.step ((s1.trans s2).trans s3) rl3, q3, fun du μ4 u H4 q4 rl4 s4 i4 => ?_⟩
    exact hs' Z μ4 H4 y u dy du Q0 Q rl4 (i2.same (s3.trans s4).same) i4 q4 (f.step (((s1.trans s2).trans s3).trans s4))⟩
end
end Zd


set_option Elab.async false
set_option linter.all false
set_option maxRecDepth 100000
set_option maxHeartbeats 2000000
namespace Zd
open PySem PySem.Spec PyProof.Rows L2

section
variable {X : Cx} {k : KW} {a b : Expr} {ta tb : TD} {pos : Pos}
/-! ### comparisons as tests -/
theorem ptd_lt (ha : PD X a ta) (hb : PD X b tb) (hu : X.A.units < cLine) : PTD X (.Compare a [.Lt] [b] pos) (dTest (dOp rdLtU ta tb)) := ptd_cmp (op_lt.or (op_ltT hu)) ((rs_I0 fun _ _ _ => is_bl).or rs_ltT) ha hb (nomark _)
theorem ptd_le (ha : PD X a ta) (hb : PD X b tb) (hu : X.A.units < cLine) : PTD X (.Compare a [.LtE] [b] pos) (dTest (dOp rdLe ta tb)) := ptd_cmp (op_le.or (op_leT hu)) ((rs_I0 fun _ _ _ => is_bl).or rs_leT) ha hb (nomark _)
theorem ptd_gt (ha : PD X a ta) (hb : PD X b tb) : PTD X (.Compare a [.Gt] [b] pos) (dTest (dOp rdGt ta tb)) := ptd_cmp op_gt (rs_I0 fun _ _ _ => is_bl) ha hb (nomark _)
theorem ptd_ge (ha : PD X a ta) (hb : PD X b tb) : PTD X (.Compare a [.GtE] [b] pos) (dTest (dOp rdGe ta tb)) := ptd_cmp op_ge (rs_I0 fun _ _ _ => is_bl) ha hb (nomark _)
theorem ptd_eq (ha : PD X a ta) (hb : PD X b tb) (hu : X.A.units + 64 < cLine) : PTD X (.Compare a [.Eq] [b] pos) (dTest (dOp rdEq ta tb)) := ptd_cmp (op_eqD hu) rs_eq ha hb (nomark _)
theorem ptd_ne (ha : PD X a ta) (hb : PD X b tb) (hu : X.A.units + 64 < cLine) : PTD X (.Compare a [.NotEq] [b] pos) (dTest (dOp rdNe ta tb)) := ptd_cmp (op_neD hu) rs_ne ha hb (nomark _)
theorem ptd_isN (ha : PD X a ta) (hb : PD X b tb) : PTD X (.Compare a [.Is] [b] pos) (dTest (dOp rdIsN ta tb)) := ptd_cmp op_isN rs_isN ha hb (nomark _)
theorem ptd_notN (ha : PD X a ta) (hb : PD X b tb) : PTD X (.Compare a [.IsNot] [b] pos) (dTest (dOp rdNotN ta tb)) := ptd_cmp op_notN rs_notN ha hb (nomark _)
theorem ptd_in (ha : PD X a ta) (hb : PD X b tb) (hu : X.A.units + 65 < cLine) (hm : behindInMarks .In b = false := by rfl) : PTD X (.Compare a [.In] [b] pos) (dTest (dOp (rdIn false) ta tb)) := ptd_cmp ((op_inD hu).or (op_inT hu)) (rs_inL.or rs_inT) ha hb hm
theorem ptd_notIn (ha : PD X a ta) (hb : PD X b tb) (hu : X.A.units + 65 < cLine) (hm : behindInMarks .NotIn b = false := by rfl) : PTD X (.Compare a [.NotIn] [b] pos) (dTest (dOp (rdIn true) ta tb)) := ptd_cmp ((op_notInD hu).or (op_notInT hu)) (rs_notInL.or rs_notInT) ha hb hm
theorem ptd_chain {c : Expr} {tc : TD} {op op' : CmpOp} {r r' : R2} {rd rd' : RD} (ho : OpR X (compareOp op) r) (ho' : OpR X (compareOp op') r') (hs : RS (kw X) r rd) (hs' : RS (kw X) r' rd') (ha : PD X a ta) (hb : PD X b tb) (hc : PD X c tc)
    (hm : lastMarks [op, op'] [b, c] = false := by with_unfolding_all rfl) : PTD X (.Compare a [op, op'] [b, c] pos) (dTest (dChain rd rd' ta tb tc)) := ⟨PT.cq (pt_chain ho ho' ha.ok hb.ok hc.ok hm) fun σ H Q h => by
  obtain ⟨Z, ρ, μ, Q0, rel, q, f⟩ := test_s h
  refine ⟨Z, ρ, μ, _, rel, q, fun dx μ1 x H1 q1 rl1 s1 i1 => ?_⟩
  refine ⟨Z, ρ, μ1, _, rel.step s1 rl1, q1, fun dy μ2 y H2 q2 rl2 s2 i2 => ?_⟩
  refine hs Z μ2 H2 x y dx dy _ _ rl2 (i1.same s2.same) i2 q2 fun dz μ3 z H3 ⟨c, e, q3⟩ rl3 s3 i3 => ?_
  subst e
  cases i3
  refine ⟨c, rfl, ?_⟩
  cases c with
  | false => exact f _ μ3 _ H3 q3 rl3 ((s1.trans s2).trans s3) (.bl false)
  | true =>
    refine ⟨Z, ρ, μ3, _, rel.step ((s1.trans s2).trans s3) rl3, q3, fun du μ4 u H4 q4 rl4 s4 i4 => ?_⟩
    exact hs' Z μ4 H4 y u dy du Q0 _ rl4 (i2.same (s3.trans s4).same) i4 q4 (f.step (((s1.trans s2).trans s3).trans s4))⟩
/-! ### dicts -/
/-- a dict that is read, its keys ints and texts -/
def AsD (μ : Mu) (x : D) (kvs : List (Key × D)) : Prop := (∃ ks ds, x = .dct ks ds ∧ kvs = ks.zip ds ∧ ks.length = ds.length) ∨ ∃ a, x = .adr a ∧ μ a = some (.dct kvs)
theorem kvd_zip {G : Hp} : ∀ {ks : List Key} {vs : List V} {ds : List D}, IsAllK k G vs ds → KVD k.P k.w k.K G (ks.zip vs) (ks.zip ds)
  | [], _, _, _ => .nil
  | _ :: _, _, _, .nil => .nil
  | x :: ks, _, _, .cons h t => .cons ⟨rfl, h⟩ (kvd_zip t)
theorem AsD.get {Z : Addr → Prop} {μ : Mu} {H : Hp} {v : V} {x : D} {kvs : List (Key × D)} (r : RlK k Z μ H) (i : IsK k (msk Z μ H) v x) (h : AsD μ x kvs) : ∃ a kvv, v = .ref a ∧ H a = some (.dK kvv) ∧ KVD k.P k.w k.K (msk Z μ H) kvv kvs := by
  rcases h with ⟨ks, ds, rfl, rfl, l⟩ | ⟨a, rfl, e⟩
  · cases i with
    | dct h l t => exact ⟨_, _, rfl, msk_le _ _ _ _ _ h, kvd_zip t⟩
  · cases i
    obtain ⟨kvv, h, t⟩ := r.mu a _ e
    exact ⟨a, kvv, rfl, h, t⟩
def kD : Key → D
  | .inl i => .int i
  | .inr x => .str x
theorem kD_is {G : Hp} {v : V} {x : Key} (i : IsK k G v (kD x)) : v = kV x := by
  cases x with
  | inl j => cases i; rfl
  | inr j => cases i; rfl
def valD {κ : Type} [DecidableEq κ] : List (κ × D) → κ → Option D
  | [], _ => none
  | (a, d) :: r, x => if a = x then some d else valD r x
def putD {κ : Type} [DecidableEq κ] (kvs : List (κ × D)) (x : κ) (d : D) : List (κ × D) :=
  if (kvs.any fun kv => decide (kv.1 = x)) = true then kvs.map fun kv => if kv.1 = x then (kv.1, d) else kv else kvs ++ [(x, d)]
theorem kvd_val {κ : Type} [DecidableEq κ] {G : Hp} {x : κ} : ∀ {kvv : List (κ × V)} {kvs : List (κ × D)}, KVD k.P k.w k.K G kvv kvs → (∀ d, valD kvs x = some d → ∃ v, valV kvv x = some v ∧ IsK k G v d) ∧ (valD kvs x = none → valV kvv x = none)
  | [], [], .nil => ⟨fun d e => by simp [valD] at e, fun _ => rfl⟩
  | (a, v) :: r, (a', d) :: r', .cons q t => by
    obtain ⟨q1, q2⟩ := q
    have q1 : a = a' := q1
    subst q1
    have ih := kvd_val (x := x) t
    unfold valD valV
    by_cases e : a = x
    · rw [if_pos e]
      have e2 : (List.find? (fun kv : κ × V => decide (kv.1 = x)) ((a, v) :: r)) = some (a, v) := by
        rw [List.find?_cons, decide_eq_true e]
      refine ⟨fun d' h => ⟨v, ?_, ?_⟩, fun h => nomatch h⟩
      · first | rw [if_pos e] | (rw [e2]; rfl) | simp [e]
      · cases h; exact q2
    · rw [if_neg e]
      refine ⟨fun d' h => ?_, fun h => ?_⟩
      · obtain ⟨u, h1, h2⟩ := ih.1 d' h
        refine ⟨u, ?_, h2⟩
        unfold valV at h1
        first | (rw [if_neg e]; exact h1) | simpa [e] using h1
      · have h1 := ih.2 h
        unfold valV at h1
        first | (rw [if_neg e]; exact h1) | simpa [e] using h1
theorem kvd_any {κ : Type} [DecidableEq κ] {G : Hp} {x : κ} : ∀ {kvv : List (κ × V)} {kvs : List (κ × D)}, KVD k.P k.w k.K G kvv kvs → (kvv.any fun kv => decide (kv.1 = x)) = kvs.any fun kv => decide (kv.1 = x)
  | [], [], .nil => rfl
  | (a, u) :: r, (a', e) :: r', .cons q t => by
    have q1 : a = a' := q.1
    subst q1
    rw [List.any_cons, List.any_cons, kvd_any t]
theorem kvd_mapS {κ : Type} [DecidableEq κ] {G : Hp} {x : κ} {v : V} {d : D} (i : IsK k G v d) : ∀ {kvv : List (κ × V)} {kvs : List (κ × D)}, KVD k.P k.w k.K G kvv kvs →
    KVD k.P k.w k.K G (kvv.map fun kv => if kv.1 = x then (kv.1, v) else kv) (kvs.map fun kv => if kv.1 = x then (kv.1, d) else kv)
  | [], [], .nil => .nil
  | (a, u) :: r, (a', e) :: r', .cons q t => by
    have q1 : a = a' := q.1
    subst q1
    rw [List.map_cons, List.map_cons]
    refine .cons ?_ (kvd_mapS i t)
    by_cases h : a = x
    · rw [if_pos (show (a, u).1 = x from h), if_pos (show (a, e).1 = x from h)]
      exact ⟨rfl, i⟩
    · rw [if_neg (show ¬ (a, u).1 = x from h), if_neg (show ¬ (a, e).1 = x from h)]
      exact ⟨rfl, q.2⟩
theorem kvd_snoc {κ : Type} {G : Hp} {x : κ} {v : V} {d : D} (i : IsK k G v d) : ∀ {kvv : List (κ × V)} {kvs : List (κ × D)}, KVD k.P k.w k.K G kvv kvs → KVD k.P k.w k.K G (kvv ++ [(x, v)]) (kvs ++ [(x, d)])
  | [], [], .nil => .cons ⟨rfl, i⟩ .nil
  | _ :: _, _ :: _, .cons q t => .cons q (kvd_snoc i t)
theorem kvd_putD {κ : Type} [DecidableEq κ] {G : Hp} {x : κ} {v : V} {d : D} (i : IsK k G v d) {kvv : List (κ × V)} {kvs : List (κ × D)} (t : KVD k.P k.w k.K G kvv kvs) : KVD k.P k.w k.K G (putK kvv x v) (putD kvs x d) := by
  have e := kvd_any (x := x) t
  by_cases h : (kvs.any fun kv => decide (kv.1 = x)) = true
  · have h1 : putK kvv x v = kvv.map fun kv => if kv.1 = x then (kv.1, v) else kv := if_pos (e.trans h)
    have h2 : putD kvs x d = kvs.map fun kv => if kv.1 = x then (kv.1, d) else kv := if_pos h
    rw [h1, h2]
    exact kvd_mapS i t
  · have h1 : putK kvv x v = kvv ++ [(x, v)] := if_neg fun z => h (e.symm.trans z)
    have h2 : putD kvs x d = kvs ++ [(x, d)] := if_neg h
    rw [h1, h2]
    exact kvd_snoc i t
def dDget (td tk : TD) : TD := fun ρ μ Q => td ρ μ fun x μ1 => tk ρ μ1 fun y μ2 => ∃ kvs key d, AsD μ2 x kvs ∧ y = kD key ∧ valD kvs key = some d ∧ Q d μ2
theorem pd_dget (hu : X.A.units + 1 < cLine) (ho : PD X a ta) (hi : PD X b tb) (hs : NoSl b := by exact fun _ _ => rfl) : PD X (.Subscript a b pos) (dDget ta tb) := ⟨PE.cq (pe_dget hu ho.ok hi.ok hs) fun σ H Q ⟨Z, ρ, μ, Q0, rel, q, f⟩ => by
  refine ⟨Z, ρ, μ, _, rel, q, fun dx μ1 x H1 q1 rl1 s1 i1 => ?_⟩
  refine ⟨Z, ρ, μ1, _, rel.step s1 rl1, q1, fun dy μ2 y H2 ⟨kvs, key, d, as, e, hv, q2⟩ rl2 s2 i2 => ?_⟩
  subst e
  obtain ⟨p, kvv, rfl, h1, t⟩ := as.get rl2 (i1.same s2.same)
  obtain ⟨v, h2, h3⟩ := (kvd_val (x := key) t).1 d hv
  refine ⟨p, v, rfl, ?_, f d μ2 v H2 q2 rl2 (s1.trans s2) h3⟩
  rw [kD_is i2, ← h2]
  exact DGet.k h1⟩
def dDin (neg : Bool) (tk td : TD) : TD := fun ρ μ Q => tk ρ μ fun y μ1 => td ρ μ1 fun x μ2 => ∃ kvs key, AsD μ2 x kvs ∧ y = kD key ∧ Q (.bl (if neg then !(valD kvs key).isSome else (valD kvs key).isSome)) μ2
theorem kvd_some {κ : Type} [DecidableEq κ] {G : Hp} {x : κ} {kvv : List (κ × V)} {kvs : List (κ × D)} (t : KVD k.P k.w k.K G kvv kvs) : (valV kvv x).isSome = (valD kvs x).isSome := by
  obtain ⟨h1, h2⟩ := kvd_val (x := x) t
  cases e : valD kvs x with
  | none => rw [h2 e] <;> rfl
  | some d =>
    obtain ⟨v, h3, _⟩ := h1 d e
    rw [h3] <;> rfl
theorem din_s {σ : L2.St} {H : Hp} {Q : VK} (h : lift k (dDin false tb ta) σ H Q) : tDIn (lift k tb) (lift k ta) σ H Q := by
  obtain ⟨Z, ρ, μ, Q0, rel, q, f⟩ := h
  refine ⟨Z, ρ, μ, _, rel, q, fun dy μ1 y H1 q1 rl1 s1 i1 => ?_⟩
  refine ⟨Z, ρ, μ1, _, rel.step s1 rl1, q1, fun dx μ2 x H2 ⟨kvs, key, as, e, q2⟩ rl2 s2 i2 => ?_⟩
  subst e
  obtain ⟨p, kvv, rfl, h1, t⟩ := as.get rl2 i2
  refine ⟨p, valV kvv key, rfl, ?_, ?_⟩
  · rw [kD_is i1]
    exact DGet.k h1
  · rw [kvd_some t]
    exact f _ μ2 _ H2 q2 rl2 (s1.trans s2) (.bl _)
theorem dnotin_s {σ : L2.St} {H : Hp} {Q : VK} (h : lift k (dDin true tb ta) σ H Q) : tDNotIn (lift k tb) (lift k ta) σ H Q := by
  obtain ⟨Z, ρ, μ, Q0, rel, q, f⟩ := h
  refine ⟨Z, ρ, μ, _, rel, q, fun dy μ1 y H1 q1 rl1 s1 i1 => ?_⟩
  refine ⟨Z, ρ, μ1, _, rel.step s1 rl1, q1, fun dx μ2 x H2 ⟨kvs, key, as, e, q2⟩ rl2 s2 i2 => ?_⟩
  subst e
  obtain ⟨p, kvv, rfl, h1, t⟩ := as.get rl2 i2
  refine ⟨p, valV kvv key, rfl, ?_, ?_⟩
  · rw [kD_is i1]
    exact DGet.k h1
  · rw [kvd_some t]
    exact f _ μ2 _ H2 q2 rl2 (s1.trans s2) (.bl _)
theorem pd_din (hu : X.A.units + 1 < cLine) (hi : PD X b tb) (ho : PD X a ta) (hm : behindInMarks .In a = false := by rfl) : PD X (.Compare b [.In] [a] pos) (dDin false tb ta) := ⟨PE.cq (pe_cmp (pc_din hu hi.ok ho.ok) hm) fun _ _ _ h => din_s h⟩
theorem pd_dnotin (hu : X.A.units + 1 < cLine) (hi : PD X b tb) (ho : PD X a ta) (hm : behindInMarks .NotIn a = false := by rfl) : PD X (.Compare b [.NotIn] [a] pos) (dDin true tb ta) := ⟨PE.cq (pe_cmp (pc_dnotin hu hi.ok ho.ok) hm) fun _ _ _ h => dnotin_s h⟩
theorem ptd_din (hu : X.A.units + 1 < cLine) (hi : PD X b tb) (ho : PD X a ta) (hm : behindInMarks .In a = false := by rfl) : PTD X (.Compare b [.In] [a] pos) (dTest (dDin false tb ta)) := ⟨PT.cq (pt_cmp (pc_din hu hi.ok ho.ok) hm) fun _ _ _ h => din_s (test_s h)⟩
theorem ptd_dnotin (hu : X.A.units + 1 < cLine) (hi : PD X b tb) (ho : PD X a ta) (hm : behindInMarks .NotIn a = false := by rfl) : PTD X (.Compare b [.NotIn] [a] pos) (dTest (dDin true tb ta)) := ⟨PT.cq (pt_cmp (pc_dnotin hu hi.ok ho.ok) hm) fun _ _ _ h => dnotin_s (test_s h)⟩
/-- d[k] = e, d a dict that changes -/
def dDput (td tk te : TD) : TSD := fun D ρ μ => te ρ μ fun y μ1 => td ρ μ1 fun x μ2 => tk ρ μ2 fun z μ3 => ∃ p kvs key, x = .adr p ∧ μ3 p = some (.dct kvs) ∧ z = kD key ∧ kvs.length < sizeLine ∧ D.nx ρ (updM μ3 p (.dct (putD kvs key y)))
theorem psd_dput {value : Expr} {te : TD} {pos' : Pos} (hu : X.A.units + 1 < cLine) (ho : PD X a ta) (hi : PD X b tb) (hv : PD X value te) (hs : swapsWith value (some (.Subscript a b pos')) pos.line X.env = pure false := by rfl) :
    PSD X (.Assign [.Subscript a b pos'] value pos) (dDput ta tb te) := ⟨PS.cq (ps_dput hu ho.ok hi.ok hv.ok hs) fun D σ H ⟨Z, μb, Hb, ρ, μ, DD, rel, s, q, c⟩ => by
  refine ⟨Z, ρ, μ, _, rel, q, fun y μ1 v H1 q1 rl1 s1 i1 => ?_⟩
  refine ⟨Z, ρ, μ1, _, rel.step s1 rl1, q1, fun x μ2 u H2 q2 rl2 s2 i2 => ?_⟩
  refine ⟨Z, ρ, μ2, _, rel.step (s1.trans s2) rl2, q2, fun z μ3 w3 H3 ⟨p, kvs, key, e1, e2, e3, l, q3⟩ rl3 s3 i3 => ?_⟩
  subst e1 e3
  cases i2
  obtain ⟨kvv, h, t⟩ := rl3.mu p _ e2
  obtain ⟨r4, s4⟩ := rl3.write e2 (.dK (putK kvv key v)) (.dct (putD kvs key y)) ⟨_, upd_same, kvd_putD (i1.same (s2.trans s3).same) t⟩
  refine ⟨p, _, rfl, ?_, c.nx ρ _ σ _ q3 (rel.step (((s1.trans s2).trans s3).trans s4) r4) ((((s.trans s1).trans s2).trans s3).trans s4)⟩
  rw [kD_is i3]
  exact DPut.k h (by rw [kvd_len t]; exact l)⟩
/-! ### calls of what is built in -/
def CS (k : KW) (r : List V → Hp → VK → Prop) (rd : List D → Mu → QD → Prop) : Prop := ∀ Z μ H xs ds Q0 Q, RlK k Z μ H → IsAllK k (msk Z μ H) xs ds → rd ds μ Q0 → Fin k Z μ H Q0 Q → r xs H Q
theorem CS.or {r r' : List V → Hp → VK → Prop} {rd rd' : List D → Mu → QD → Prop} (h : CS k r rd) (h' : CS k r' rd') : CS k (fun x H Q => r x H Q ∨ r' x H Q) (fun x μ Q => rd x μ Q ∨ rd' x μ Q) := by
  intro Z μ H xs ds Q0 Q rl i q f
  rcases q with q | q
  · exact .inl (h Z μ H xs ds Q0 Q rl i q f)
  · exact .inr (h' Z μ H xs ds Q0 Q rl i q f)
def dB (rd : List D → Mu → QD → Prop) (t : TAD) : TD := fun ρ μ Q => t ρ μ fun ds μ1 => rd ds μ1 Q
variable {e : Expr} {es : List Expr} {t : TAD} {x : Str} {p : Pos} {r : List V → Hp → VK → Prop} {rd : List D → Mu → QD → Prop}
theorem callB_s (hs : CS k r rd) {σ : L2.St} {H : Hp} {Q : VK} (h : lift k (dB rd t) σ H Q) : tCB r (liftA k t) σ H Q := by
  obtain ⟨Z, ρ, μ, Q0, rel, q, f⟩ := h
  refine ⟨Z, ρ, μ, _, rel, q, fun ds μ1 vs H1 q1 rl1 s1 i1 => ?_⟩
  exact hs Z μ1 H1 vs ds Q0 Q rl1 i1 q1 (f.step s1)
/-- values -/
def rdLen : List D → Mu → QD → Prop := fun ds μ Q => ∃ d, ds = [d] ∧ ((∃ es, (AsL μ d es ∨ d = .tup es) ∧ Q (.int es.length) μ) ∨ (∃ kvs, AsD μ d kvs ∧ Q (.int kvs.length) μ) ∨ (∃ z, d = .str z ∧ z.length ≤ sizeLine ∧ Q (.int z.length) μ))
theorem cs_len {K : PySem.W.Frag} (hK : K = k.K) : CS k (fun xs H Q => (∃ p ys, xs = [.ref p] ∧ (SqL K H p ys ∨ SqT K H p ys) ∧ Q (.int ys.length) H) ∨ (∃ a kvs, xs = [V.ref a] ∧ H a = some (.dK kvs) ∧ Q (.int kvs.length) H) ∨ (∃ z, xs = [.str z] ∧ z.length ≤ sizeLine ∧ Q (.int z.length) H)) rdLen := by
  subst hK
  rintro Z μ H xs ds Q0 Q rl i ⟨d, rfl, h⟩ f
  cases i with
  | cons i t =>
    cases t
    rcases h with ⟨es, h, q⟩ | ⟨kvs, h, q⟩ | ⟨z, rfl, l, q⟩
    · refine .inl ?_
      rcases h with h | rfl
      · obtain ⟨a, ys, rfl, h1, t1⟩ := h.get rl i
        exact ⟨a, ys, rfl, .inl h1, by rw [t1.length]; exact f _ μ _ H q rl Stp.refl (.int _)⟩
      · obtain ⟨a, ys, rfl, h1, t1⟩ := i.tupGet
        exact ⟨a, ys, rfl, .inr (SqT.of h1), by rw [t1.length]; exact f _ μ _ H q rl Stp.refl (.int _)⟩
    · obtain ⟨a, kvv, rfl, h1, t1⟩ := h.get rl i
      exact .inr (.inl ⟨a, kvv, rfl, h1, by rw [kvd_len t1]; exact f _ μ _ H q rl Stp.refl (.int _)⟩)
    · cases i
      exact .inr (.inr ⟨z, rfl, l, f _ μ _ H q rl Stp.refl (.int _)⟩)
theorem pd_len (hg : Gl X "len") (hm : X.mg "len" = none) (ha : PAD X [e] t) (st : starEach [e] X.env = (false, eval e X.env) :: starEach [] X.env := by rfl) : PD X (.Call (.Name "len" p) [e] [] pos) (dB rdLen t) :=
  ⟨PE.cq (pe_callB (call_len_seq.or (call_lenD.or call_len_str)) hg hm PySem.boot_len ha.ok (he := st)) fun _ _ _ h => callB_s (cs_len rfl) h⟩
def rdMin2 : List D → Mu → QD → Prop := fun ds μ Q => ∃ i j, ds = [.int i, .int j] ∧ Q (.int (min i j)) μ
def rdMax2 : List D → Mu → QD → Prop := fun ds μ Q => ∃ i j, ds = [.int i, .int j] ∧ Q (.int (max i j)) μ
theorem two_ints {G : Hp} {xs : List V} {i j : Int} (h : IsAllK k G xs [.int i, .int j]) : xs = [.int i, .int j] := by
  cases h with
  | cons h t =>
    cases h
    cases t with
    | cons h t =>
      cases h
      cases t
      rfl
theorem pd_min2 {e2 : Expr} (hc : X.calm = true) (hg : Gl X "min") (hm : X.mg "min" = none) (ha : PAD X [e, e2] t) (st : starEach [e, e2] X.env = (false, eval e X.env) :: starEach [e2] X.env := by rfl) (st2 : (backTo pos (starEach [e2] X.env)).any (·.1) = false := by rfl) : PD X (.Call (.Name "min" p) [e, e2] [] pos) (dB rdMin2 t) :=
  ⟨PE.cq (pe_callB (call_min2 hc) hg hm (by decide +kernel) ha.ok (he := st) (hpl := st2)) fun _ _ _ h => callB_s (by
    rintro Z μ H xs ds Q0 Q rl i ⟨a, b, rfl, q⟩ f
    rw [two_ints i]
    refine ⟨a, b, rfl, ?_⟩
    have e : (if b < a then b else a) = min a b := by
      by_cases h : b < a
      · rw [if_pos h]; omega
      · rw [if_neg h]; omega
    rw [e]
    exact f _ μ _ H q rl Stp.refl (.int _)) h⟩
theorem pd_max2 {e2 : Expr} (hc : X.calm = true) (hg : Gl X "max") (hm : X.mg "max" = none) (ha : PAD X [e, e2] t) (st : starEach [e, e2] X.env = (false, eval e X.env) :: starEach [e2] X.env := by rfl) (st2 : (backTo pos (starEach [e2] X.env)).any (·.1) = false := by rfl) : PD X (.Call (.Name "max" p) [e, e2] [] pos) (dB rdMax2 t) :=
  ⟨PE.cq (pe_callB (call_max2 hc) hg hm (by decide +kernel) ha.ok (he := st) (hpl := st2)) fun _ _ _ h => callB_s (by
    rintro Z μ H xs ds Q0 Q rl i ⟨a, b, rfl, q⟩ f
    rw [two_ints i]
    refine ⟨a, b, rfl, ?_⟩
    have e : (if b > a then b else a) = max a b := by
      by_cases h : b > a
      · rw [if_pos h]; omega
      · rw [if_neg h]; omega
    rw [e]
    exact f _ μ _ H q rl Stp.refl (.int _)) h⟩
def rdInt : List D → Mu → QD → Prop := fun ds μ Q => (∃ i, ds = [.int i] ∧ Q (.int i) μ) ∨ ∃ b, ds = [.bl b] ∧ Q (.int (if b then 1 else 0)) μ
theorem pd_int (hg : Gl X "int") (hm : X.mg "int" = none) (ha : PAD X [e] t) (st : starEach [e] X.env = (false, eval e X.env) :: starEach [] X.env := by rfl) : PD X (.Call (.Name "int" p) [e] [] pos) (dB rdInt t) :=
  ⟨PE.cq (pe_callTy call_int1 hg hm (by decide +kernel) ha.ok (he := st)) fun _ _ _ h => callB_s (by
    rintro Z μ H xs ds Q0 Q rl i q f
    rcases q with ⟨j, rfl, q⟩ | ⟨j, rfl, q⟩
    · cases i with
      | cons i t =>
        cases t
        cases i
        exact .inl ⟨j, rfl, f _ μ _ H q rl Stp.refl (.int _)⟩
    · cases i with
      | cons i t =>
        cases t
        cases i
        exact .inr ⟨j, rfl, f _ μ _ H q rl Stp.refl (.int _)⟩) h⟩
/-- list(xs): N: the new one will change -/
def rdList (N : Bool) : List D → Mu → QD → Prop := fun ds μ Q => ∃ d es, ds = [d] ∧ (AsL μ d es ∨ d = .tup es) ∧ if N = true then ∀ p, μ p = none → Q (.adr p) (updM μ p (.lst es)) else Q (.lst es) μ
theorem cs_list (N : Bool) {K : PySem.W.Frag} (hK : K = k.K) : CS k (fun xs H Q => ∃ p ys, xs = [.ref p] ∧ (SqL K H p ys ∨ SqT K H p ys) ∧ ∀ l, H l = none → Q (.ref l) (upd H l (.lst ys))) (rdList N) := by
  subst hK
  rintro Z μ H xs ds Q0 Q rl i ⟨d, es, rfl, h, q⟩ f
  cases i with
  | cons i t =>
    cases t
    obtain ⟨a, ys, rfl, h1, t1⟩ : ∃ a ys, _ = V.ref a ∧ (SqL k.K H a ys ∨ SqT k.K H a ys) ∧ IsAllK k (msk Z μ H) ys es := by
      rcases h with h | rfl
      · obtain ⟨a, ys, e, h1, t1⟩ := h.get rl i
        exact ⟨a, ys, e, .inl h1, t1⟩
      · obtain ⟨a, ys, e, h1, t1⟩ := i.tupGet
        exact ⟨a, ys, e, .inr (SqT.of h1), t1⟩
    refine ⟨a, ys, rfl, h1, fun l hl => ?_⟩
    cases N with
    | false =>
      obtain ⟨r2, s2, e2⟩ := rl.alloc hl (.lst ys)
      exact f _ μ _ _ q r2 s2 (.lst e2 (t1.same s2.same))
    | true =>
      obtain ⟨r2, s2⟩ := rl.allocM hl (.lst ys) (.lst es) ⟨ys, upd_same, t1⟩
      exact f _ _ _ _ (q l (rl.free hl).2) r2 s2 (.adr l)
theorem pd_listC (N : Bool) (hg : Gl X "list") (hm : X.mg "list" = none) (ha : PAD X [e] t) (st : starEach [e] X.env = (false, eval e X.env) :: starEach [] X.env := by rfl) : PD X (.Call (.Name "list" p) [e] [] pos) (dB (rdList N) t) :=
  ⟨PE.cq (pe_callTy call_list_of hg hm (by decide +kernel) ha.ok (he := st)) fun _ _ _ h => callB_s (cs_list N rfl) h⟩
def rdTuple : List D → Mu → QD → Prop := fun ds μ Q => ∃ d es, ds = [d] ∧ (AsL μ d es ∨ d = .tup es) ∧ Q (.tup es) μ
theorem pd_tupleC (hg : Gl X "tuple") (hm : X.mg "tuple" = none) (ha : PAD X [e] t) (st : starEach [e] X.env = (false, eval e X.env) :: starEach [] X.env := by rfl) : PD X (.Call (.Name "tuple" p) [e] [] pos) (dB rdTuple t) :=
  ⟨PE.cq (pe_callTy call_tuple_of hg hm (by decide +kernel) ha.ok (he := st)) fun _ _ _ h => callB_s (by
    rintro Z μ H xs ds Q0 Q rl i ⟨d, es, rfl, h, q⟩ f
    cases i with
    | cons i t =>
      cases t
      rcases h with h | rfl
      · obtain ⟨a, ys, rfl, h1, t1⟩ := h.get rl i
        refine ⟨a, ys, rfl, .inl ⟨h1, fun l hl => ?_⟩⟩
        obtain ⟨r2, s2, e2⟩ := rl.alloc hl (.tup ys)
        exact f _ μ _ _ q r2 s2 (.tup e2 (t1.same s2.same))
      · obtain ⟨a, ys, rfl, h1, t1⟩ := id i.tupGet
        exact ⟨a, ys, rfl, .inr ⟨SqT.of h1, f _ μ _ H q rl Stp.refl i⟩⟩) h⟩
/-- list(range(..)) -/
def dRg1 (N : Bool) (ta : TD) : TD := fun ρ μ Q => ta ρ μ fun x μ1 => ∃ n : Int, x = .int n ∧ RgOk 0 n ∧ if N = true then ∀ p, μ1 p = none → Q (.adr p) (updM μ1 p (.lst (rngD 0 n.toNat))) else Q (.lst (rngD 0 n.toNat)) μ1
def dRg2 (N : Bool) (ta tb : TD) : TD := fun ρ μ Q => ta ρ μ fun x μ1 => tb ρ μ1 fun y μ2 => ∃ i j : Int, x = .int i ∧ y = .int j ∧ RgOk i j ∧ if N = true then ∀ p, μ2 p = none → Q (.adr p) (updM μ2 p (.lst (rngD i (j - i).toNat))) else Q (.lst (rngD i (j - i).toNat)) μ2
theorem isAll_map {α : Type} {G : Hp} {f : α → V} {g : α → D} : ∀ (l : List α), (∀ x ∈ l, IsK k G (f x) (g x)) → IsAllK k G (l.map f) (l.map g)
  | [], _ => .nil
  | x :: l, h => .cons (h x List.mem_cons_self) (isAll_map l fun y hy => h y (List.mem_cons_of_mem _ hy))
theorem isAll_rg {G : Hp} (i j : Int) : IsAllK k G (rgV i j) (rngD i (j - i).toNat) := isAll_map _ fun x _ => .int _
theorem lstRg_s (N : Bool) {Z : Addr → Prop} {μ : Mu} {H : Hp} {Q0 : QD} {Q : VK} {i j : Int} (rl : RlK k Z μ H) (q : if N = true then ∀ p, μ p = none → Q0 (.adr p) (updM μ p (.lst (rngD i (j - i).toNat))) else Q0 (.lst (rngD i (j - i).toNat)) μ) (f : Fin k Z μ H Q0 Q) :
    ∀ l, H l = none → Q (.ref l) (upd H l (.lst (rgV i j))) := fun l hl => by
  cases N with
  | false =>
    obtain ⟨r2, s2, e2⟩ := rl.alloc hl (.lst (rgV i j))
    exact f _ μ _ _ q r2 s2 (.lst e2 (isAll_rg i j))
  | true =>
    obtain ⟨r2, s2⟩ := rl.allocM hl (.lst (rgV i j)) (.lst (rngD i (j - i).toNat)) ⟨_, upd_same, isAll_rg i j⟩
    exact f _ _ _ _ (q l (rl.free hl).2) r2 s2 (.adr l)
theorem pd_listRg1 (N : Bool) {p2 pos2 : Pos} (hc : X.calm = true) (hg : Gl X "list") (hm : X.mg "list" = none) (hg2 : Gl X "range") (hm2 : X.mg "range" = none) (ha : PD X a ta) (na : starEach [a] X.env = (false, eval a X.env) :: starEach [] X.env := by rfl)
    (na2 : starEach [.Call (.Name "range" p2) [a] [] pos2] X.env = (false, eval (.Call (.Name "range" p2) [a] [] pos2) X.env) :: starEach [] X.env := by rfl) : PD X (.Call (.Name "list" p) [.Call (.Name "range" p2) [a] [] pos2] [] pos) (dRg1 N ta) :=
  ⟨PE.cq (pe_listRg hc hg hm (prg_1 hg2 hm2 ha.ok na) na2) fun σ H Q ⟨Z, ρ, μ, Q0, rel, q, f⟩ => by
    refine ⟨Z, ρ, μ, _, rel, q, fun d μ1 v H1 ⟨n, e, ok, q1⟩ rl1 s1 i1 => ?_⟩
    subst e
    cases i1
    refine ⟨n, rfl, ok, lstRg_s N (i := 0) (j := n) rl1 ?_ (f.step s1)⟩
    rw [Int.sub_zero]
    exact q1⟩
theorem pd_listRg2 (N : Bool) {p2 pos2 : Pos} (hc : X.calm = true) (hg : Gl X "list") (hm : X.mg "list" = none) (hg2 : Gl X "range") (hm2 : X.mg "range" = none) (ha : PD X a ta) (hb : PD X b tb) (na : starEach [a, b] X.env = (false, eval a X.env) :: starEach [b] X.env := by rfl)
    (nb : starEach [b] X.env = (false, eval b X.env) :: starEach [] X.env := by rfl) (hp : (backTo pos2 (starEach [b] X.env)).any (·.1) = false := by rfl)
    (na2 : starEach [.Call (.Name "range" p2) [a, b] [] pos2] X.env = (false, eval (.Call (.Name "range" p2) [a, b] [] pos2) X.env) :: starEach [] X.env := by rfl) : PD X (.Call (.Name "list" p) [.Call (.Name "range" p2) [a, b] [] pos2] [] pos) (dRg2 N ta tb) :=
  ⟨PE.cq (pe_listRg hc hg hm (prg_2 hg2 hm2 ha.ok hb.ok na nb hp) na2) fun σ H Q ⟨Z, ρ, μ, Q0, rel, q, f⟩ => by
    refine ⟨Z, ρ, μ, _, rel, q, fun d μ1 v H1 q1 rl1 s1 i1 => ?_⟩
    refine ⟨Z, ρ, μ1, _, rel.step s1 rl1, q1, fun d' μ2 v' H2 ⟨i, j, e1, e2, ok, q2⟩ rl2 s2 i2 => ?_⟩
    subst e1 e2
    cases i1
    cases i2
    exact ⟨i, j, rfl, rfl, ok, lstRg_s N rl2 q2 (f.step (s1.trans s2))⟩⟩
/-- all, any of bools -/
def rdAll : List D → Mu → QD → Prop := fun ds μ Q => ∃ (d : D) (bs : List Bool), ds = [d] ∧ AsL μ d (bs.map D.bl) ∧ Q (.bl (bs.all id)) μ
def rdAny : List D → Mu → QD → Prop := fun ds μ Q => ∃ (d : D) (bs : List Bool), ds = [d] ∧ AsL μ d (bs.map D.bl) ∧ Q (.bl (bs.any id)) μ
theorem pd_all (hc : X.calm = true) (hg : Gl X "all") (hm : X.mg "all" = none) (ha : PAD X [e] t) (st : starEach [e] X.env = (false, eval e X.env) :: starEach [] X.env := by rfl) : PD X (.Call (.Name "all" p) [e] [] pos) (dB rdAll t) :=
  ⟨PE.cq (pe_callB (cr_all hc) hg hm (by decide +kernel) ha.ok (he := st)) fun _ _ _ h => callB_s (by
    rintro Z μ H xs ds Q0 Q rl i ⟨d, bs, rfl, h, q⟩ f
    cases i with
    | cons i t =>
      cases t
      obtain ⟨a, ys, rfl, h1, t1⟩ := h.get rl i
      rw [t1.bls] at h1
      exact ⟨a, bs, rfl, h1, f _ μ _ H q rl Stp.refl (.bl _)⟩) h⟩
theorem pd_any (hc : X.calm = true) (hg : Gl X "any") (hm : X.mg "any" = none) (ha : PAD X [e] t) (st : starEach [e] X.env = (false, eval e X.env) :: starEach [] X.env := by rfl) : PD X (.Call (.Name "any" p) [e] [] pos) (dB rdAny t) :=
  ⟨PE.cq (pe_callB (cr_any hc) hg hm (by decide +kernel) ha.ok (he := st)) fun _ _ _ h => callB_s (by
    rintro Z μ H xs ds Q0 Q rl i ⟨d, bs, rfl, h, q⟩ f
    cases i with
    | cons i t =>
      cases t
      obtain ⟨a, ys, rfl, h1, t1⟩ := h.get rl i
      rw [t1.bls] at h1
      exact ⟨a, bs, rfl, h1, f _ μ _ H q rl Stp.refl (.bl _)⟩) h⟩
/-- sorted of ints -/
def rdSortI : List D → Mu → QD → Prop := fun ds μ Q => ∃ (d : D) (ns : List Int), ds = [d] ∧ AsL μ d (ns.map D.int) ∧ ∀ ms : List Int, ms.Perm ns → ms.Pairwise (· ≤ ·) → Q (.lst (ms.map D.int)) μ
theorem pd_sortI (hg : Gl X "sorted") (hm : X.mg "sorted" = none) (ha : PAD X [e] t) (st : starEach [e] X.env = (false, eval e X.env) :: starEach [] X.env := by rfl) : PD X (.Call (.Name "sorted" p) [e] [] pos) (dB rdSortI t) :=
  ⟨PE.cq (pe_callB cr_sortedI hg hm (by decide +kernel) ha.ok (he := st)) fun _ _ _ h => callB_s (by
    rintro Z μ H xs ds Q0 Q rl i ⟨d, ns, rfl, h, q⟩ f
    cases i with
    | cons i t =>
      cases t
      obtain ⟨a, ys, rfl, h1, t1⟩ := h.get rl i
      rw [t1.ints] at h1
      refine ⟨a, ns, rfl, h1, fun ms l hp hs hl => ?_⟩
      obtain ⟨r2, s2, e2⟩ := rl.alloc hl (.lst (ms.map V.int))
      exact f _ μ _ _ (q ms hp hs) r2 s2 (.lst e2 (isAll_ints ms))) h⟩
end

/-! ### methods of what is built in -/
section
variable {X : Cx} {k : KW} {o e : Expr} {es : List Expr} {to te : TD} {pos apos : Pos}
theorem ty_list {Z : Addr → Prop} {μ : Mu} {H : Hp} {a : Addr} {ds : List D} (rl : RlK k Z μ H) (e : μ a = some (.lst ds)) : tyV k.K "list" (.ref a) H := by
  obtain ⟨vs, h1, _⟩ := rl.mu a _ e
  exact .inl ⟨rfl, _, SqL.of h1⟩
/-- xs.append(e), xs a list that changes -/
def dApp (to te : TD) : TD := fun ρ μ Q => to ρ μ fun x μ1 => ∃ a, x = .adr a ∧ (∃ ds, μ1 a = some (.lst ds)) ∧ te ρ μ1 fun y μ2 => ∃ ds, μ2 a = some (.lst ds) ∧ ds.length < sizeLine ∧ Q .non (updM μ2 a (.lst (ds ++ [y])))
theorem pd_append (ho : PD X o to) (he : PD X e te)
    (hbase : attributeBase o "append" X.env (eval o X.env) = eval o X.env := by rfl) (hline : (apos.endLine == pos.line) = true := by rfl)
    (hfew : ((backTo pos (starEach [e] X.env)).all (fun x => !x.1) && (backToKw pos (keywordEach [] X.env)).all (fun x => x.1.isSome) && decide ([e].length + ([] : List Keyword).length + (if ([] : List Keyword).isEmpty then 0 else 1) < 30)) = true := by rfl)
    (hs : starEach [e] X.env = (false, eval e X.env) :: starEach [] X.env := by rfl) (hplain : (backTo pos (starEach [] X.env)).any (·.1) = false := by rfl) : PD X (.Call (.Attribute o "append" apos) [e] [] pos) (dApp to te) :=
  ⟨PE.cq (pe_bm PySem.F.plainAttrs_list PySem.F.slot_list_append PySem.F.type_list_append mt_append ho.ok (pa_cons he.ok pa_nil hs) hbase hfew hline hs hplain) fun σ H Q ⟨Z, ρ, μ, Q0, rel, q, f⟩ => by
    refine ⟨Z, ρ, μ, _, rel, q, fun x μ1 v H1 ⟨a, e1, ⟨ds, e2⟩, q1⟩ rl1 s1 i1 => ?_⟩
    subst e1
    cases i1
    refine ⟨ty_list rl1 e2, Z, ρ, μ1, _, rel.step s1 rl1, q1, fun y μ2 u H2 ⟨es, e3, l, q2⟩ rl2 s2 i2 => ?_⟩
    obtain ⟨vs, h1, t1⟩ := rl2.mu a _ e3
    obtain ⟨r3, s3⟩ := rl2.write e3 (.lst (vs ++ [u])) (.lst (es ++ [y])) ⟨_, upd_same, t1.append (.cons i2 .nil)⟩
    exact ⟨a, vs, u, rfl, rfl, h1, by rw [t1.length]; exact l, f _ _ _ _ q2 r3 ((s1.trans s2).trans s3) .non⟩⟩
/-- xs.pop() -/
def dPop (to : TD) : TD := fun ρ μ Q => to ρ μ fun x μ1 => ∃ a ds d, x = .adr a ∧ μ1 a = some (.lst (ds ++ [d])) ∧ Q d (updM μ1 a (.lst ds))
theorem pd_pop (ho : PD X o to) (hbase : attributeBase o "pop" X.env (eval o X.env) = eval o X.env := by rfl) (hline : (apos.endLine == pos.line) = true := by rfl) : PD X (.Call (.Attribute o "pop" apos) [] [] pos) (dPop to) :=
  ⟨PE.cq (pe_bm0 PySem.F.plainAttrs_list PySem.F.slot_list_pop PySem.F.type_list_pop mt_pop ho.ok hbase hline) fun σ H Q ⟨Z, ρ, μ, Q0, rel, q, f⟩ => by
    refine ⟨Z, ρ, μ, _, rel, q, fun x μ1 v H1 ⟨a, ds, d, e1, e2, q1⟩ rl1 s1 i1 => ?_⟩
    subst e1
    cases i1
    refine ⟨ty_list rl1 e2, ?_⟩
    obtain ⟨vs, h1, t1⟩ := rl1.mu a _ e2
    have hl := t1.length
    rw [List.length_append, List.length_singleton] at hl
    obtain ⟨y, h2, h3⟩ := t1.get (i := ds.length) (d := d) (by rw [List.getElem?_append_right (Nat.le_refl _), Nat.sub_self]; rfl)
    have hd : IsAllK (kw X) (msk Z μ1 H1) vs.dropLast ds := by
      have h := t1.take ds.length
      rw [List.take_left'  rfl] at h
      rw [List.dropLast_eq_take, hl, Nat.add_sub_cancel]
      exact h
    obtain ⟨r3, s3⟩ := rl1.write e2 (.lst vs.dropLast) (.lst ds) ⟨_, upd_same, hd⟩
    exact ⟨a, vs, y, rfl, rfl, h1, by rw [hl, Nat.add_sub_cancel]; exact h2, f _ _ _ _ q1 r3 (s1.trans s3) (h3.same s3.same)⟩⟩
/-- xs.pop(i) -/
def dPopAt (to te : TD) : TD := fun ρ μ Q => to ρ μ fun x μ1 => ∃ a, x = .adr a ∧ (∃ ds, μ1 a = some (.lst ds)) ∧ te ρ μ1 fun y μ2 => ∃ ds i k d, μ2 a = some (.lst ds) ∧ y = .int i ∧ -(2 ^ 63) ≤ i ∧ i < 2 ^ 63 ∧ seqIndex? i ds.length = some k ∧ ds[k]? = some d ∧ Q d (updM μ2 a (.lst (ds.eraseIdx k)))
theorem pd_popAt (ho : PD X o to) (he : PD X e te)
    (hbase : attributeBase o "pop" X.env (eval o X.env) = eval o X.env := by rfl) (hline : (apos.endLine == pos.line) = true := by rfl)
    (hfew : ((backTo pos (starEach [e] X.env)).all (fun x => !x.1) && (backToKw pos (keywordEach [] X.env)).all (fun x => x.1.isSome) && decide ([e].length + ([] : List Keyword).length + (if ([] : List Keyword).isEmpty then 0 else 1) < 30)) = true := by rfl)
    (hs : starEach [e] X.env = (false, eval e X.env) :: starEach [] X.env := by rfl) (hplain : (backTo pos (starEach [] X.env)).any (·.1) = false := by rfl) : PD X (.Call (.Attribute o "pop" apos) [e] [] pos) (dPopAt to te) :=
  ⟨PE.cq (pe_bm PySem.F.plainAttrs_list PySem.F.slot_list_pop PySem.F.type_list_pop mt_popAt ho.ok (pa_cons he.ok pa_nil hs) hbase hfew hline hs hplain) fun σ H Q ⟨Z, ρ, μ, Q0, rel, q, f⟩ => by
    refine ⟨Z, ρ, μ, _, rel, q, fun x μ1 v H1 ⟨a, e1, ⟨ds, e2⟩, q1⟩ rl1 s1 i1 => ?_⟩
    subst e1
    cases i1
    refine ⟨ty_list rl1 e2, Z, ρ, μ1, _, rel.step s1 rl1, q1, fun y μ2 u H2 ⟨es, i, j, d, e3, e4, l1, l2, e5, e6, q2⟩ rl2 s2 i2 => ?_⟩
    subst e4
    cases i2
    obtain ⟨vs, h1, t1⟩ := rl2.mu a _ e3
    obtain ⟨z, h2, h3⟩ := t1.get e6
    obtain ⟨r3, s3⟩ := rl2.write e3 (.lst (vs.eraseIdx j)) (.lst (es.eraseIdx j)) ⟨_, upd_same, t1.eraseIdx j⟩
    exact ⟨a, vs, i, j, z, rfl, rfl, h1, l1, l2, by rw [t1.length]; exact e5, h2, f _ _ _ _ q2 r3 ((s1.trans s2).trans s3) (h3.same s3.same)⟩⟩
/-- xs[i] = e, xs a list that changes -/
def dLput (to ti te : TD) : TSD := fun D ρ μ => te ρ μ fun y μ1 => to ρ μ1 fun x μ2 => ti ρ μ2 fun z μ3 => ∃ a ds i j, x = .adr a ∧ z = .int i ∧ μ3 a = some (.lst ds) ∧ ixN ds.length i = some j ∧ D.nx ρ (updM μ3 a (.lst (ds.set j y)))
theorem psd_lput {i value : Expr} {ti : TD} {tpos : Pos} (ho : PD X o to) (hi : PD X i ti) (hv : PD X value te) (hs : swapsWithSole [.Subscript o i tpos] value pos.line X.env = pure false := by rfl) (hw : swappedStores [.Subscript o i tpos] value X.env = pure none := by rfl)
    (h1 : (assignEach [.Subscript o i tpos] X.env).map (·.2) = [assign (.Subscript o i tpos) X.env] := by rfl)
    (ha : ∀ v, assign (.Subscript o i tpos) X.env v = (do
      let ov ← holding [v] (eval o X.env)
      let iv ← holding [v, ov] (eval i X.env)
      standAt tpos
      holding [v, ov, iv] (setItem ov iv v)
      release [v, ov, iv] []) := by intro _; rfl) : PSD X (.Assign [.Subscript o i tpos] value pos) (dLput to ti te) := ⟨PS.cq (ps_asg hv.ok (pg_sub ho.ok hi.ok set_list ha) hs hw h1) fun D σ H ⟨Z, μb, Hb, ρ, μ, DD, rel, s, q, c⟩ => by
  refine ⟨Z, ρ, μ, _, rel, q, fun y μ1 v H1 q1 rl1 s1 i1 => ?_⟩
  refine ⟨Z, ρ, μ1, _, rel.step s1 rl1, q1, fun x μ2 u H2 q2 rl2 s2 i2 => ?_⟩
  refine ⟨Z, ρ, μ2, _, rel.step (s1.trans s2) rl2, q2, fun z μ3 w3 H3 ⟨a, ds, n, j, e1, e2, e3, e4, q3⟩ rl3 s3 i3 => ?_⟩
  subst e1 e2
  cases i2
  cases i3
  obtain ⟨vs, h1, t1⟩ := rl3.mu a _ e3
  obtain ⟨r4, s4⟩ := rl3.write e3 (.lst (vs.set j v)) (.lst (ds.set j y)) ⟨_, upd_same, t1.set j (i1.same (s2.trans s3).same)⟩
  exact ⟨a, vs, n, j, rfl, rfl, h1, by rw [t1.length]; exact e4, c.nx ρ _ σ _ q3 (rel.step (((s1.trans s2).trans s3).trans s4) r4) ((((s.trans s1).trans s2).trans s3).trans s4)⟩⟩
/-! slices -/
def dPart (o : Option TD) : EnvD → Mu → (Option Int → Mu → Prop) → Prop := fun ρ μ Q => match o with
  | none => Q none μ
  | some t => t ρ μ fun x μ1 => ∃ i, x = .int i ∧ Q (some i) μ1
def cutD (ds : List D) (lo hi : Option Int) : List D := (ds.drop (HT.sIx ds.length 0 lo)).take (HT.sIx ds.length ds.length hi - HT.sIx ds.length 0 lo)
theorem isAll_cut {G : Hp} {vs : List V} {ds : List D} (h : IsAllK k G vs ds) (lo hi : Option Int) : IsAllK k G (cutV vs lo hi) (cutD ds lo hi) := by
  unfold cutV cutD
  rw [h.length]
  exact (h.drop _).take _
structure POD (X : Cx) (e : Option Expr) (t : Option TD) : Prop where
  ok : PO X e (match t with | none => tNoPart | some t => tPart (lift (kw X) t))
theorem pod_none : POD X none none := ⟨po_none⟩
theorem pod_some {e : Expr} {t : TD} (h : PD X e t) : POD X (some e) (some t) := ⟨po_some h.ok⟩
/-- xs[a:b]; N: the new list will change -/
def dCut (N : Bool) (te : TD) (tl th : Option TD) : TD := fun ρ μ Q => te ρ μ fun x μ1 => dPart tl ρ μ1 fun lo μ2 => dPart th ρ μ2 fun hi μ3 => ∃ ds, (AsL μ3 x ds ∧ if N = true then ∀ p, μ3 p = none → Q (.adr p) (updM μ3 p (.lst (cutD ds lo hi))) else Q (.lst (cutD ds lo hi)) μ3) ∨ (x = .tup ds ∧ Q (.tup (cutD ds lo hi)) μ3)
theorem part_s {Z : Addr → Prop} {ρ : EnvD} {μ : Mu} {σ : L2.St} {H : Hp} {t : Option TD} {Q0 : Option Int → Mu → Prop} {Q : Option Int → Hp → Prop} (rel : Rel k Z ρ μ σ H) (q : dPart t ρ μ Q0) (f : ∀ o μ' H', Q0 o μ' → RlK k Z μ' H' → Stp Z μ H μ' H' → Q o H') :
    (match t with | none => tNoPart | some t => tPart (lift k t)) σ H Q := by
  cases t with
  | none => exact f none μ H q rel.rl Stp.refl
  | some t =>
    refine ⟨Z, ρ, μ, _, rel, q, fun d μ1 v H1 ⟨i, e, q1⟩ rl1 s1 i1 => ?_⟩
    subst e
    cases i1
    exact ⟨i, rfl, f _ μ1 H1 q1 rl1 s1⟩
theorem pd_cut (N : Bool) {lo hi : Option Expr} {tl th : Option TD} {p2 : Pos} (he : PD X e te) (hl : POD X lo tl) (hh : POD X hi th) : PD X (.Subscript e (.Slice lo hi none p2) pos) (dCut N te tl th) :=
  ⟨PE.cq (pe_slice (sl_list.or sl_tupA) he.ok hl.ok hh.ok) fun σ H Q ⟨Z, ρ, μ, Q0, rel, q, f⟩ => by
    refine ⟨Z, ρ, μ, _, rel, q, fun d μ1 v H1 q1 rl1 s1 i1 => ?_⟩
    refine part_s (rel.step s1 rl1) q1 fun lo μ2 H2 q2 rl2 s2 => ?_
    refine part_s (rel.step (s1.trans s2) rl2) q2 fun hi μ3 H3 ⟨ds, q3⟩ rl3 s3 => ?_
    have i3 := i1.same (s2.trans s3).same
    have s123 := (s1.trans s2).trans s3
    rcases q3 with ⟨as, q3⟩ | ⟨rfl, q3⟩
    · obtain ⟨a, xs, rfl, h1, t1⟩ := as.get rl3 i3
      refine .inl ⟨a, xs, rfl, h1, fun p hp => ?_⟩
      cases N with
      | false =>
        obtain ⟨r4, s4, e4⟩ := rl3.alloc hp (.lst (cutV xs lo hi))
        exact f _ μ3 _ _ q3 r4 (s123.trans s4) (.lst e4 ((isAll_cut t1 lo hi).same s4.same))
      | true =>
        obtain ⟨r4, s4⟩ := rl3.allocM hp (.lst (cutV xs lo hi)) (.lst (cutD ds lo hi)) ⟨_, upd_same, isAll_cut t1 lo hi⟩
        exact f _ _ _ _ (q3 p (rl3.free hp).2) r4 (s123.trans s4) (.adr p)
    · obtain ⟨a, xs, rfl, h1, t1⟩ := id i3.tupGet
      refine .inr ⟨a, xs, rfl, SqT.of h1, fun ⟨e1, e2⟩ => ?_, fun _ p hp => ?_⟩
      · have e : cutD ds lo hi = ds := by
          unfold cutD
          rw [← t1.length, e1, e2, List.drop_zero, Nat.sub_zero, t1.length, List.take_length]
        rw [e] at q3
        exact f _ μ3 _ _ q3 rl3 s123 i3
      · obtain ⟨r4, s4, e4⟩ := rl3.alloc hp (.tup (cutV xs lo hi))
        exact f _ μ3 _ _ q3 r4 (s123.trans s4) (.tup e4 ((isAll_cut t1 lo hi).same s4.same))⟩
/-- xs[::-1], a list -/
def dRev (te : TD) : TD := fun ρ μ Q => te ρ μ fun x μ1 => ∃ ds, AsL μ1 x ds ∧ Q (.lst ds.reverse) μ1
theorem pd_rev {kk : Nat} {p1 p2 p3 : Pos} (he : PD X e te) : PD X (.Subscript e (.Slice none none (some (.UnaryOp .USub (.Constant (.int 1) kk p1) p2)) p3) pos) (dRev te) :=
  ⟨PE.cq (pe_revL he.ok) fun σ H Q ⟨Z, ρ, μ, Q0, rel, q, f⟩ => by
    refine ⟨Z, ρ, μ, _, rel, q, fun d μ1 v H1 ⟨ds, as, q1⟩ rl1 s1 i1 => ?_⟩
    obtain ⟨a, xs, rfl, h1, t1⟩ := as.get rl1 i1
    refine ⟨a, xs, rfl, h1, fun p hp => ?_⟩
    obtain ⟨r4, s4, e4⟩ := rl1.alloc hp (.lst xs.reverse)
    exact f _ μ1 _ _ q1 r4 (s1.trans s4) (.lst e4 (t1.reverse.same s4.same))⟩
end

/-! ### isinstance -/
/-- the type's name of a value -/
def tyN (μ : Mu) : D → Option String
  | .non => some "NoneType"
  | .bl _ => some "bool"
  | .int _ => some "int"
  | .str _ => some "str"
  | .tup _ => some "tuple"
  | .lst _ => some "list"
  | .dct _ _ => some "dict"
  | .adr a => match μ a with
    | some (.lst _) => some "list"
    | some (.dct _) => some "dict"
    | _ => none
  | _ => none
def tyNames : List String := ["NoneType", "bool", "int", "str", "tuple", "list", "dict"]
def isaN (a b : String) : Bool := a == b || (a == "bool" && b == "int")
theorem kitB_all : (tyNames.all fun a => ["bool", "int", "str", "tuple", "list", "dict"].all fun b => kitB a b == some (isaN a b)) = true := by decide +kernel
theorem kitB_of {a b : String} (ha : a ∈ tyNames) (hb : b ∈ ["bool", "int", "str", "tuple", "list", "dict"]) : kitB a b = some (isaN a b) :=
  eq_of_beq (List.all_eq_true.mp (List.all_eq_true.mp kitB_all a ha) b hb)
section
variable {X : Cx} {k : KW} {e c : Expr} {t : TAD} {p pos : Pos}
theorem ty_of {Z : Addr → Prop} {μ : Mu} {H : Hp} {v : V} {d : D} {n : String} (rl : RlK k Z μ H) (i : IsK k (msk Z μ H) v d) (h : tyN μ d = some n) : TyX k.K H v (.type n) ∧ n ∈ tyNames := by
  cases i with
  | non => cases h; exact ⟨.base .non, by decide⟩
  | bl b => cases h; exact ⟨.base (.bl b), by decide⟩
  | int j => cases h; exact ⟨.base (.int j), by decide⟩
  | str z => cases h; exact ⟨.base (.str z), by decide⟩
  | tup h1 t => cases h; exact ⟨.base (.tup (msk_le _ _ _ _ _ h1)), by decide⟩
  | lst h1 t => cases h; exact ⟨.base (.lst (msk_le _ _ _ _ _ h1)), by decide⟩
  | dct h1 l t => cases h; exact ⟨.base (.dK (msk_le _ _ _ _ _ h1)), by decide⟩
  | adr a =>
    have h : (match μ a with | some (.lst _) => some "list" | some (.dct _) => some "dict" | _ => none) = some n := h
    cases e : μ a with
    | none => rw [e] at h; cases h
    | some m =>
      rw [e] at h
      cases m with
      | lst ds =>
        cases h
        obtain ⟨vs, h1, _⟩ := rl.mu a _ e
        exact ⟨.base (.lst h1), by decide⟩
      | dct ds =>
        cases h
        obtain ⟨vs, h1, _⟩ := rl.mu a _ e
        exact ⟨.base (.dK h1), by decide⟩
      | dtt ds => cases h
      | ins C ds => cases h
  | ty _ => cases h
  | frz _ _ => cases h
  | ins _ _ _ => cases h
  | set _ _ _ => cases h
/-- isinstance(x, T), isinstance(x, (T, U)) -/
def rdIsi : List D → Mu → QD → Prop := fun ds μ Q => ∃ d n, ((∃ T, ds = [d, .ty T] ∧ T ∈ ["bool", "int", "str", "tuple", "list", "dict"] ∧ tyN μ d = some n ∧ Q (.bl (isaN n T)) μ) ∨
  (∃ T U, ds = [d, .tup [.ty T, .ty U]] ∧ T ∈ ["bool", "int", "str", "tuple", "list", "dict"] ∧ U ∈ ["bool", "int", "str", "tuple", "list", "dict"] ∧ tyN μ d = some n ∧ Q (.bl (isaN n T || isaN n U)) μ))
theorem cs_isi {K : PySem.W.Frag} (hK : K = k.K) : CS k (fun xs H Q => rIsi K xs H Q ∨ rIsiT K xs H Q) rdIsi := by
  subst hK
  rintro Z μ H xs ds Q0 Q rl i ⟨d, n, h⟩ f
  rcases h with ⟨T, rfl, hT, hn, q⟩ | ⟨T, U, rfl, hT, hU, hn, q⟩
  · cases i with
    | cons i t =>
      cases t with
      | cons i2 t =>
        cases t
        cases i2
        obtain ⟨h1, h2⟩ := ty_of rl i hn
        exact .inl ⟨_, _, _, _, _, rfl, .ty T, h1, kit_ty (kitB_of h2 hT), f _ μ _ H q rl Stp.refl (.bl _)⟩
  · cases i with
    | cons i t =>
      cases t with
      | cons i2 t =>
        cases t
        obtain ⟨a, ys, rfl, h3, t3⟩ := i2.tupGet
        cases t3 with
        | cons j1 t3 =>
          cases t3 with
          | cons j2 t3 =>
            cases t3
            cases j1
            cases j2
            obtain ⟨h1, h2⟩ := ty_of rl i hn
            refine .inr ⟨_, a, [.ty T, .ty U], _, [.type T, .type U], _, rfl, h3, .cons (.ty T) (.cons (.ty U) .nil), h1, ?_, f _ μ _ H q rl Stp.refl (.bl _)⟩
            refine kitAny_cons (kit_ty (kitB_of h2 hT)) (fun e => ?_) fun e => by rw [e]; rfl
            rw [e, Bool.false_or]
            refine kitAny_cons (kit_ty (kitB_of h2 hU)) (fun e => ?_) fun e => e
            rw [e]
            exact kitAny_nil
theorem pd_isi (hg : Gl X "isinstance") (hm : X.mg "isinstance" = none) (ha : PAD X [e, c] t) (st : starEach [e, c] X.env = (false, eval e X.env) :: starEach [c] X.env := by rfl) (st2 : (backTo pos (starEach [c] X.env)).any (·.1) = false := by rfl) : PD X (.Call (.Name "isinstance" p) [e, c] [] pos) (dB rdIsi t) :=
  ⟨PE.cq (pe_callB (call_isi.or call_isiT) hg hm (by decide +kernel) ha.ok (he := st) (hpl := st2)) fun _ _ _ h => callB_s (cs_isi rfl) h⟩
end
end Zd


set_option Elab.async false
set_option linter.all false
set_option maxRecDepth 100000
set_option maxHeartbeats 2000000
namespace Zd
open PySem PySem.Spec PyProof.Rows L2

/-! ### lists or tuples walked -/
section
variable {X : Cx} {tg e : Expr} {te : TD} {k : KW}
theorem PI.or {t t' : TI} (h : PI X tg e t) (h' : PI X tg e t') : PI X tg e (fun σ H R => t σ H R ∨ t' σ H R) := ⟨fun pins s σ H R I q => q.elim (h.run pins s σ H R I) (h'.run pins s σ H R I)⟩
def dItS (te : TD) : TID := fun ρ μ Q => te ρ μ fun d μ1 => ∃ ds, (AsL μ1 d ds ∧ Q ⟨ds, fun μ => AsL μ d ds⟩ μ1) ∨ (d = .tup ds ∧ Q ⟨ds, fun _ => True⟩ μ1)
/-- the first wanted thing of a value decides which rule walks it -/
def iSeq (K : PySem.W.Frag) (tl : TE) : TI := fun σ H R => tl σ H fun x H1 => ∃ a, x = .ref a ∧ ((∃ xs, SqL K H1 a xs) ∧ R (Itl K a) H1 ∨ (∃ xs, SqT K H1 a xs) ∧ R (Itt K a) H1)
theorem pi_seq {l : Expr} {tl : TE} (hl : PE X l tl) : PI X tg l (iSeq X.K tl) := by
  refine ⟨fun pins s σ H R I h => ?_⟩
  refine thn (hl.run pins s σ H _ I h) fun v s1 ⟨x, H1, I1, r1, q1⟩ => ?_
  obtain ⟨a, e, q⟩ := q1
  subst e
  cases r1
  have frs : ∀ b ∈ [s1.heap.objs.size], FpOk X pins H1 b := fun b hb => by
    have e : b = s1.heap.objs.size := by simpa using hb
    subst e
    exact I1.fpOk (Nat.le_refl _) (I1.hok.fresh (Nat.le_refl _))
  rcases q with ⟨⟨xs, hq⟩, q⟩ | ⟨⟨xs, hq⟩, q⟩
  · have ⟨its, rv, p, hz⟩ := I1.list hq
    exact wpAny_pyIter_list p.isList ⟨s1.heap.objs.size, [s1.heap.objs.size], _, _, H1, rfl, I1.kept (t' := s1.toks) fun b o e => Heap.get?_push_of_some _ e, turn_list a _, ⟨_, Heap.get?_push_size _ rfl, rfl, rfl⟩, frs, q⟩
  · have ⟨its, rv, p, hz⟩ := I1.tuple hq
    exact wpAny_pyIter_tuple (show s1.heap.IsTuple a its.toArray from p) ⟨s1.heap.objs.size, [s1.heap.objs.size], _, _, H1, rfl, I1.kept (t' := s1.toks) fun b o e => Heap.get?_push_of_some _ e, turn_tuple a _, ⟨_, Heap.get?_push_size _ rfl, rfl, rfl⟩, frs, q⟩
theorem itl_ok {Z : Addr → Prop} {Y : Addr → Prop} {μ2 : Mu} {H2 : Hp} {a : Addr} {d : D} {ds : List D} (i2 : IsK k (msk (fun b => Z b ∨ Y b) μ2 H2) (.ref a) d) : ItOk k (fun b => Z b ∨ Y b) (Itl k.K a) ⟨ds, fun μ => AsL μ d ds⟩ μ2 H2 := by
  have at_ : ∀ μ H, RlK k (fun b => Z b ∨ Y b) μ H → Stp (fun b => Z b ∨ Y b) μ2 H2 μ H → AsL μ d ds → ∃ xs, SqL k.K H a xs ∧ IsAllK k (msk (fun b => Z b ∨ Y b) μ H) xs ds := fun μ H r s as => by
    obtain ⟨b, ys, eb, h1, h2⟩ := as.get r (i2.same s.same)
    cases eb
    exact ⟨ys, h1, h2⟩
  refine ⟨fun i μ H r s lv hi => ?_, fun i μ H x H' r s lv hi hy => ?_, fun i μ H r s lv hi => ?_⟩
  · obtain ⟨ys, h1, h2⟩ := at_ μ H r s lv
    have hl : i < ys.length := by rw [h2.length]; exact hi
    exact ⟨ys, ys[i], h1, List.getElem?_eq_getElem hl⟩
  · obtain ⟨ys, h1, h2⟩ := at_ μ H r s lv
    obtain ⟨rfl, h3⟩ := hy
    obtain ⟨d', h4, h5⟩ := h2.getV (h3 ys h1)
    exact ⟨d', h4, r, Stp.refl, h5⟩
  · obtain ⟨ys, h1, h2⟩ := at_ μ H r s lv
    exact ⟨ys, h1, by rw [h2.length]; exact hi⟩
theorem itt_ok {Z : Addr → Prop} {Y : Addr → Prop} {μ2 : Mu} {H2 : Hp} {a : Addr} {ds : List D} (i2 : IsK k (msk (fun b => Z b ∨ Y b) μ2 H2) (.ref a) (.tup ds)) : ItOk k (fun b => Z b ∨ Y b) (Itt k.K a) ⟨ds, fun _ => True⟩ μ2 H2 := by
  have at_ : ∀ μ H, Stp (fun b => Z b ∨ Y b) μ2 H2 μ H → ∃ xs, SqT k.K H a xs ∧ IsAllK k (msk (fun b => Z b ∨ Y b) μ H) xs ds := fun μ H s => by
    obtain ⟨b, ys, eb, h1, h2⟩ := (i2.same s.same).tupGet
    cases eb
    exact ⟨ys, SqT.of h1, h2⟩
  refine ⟨fun i μ H r s lv hi => ?_, fun i μ H x H' r s lv hi hy => ?_, fun i μ H r s lv hi => ?_⟩
  · obtain ⟨ys, h1, h2⟩ := at_ μ H s
    have hl : i < ys.length := by rw [h2.length]; exact hi
    exact ⟨ys, ys[i], h1, List.getElem?_eq_getElem hl⟩
  · obtain ⟨ys, h1, h2⟩ := at_ μ H s
    obtain ⟨rfl, h3⟩ := hy
    obtain ⟨d', h4, h5⟩ := h2.getV (h3 ys h1)
    exact ⟨d', h4, r, Stp.refl, h5⟩
  · obtain ⟨ys, h1, h2⟩ := at_ μ H s
    exact ⟨ys, h1, by rw [h2.length]; exact hi⟩
theorem pid_seq (he : PD X e te) : PID X tg e (dItS te) := ⟨PI.cq (pi_seq he.ok) fun σ H R ⟨Z, ρ, μ, Q0, rel, q, f⟩ => by
  refine ⟨Z, ρ, μ, _, rel, q, fun d μ1 v H1 ⟨ds, q1⟩ rl1 s1 i1 => ?_⟩
  rcases q1 with ⟨as, q1⟩ | ⟨rfl, q1⟩
  · obtain ⟨a, xs, rfl, hs, ha⟩ := as.get rl1 i1
    exact ⟨a, rfl, .inl ⟨⟨xs, hs⟩, f _ μ1 _ H1 q1 rl1 s1 fun Y μ2 H2 rl2 s2 hy => itl_ok (k := kw X) (i1.same (msk_hide s2 hy))⟩⟩
  · obtain ⟨a, xs, rfl, hs, ha⟩ := id i1.tupGet
    exact ⟨a, rfl, .inr ⟨⟨xs, SqT.of hs⟩, f _ μ1 _ H1 q1 rl1 s1 fun Y μ2 H2 rl2 s2 hy => itt_ok (k := kw X) (i1.same (msk_hide s2 hy))⟩⟩⟩
end

/-! ### a def that stands, with its promise -/
def Def (P : Program) (w : World) (K : PySem.W.Frag) (mg : Str → Option Value) (base : Heap) (x : Str) (j : Nat) (ps : List Str) (sp : SpD) : Prop :=
  ∃ f fd, FnD P w K mg base j f fd ps sp ∧ mg x = some (.ref f) ∧ PySem.W.keepIn K (.ref f) = true ∧ Binds K fd ps []
/-- what the end shows of each def -/
structure Std (K : PySem.W.Frag) (mg : Str → Option Value) (x : Str) (st : Stmt) (ps : List Str) : Prop where
  ex : ∃ f fd, Fun K x x st f fd ∧ mg x = some (.ref f) ∧ Binds K fd ps []
section
variable {P : Program} {w : World} {K : PySem.W.Frag} {mg : Str → Option Value} {base : Heap}
theorem Std.def {x : Str} {st : Stmt} {N ps : List Str} {j : Nat} {sp : SpD} (F : Std K mg x st ps) (S : FnScope N ps (defScope st)) (len : ∀ ds μ Q, sp ds μ Q → ds.length = ps.length)
    (hbody : ∀ (cdv : Value) (A : Around) (outer : List Env) (s : Shared) (H : Hp) (E : XK) (f : Addr), Room j (A.deeper (envOfC x (defScope st) s.heap.objs.size f cdv)) →
      ∃ td, PSsD (cxOf CX0 P w K mg base N x (defScope st) f cdv A outer s H E).nox (defBody st) td ∧ ∀ ds μ Q, sp ds μ Q → td { nx := fun _ μ' => RT Q .non μ', rt := RT Q } (startD N ds) μ) : Def P w K mg base x (j + 1) ps sp := by
  obtain ⟨f, fd, F, g, b⟩ := F.ex
  exact ⟨f, fd, fnD F S len fun cdv A outer s H E hr => hbody cdv A outer s H E f hr, g, F.kp, b⟩
/-- a class with its __init__ -/
def DefC (P : Program) (w : World) (K : PySem.W.Frag) (mg : Str → Option Value) (base : Heap) (x : Str) (C : Addr) (j : Nat) (ps : List Str) (sp : SpD) : Prop :=
  ∃ f fd, Mk K C f ∧ FnD P w K mg base j f fd ps sp ∧ mg x = some (.ref C) ∧ Binds K fd ps []
end
theorem hu65 {k : Nat} {A : Around} (r : Room k A) : A.units + 65 < cLine := by have := r.un; omega
section
variable {X : Cx} {i : Int} {j : Nat} {pos : Pos} {b : Bool} {x : Str}
theorem pd_i : PD X (.Constant (.int i) j pos) (dC (.int i)) := pd_c pe_int fun _ _ => .int _
theorem pd_b : PD X (.Constant (.bool b) j pos) (dC (.bl b)) := pd_c pe_bl fun _ _ => .bl _
theorem pd_n : PD X (.Constant .none j pos) (dC .non) := pd_c pe_non fun _ _ => .non
theorem pd_s : PD X (.Constant (.str x) j pos) (dC (.str x)) := pd_c pe_str fun _ _ => .str _
end
section
variable {X : Cx} {j J : Nat} {ps : List Str} {sp : SpD} {x : Str} {p pos : Pos} {e : Expr} {es : List Expr} {t : TAD}
theorem pd_callF (F : Def X.prog X.w X.K X.mg X.base x j ps sp) (hr : Room J X.A) (hJ : j ≤ J) (hg : Gl X x)
    (ha : PAD X (e :: es) t) (hdb : (x == ("__debug__" : Str)) = false := by decide) (he : starEach (e :: es) X.env = (false, eval e X.env) :: starEach es X.env := by rfl) (hpl : (backTo pos (starEach es X.env)).any (·.1) = false := by rfl) :
    PD X (.Call (.Name x p) (e :: es) [] pos) (dCall sp t) := by
  obtain ⟨f, fd, F, g, kp, b⟩ := F
  exact pd_call F (hr.mono hJ) hg g kp b ha hdb he hpl
theorem pd_makeF {C : Addr} (F : DefC X.prog X.w X.K X.mg X.base x C j ps sp) (hr : Room J X.A) (hJ : j + 1 ≤ J) (hg : Gl X x)
    (ha : PAD X (e :: es) t) (hdb : (x == ("__debug__" : Str)) = false := by decide) (he : starEach (e :: es) X.env = (false, eval e X.env) :: starEach es X.env := by rfl) (hpl : (backTo pos (starEach es X.env)).any (·.1) = false := by rfl) :
    PD X (.Call (.Name x p) (e :: es) [] pos) (dMake C sp t) := by
  obtain ⟨f, fd, M, F, g, b⟩ := F
  exact pd_make M F (hr.mono hJ) hg g b ha hdb he hpl
end

/-! ### steps of a reading -/
section
variable {ρ : EnvD} {μ : Mu} {Q : QD} {D0 : EndsD} {d : D} {i : Nat}
theorem w_seq {t u : TSD} (h : t { D0 with nx := u D0 } ρ μ) : dSeq t u D0 ρ μ := h
theorem w_set {te : TD} (h : te ρ μ fun d μ1 => D0.nx (ρ.set i (some d)) μ1) : dSet i te D0 ρ μ := h
theorem w_setF {t t' : TD} (h : t' ρ μ fun d μ1 => D0.nx (ρ.set i (some d)) μ1) : dSet i (if false then t else t') D0 ρ μ := h
theorem w_setT {t t' : TD} (h : t ρ μ fun d μ1 => D0.nx (ρ.set i (some d)) μ1) : dSet i (if true then t else t') D0 ρ μ := h
theorem w_ret {te : TD} (h : te ρ μ D0.rt) : dRet te D0 ρ μ := h
theorem w_drop {te : TD} (h : te ρ μ fun _ μ1 => D0.nx ρ μ1) : dDrop te D0 ρ μ := h
theorem w_asg {te : TD} {g : TGD} (h : te ρ μ fun d μ1 => g d ρ μ1 D0.nx) : dAsg te g D0 ρ μ := h
theorem w_var (e : ρ[i]? = some (some d)) (h : Q d μ) : dVar i ρ μ Q := ⟨d, e, h⟩
theorem w_c (h : Q d μ) : dC d ρ μ Q := h
theorem w_op {rd : RD} {ta tb : TD} (h : ta ρ μ fun x μ1 => tb ρ μ1 fun y μ2 => rd x y μ2 Q) : dOp rd ta tb ρ μ Q := h
theorem w_test {t : TD} {Q : Bool → Mu → Prop} (h : t ρ μ fun x μ1 => ∃ b, x = .bl b ∧ Q b μ1) : dTest t ρ μ Q := h
theorem w_bl {b : Bool} {Q : Bool → Mu → Prop} (h : Q b μ) : ∃ c, D.bl b = .bl c ∧ Q c μ := ⟨b, rfl, h⟩
theorem w_and {t u : TTD} {Q : Bool → Mu → Prop} (h : t ρ μ fun c μ1 => if c = true then u ρ μ1 Q else Q false μ1) : dAnd t u ρ μ Q := h
theorem w_or {t u : TTD} {Q : Bool → Mu → Prop} (h : t ρ μ fun c μ1 => if c = true then Q true μ1 else u ρ μ1 Q) : dOr t u ρ μ Q := h
theorem w_not {t : TTD} {Q : Bool → Mu → Prop} (h : t ρ μ fun c μ1 => Q (!c) μ1) : dNot t ρ μ Q := h
theorem w_if {t : TTD} {ta tb : TD} (h : t ρ μ fun c μ1 => if c = true then ta ρ μ1 Q else tb ρ μ1 Q) : dIf t ta tb ρ μ Q := h
theorem w_ifS {c : TTD} {t u : TSD} (h : c ρ μ fun b μ1 => if b = true then t D0 ρ μ1 else u D0 ρ μ1) : dIfS c t u D0 ρ μ := h
theorem w_andV {ta tb : TD} (h : ta ρ μ fun x μ1 => ∃ c, x = .bl c ∧ if c = true then tb ρ μ1 Q else Q (.bl false) μ1) : dAndV ta tb ρ μ Q := h
theorem w_orV {ta tb : TD} (h : ta ρ μ fun x μ1 => ∃ c, x = .bl c ∧ if c = true then Q (.bl true) μ1 else tb ρ μ1 Q) : dOrV ta tb ρ μ Q := h
theorem w_notV {ta : TD} (h : ta ρ μ fun x μ1 => ∃ c, x = .bl c ∧ Q (.bl (!c)) μ1) : dNotV ta ρ μ Q := h
theorem w_yes {Q : Bool → Mu → Prop} (h : Q true μ) : dYes ρ μ Q := h
theorem w_nil {Q : List D → Mu → Prop} (h : Q [] μ) : dNil ρ μ Q := h
theorem w_cons {ta : TD} {tr : TAD} {Q : List D → Mu → Prop} (h : ta ρ μ fun x μ1 => tr ρ μ1 fun xs μ2 => Q (x :: xs) μ2) : dCons ta tr ρ μ Q := h
theorem w_tup {t : TAD} (h : t ρ μ fun ds μ1 => ds.length ≤ sizeLine ∧ Q (.tup ds) μ1) : dTup t ρ μ Q := h
theorem w_lst {t : TAD} (h : t ρ μ fun ds μ1 => ds.length ≤ sizeLine ∧ Q (.lst ds) μ1) : dLst t ρ μ Q := h
theorem w_lstN {t : TAD} (h : t ρ μ fun ds μ1 => ds.length ≤ sizeLine ∧ ∀ p, μ1 p = none → Q (.adr p) (updM μ1 p (.lst ds))) : dLstN t ρ μ Q := h
theorem w_call {sp : SpD} {t : TAD} (h : t ρ μ fun ds μ1 => sp ds μ1 Q) : dCall sp t ρ μ Q := h
theorem w_B {rd : List D → Mu → QD → Prop} {t : TAD} (h : t ρ μ fun ds μ1 => rd ds μ1 Q) : dB rd t ρ μ Q := h
theorem w_tt {A B : Prop} (h : A) : if true = true then A else B := by rw [if_pos rfl]; exact h
theorem w_ff {A B : Prop} (h : B) : if false = true then A else B := by rw [if_neg Bool.false_ne_true]; exact h
theorem w_dec {c : Prop} [Decidable c] {A B : Prop} (h1 : c → A) (h2 : ¬ c → B) : if decide c = true then A else B := by
  by_cases h : c
  · rw [decide_eq_true h, if_pos rfl]; exact h1 h
  · rw [decide_eq_false h, if_neg Bool.false_ne_true]; exact h2 h
theorem w_bool {c : Bool} {A B : Prop} (h1 : c = true → A) (h2 : c = false → B) : if c = true then A else B := by
  cases c with
  | true => rw [if_pos rfl]; exact h1 rfl
  | false => rw [if_neg Bool.false_ne_true]; exact h2 rfl
theorem w_nbool {c : Bool} {A B : Prop} (h1 : c = false → A) (h2 : c = true → B) : if (!c) = true then A else B := by
  cases c with
  | true => exact w_ff (h2 rfl)
  | false => exact w_tt (h1 rfl)
theorem w_len2 {α : Type} {xs : List α} {A : Prop} {n : Nat} (e : xs.length = n) (hn : n ≤ 1000) (h : A) : xs.length ≤ sizeLine ∧ A := ⟨by rw [e, sizeLine_eq]; omega, h⟩
/-! operators by the kinds of what they meet -/
theorem w_add_ii {a b : Int} (h : Q (.int (a + b)) μ) : rdAdd (.int a) (.int b) μ Q := .inl ⟨a, b, rfl, rfl, h⟩
theorem w_add_ll {a b : List D} (h : a.length + b.length ≤ sizeLine ∧ Q (.lst (a ++ b)) μ) : rdAdd (.lst a) (.lst b) μ Q := .inr (.inl ⟨a, b, .inl rfl, .inl rfl, h⟩)
theorem w_add_tt {a b : List D} (h : a.length + b.length ≤ sizeLine ∧ Q (.tup (a ++ b)) μ) : rdAdd (.tup a) (.tup b) μ Q := .inr (.inr (.inl ⟨a, b, rfl, rfl, h⟩))
theorem w_sub_ii {a b : Int} (h : Q (.int (a - b)) μ) : rdSub (.int a) (.int b) μ Q := ⟨a, b, rfl, rfl, h⟩
theorem w_mul_ii {a b : Int} (h : CMul a b ∧ Q (.int (a * b)) μ) : rdMul (.int a) (.int b) μ Q := .inl ⟨a, b, rfl, rfl, h⟩
theorem w_mod_ii {a b : Int} (h : b ≠ 0 ∧ Q (.int (a.fmod b)) μ) : rdMod (.int a) (.int b) μ Q := ⟨a, b, rfl, rfl, h⟩
theorem w_div_ii {a b : Int} (h : CDivN a b ∧ Q (.int (a.fdiv b)) μ) : rdDiv (.int a) (.int b) μ Q := ⟨a, b, rfl, rfl, h⟩
theorem w_pow_ii {a b : Int} (h : CPow a b ∧ Q (.int (a ^ b.toNat)) μ) : rdPow (.int a) (.int b) μ Q := ⟨a, b, rfl, rfl, h⟩
theorem w_lt_ii {a b : Int} (h : Q (.bl (decide (a < b))) μ) : rdLtU (.int a) (.int b) μ Q := .inl ⟨a, b, rfl, rfl, h⟩
theorem w_le_ii {a b : Int} (h : Q (.bl (decide (a ≤ b))) μ) : rdLe (.int a) (.int b) μ Q := .inl ⟨a, b, rfl, rfl, h⟩
theorem w_gt_ii {a b : Int} (h : Q (.bl (decide (b < a))) μ) : rdGt (.int a) (.int b) μ Q := ⟨a, b, rfl, rfl, h⟩
theorem w_ge_ii {a b : Int} (h : Q (.bl (decide (b ≤ a))) μ) : rdGe (.int a) (.int b) μ Q := ⟨a, b, rfl, rfl, h⟩
theorem eqD_int {a b : Int} : eqD (.int a) (.int b) = decide (a = b) := by
  show PyData.eqv (.int a) (.int b) = _
  rw [PyData.eqv]
  exact Bool.beq_eq_decide_eq a b
theorem dat_int {a : Int} : dat (.int a) = true := by
  show (true && SeqAt.shaped (.int a)) = true
  unfold SeqAt.shaped
  simp [PyData.canLay0, PyData.depth]
theorem w_eq_ii {a b : Int} (h : Q (.bl (decide (a = b))) μ) : rdEq (.int a) (.int b) μ Q := ⟨_, _, .inl rfl, .inl rfl, dat_int, dat_int, by rw [eqD_int]; exact h⟩
theorem w_ne_ii {a b : Int} (h : Q (.bl (!decide (a = b))) μ) : rdNe (.int a) (.int b) μ Q := ⟨_, _, .inl rfl, .inl rfl, dat_int, dat_int, by rw [eqD_int]; exact h⟩
theorem w_isN (h : Q (.bl (isNon d)) μ) : rdIsN d .non μ Q := ⟨rfl, h⟩
theorem w_notN (h : Q (.bl (!isNon d)) μ) : rdNotN d .non μ Q := ⟨rfl, h⟩
theorem w_ix_l {i : Int} {ds : List D} (h : ∃ d, atI ds i = some d ∧ Q d μ) : rdIx (.lst ds) (.int i) μ Q := let ⟨d, e, q⟩ := h; ⟨i, ds, d, rfl, .inl (.inl rfl), e, q⟩
theorem w_ix_f {i : Int} {ds : List D} (h : ∃ d, atI ds i = some d ∧ Q d μ) : rdIx (.frz ds) (.int i) μ Q := let ⟨d, e, q⟩ := h; ⟨i, ds, d, rfl, .inl (.inr (.inl rfl)), e, q⟩
theorem w_ix_t {i : Int} {ds : List D} (h : ∃ d, atI ds i = some d ∧ Q d μ) : rdIx (.tup ds) (.int i) μ Q := let ⟨d, e, q⟩ := h; ⟨i, ds, d, rfl, .inr rfl, e, q⟩
theorem w_ix_a {i : Int} {ds : List D} {a : Addr} (e : μ a = some (.lst ds)) (h : ∃ d, atI ds i = some d ∧ Q d μ) : rdIx (.adr a) (.int i) μ Q := let ⟨d, e', q⟩ := h; ⟨i, ds, d, rfl, .inl (.inr (.inr ⟨a, rfl, e⟩)), e', q⟩
/-! loops -/
theorem w_for {wi : TID} {g : TGD} {tb : TSD} (h : wi ρ μ fun it μ1 => ∃ W : Nat → EnvD → Mu → Prop, W 0 ρ μ1 ∧
  (∀ i x ρ μ, it.items[i]? = some x → W i ρ μ → it.live μ ∧ g x ρ μ fun ρ2 μ2 => tb { D0 with nx := W (i + 1), ct := W (i + 1), bk := D0.nx } ρ2 μ2) ∧ (∀ ρ μ, W it.items.length ρ μ → it.live μ ∧ D0.nx ρ μ)) : dFor wi g tb D0 ρ μ := h
theorem w_it1 {t : TAD} {Q : ItD → Mu → Prop} (h : t ρ μ fun ds μ1 => ∃ j : Int, ds = [.int j] ∧ j < 2 ^ 62 ∧ -(2 ^ 62) ≤ j ∧ Q ⟨rngD 0 j.toNat, fun _ => True⟩ μ1) : dIt1 t ρ μ Q := h
theorem w_it2 {t : TAD} {Q : ItD → Mu → Prop} (h : t ρ μ fun ds μ1 => ∃ i j : Int, ds = [.int i, .int j] ∧ (-(2 ^ 62) ≤ i ∧ i < 2 ^ 62 ∧ -(2 ^ 62) ≤ j ∧ j < 2 ^ 62) ∧ Q ⟨rngD i (j - i).toNat, fun _ => True⟩ μ1) : dIt2 t ρ μ Q := h
theorem w_itS {te : TD} {Q : ItD → Mu → Prop} (h : te ρ μ fun d μ1 => ∃ ds, (AsL μ1 d ds ∧ Q ⟨ds, fun μ => AsL μ d ds⟩ μ1) ∨ (d = .tup ds ∧ Q ⟨ds, fun _ => True⟩ μ1)) : dItS te ρ μ Q := h
theorem w_itS_l {ds : List D} {Q : ItD → Mu → Prop} (h : Q ⟨ds, fun _ => True⟩ μ) (m : ∀ P : Mu → Prop, (∀ μ, P μ) → Q ⟨ds, fun _ => True⟩ μ → Q ⟨ds, P⟩ μ) : ∃ es, (AsL μ (.lst ds) es ∧ Q ⟨es, fun μ => AsL μ (.lst ds) es⟩ μ) ∨ (D.lst ds = .tup es ∧ Q ⟨es, fun _ => True⟩ μ) :=
  ⟨ds, .inl ⟨.inl rfl, m _ (fun _ => .inl rfl) h⟩⟩
end

section
variable {wi : TID} {g : TGD} {tt : TTD} {te : TD} {vs : List Nat} {ρ : EnvD} {μ : Mu} {Q : QD}
theorem w_lc (h : wi ρ μ fun it μ1 => it.items.length ≤ sizeLine ∧ ∃ W : Nat → List D → Mu → Prop, W 0 [] μ1 ∧
  (∀ (i : Nat) (acc : List D) (μ : Mu) (x : D), it.items[i]? = some x → W i acc μ → it.live μ ∧ g x (wipeD ρ vs) μ fun ρ2 μ2 => tt ρ2 μ2 fun b μ3 => if b = true then te ρ2 μ3 fun y μ4 => W (i + 1) (acc ++ [y]) μ4 else W (i + 1) acc μ3) ∧
  (∀ acc μ, W it.items.length acc μ → it.live μ ∧ Q (.lst acc) μ)) : dLc wi g tt te vs ρ μ Q := h
theorem w_lcN (h : wi ρ μ fun it μ1 => it.items.length ≤ sizeLine ∧ ∃ W : Nat → List D → Mu → Prop, W 0 [] μ1 ∧
  (∀ (i : Nat) (acc : List D) (μ : Mu) (x : D), it.items[i]? = some x → W i acc μ → it.live μ ∧ g x (wipeD ρ vs) μ fun ρ2 μ2 => tt ρ2 μ2 fun b μ3 => if b = true then te ρ2 μ3 fun y μ4 => W (i + 1) (acc ++ [y]) μ4 else W (i + 1) acc μ3) ∧
  (∀ acc μ, W it.items.length acc μ → it.live μ ∧ ∀ p, μ p = none → Q (.adr p) (updM μ p (.lst acc)))) : dLcN wi g tt te vs ρ μ Q := h
theorem w_par {i j : Nat} {ta : TAD} {D0 : EndsD} (h : ta ρ μ fun ds μ1 => ∃ x y, ds = [x, y] ∧ D0.nx ((ρ.set i (some x)).set j (some y)) μ1) : dPar i j ta D0 ρ μ := h
theorem w_next {D0 : EndsD} (h : D0.nx ρ μ) : dNext D0 ρ μ := h
theorem w_gd {i : Nat} {d : D} {Q : EnvD → Mu → Prop} (h : Q (ρ.set i (some d)) μ) : gdName i d ρ μ Q := h
theorem w_gdT {n : Nat} {t : TGsD} {ds : List D} {Q : EnvD → Mu → Prop} (e : ds.length = n) (h : t ds ρ μ Q) : gdTup n t (.tup ds) ρ μ Q := ⟨ds, rfl, e, h⟩
theorem w_gdC {t : TGD} {u : TGsD} {d : D} {ds : List D} {Q : EnvD → Mu → Prop} (h : t d ρ μ fun ρ' μ' => u ds ρ' μ' Q) : gdCons t u (d :: ds) ρ μ Q := ⟨d, ds, rfl, h⟩
theorem w_gdN {Q : EnvD → Mu → Prop} (h : Q ρ μ) : gdNil [] ρ μ Q := ⟨rfl, h⟩
end
/-! more steps -/
section
variable {ρ : EnvD} {μ : Mu} {Q : QD} {D0 : EndsD} {d : D} {i : Nat} {ta tb tc : TD}
theorem w_neg (h : ta ρ μ fun x μ1 => ∃ i, x = .int i ∧ Q (.int (-i)) μ1) : dNeg ta ρ μ Q := h
theorem w_neg_i {a : Int} (h : Q (.int (-a)) μ) : ∃ i, D.int a = .int i ∧ Q (.int (-i)) μ := ⟨a, rfl, h⟩
theorem w_chain {rd rd' : RD} (h : ta ρ μ fun x μ1 => tb ρ μ1 fun y μ2 => rd x y μ2 fun z μ3 => ∃ c, z = .bl c ∧ if c = true then tc ρ μ3 fun u μ4 => rd' y u μ4 Q else Q (.bl false) μ3) : dChain rd rd' ta tb tc ρ μ Q := h
theorem w_cont (h : D0.ct ρ μ) : dCont D0 ρ μ := h
theorem w_brk (h : D0.bk ρ μ) : dBreak D0 ρ μ := h
theorem w_retN (h : D0.rt .non μ) : dRetN D0 ρ μ := h
theorem w_asgT {t : TAD} {g : TGD} (h : dTup t ρ μ fun d μ1 => g d ρ μ1 D0.nx) : dAsg (dTup t) g D0 ρ μ := h
theorem w_dget (h : ta ρ μ fun x μ1 => tb ρ μ1 fun y μ2 => ∃ kvs key d, AsD μ2 x kvs ∧ y = kD key ∧ valD kvs key = some d ∧ Q d μ2) : dDget ta tb ρ μ Q := h
theorem w_dput (h : tc ρ μ fun y μ1 => ta ρ μ1 fun x μ2 => tb ρ μ2 fun z μ3 => ∃ p kvs key, x = .adr p ∧ μ3 p = some (.dct kvs) ∧ z = kD key ∧ kvs.length < sizeLine ∧ D0.nx ρ (updM μ3 p (.dct (putD kvs key y)))) : dDput ta tb tc D0 ρ μ := h
theorem w_din {neg : Bool} (h : ta ρ μ fun y μ1 => tb ρ μ1 fun x μ2 => ∃ kvs key, AsD μ2 x kvs ∧ y = kD key ∧ Q (.bl (if neg then !(valD kvs key).isSome else (valD kvs key).isSome)) μ2) : dDin neg ta tb ρ μ Q := h
theorem w_app (h : ta ρ μ fun x μ1 => ∃ a, x = .adr a ∧ (∃ ds, μ1 a = some (.lst ds)) ∧ tb ρ μ1 fun y μ2 => ∃ ds, μ2 a = some (.lst ds) ∧ ds.length < sizeLine ∧ Q .non (updM μ2 a (.lst (ds ++ [y])))) : dApp ta tb ρ μ Q := h
theorem w_pop (h : ta ρ μ fun x μ1 => ∃ a ds d, x = .adr a ∧ μ1 a = some (.lst (ds ++ [d])) ∧ Q d (updM μ1 a (.lst ds))) : dPop ta ρ μ Q := h
theorem w_popAt (h : ta ρ μ fun x μ1 => ∃ a, x = .adr a ∧ (∃ ds, μ1 a = some (.lst ds)) ∧ tb ρ μ1 fun y μ2 => ∃ ds i k d, μ2 a = some (.lst ds) ∧ y = .int i ∧ -(2 ^ 63) ≤ i ∧ i < 2 ^ 63 ∧ seqIndex? i ds.length = some k ∧ ds[k]? = some d ∧ Q d (updM μ2 a (.lst (ds.eraseIdx k)))) : dPopAt ta tb ρ μ Q := h
theorem w_cut {N : Bool} {tl th : Option TD} (h : ta ρ μ fun x μ1 => dPart tl ρ μ1 fun lo μ2 => dPart th ρ μ2 fun hi μ3 => ∃ ds, (AsL μ3 x ds ∧ if N = true then ∀ p, μ3 p = none → Q (.adr p) (updM μ3 p (.lst (cutD ds lo hi))) else Q (.lst (cutD ds lo hi)) μ3) ∨ (x = .tup ds ∧ Q (.tup (cutD ds lo hi)) μ3)) : dCut N ta tl th ρ μ Q := h
theorem w_partN {Q : Option Int → Mu → Prop} (h : Q none μ) : dPart none ρ μ Q := h
theorem w_partS {Q : Option Int → Mu → Prop} (h : ta ρ μ fun x μ1 => ∃ i, x = .int i ∧ Q (some i) μ1) : dPart (some ta) ρ μ Q := h
theorem w_rev (h : ta ρ μ fun x μ1 => ∃ ds, AsL μ1 x ds ∧ Q (.lst ds.reverse) μ1) : dRev ta ρ μ Q := h
theorem w_while {c : TTD} {tb : TSD} (h : ∃ W : Nat → EnvD → Mu → Prop, (∃ m, W m ρ μ) ∧ ∀ m ρ μ, W m ρ μ →
  c ρ μ fun b μ1 => if b = true then ∃ N : EnvD → Mu → Prop, (∀ ρ' μ', N ρ' μ' → ∃ m', m' < m ∧ W m' ρ' μ') ∧ tb { D0 with nx := N, ct := N, bk := D0.nx } ρ μ1 else D0.nx ρ μ1) : dWhile c tb D0 ρ μ := h
theorem w_dict (h : ∀ p, μ p = none → Q (.adr p) (updM μ p (.dct []))) : dDictN ρ μ Q := h
theorem w_aug {rd : RD} {x : D} (e : ρ[i]? = some (some x)) (h : ta ρ μ fun y μ1 => rd x y μ1 fun z μ2 => D0.nx (ρ.set i (some z)) μ2) : dAug i ta rd D0 ρ μ := ⟨x, e, h⟩
theorem w_itE {t : TAD} {Q : ItD → Mu → Prop} (h : t ρ μ fun es μ1 => ∃ d ds, es = [d] ∧ AsL μ1 d ds ∧ Q ⟨enumD ds, fun μ => AsL μ d ds⟩ μ1) : dItE t ρ μ Q := h
theorem w_fld {C : Addr} {f : Str} (h : ta ρ μ fun x μ1 => ∃ d, ((∃ ns ds, x = .ins C ns ds ∧ fldD ns ds f = some d) ∨ ∃ a fs, x = .adr a ∧ μ1 a = some (.ins C fs) ∧ fs.lookup f = some d) ∧ Q d μ1) : dFld C ta f ρ μ Q := h
theorem w_rg1 {N : Bool} (h : ta ρ μ fun x μ1 => ∃ n : Int, x = .int n ∧ RgOk 0 n ∧ if N = true then ∀ p, μ1 p = none → Q (.adr p) (updM μ1 p (.lst (rngD 0 n.toNat))) else Q (.lst (rngD 0 n.toNat)) μ1) : dRg1 N ta ρ μ Q := h
theorem w_rg2 {N : Bool} (h : ta ρ μ fun x μ1 => tb ρ μ1 fun y μ2 => ∃ i j : Int, x = .int i ∧ y = .int j ∧ RgOk i j ∧ if N = true then ∀ p, μ2 p = none → Q (.adr p) (updM μ2 p (.lst (rngD i (j - i).toNat))) else Q (.lst (rngD i (j - i).toNat)) μ2) : dRg2 N ta tb ρ μ Q := h
end
theorem rngD_small {lo : Int} {n : Nat} (h : n ≤ 1000000) : (rngD lo n).length ≤ sizeLine := by rw [rngD_len, sizeLine_eq]; omega
/-! a comprehension whose turns change nothing and tell by F what is made of an item -/
theorem take_fm {F : D → Option D} {l : List D} {i : Nat} {x : D} (h : l[i]? = some x) : (l.take (i + 1)).filterMap F = (l.take i).filterMap F ++ (F x).toList := by
  rw [List.take_add_one, h, List.filterMap_append]
  cases e : F x with
  | none => simp [e]
  | some y => simp [e]
section
variable {items : List D} {live : Mu → Prop} {g : TGD} {tt : TTD} {te : TD} {vs : List Nat} {ρ : EnvD} {μ : Mu} {R : List D → Mu → Prop}
theorem lc_fm (F : D → Option D) (hl : items.length ≤ sizeLine) (lv : live μ)
    (step : ∀ (i : Nat) (x : D), items[i]? = some x → ∀ N : Option D → Mu → Prop, N (F x) μ → g x (wipeD ρ vs) μ fun ρ2 μ2 => tt ρ2 μ2 fun b μ3 => if b = true then te ρ2 μ3 fun y μ4 => N (some y) μ4 else N none μ3)
    (q : R (items.filterMap F) μ) : items.length ≤ sizeLine ∧ ∃ W : Nat → List D → Mu → Prop, W 0 [] μ ∧
      (∀ (i : Nat) (acc : List D) (μ : Mu) (x : D), items[i]? = some x → W i acc μ → live μ ∧ g x (wipeD ρ vs) μ fun ρ2 μ2 => tt ρ2 μ2 fun b μ3 => if b = true then te ρ2 μ3 fun y μ4 => W (i + 1) (acc ++ [y]) μ4 else W (i + 1) acc μ3) ∧
      (∀ acc μ, W items.length acc μ → live μ ∧ R acc μ) := by
  refine ⟨hl, fun i acc m => acc = (items.take i).filterMap F ∧ m = μ, ⟨rfl, rfl⟩, ?_, ?_⟩
  · rintro i acc m x hx ⟨rfl, rfl⟩
    refine ⟨lv, step i x hx (fun o m4 => (match o with | some y => (items.take i).filterMap F ++ [y] | none => (items.take i).filterMap F) = (items.take (i + 1)).filterMap F ∧ m4 = m) ?_⟩
    refine ⟨?_, rfl⟩
    rw [take_fm hx]
    cases F x with
    | none => simp
    | some y => simp
  · rintro acc m ⟨rfl, rfl⟩
    rw [List.take_length]
    exact ⟨lv, q⟩
theorem lc_map (f : D → D) (hl : items.length ≤ sizeLine) (lv : live μ)
    (step : ∀ (i : Nat) (x : D), items[i]? = some x → ∀ N : D → Mu → Prop, N (f x) μ → g x (wipeD ρ vs) μ fun ρ2 μ2 => te ρ2 μ2 fun y μ4 => N y μ4)
    (q : R (items.map f) μ) : items.length ≤ sizeLine ∧ ∃ W : Nat → List D → Mu → Prop, W 0 [] μ ∧
      (∀ (i : Nat) (acc : List D) (μ : Mu) (x : D), items[i]? = some x → W i acc μ → live μ ∧ g x (wipeD ρ vs) μ fun ρ2 μ2 => dYes ρ2 μ2 fun b μ3 => if b = true then te ρ2 μ3 fun y μ4 => W (i + 1) (acc ++ [y]) μ4 else W (i + 1) acc μ3) ∧
      (∀ acc μ, W items.length acc μ → live μ ∧ R acc μ) := by
  refine ⟨hl, fun i acc m => acc = (items.take i).map f ∧ m = μ, ⟨rfl, rfl⟩, ?_, ?_⟩
  · rintro i acc m x hx ⟨rfl, rfl⟩
    refine ⟨lv, ?_⟩
    have h := step i x hx (fun y m4 => (items.take i).map f ++ [y] = (items.take (i + 1)).map f ∧ m4 = m) ⟨?_, rfl⟩
    · exact h
    · rw [List.take_add_one, hx, List.map_append]
      rfl
  · rintro acc m ⟨rfl, rfl⟩
    rw [List.take_length]
    exact ⟨lv, q⟩
end
end Zd


set_option Elab.async false
set_option linter.all false
set_option maxRecDepth 100000
set_option maxHeartbeats 2000000
namespace Zd
open PySem PySem.Spec PyProof.Rows L2

/-! ### dict displays -/
def dPairs : List (TD × TD) → EnvD → Mu → (List (D × D) → Mu → Prop) → Prop
  | [], _, μ, Q => Q [] μ
  | (tk, tv) :: r, ρ, μ, Q => tk ρ μ fun x μ1 => tv ρ μ1 fun y μ2 => dPairs r ρ μ2 fun ps μ3 => Q ((x, y) :: ps) μ3
def mergeD (kvs : List (Key × D)) : List (Key × D) := kvs.foldl (fun acc kv => putD acc kv.1 kv.2) []
def dDisp (trs : List (TD × TD)) : TD := fun ρ μ Q => ∀ p, μ p = none → dPairs trs ρ (updM μ p (.dct [])) fun ps μ2 => μ2 p = some (.dct []) ∧ ∃ kvs : List (Key × D), ps = kvs.map (fun kv => (kD kv.1, kv.2)) ∧ kvs.length ≤ 15 ∧ Q (.adr p) (updM μ2 p (.dct (mergeD kvs)))
section
variable {X : Cx} {k : KW}
structure PPsD (X : Cx) (pos : Pos) (keys : List (Option Expr)) (values : List Expr) (trs : List (TD × TD)) : Prop where
  ok : PPs X pos keys values (trs.map fun p => (lift (kw X) p.1, lift (kw X) p.2))
theorem ppd_nil {pos : Pos} : PPsD X pos [] [] [] := ⟨pps_nil⟩
theorem ppd_cons {pos : Pos} {a b : Expr} {ks : List (Option Expr)} {vs : List Expr} {ta tb : TD} {trs : List (TD × TD)} (hk : PD X a ta) (hv : PD X b tb) (hr : PPsD X pos ks vs trs) : PPsD X pos (some a :: ks) (b :: vs) ((ta, tb) :: trs) := ⟨pps_cons hk.ok hv.ok hr.ok⟩
theorem pairs_s {Z : Addr → Prop} {ρ : EnvD} {σ : L2.St} : ∀ {trs : List (TD × TD)} {μ : Mu} {H : Hp} {Q0 : List (D × D) → Mu → Prop} {Q : List (V × V) → Hp → Prop}, Rel k Z ρ μ σ H → dPairs trs ρ μ Q0 →
    (∀ ps μ' qs H', Q0 ps μ' → RlK k Z μ' H' → Stp Z μ H μ' H' → IsAllK k (msk Z μ' H') (qs.map (·.1)) (ps.map (·.1)) → IsAllK k (msk Z μ' H') (qs.map (·.2)) (ps.map (·.2)) → Q qs H') →
    tPairs (trs.map fun p => (lift k p.1, lift k p.2)) σ H Q
  | [], μ, H, Q0, Q, rel, q, f => f [] μ [] H q rel.rl Stp.refl .nil .nil
  | (ta, tb) :: r, μ, H, Q0, Q, rel, q, f => by
    refine ⟨Z, ρ, μ, _, rel, q, fun x μ1 v H1 q1 rl1 s1 i1 => ?_⟩
    refine ⟨Z, ρ, μ1, _, rel.step s1 rl1, q1, fun y μ2 u H2 q2 rl2 s2 i2 => ?_⟩
    refine pairs_s (rel.step (s1.trans s2) rl2) q2 fun ps μ3 qs H3 q3 rl3 s3 h1 h2 => ?_
    exact f _ μ3 _ H3 q3 rl3 ((s1.trans s2).trans s3) (.cons (i1.same (s2.trans s3).same) h1) (.cons (i2.same s3.same) h2)
theorem kvd_foldl {G : Hp} : ∀ {kvs : List (Key × D)} {vs : List V} {acc : List (Key × V)} {accD : List (Key × D)}, IsAllK k G vs (kvs.map (·.2)) → KVD k.P k.w k.K G acc accD →
    KVD k.P k.w k.K G (((kvs.map (·.1)).zip vs).foldl (fun a kv => putK a kv.1 kv.2) acc) (kvs.foldl (fun a kv => putD a kv.1 kv.2) accD)
  | [], _, _, _, _, h => by
    rw [List.map_nil, List.zip_nil_left]
    exact h
  | (x, d) :: kvs, vs, _, _, i, h => by
    cases i with
    | cons i t =>
      rw [List.map_cons, List.zip_cons_cons, List.foldl_cons, List.foldl_cons]
      exact kvd_foldl t (kvd_putD i h)
theorem pd_disp {pos : Pos} {keys : List (Option Expr)} {values : List Expr} {trs : List (TD × TD)} (h : PPsD X pos keys values trs) (hall : keys.all (·.isSome) = true := by rfl) (hl : keys.length = values.length := by rfl) (h0 : keys ≠ [] := by exact fun z => by cases z)
    (h15 : keys.length ≤ 15 := by decide) : PD X (.Dict keys values pos) (dDisp trs) := ⟨PE.cq (pe_disp h.ok hall hl h0 h15) fun σ H Q ⟨Z, ρ, μ, Q0, rel, q, f⟩ p hp => by
  obtain ⟨r2, s2⟩ := rel.rl.allocM hp (.dK []) (.dct []) ⟨[], upd_same, .nil⟩
  refine pairs_s (rel.step s2 r2) (q p (rel.rl.free hp).2) fun ps μ3 qs H3 ⟨e, kvs, ep, l, q3⟩ rl3 s3 h1 h2 => ?_
  subst ep
  obtain ⟨kvv, e3, t3⟩ := rl3.mu p _ e
  cases t3
  have hlen := h2.length
  rw [List.length_map, List.length_map, List.length_map] at hlen
  have key : ∀ (kvs : List (Key × D)) (qs : List (V × V)), IsAllK (kw X) (msk Z μ3 H3) (qs.map (·.1)) ((kvs.map fun kv => (kD kv.1, kv.2)).map (·.1)) → qs = ((kvs.map (·.1)).zip (qs.map (·.2))).map fun kv => (kV kv.1, kv.2) := by
    intro kvs
    induction kvs with
    | nil =>
      intro qs h
      cases qs with
      | nil => rfl
      | cons a r => cases h
    | cons kv kvs ih =>
      intro qs h
      cases qs with
      | nil => cases h
      | cons a r =>
        cases h with
        | cons i t =>
          rw [List.map_cons, List.map_cons, List.zip_cons_cons, List.map_cons, ← ih r t]
          rw [← kD_is i]
  have h2' : IsAllK (kw X) (msk Z μ3 H3) (qs.map (·.2)) (kvs.map (·.2)) := by
    rw [List.map_map] at h2
    exact h2
  have mg : KVD (kw X).P (kw X).w (kw X).K (msk Z μ3 H3) (mergeK [] ((kvs.map (·.1)).zip (qs.map (·.2)))) (mergeD kvs) := kvd_foldl h2' .nil
  obtain ⟨r4, s4⟩ := rl3.write e (.dK (mergeK [] ((kvs.map (·.1)).zip (qs.map (·.2))))) (.dct (mergeD kvs)) ⟨_, upd_same, mg⟩
  refine ⟨e3, (kvs.map (·.1)).zip (qs.map (·.2)), key kvs qs h1, ?_, f _ _ _ _ q3 r4 ((s2.trans s3).trans s4) (.adr p)⟩
  rw [List.length_zip, List.length_map]
  omega⟩
/-! ### targets that are places of dicts and lists -/
def rSetD : TSet := fun o i v H Q => ∃ a H4, o = .ref a ∧ DPut H a i v H4 ∧ Q H4
theorem set_dict (hu : X.A.units + 1 < cLine) : PSet X rSetD := by
  rintro pins s σ H o i v ov iv u Q I ro ri rv ⟨a, H4, rfl, g, q⟩
  obtain rfl : ov = Value.ref a := ro
  exact d_setItem hu I g ri rv fun s' I' => ⟨H4, I', q⟩
def gdDput (to ti : TD) : TGD := fun d ρ μ Q => to ρ μ fun x μ1 => ti ρ μ1 fun z μ2 => ∃ p kvs key, x = .adr p ∧ μ2 p = some (.dct kvs) ∧ z = kD key ∧ kvs.length < sizeLine ∧ Q ρ (updM μ2 p (.dct (putD kvs key d)))
theorem pgd_dput {o i : Expr} {to ti : TD} {pos : Pos} (hu : X.A.units + 1 < cLine) (ho : PD X o to) (hi : PD X i ti)
    (ha : ∀ v, assign (.Subscript o i pos) X.env v = (do
      let ov ← holding [v] (eval o X.env)
      let iv ← holding [v, ov] (eval i X.env)
      standAt pos
      holding [v, ov, iv] (setItem ov iv v)
      release [v, ov, iv] []) := by intro _; rfl) : PGD X [] (.Subscript o i pos) (gdDput to ti) := ⟨PG.cq (pg_sub ho.ok hi.ok (set_dict hu) ha) fun v σ H Q ⟨Z, d, ρ, μ, Q0, rel, i0, q, f⟩ => by
  refine ⟨Z, ρ, μ, _, rel, q, fun x μ1 u H1 q1 rl1 s1 i1 => ?_⟩
  refine ⟨Z, ρ, μ1, _, rel.step s1 rl1, q1, fun z μ2 w3 H2 ⟨p, kvs, key, e1, e2, e3, l, q2⟩ rl2 s2 i2 => ?_⟩
  subst e1 e3
  cases i1
  obtain ⟨kvv, h, t⟩ := rl2.mu p _ e2
  obtain ⟨r4, s4⟩ := rl2.write e2 (.dK (putK kvv key v)) (.dct (putD kvs key d)) ⟨_, upd_same, kvd_putD (i0.same (s1.trans s2).same) t⟩
  refine ⟨p, _, rfl, ?_, f ρ _ σ _ q2 (rel.step ((s1.trans s2).trans s4) r4) ((s1.trans s2).trans s4) (fun _ _ => rfl) rfl⟩
  rw [kD_is i2]
  exact DPut.k h (by rw [kvd_len t]; exact l)⟩
/-! ### sorted of pairs of ints -/
def prI (p : Int × Int) : D := .tup [.int p.1, .int p.2]
def prL (p q : Int × Int) : Prop := p.1 < q.1 ∨ (p.1 = q.1 ∧ p.2 < q.2)
def rdSortP : List D → Mu → QD → Prop := fun ds μ Q => ∃ (d : D) (ps : List (Int × Int)), ds = [d] ∧ AsL μ d (ps.map prI) ∧ ∀ qs : List (Int × Int), qs.Perm ps → qs.Pairwise (fun p q => ¬ prL q p) → Q (.lst (qs.map prI)) μ
theorem prI_get {G : Hp} {v : V} {p : Int × Int} (i : IsK k G v (prI p)) : ∃ t, v = .ref t ∧ G t = some (.tup [.int p.1, .int p.2]) := by
  cases i with
  | tup h t =>
    cases t with
    | cons a t =>
      cases t with
      | cons b t =>
        cases t
        cases a
        cases b
        exact ⟨_, rfl, h⟩
open Classical in
/-- the pair at a value -/
noncomputable def pairAt (H : Hp) (v : V) : Int × Int := match v with
  | .ref t => match H t with
    | some (.tup [.int i, .int j]) => (i, j)
    | _ => (0, 0)
  | _ => (0, 0)
theorem isAll_pairs {Z : Addr → Prop} {μ : Mu} {H : Hp} : ∀ {xs : List V} {ps : List (Int × Int)}, IsAllK k (msk Z μ H) xs (ps.map prI) → ps = xs.map (pairAt H) ∧ ∀ x ∈ xs, ∃ t, x = .ref t ∧ msk Z μ H t = some (.tup [.int (pairAt H x).1, .int (pairAt H x).2])
  | [], [], _ => ⟨rfl, fun x h => by cases h⟩
  | x :: xs, p :: ps, .cons i t => by
    obtain ⟨h1, h2⟩ := isAll_pairs t
    obtain ⟨a, rfl, h3⟩ := prI_get i
    have e : pairAt H (.ref a) = p := by
      have h4 := msk_le _ _ _ _ _ h3
      show (match H a with
        | some (.tup [.int i, .int j]) => (i, j)
        | _ => (0, 0)) = p
      rw [h4]
    refine ⟨by rw [List.map_cons, e, ← h1], fun y hy => ?_⟩
    rcases List.mem_cons.mp hy with rfl | hy
    · exact ⟨a, rfl, by rw [e]; exact h3⟩
    · exact h2 y hy
theorem isAll_back {G : Hp} {f : V → Int × Int} : ∀ {xs : List V}, (∀ x ∈ xs, ∃ t, x = .ref t ∧ G t = some (.tup [.int (f x).1, .int (f x).2])) → IsAllK k G xs ((xs.map f).map prI)
  | [], _ => .nil
  | x :: xs, h => by
    obtain ⟨t, rfl, e⟩ := h x List.mem_cons_self
    exact .cons (.tup e (.cons (.int _) (.cons (.int _) .nil))) (isAll_back fun y hy => h y (List.mem_cons_of_mem _ hy))
theorem cs_sortP {K : PySem.W.Frag} (hK : K = k.K) : CS k (rSortedPO K) rdSortP := by
  subst hK
  rintro Z μ H xs ds Q0 Q rl i ⟨d, ps, rfl, h, q⟩ f
  cases i with
  | cons i t =>
    cases t
    obtain ⟨a, ys, rfl, h1, t1⟩ := h.get rl i
    obtain ⟨e, hx⟩ := isAll_pairs t1
    refine ⟨a, ys, pairAt H, rfl, h1, fun x hm => ?_, fun zs p hs hb hp => ?_⟩
    · obtain ⟨t, e1, e2⟩ := hx x hm
      exact ⟨t, e1, msk_le _ _ _ _ _ e2⟩
    · obtain ⟨r2, s2, e2⟩ := rl.alloc hp (.lst zs)
      refine f _ μ _ _ (q (zs.map (pairAt H)) ?_ ?_) r2 s2 (.lst e2 (isAll_back fun x hm => ?_))
      · rw [e]
        exact hb.perm.map _
      · refine List.pairwise_map.mpr (hs.imp fun {x y} hxy => ?_)
        exact SrtO.lexB_no.mp hxy
      · obtain ⟨t, e1, e3⟩ := hx x (hb.perm.mem_iff.mp hm)
        exact ⟨t, e1, s2.same _ _ e3⟩
theorem pd_sortP {e : Expr} {t : TAD} {p pos : Pos} (hg : Gl X "sorted") (hm : X.mg "sorted" = none) (ha : PAD X [e] t) (st : starEach [e] X.env = (false, eval e X.env) :: starEach [] X.env := by rfl) : PD X (.Call (.Name "sorted" p) [e] [] pos) (dB rdSortP t) :=
  ⟨PE.cq (pe_callB cr_sortedPO hg hm (by decide +kernel) ha.ok (he := st)) fun _ _ _ h => callB_s (cs_sortP rfl) h⟩
/-! ### len(set(t)), t a tuple of ints -/
def tLenSetT (K : PySem.W.Frag) (ta : TE) : TE := fun σ H Q => ta σ H fun x H1 => ∃ (l : Addr) (ns : List Int), x = .ref l ∧ SqT K H1 l (ns.map V.int) ∧ ns.length ≤ 1000 ∧ ∀ out : List Int, out.Nodup → (∀ j, j ∈ out ↔ j ∈ ns) → Q (.int (out.length : Nat)) H1
theorem pe_lenSetT {a : Expr} {ta : TE} {p p2 q pos : Pos} (hg : Gl X "len") (hm : X.mg "len" = none) (hg2 : Gl X "set") (hm2 : X.mg "set" = none) (ha : PE X a ta) (hc : X.calm = true := by rfl)
    (na : starEach [a] X.env = (false, eval a X.env) :: starEach [] X.env := by rfl) : PE X (.Call (.Name "len" p) [.Call (.Name "set" p2) [a] [] q] [] pos) (tLenSetT X.K ta) := ⟨fun pins s σ H Q I h => by
  refine Call_ (ld_blt I hg hm PySem.boot_len (PyProof.Rows.callWith_builtin1 (PyProof.Rows.args_cons (Call_ (ld_blt I hg2 hm2 PyProof.Rows.boot_set (PyProof.Rows.callWith_type1 (PyProof.Rows.args_cons (thn (ha.run pins s σ H _ I h) fun v s1 ⟨x, H1, I1, r1, l, ns, e1, hq, hl, q1⟩ => PyProof.Rows.args_nil ?_) na) na rfl))) rfl) rfl rfl))
  subst e1
  cases r1
  have ⟨its, rv, pt, hz⟩ := I1.tuple hq
  refine call_set_tupI ns (I1.ok.hd hc) (show s1.heap.IsTuple l its.toArray from pt) (ints_of_vals rv) (by unfold scanBound; omega) fun h' tk c R1 hcn kk => ?_
  refine PyProof.Rows.args_nil ?_
  obtain ⟨o, es, ep, t, ho, hex, hdt, g, nd, hm2, hb, hf, hn, hr, hl2⟩ := R1
  have hs := Nat.lt_trans hb (show scanBound < 2 ^ 63 by decide)
  have fin := q1 (es.toList.map keyOf) nd fun j => by rw [← hm2 j, decide_eq_true_eq]
  rw [List.length_map, Array.length_toList] at fin
  exact call_len_set ho hex hdt hf (by omega) ⟨.int es.size, H1, (I1.kept (t' := tk) kk).tok _, ⟨_, rfl⟩, fin⟩⟩
def dLenSet (ta : TD) : TD := fun ρ μ Q => ta ρ μ fun x μ1 => ∃ ns : List Int, x = .tup (ns.map .int) ∧ ns.length ≤ 1000 ∧ ∀ out : List Int, out.Nodup → (∀ j, j ∈ out ↔ j ∈ ns) → Q (.int (out.length : Nat)) μ1
theorem pd_lenSet {a : Expr} {ta : TD} {p p2 q pos : Pos} (hg : Gl X "len") (hm : X.mg "len" = none) (hg2 : Gl X "set") (hm2 : X.mg "set" = none) (ha : PD X a ta) (hc : X.calm = true := by rfl)
    (na : starEach [a] X.env = (false, eval a X.env) :: starEach [] X.env := by rfl) : PD X (.Call (.Name "len" p) [.Call (.Name "set" p2) [a] [] q] [] pos) (dLenSet ta) := ⟨PE.cq (pe_lenSetT hg hm hg2 hm2 ha.ok hc na) fun σ H Q ⟨Z, ρ, μ, Q0, rel, q, f⟩ => by
  refine ⟨Z, ρ, μ, _, rel, q, fun x μ1 v H1 ⟨ns, e, l, q1⟩ rl1 s1 i1 => ?_⟩
  subst e
  obtain ⟨a, rfl, h1⟩ := tup_ints i1
  exact ⟨a, ns, rfl, SqT.of h1, l, fun out hn ho => f _ μ1 _ H1 (q1 out hn ho) rl1 s1 (.int _)⟩⟩
end
end Zd


set_option Elab.async false
set_option linter.all false
set_option maxRecDepth 100000
set_option maxHeartbeats 2000000
/-! Zs: sorted(set(xs)), xs a list of pairs of ints, up to 306 different ones (tables up to 512 slots) -/
namespace Zs
open PySem PyProof.Rows L2

/-! ### 5 i + 1 modulo 512 meets all -/
def sweep : Nat → Nat → Nat → Nat
  | 0, _, b => b
  | k + 1, x, b => sweep k ((x * 5 + 1) % 512) (b ||| (1 <<< x))
theorem lcg_shift (x : Nat) : ∀ k, lcgI 511 ((x * 5 + 1) % 512) k = lcgI 511 x (k + 1)
  | 0 => rfl
  | k + 1 => by
    show (lcgI 511 ((x * 5 + 1) % 512) k * 5 + 1) % 512 = (lcgI 511 x (k + 1) * 5 + 1) % 512
    rw [lcg_shift x k]
theorem sweep_bit : ∀ (k x b j : Nat), (sweep k x b).testBit j = true → b.testBit j = true ∨ ∃ i, i < k ∧ lcgI 511 x i = j
  | 0, _, _, _, h => .inl h
  | k + 1, x, b, j, h => by
    rcases sweep_bit k _ _ j h with q | ⟨i, hi, e⟩
    · rw [Nat.testBit_or, Bool.or_eq_true, Nat.one_shiftLeft, Nat.testBit_two_pow] at q
      rcases q with q | q
      · exact .inl q
      · exact .inr ⟨0, Nat.succ_pos _, of_decide_eq_true q⟩
    · exact .inr ⟨i + 1, Nat.succ_lt_succ hi, by rw [← lcg_shift]; exact e⟩
theorem sweep_all : sweep 512 0 0 == 2 ^ 512 - 1 := by decide +kernel
theorem lcgI_0 : ∀ k, lcgI 511 0 k = lcgN 511 k
  | 0 => rfl
  | k + 1 => by
    show (lcgI 511 0 k * 5 + 1) % 512 = (lcgN 511 k * 5 + 1) % 512
    rw [lcgI_0 k]
theorem lcg_back : ∀ k, lcgN 511 (512 + k) = lcgN 511 k
  | 0 => by decide +kernel
  | k + 1 => by
    show (lcgN 511 (512 + k) * 5 + 1) % 512 = (lcgN 511 k * 5 + 1) % 512
    rw [lcg_back k]
theorem lcg511_0 {j : Nat} (hj : j ≤ 511) : ∃ k, k ≤ 511 ∧ lcgN 511 k = j := by
  have e : sweep 512 0 0 = 2 ^ 512 - 1 := beq_iff_eq.mp sweep_all
  have b : (sweep 512 0 0).testBit j = true := by
    rw [e, Nat.testBit_two_pow_sub_one]
    exact decide_eq_true (Nat.lt_succ_of_le hj)
  rcases sweep_bit 512 0 0 j b with q | ⟨k, hk, q⟩
  · rw [Nat.zero_testBit] at q
    cases q
  · exact ⟨k, Nat.le_of_lt_succ hk, by rw [← lcgI_0]; exact q⟩
theorem lcg511 {i j : Nat} (hi : i ≤ 511) (hj : j ≤ 511) : ∃ k, k ≤ 511 ∧ lcgI 511 i k = j := by
  obtain ⟨a, ha, rfl⟩ := lcg511_0 hi
  obtain ⟨b, hb, rfl⟩ := lcg511_0 hj
  by_cases c : a ≤ b
  · exact ⟨b - a, by omega, by rw [lcgN_add, Nat.add_sub_cancel' c]⟩
  · refine ⟨512 + b - a, by omega, ?_⟩
    rw [lcgN_add, Nat.add_sub_cancel' (by omega), lcg_back]
/-- the tables' masks -/
def Msk (m : Nat) : Prop := m = 7 ∨ m = 31 ∨ m = 127 ∨ m = 511
theorem Msk.odd {m : Nat} (h : Msk m) : m % 2 = 1 := by rcases h with e | e | e | e <;> subst e <;> rfl
theorem Msk.le {m : Nat} (h : Msk m) : m ≤ 511 := by rcases h with e | e | e | e <;> omega
theorem Msk.meets {m : Nat} (hm : Msk m) (h : Int) {j : Nat} (hj : j ≤ m) : ∃ n, n ≤ m + 12 ∧ runI m (SetTable.bits h) n = j := by
  rcases hm with e | e | e | e
  · exact run_meets (.inl e) h hj
  · exact run_meets (.inr (.inl e)) h hj
  · exact run_meets (.inr (.inr e)) h hj
  · subst e
    obtain ⟨k, hk, q⟩ := lcg511 (runI_le 511 (SetTable.bits h) 12) hj
    exact ⟨12 + k, by omega, by rw [runI_tail (bits_lt h)]; exact q⟩
theorem way_in {m : Nat} {h : Int} {k : Nat} : way m h k ≤ m := by
  have r := runEnd_bd (m := m) (i := SetTable.bits h % (m + 1)) (Nat.le_of_lt_succ (Nat.mod_lt _ (Nat.succ_pos _)))
  have q := nth_in (m := m) k (runAt m (SetTable.bits h % (m + 1)) (SetTable.bits h)) (show SetTable.bits h % (m + 1) + (SetTable.runEnd m (SetTable.bits h % (m + 1)) - SetTable.bits h % (m + 1)) ≤ m by omega)
  exact Nat.le_trans (Nat.le_add_right _ _) q
/-- on the way of h there is a slot outside l; the first one -/
theorem vacant {m : Nat} (hm : Msk m) (l : List Nat) (hl : l.length ≤ m) (h : Int) : ∃ K, K < 10 * SetTable.turns m ∧ way m h K ∉ l ∧ ∀ k, k < K → way m h k ∈ l := by
  obtain ⟨j, hj, hn⟩ := st_missing l (m + 1) (Nat.lt_succ_of_le hl)
  obtain ⟨n, hn2, e⟩ := hm.meets h (Nat.le_of_lt_succ hj)
  obtain ⟨k, hk, e2⟩ := run_nth m (SetTable.bits h) n
  have hw : way m h k ∉ l := by
    have e3 : way m h k = j := by
      show (nth m (runAt m (SetTable.bits h % (m + 1)) (SetTable.bits h)) k).j = j
      rw [e2]
      exact e
    rw [e3]
    exact hn
  obtain ⟨K, h1, h2, h3⟩ := st_least (p := fun k => way m h k ∉ l) k hw
  exact ⟨K, by unfold SetTable.turns; omega, h2, fun k' hk' => Classical.byContradiction fun c => h3 k' hk' c⟩

/-- each hash of the table stands on its own way behind taken slots only -/
structure Tab (t : SetTable) (hs : List Int) : Prop where
  ris : Ris t.place.toList
  dm : t.dummies = #[]
  sz : t.place.toList.length = hs.length
  msk : Msk t.mask
  on : ∀ (i : Nat) (h : Int) (j : Nat), hs[i]? = some h → t.place.toList[i]? = some j → ∃ k, way t.mask h k = j ∧ ∀ k', k' < k → way t.mask h k' ∈ t.place.toList
/-- one more -/
theorem Tab.add {t : SetTable} {hs : List Int} (T : Tab t hs) {h : Int} {K : Nat} (hK : way t.mask h K ∉ t.place.toList) (hb : ∀ k, k < K → way t.mask h k ∈ t.place.toList) {p : Nat} (ep : SetTable.below t.place (way t.mask h K) = p) :
    p ≤ hs.length ∧ Tab (t.put (way t.mask h K)).1 (hs.take p ++ h :: hs.drop p) ∧ (t.put (way t.mask h K)).1.fill = hs.length + 1 := by
  have cut := (below_cut T.ris (way t.mask h K)).1
  rw [ep] at cut
  have szA : t.place.size = hs.length := by rw [← Array.length_toList]; exact T.sz
  have hp : p ≤ hs.length := by rw [← szA]; exact cut
  have hpl : p ≤ t.place.toList.length := by rw [T.sz]; exact hp
  have pl : (t.put (way t.mask h K)).1.place.toList = t.place.toList.take p ++ way t.mask h K :: t.place.toList.drop p := by rw [put_place, ep]
  have grow : ∀ {x : Nat}, x ∈ t.place.toList → x ∈ (t.put (way t.mask h K)).1.place.toList := fun hx => by rw [pl]; exact mem_ins.2 (.inr hx)
  have len : (t.put (way t.mask h K)).1.place.toList.length = hs.length + 1 := by rw [pl, len_ins _ hpl, T.sz]
  refine ⟨hp, ⟨ris_insert T.ris fun e => hK (List.mem_of_getElem? (by rw [Array.getElem?_toList]; exact e)), put_dm T.dm _, by rw [len, len_ins _ hp], T.msk, fun i h' j' h1 h2 => ?_⟩, ?_⟩
  · rw [tins_get hs hp] at h1
    rw [pl, tins_get _ hpl] at h2
    have old : ∀ i', hs[i']? = some h' → t.place.toList[i']? = some j' → ∃ k, way t.mask h' k = j' ∧ ∀ k', k' < k → way t.mask h' k' ∈ (t.put (way t.mask h K)).1.place.toList := fun i' a b => by
      obtain ⟨k, e, z⟩ := T.on i' h' j' a b
      exact ⟨k, e, fun k' q => grow (z k' q)⟩
    by_cases c : i < p
    · rw [if_pos c] at h1 h2
      exact old i h1 h2
    · rw [if_neg c] at h1 h2
      by_cases d : i = p
      · rw [if_pos d] at h1 h2
        cases h1
        cases h2
        exact ⟨K, rfl, fun k' q => grow (hb k' q)⟩
      · rw [if_neg d] at h1 h2
        exact old (i - 1) h1 h2
  · show (t.put (way t.mask h K)).1.place.size + (t.put (way t.mask h K)).1.dummies.size = hs.length + 1
    rw [put_dm T.dm, ← Array.length_toList, len]
    rfl

/-! ### a table laid anew -/
theorem seat {m : Nat} (hm : Msk m) {done : List Int} {owner : Array (Option Nat)} (W : Own m done owner) (hl : done.length ≤ m) (h : Int) :
    ∃ j, SetTable.layClean.free m owner (SetTable.turns m) (SetTable.bits h % (m + 1)) (SetTable.bits h) = some j ∧ Own m (done ++ [h]) (owner.setIfInBounds j (some done.length)) := by
  obtain ⟨ps, hps, cover⟩ := W.ps
  -- the taken slots
  obtain ⟨j0, hj0, hn0⟩ := st_missing ps (m + 1) (by omega)
  have free0 : oAt owner j0 = none := Classical.byContradiction fun c => hn0 (cover j0 (Nat.le_of_lt_succ hj0) c)
  obtain ⟨n, hn, e⟩ := hm.meets h (Nat.le_of_lt_succ hj0)
  have hw : oAt owner (way m h (off m (SetTable.bits h % (m + 1)) (SetTable.bits h) n)) = none := by
    have e3 : way m h (off m (SetTable.bits h % (m + 1)) (SetTable.bits h) n) = j0 := by
      show (nth m (runAt m (SetTable.bits h % (m + 1)) (SetTable.bits h)) (off m (SetTable.bits h % (m + 1)) (SetTable.bits h) n)).j = j0
      rw [nth_off, itL_run]
      exact e
    rw [e3]
    exact free0
  obtain ⟨K, k1, k2, k3⟩ := st_least (p := fun k => oAt owner (way m h k) = none) _ hw
  have inb : way m h K < owner.size := by rw [W.sz]; exact Nat.lt_succ_of_le way_in
  have self := oAt_set_self (some done.length) inb
  have mono : ∀ {i : Nat}, oAt owner i ≠ none → oAt (owner.setIfInBounds (way m h K) (some done.length)) i ≠ none := fun {i} q => by
    by_cases c : i = way m h K
    · rw [c, self]; exact fun z => nomatch z
    · rw [oAt_set_ne _ c]; exact q
  refine ⟨way m h K, ?_, ⟨by rw [Array.size_setIfInBounds]; exact W.sz, fun j k hj q => ?_, fun k hk => ?_, ⟨ps ++ [way m h K], by rw [List.length_append, List.length_append, hps] <;> rfl, fun j hj q => ?_⟩⟩⟩
  · refine free_spec m owner (SetTable.turns m) n _ _ K (by unfold SetTable.turns; omega) k1 (fun k hk => ?_) ?_
    · exact Bool.eq_false_iff.mpr fun c => k3 k hk (Option.isNone_iff_eq_none.mp c)
    · exact Option.isNone_iff_eq_none.mpr k2
  · by_cases c : j = way m h K
    · rw [c, self] at q
      cases q
      exact ⟨h, K, by simp, c.symm, fun k' hk' => mono (k3 k' hk')⟩
    · rw [oAt_set_ne _ c] at q
      obtain ⟨h', K', a1, a2, a3⟩ := W.at_ j k hj q
      exact ⟨h', K', by rw [List.getElem?_append_left (List.getElem?_eq_some_iff.mp a1).1]; exact a1, a2, fun k' hk' => mono (a3 k' hk')⟩
  · by_cases c : k < done.length
    · obtain ⟨j, hj, q⟩ := W.all k c
      refine ⟨j, hj, ?_⟩
      rw [oAt_set_ne _ fun z => by rw [z, k2] at q; cases q]
      exact q
    · rw [List.length_append, List.length_singleton] at hk
      have ek : k = done.length := by omega
      exact ⟨way m h K, way_in, by rw [self, ek]⟩
  · by_cases c : j = way m h K
    · exact List.mem_append_right _ (List.mem_singleton.mpr c)
    · rw [oAt_set_ne _ c] at q
      exact List.mem_append_left _ (cover j hj q)
theorem seats {m : Nat} (hm : Msk m) : ∀ (rest done : List Int) (owner : Array (Option Nat)), Own m done owner → done.length + rest.length ≤ m →
    ∃ owner' n, rest.foldl (stepF m) (some (owner, done.length)) = some (owner', n) ∧ Own m (done ++ rest) owner'
  | [], done, owner, W, _ => ⟨owner, _, rfl, by rw [List.append_nil]; exact W⟩
  | h :: rest, done, owner, W, hl => by
    have hl1 : done.length + (rest.length + 1) ≤ m := hl
    obtain ⟨j, e, W1⟩ := seat hm W (by omega) h
    have hd : (done ++ [h]).length = done.length + 1 := List.length_append
    obtain ⟨o', n, f, W2⟩ := seats hm rest (done ++ [h]) _ W1 (by rw [hd]; omega)
    refine ⟨o', n, ?_, by rw [List.append_assoc] at W2; exact W2⟩
    rw [List.foldl_cons, stepF_some e, ← hd]
    exact f
theorem relaid_tab (t : SetTable) {hs : Array Int} {wanted M : Nat} (hw : SetTable.sizeAbove wanted - 1 = M) (hM : Msk M) (hn : hs.size ≤ M) :
    ∃ t' order, t.relaid hs wanted = some (t', order) ∧ order.toList.Perm (List.range hs.size) ∧ Tab t' (order.toList.map fun i => hs.getD i 0) ∧ t'.mask = M ∧ t'.led = t.led ∧ t'.plain = t.plain := by
  obtain ⟨owner, n, f, W⟩ := seats hM hs.toList [] _ (Own.init M) (by show 0 + hs.size ≤ M; omega)
  have lay : SetTable.layClean M hs = some owner := by
    rw [layClean_eq]
    have f' : hs.toList.foldl (stepF M) (some (Array.replicate (M + 1) none, 0)) = some (owner, n) := f
    rw [f']
    rfl
  rw [List.nil_append] at W
  obtain ⟨r1, r2⟩ := ris_live (fun j => owner.getD j none) (List.range (M + 1)) (by unfold Ris; exact List.pairwise_lt_range)
  have r1' : Ris ((liveOf M owner).map (·.1)) := r1
  have own : ∀ {j k : Nat}, (j, k) ∈ liveOf M owner ↔ j ≤ M ∧ oAt owner j = some k := mem_live W.sz
  have all : ∀ k, k < hs.size → k ∈ (liveOf M owner).map (·.2) := fun k hk => by
    obtain ⟨j, b1, b2⟩ := W.all k hk
    exact List.mem_map.mpr ⟨(j, k), own.2 ⟨b1, b2⟩, rfl⟩
  have nd1 : ((liveOf M owner).map (·.1)).Nodup := List.Pairwise.imp (fun h => Nat.ne_of_lt h) r1'
  have len : (liveOf M owner).length = hs.size := by
    obtain ⟨ps, p1, p2⟩ := W.ps
    have up := nat_nodup_len ((liveOf M owner).map (·.1)) ps nd1 fun x hx => by
      obtain ⟨⟨y, k⟩, hq, rfl⟩ := List.mem_map.mp hx
      exact p2 y (own.1 hq).1 (by rw [(own.1 hq).2]; exact fun z => nomatch z)
    have dn := nat_nodup_len (List.range hs.size) ((liveOf M owner).map (·.2)) List.nodup_range fun k hk => all k (List.mem_range.mp hk)
    rw [List.length_map, p1, Array.length_toList] at up
    rw [List.length_map, List.length_range] at dn
    exact Nat.le_antisymm up dn
  refine ⟨tabOf t M owner, ((liveOf M owner).map (·.2)).toArray, by rw [relaid_eq, hw, lay]; rfl, perm_range _ _ (by rw [List.length_map]; exact len) all, ⟨r1', rfl, ?_, hM, fun i h j h1 h2 => ?_⟩, rfl, rfl, rfl⟩
  · show ((liveOf M owner).map (·.1)).length = (((liveOf M owner).map (·.2)).map _).length
    rw [List.length_map, List.length_map, List.length_map]
  · have h1' : (((liveOf M owner).map (·.2)).map fun i => hs.getD i 0)[i]? = some h := h1
    have h2' : ((liveOf M owner).map (·.1))[i]? = some j := h2
    rw [List.map_map, List.getElem?_map] at h1'
    rw [List.getElem?_map] at h2'
    obtain ⟨⟨y, k⟩, hq, rfl⟩ := Option.map_eq_some_iff.mp h2'
    rw [hq] at h1'
    have eh : hs.getD k 0 = h := Option.some.inj h1'
    obtain ⟨b1, b2⟩ := own.1 (List.mem_of_getElem? hq)
    obtain ⟨h0, K, a1, a2, a3⟩ := W.at_ y k b1 b2
    have e0 : hs.getD k 0 = h0 := by
      rw [Array.getElem?_toList] at a1
      rw [Array.getD_eq_getD_getElem?, a1]
      rfl
    have e1 : h0 = h := e0.symm.trans eh
    subst e1
    refine ⟨K, a2, fun k' hk' => ?_⟩
    show way M h0 k' ∈ (liveOf M owner).map (·.1)
    cases z : oAt owner (way M h0 k') with
    | none => exact absurd z (a3 k' hk')
    | some k2 => exact List.mem_map.mpr ⟨(way M h0 k', k2), own.2 ⟨way_in, z⟩, rfl⟩
theorem size_308 : SetTable.sizeAbove (SetTable.grown 77) = 512 := by decide +kernel
end Zs


set_option Elab.async false
set_option linter.all false
set_option maxRecDepth 100000
set_option maxHeartbeats 4000000
namespace Zs
open PySem PySem.Spec PyProof.Rows L2
section
variable {P : Program} {w : World} {A : Around} {E : Value → Shared → Prop} {s : Shared} {a : Addr} {L : List (Addr × List Int)} {es : Array (Int × Value)} {ep : Nat} {t : SetTable}
/-- the set at a: its tuples L -/
structure Bag (P : Program) (w : World) (h : Heap) (a : Addr) (L : List (Addr × List Int)) (es : Array (Int × Value)) (ep : Nat) (t : SetTable) : Prop where
  ob : ∃ o, h.get? a = some o ∧ o.ExactSet ∧ o.data = .set es ep t
  rows : es.toList = rowsOf P w L
  tab : Tab t (L.map fun p => thash P w p.2)
  nd : (L.map (·.2)).Nodup
  tup : ∀ p ∈ L, IsT P w h p.2 p.1
  plain : t.plain = true
  led : w.params.followText "set-order" = true ∨ t.led = true
  room : L.length * 5 < t.mask * 3
theorem rows_size (h : es.toList = rowsOf P w L) : es.size = L.length := by
  rw [← Array.length_toList, h]
  exact List.length_map _
theorem Bag.size (R : Bag P w s.heap a L es ep t) : es.size = L.length := rows_size R.rows
theorem Bag.places (R : Bag P w s.heap a L es ep t) : t.place.size = L.length := by
  have h := R.tab.sz
  rw [List.length_map, Array.length_toList] at h
  exact h
theorem fits_of {n : Nat} (h1 : t.place.size = n) (h2 : t.dummies = #[]) (h3 : n ≤ t.mask) : t.fits n = true := by
  unfold SetTable.fits SetTable.fill
  rw [h2, h1, Bool.and_eq_true, beq_iff_eq, decide_eq_true_eq]
  exact ⟨rfl, h3⟩
theorem Bag.fits (R : Bag P w s.heap a L es ep t) : t.fits es.size = true := fits_of (by rw [R.places, R.size]) R.tab.dm (by rw [R.size]; have := R.room; omega)
theorem Bag.entry (R : Bag P w s.heap a L es ep t) {i : Nat} {p : Addr × List Int} (h : L[i]? = some p) : es[i]? = some (thash P w p.2, Value.ref p.1) := by
  rw [← Array.getElem?_toList, R.rows]
  unfold rowsOf
  rw [List.getElem?_map, h]
  rfl
theorem Bag.gw (R : Bag P w s.heap a L es ep t) : ¬ t.gaveWay = true := by
  unfold SetTable.gaveWay
  rw [R.tab.msk.odd]
  decide
theorem nth_dm (m : Nat) : ∀ (n : Nat) (p : SetTable.Probe), p.dummy = none → (nth m p n).dummy = none
  | 0, _, h => h
  | n + 1, p, h => nth_dm m n (adv m p) (by unfold adv; split <;> exact h)

/-- the hash's own way, as probes -/
abbrev at_ (t : SetTable) (h : Int) (c : Nat) : SetTable.Probe := nth t.mask (runAt t.mask (SetTable.bits h % (t.mask + 1)) (SetTable.bits h)) c
/-- looking for the tuple k at x, from the c-th place of its way on -/
theorem look_from (R : Bag P w s.heap a L es ep t) {x : Addr} {k : List Int} (hx : IsT P w s.heap k x) (hu : A.units < cLine) {K : Nat} (hKf : K < 10 * SetTable.turns t.mask)
    (hK : way t.mask (thash P w k) K ∉ t.place.toList) (hKb : ∀ c, c < K → way t.mask (thash P w k) c ∈ t.place.toList) {Q : SetFound → Shared → Prop}
    (hin : k ∈ L.map (·.2) → Q (.there none) s) (hout : k ∉ L.map (·.2) → Q (.free (way t.mask (thash P w k) K) false) s) :
    ∀ (f c : Nat) (stand : Option SetTable.Probe), stand.getD (t.probeStart (thash P w k)) = at_ t (thash P w k) c → c ≤ K → K < f + c →
      (∀ (i : Nat) (p : Addr × List Int), L[i]? = some p → p.2 = k → ∃ c', c ≤ c' ∧ c' < K ∧ t.place.toList[i]? = some (way t.mask (thash P w k) c')) →
      wpAny (model P w) A (setSearchFrom a (.ref x) (thash P w k) true f stand) Q E s := by
  intro f
  induction f with
  | zero => intro c _ _ h1 h2; omega
  | succ f ih =>
  intro c stand hst hc hf hre
  obtain ⟨o, ho, hex, hd⟩ := R.ob
  rw [setSearchFrom_succ]
  refine wpAny_bind (wpAny_setState_of ho hd R.fits ?_)
  dsimp only
  refine wp_if_neg R.gw ?_
  try refine wpAny_bind (wpAny_pure ?_)
  rw [hst]
  have fw : ∀ q, nth t.mask (at_ t (thash P w k) c) q = at_ t (thash P w k) (c + q) := fun q => (nth_add t.mask c _ q).symm
  have hsh : ∀ (i : Nat) (p : Addr × List Int), L[i]? = some p → (es[i]?.map (·.1)).getD 0 = thash P w p.2 := fun i p hp => by rw [R.entry hp]; rfl
  have met := go_spec t R.tab.ris R.tab.dm (fun i => (es[i]?.map (·.1)).getD 0) (thash P w k) (10 * SetTable.turns t.mask) (K - c) (at_ t (thash P w k) c) (nth_dm _ _ _ rfl) (by omega)
    (fun q hq => by rw [fw]; exact hKb (c + q) (by omega)) (by rw [fw, Nat.add_sub_cancel' hc]; exact hK)
  rcases met with ⟨q, i, hq, hi, hh, hno, hpr⟩ | ⟨hno, hpr⟩
  · have pr : t.probe (fun i => (es[i]?.map (·.1)).getD 0) (thash P w k) (at_ t (thash P w k) c) = some (.candidate (way t.mask (thash P w k) (c + q)) i (at_ t (thash P w k) (c + (q + 1)))) := by
      rw [fw, fw] at hpr
      exact hpr
    rw [pr]
    dsimp only
    rw [fw] at hi
    have hil : i < L.length := by
      have h1 := (List.getElem?_eq_some_iff.mp hi).1
      rw [R.tab.sz, List.length_map] at h1
      exact h1
    obtain ⟨p, hp⟩ : ∃ p, L[i]? = some p := ⟨_, List.getElem?_eq_getElem hil⟩
    have hm := List.mem_of_getElem? hp
    have sl := slot_live R.tab.ris hi
    have rest : wpAny (model P w) A (searchRest a (.ref x) (thash P w k) true f es t (way t.mask (thash P w k) (c + q)) i (at_ t (thash P w k) (c + (q + 1)))) Q E s := by
      unfold searchRest
      rw [R.entry hp]
      dsimp only
      refine wpAny_bind (wpAny_holding (wpAny_eqBool_tuple hu (R.tup p hm) hx ?_))
      refine wpAny_bind (wpAny_setState_of ho hd R.fits ?_)
      dsimp only
      by_cases e : p.2 = k
      · exact wp_if_pos (by simp [e]) (wpAny_pure (hin (List.mem_map.mpr ⟨p, hm, e⟩)))
      · refine wp_if_neg (by simp [e]) ?_
        try refine wpAny_bind (wpAny_pure ?_)
        rw [sameMem]
        dsimp only
        simp only [if_true, sl, R.entry hp]
        refine wpAny_bind (wpAny_isSame_ref_self (wpAny_bind (wpAny_pure ?_)))
        simp only [if_true]
        refine wp_if_neg (by simp [e]) (ih (c + (q + 1)) _ rfl (by omega) (by omega) fun i0 p0 h0 hk0 => ?_)
        obtain ⟨c', a1, a2, a3⟩ := hre i0 p0 h0 hk0
        have n1 : ¬ c' < c + q := fun z => hno (c' - c) i0 (by omega) (by rw [fw, Nat.add_sub_cancel' a1]; exact a3) ((hsh i0 p0 h0).trans (by rw [hk0]))
        have n2 : c' ≠ c + q := fun z => by
          rw [z] at a3
          have s0 := slot_live R.tab.ris a3
          rw [sl] at s0
          cases s0
          rw [hp] at h0
          cases h0
          exact e hk0
        exact ⟨c', by omega, a2, a3⟩
    by_cases hl : t.led = true
    · refine wp_if_neg (by simp [hl]) ?_
      try refine wpAny_bind (wpAny_pure ?_)
      exact rest
    · refine wp_if_pos (by simp [hl]) (wpAny_bind (seen_tup hx (fun y hy => ?_) ?_))
      · obtain ⟨r, hr, rfl⟩ := List.mem_map.mp hy
        have hr1 : r ∈ es ∧ r.1 = thash P w k := by simpa using hr
        have hr2 : r ∈ es.toList := by simpa using hr1.1
        rw [R.rows] at hr2
        obtain ⟨p2, hp2, rfl⟩ := List.mem_map.mp hr2
        exact ⟨p2.2, p2.1, rfl, R.tup p2 hp2⟩
      · refine wp_if_neg (by decide) ?_
        try refine wpAny_bind (wpAny_pure ?_)
        exact rest
  · have pr : t.probe (fun i => (es[i]?.map (·.1)).getD 0) (thash P w k) (at_ t (thash P w k) c) = some (.empty (way t.mask (thash P w k) K) none) := by
      rw [fw, Nat.add_sub_cancel' hc] at hpr
      exact hpr
    rw [pr]
    dsimp only
    refine wpAny_pure (hout fun hm => ?_)
    obtain ⟨p0, h0, hk0⟩ := List.mem_map.mp hm
    obtain ⟨i0, h00⟩ := List.mem_iff_getElem?.mp h0
    obtain ⟨c', a1, a2, a3⟩ := hre i0 p0 h00 hk0
    exact hno (c' - c) i0 (by omega) (by rw [fw, Nat.add_sub_cancel' a1]; exact a3) ((hsh i0 p0 h00).trans (by rw [hk0]))

/-- the table made larger -/
theorem widen {o : Obj} (ho : s.heap.get? a = some o) (hex : o.ExactSet) (hd : o.data = .set es ep t) (hrows : es.toList = rowsOf P w L) (T : Tab t (L.map fun p => thash P w p.2)) (hfl : L.length ≤ t.mask)
    (nd : (L.map (·.2)).Nodup) (tup : ∀ p ∈ L, IsT P w s.heap p.2 p.1) (pl : t.plain = true) (ld : w.params.followText "set-order" = true ∨ t.led = true) {wanted M : Nat}
    (hw : SetTable.sizeAbove wanted = M + 1) (hM : Msk M) (hn : L.length * 5 < M * 3) {Q : Unit → Shared → Prop}
    (hQ : ∀ h' L' es' ep' t', Heap.SameBut a s.heap h' → Bag P w h' a L' es' ep' t' → L'.Perm L → Q () { s with heap := h' }) : wpAny (model P w) A (setRelay a wanted) Q E s := by
  have hsl := rows_size hrows
  have hM2 := hM.le
  have hpl : t.place.size = L.length := by
    have h := T.sz
    rw [List.length_map, Array.length_toList] at h
    exact h
  obtain ⟨t', order, e, hp, T', em, el, epl⟩ := relaid_tab t (hs := es.map (·.1)) (wanted := wanted) (M := M) (by omega) hM (by rw [Array.size_map, hsl]; omega)
  rw [Array.size_map, hsl] at hp
  obtain ⟨L2, r1, r2, r3⟩ := order_rows L es order hrows hp
  rw [← r3] at T'
  have hs2 : (order.filterMap (es[·]?)).size = es.size := by rw [rows_size r1, r2.length_eq, hsl]
  rw [setRelay_eq]
  refine wpAny_bind (wpAny_setState_of ho hd (fits_of (by rw [hpl, hsl]) T.dm (by omega)) ?_)
  dsimp only
  refine wp_if_neg (by rw [hw, sizeLine_eq]; omega) ?_
  try refine wpAny_bind (wpAny_pure ?_)
  rw [e]
  dsimp only
  refine wpAny_bind (wp_if_neg (by rw [hs2]; simp) ?_)
  try refine wpAny_bind (wpAny_pure ?_)
  refine wpAny_pure ?_
  dsimp only
  refine wpAny_storeSet_of ho hd ?_ (by rw [hs2, hsl, sizeLine_eq]; omega)
  have sb : Heap.SameBut a s.heap (s.heap.update a (Obj.putSet (order.filterMap (es[·]?)) t')) := Heap.SameBut.update ..
  exact hQ _ L2 _ (ep + 1) t' sb ⟨⟨_, store_at ho hd, ⟨hex.1, hex.2.1, hex.2.2⟩, rfl⟩, r1, T', (r2.map (·.2)).nodup_iff.mpr nd, fun p hpm => isT_same (tup p (r2.mem_iff.mp hpm)) ho hd sb, by rw [epl]; exact pl, by rw [el]; exact ld, by rw [r2.length_eq, em]; exact hn⟩ r2

/-- set.add of a tuple -/
theorem bag_add (R : Bag P w s.heap a L es ep t) {x : Addr} {k : List Int} (hx : IsT P w s.heap k x) (hu : A.units < cLine) (hfew : L.length ≤ 305) {Q : Bool → Shared → Prop}
    (hQ : ∀ b h' L' es' ep' t', Heap.SameBut a s.heap h' → Bag P w h' a L' es' ep' t' → (k ∈ L.map (·.2) → L' = L) → (k ∉ L.map (·.2) → L'.Perm ((x, k) :: L)) → Q b { s with heap := h' }) :
    wpAny (model P w) A (setAddHashed a (.ref x) (thash P w k)) Q E s := by
  obtain ⟨o, ho, hex, hd⟩ := R.ob
  have hroom := R.room
  have hmle := R.tab.msk.le
  unfold setAddHashed
  refine wpAny_holding ?_
  rw [show (100000 : Nat) = 99999 + 1 from rfl, setAddHashedIn_succ]
  refine wpAny_bind (wpAny_setState_of ho hd R.fits ?_)
  dsimp only
  refine wp_if_neg (by simp [byScan, Value.scannable]) ?_
  try refine wpAny_bind (wpAny_pure ?_)
  obtain ⟨K, hKf, hK, hb⟩ := vacant R.tab.msk t.place.toList (by rw [R.tab.sz, List.length_map]; omega) (thash P w k)
  refine wpAny_bind ?_
  unfold setSearch
  refine look_from R hx hu hKf hK hb (fun hm => ?_) (fun hm => ?_) 100000 0 none rfl (Nat.zero_le _) (by unfold SetTable.turns at hKf; omega) fun i p hp hk => ?_
  · dsimp only
    exact wpAny_pure (hQ false s.heap L es ep t (Heap.SameBut.refl a s.heap) R (fun _ => rfl) fun z => absurd hm z)
  · dsimp only
    refine wpAny_bind (wpAny_setState_of ho hd R.fits ?_)
    dsimp only
    obtain ⟨p, hpe⟩ : ∃ p, SetTable.below t.place (way t.mask (thash P w k) K) = p := ⟨_, rfl⟩
    obtain ⟨hp, T1, hfill⟩ := R.tab.add hK hb hpe
    have p2 : (t.put (way t.mask (thash P w k) K)).2 = p := hpe
    have m1 : (t.put (way t.mask (thash P w k) K)).1.mask = t.mask := rfl
    have g1 : (t.put (way t.mask (thash P w k) K)).1.plain = true := R.plain
    have l1 : w.params.followText "set-order" = true ∨ (t.put (way t.mask (thash P w k) K)).1.led = true := R.led
    generalize t.put (way t.mask (thash P w k) K) = pt at T1 hfill p2 m1 g1 l1 ⊢
    obtain ⟨t1, p'⟩ := pt
    dsimp only at T1 hfill p2 m1 g1 l1 ⊢
    subst p2
    first
      | (refine wpAny_bind ?_; refine wp_if_pos g1 ?_; refine hashBy_tup hx ?_)
      | refine wp_if_pos g1 (wpAny_bind (hashBy_tup hx ?_))
    simp only [if_true]
    have rin : (SetTable.insertAt es p' (thash P w k, Value.ref x)).toList = rowsOf P w (L.take p' ++ (x, k) :: L.drop p') := by rw [SetTable.toList_insertAt, rows_put, R.rows]
    have pm := put_perm L p' (x, k)
    have hT : Tab t1 ((L.take p' ++ (x, k) :: L.drop p').map fun p => thash P w p.2) := by
      rw [List.map_append, List.map_cons, List.map_take, List.map_drop]
      exact T1
    have nd1 : ((L.take p' ++ (x, k) :: L.drop p').map (·.2)).Nodup := (pm.map (·.2)).nodup_iff.mpr (by rw [List.map_cons]; exact List.nodup_cons.mpr ⟨hm, R.nd⟩)
    generalize L.take p' ++ (x, k) :: L.drop p' = L1 at rin pm hT nd1
    have len1 : L1.length = L.length + 1 := pm.length_eq
    have sz1 := rows_size rin
    rw [List.length_map] at hfill
    generalize SetTable.insertAt es p' (thash P w k, Value.ref x) = es1 at rin sz1 ⊢
    refine wpAny_bind (wpAny_storeSet_of ho hd ?_ (by rw [sz1, len1, sizeLine_eq]; omega))
    have sb : Heap.SameBut a s.heap (s.heap.update a (Obj.putSet es1 t1)) := Heap.SameBut.update ..
    have ho1 := store_at (es' := es1) (t' := t1) ho hd
    generalize s.heap.update a (Obj.putSet es1 t1) = h1 at sb ho1 ⊢
    have tup1 : ∀ p ∈ L1, IsT P w h1 p.2 p.1 := fun p hp => by
      rcases List.mem_cons.mp (pm.mem_iff.mp hp) with e | hp
      · rw [e]; exact isT_same hx ho hd sb
      · exact isT_same (R.tup p hp) ho hd sb
    rw [R.size]
    by_cases hf : t1.tooFull = true
    · first
        | (refine wpAny_bind ?_; refine wp_if_pos (by simp [hf]) ?_)
        | (refine wp_if_pos (by simp [hf]) ?_; refine wpAny_bind ?_)
      have full : (L.length + 1) * 5 ≥ t.mask * 3 := by
        unfold SetTable.tooFull at hf
        rw [decide_eq_true_eq, hfill, m1] at hf
        exact hf
      obtain ⟨M, hM, hw, hn⟩ : ∃ M, Msk M ∧ SetTable.sizeAbove (SetTable.grown (L.length + 1)) = M + 1 ∧ (L.length + 1) * 5 < M * 3 := by
        rcases R.tab.msk with e | e | e | e
        · have : L.length = 4 := by omega
          exact ⟨31, .inr (.inl rfl), by rw [this]; exact size_20, by omega⟩
        · have : L.length = 18 := by omega
          exact ⟨127, .inr (.inr (.inl rfl)), by rw [this]; exact size_76, by omega⟩
        · have : L.length = 76 := by omega
          exact ⟨511, .inr (.inr (.inr rfl)), by rw [this]; exact size_308, by omega⟩
        · omega
      refine widen (s := { s with heap := h1 }) ho1 ⟨hex.1, hex.2.1, hex.2.2⟩ rfl rin hT (by rw [len1, m1]; omega) nd1 tup1 g1 l1 hw hM (by rw [len1]; exact hn) ?_
      intro h2 L2 es2 ep2 t2 sb2 R2 pm2
      exact wpAny_pure (hQ true h2 L2 es2 ep2 t2 (sb.trans sb2) R2 (fun z => absurd z hm) fun _ => pm2.trans pm)
    · first
        | refine wp_if_neg (by simp [hf]) ?_
        | (refine wpAny_bind ?_; refine wp_if_neg (by simp [hf]) ?_; refine wpAny_pure ?_)
      refine wpAny_pure (hQ true h1 L1 es1 (ep + 1) t1 sb ⟨⟨_, ho1, ⟨hex.1, hex.2.1, hex.2.2⟩, rfl⟩, rin, hT, nd1, tup1, g1, l1, ?_⟩ (fun z => absurd z hm) fun _ => pm)
      unfold SetTable.tooFull at hf
      rw [decide_eq_true_eq, hfill] at hf
      rw [len1]
      omega
  · obtain ⟨j, hj⟩ : ∃ j, t.place.toList[i]? = some j := ⟨_, List.getElem?_eq_getElem (by rw [R.tab.sz, List.length_map]; exact (List.getElem?_eq_some_iff.mp hp).1)⟩
    obtain ⟨c, e, z⟩ := R.tab.on i (thash P w k) j (by rw [List.getElem?_map, hp, ← hk]; rfl) hj
    refine ⟨c, Nat.zero_le _, ?_, by rw [e]; exact hj⟩
    rcases Nat.lt_trichotomy c K with q | q | q
    · exact q
    · rw [← q, e] at hK
      exact absurd (List.mem_of_getElem? hj) hK
    · exact absurd (z K q) hK
end
end Zs


set_option Elab.async false
set_option linter.all false
set_option maxRecDepth 100000
set_option maxHeartbeats 4000000
namespace Zs
open PySem PySem.Spec PyProof.Rows L2
section
variable {P : Program} {w : World} {A : Around} {E : Value → Shared → Prop} {s : Shared}
theorem Bag.keep {h h' : Heap} {a : Addr} {L : List (Addr × List Int)} {es : Array (Int × Value)} {ep : Nat} {t : SetTable} (R : Bag P w h a L es ep t) (ha : ∀ o, h.get? a = some o → h'.get? a = some o) (ht : ∀ p ∈ L, IsT P w h' p.2 p.1) : Bag P w h' a L es ep t :=
  ⟨R.ob.elim fun o r => ⟨o, ha o r.1, r.2⟩, R.rows, R.tab, R.nd, ht, R.plain, R.led, R.room⟩
abbrev freshT (w : World) : SetTable := .fresh 0 0 (!w.params.followText "set-order")
abbrev freshO (w : World) : Obj := { cls := .type "set", dict := none, data := .set #[] 0 (freshT w) }
theorem bag_new {h : Heap} {a : Addr} (ho : h.get? a = some (freshO w)) : Bag P w h a [] #[] 0 (freshT w) where
  ob := ⟨_, ho, ⟨rfl, rfl, rfl⟩, rfl⟩
  rows := rfl
  tab := ⟨List.Pairwise.nil, rfl, rfl, .inl rfl, fun i h j hi => nomatch hi⟩
  nd := List.nodup_nil
  tup := fun p hp => nomatch hp
  plain := rfl
  led := by
    show w.params.followText "set-order" = true ∨ (!w.params.followText "set-order") = true
    cases w.params.followText "set-order" <;> simp
  room := by show 0 * 5 < 7 * 3; decide
/-- a set of what has been met, never more than 306 -/
def Has (P : Program) (w : World) (h : Heap) (S : Addr) (ks : List (Addr × List Int)) (i : Nat) : Prop := ∃ L es ep t, Bag P w h S L es ep t ∧ Got ks i L
theorem keys_few {ks L : List (Addr × List Int)} (hn : (L.map (·.2)).Nodup) (hs : ∀ p ∈ L, p ∈ ks) {U : List (List Int)} (hU : ∀ p ∈ ks, p.2 ∈ U) : L.length ≤ U.length := by
  have key : ∀ (l D : List (List Int)), l.Nodup → (∀ x ∈ l, x ∈ D) → l.length ≤ D.length := by
    intro l
    induction l with
    | nil => intro D _ _; exact Nat.zero_le _
    | cons x l ih =>
      intro D hn hs
      obtain ⟨h1, h2⟩ := List.nodup_cons.mp hn
      have hx : x ∈ D := hs x List.mem_cons_self
      have q := ih (D.erase x) h2 fun y hy => (List.mem_erase_of_ne (by intro e; subst e; exact h1 hy)).2 (hs y (List.mem_cons_of_mem _ hy))
      rw [List.length_erase_of_mem hx] at q
      have hp : 0 < D.length := List.length_pos_of_mem hx
      rw [List.length_cons]
      omega
  have q := key (L.map (·.2)) U hn fun x hx => by
    obtain ⟨p, hp, rfl⟩ := List.mem_map.mp hx
    exact hU p (hs p hp)
  rw [List.length_map] at q
  exact q
theorem Got.from {ks L : List (Addr × List Int)} {i : Nat} (g : Got ks i L) : ∀ p ∈ L, p ∈ ks := fun p hp => List.mem_of_mem_take (g.sub p hp)

/-- the loop of set.update over tuples -/
theorem fill_loop {I : Addr} {fp wr : List Addr} {G : Array GenState → Array GenState → Prop} {n : Nat} {Pv : Nat → Value → Prop} {St : Nat → Shared → Prop} {R : Result → Shared → Prop}
    (W : WalksS P w A.in1 I fp wr G n Pv St) (S : Addr) (hSf : S ∉ fp) (ks : List (Addr × List Int)) (hn : n = ks.length) {U : List (List Int)} (hU : ∀ p ∈ ks, p.2 ∈ U) (hUl : U.length ≤ 305) (hval : ∀ i v, Pv i v → ∃ p, ks[i]? = some p ∧ v = .ref p.1)
    (h0 : Heap) (hk : ∀ p ∈ ks, IsT P w h0 p.2 p.1) (hS0 : h0.get? S = none) (hw0 : ∀ b ∈ wr, h0.get? b = none) (hu : A.in1.units < cLine) :
    ∀ (k i : Nat) (s : Shared), i + k = n → St i s → (∀ b o, h0.get? b = some o → s.heap.get? b = some o) → Has P w s.heap S ks i →
      (∀ s', Moved (S :: wr) G s s' → Has P w s'.heap S ks n → (∀ b o, h0.get? b = some o → s'.heap.get? b = some o) → R (.ok (.ret .none)) s') →
      codeAny (model P w) A (.builtin "set.update.loop" ⟨[.ref S, .ref I], []⟩) R s := by
  have hSw : S ∉ wr := fun h => hSf (W.sub _ h)
  have more : ∀ b ∈ wr, b ∈ S :: wr := fun b hb => List.mem_cons_of_mem _ hb
  have old : ∀ {s s' : Shared}, Moved wr G s s' → (∀ b o, h0.get? b = some o → s.heap.get? b = some o) → ∀ b o, h0.get? b = some o → s'.heap.get? b = some o := fun hm q b o e =>
    hm.heap b o (fun hb => nomatch (hw0 b hb).symm.trans e) (q b o e)
  intro k
  induction k with
  | zero =>
    intro i s e hst q hB hR
    have e : i = n := e
    subst e
    refine codeAny_builtin F.entry_set_update_loop ?_
    rw [Around.under_plainId F.plain_set_update_loop _]
    show wpAny _ A.in1 (pyNext (.ref I) >>= _) _ _ s
    refine wpAny_bind (W.done s _ _ hst fun s' hm => ?_)
    show wpAny _ A.in1 (ret Value.none) _ _ s'
    obtain ⟨L, es, ep, t, B, g⟩ := hB
    exact wpAny_pure (hR s' (hm.mono more) ⟨L, es, ep, t, B.keep (fun o e => hm.heap S o hSw e) fun p hp => isT_keep (hk p (Zs.Got.from g p hp)) (old hm q), g⟩ (old hm q))
  | succ k ih =>
    intro i s e hst q hB hR
    refine codeAny_builtin F.entry_set_update_loop ?_
    rw [Around.under_plainId F.plain_set_update_loop _]
    show wpAny _ A.in1 (pyNext (.ref I) >>= _) _ _ s
    refine wpAny_bind (W.item i s _ _ (by omega) hst fun v s' hP hst' hm => ?_)
    obtain ⟨p, hp, rfl⟩ := hval i v hP
    obtain ⟨L, es, ep, t, B, g⟩ := hB
    have q' := old hm q
    have B' : Bag P w s'.heap S L es ep t := B.keep (fun o e => hm.heap S o hSw e) fun r hr => isT_keep (hk r (Zs.Got.from g r hr)) q'
    have hx : IsT P w s'.heap p.2 p.1 := isT_keep (hk p (List.mem_of_getElem? hp)) q'
    have few := keys_few B.nd (Zs.Got.from g) hU
    show wpAny _ A.in1 (holding [Value.ref p.1] (setAdd S (.ref p.1)) >>= _) _ _ s'
    refine wpAny_bind (wpAny_holding ?_)
    unfold setAdd
    refine wpAny_holding (wpAny_bind (wpAny_pyHash_tuple hu hx ?_))
    refine bag_add (s := { s' with toks := s'.toks + (p.2.length + 1) }) B' hx hu (by omega) fun b h' L' es' ep' t' sb B2 c1 c2 => ?_
    have g' : Got ks (i + 1) L' := by
      by_cases c : p.2 ∈ L.map (·.2)
      · rw [c1 c]; exact g.same hp c
      · exact g.more hp (c2 c)
    have q2 : ∀ b o, h0.get? b = some o → h'.get? b = some o := fun b o e => (sb.2 b fun z => by rw [z, hS0] at e; cases e).trans (q' b o e)
    refine wpAny_pure ⟨plainId_quiet F.plain_set_update_loop _, ih (i + 1) _ (by omega) (W.frame _ s' _ _ hst' (Nat.le_add_right _ _) fun b hb o e => ?_) q2 ⟨L', es', ep', t', B2, g'⟩ fun s'' hm'' hB'' q'' => ?_⟩
    · rw [sb.2 b fun z => hSf (z ▸ hb)]; exact e
    · refine hR s'' (Moved.trans W.gtrans ((hm.mono more).then_heap (Nat.le_add_right _ _) fun b o hb e => ?_) hm'') hB'' q''
      rw [sb.2 b fun z => hb (z ▸ List.mem_cons_self)]; exact e

/-- set(xs), xs a list of tuples -/
theorem call_set_bag {l : Addr} {items : Array Value} (ks : List (Addr × List Int)) {Q : Value → Shared → Prop} (hh : A.handled = none) (hl : s.heap.IsList l items) (hit : items.toList = ks.map fun p => Value.ref p.1)
    (hk : ∀ p ∈ ks, IsT P w s.heap p.2 p.1) {U : List (List Int)} (hU : ∀ p ∈ ks, p.2 ∈ U) (hUl : U.length ≤ 305) (hu : A.units + 3 < cLine)
    (h : ∀ (h' : Heap) (tk : Nat), Has P w h' s.heap.objs.size ks ks.length → (∀ b o, s.heap.get? b = some o → h'.get? b = some o) → Q (.ref s.heap.objs.size) { s with heap := h', toks := tk }) :
    wpAny (model P w) A (call (.type "set") [.ref l]) Q E s := by
  have hisz : items.size = ks.length := by rw [← Array.length_toList, hit, List.length_map]
  obtain ⟨c, tl, hmro⟩ := F.called_set.mro
  have hmade := F.called_set.made
  have hsub := F.called_set.sub
  refine wpAny_call (codeAny_of_tree ?_)
  show wpAny _ _ (callAny (.type "set") _) _ _ _
  refine wpAny_pure ⟨Code.quiet_builtin _ (by decide +kernel), codeAny_builtin F.entry_type_call ?_⟩
  rw [Around.under_plain (weight_type_call_type "set" [.ref l] []) rfl]
  have h1 := F.called_set.notType
  have h2 := F.called_set.canCreate
  have hct := F.typeCall_set_1 (.ref l)
  repeat (any_goals (first | assumption | wp_step))
  refine codeAny_mono (code_set_led1 (.ref l) (E := E) (Q₁ := fun obj s₁ => obj = .ref s.heap.objs.size ∧ s₁ = { s with heap := s.heap.push (freshO w) }) ⟨rfl, rfl⟩) fun r s₁ hr => ?_
  rcases r with e | fl
  · exact hr
  · cases fl with
    | ret obj =>
      obtain ⟨rfl, rfl⟩ := hr
      have hS : (s.heap.push (freshO w)).get? s.heap.objs.size = some (freshO w) := Heap.get?_push_size _ rfl
      have hT : Shared.TypeIs { s with heap := s.heap.push (freshO w) } (.ref s.heap.objs.size) "set" := ⟨_, hS, rfl⟩
      have hli := F.called_set.init.lookup
      have hbi := F.called_set.init.bind (.ref s.heap.objs.size)
      repeat (any_goals (first | assumption | wp_step))
      refine codeAny_mono (codeAny_call_builtin (R := wants (fun r s₂ => r = .none ∧ ∃ h' tk, s₂ = { s with heap := h', toks := tk } ∧ Has P w h' s.heap.objs.size ks ks.length ∧
          (∀ b o, s.heap.get? b = some o → h'.get? b = some o)) E) F.called_set.init.plain F.entry_set_init (check_set_init_1 hT ?_)) fun r₂ s₂ hr₂ => ?_
      · obtain ⟨ol, hol, hcl, nl, hdl⟩ := hl
        obtain ⟨ocls, odict, odata, oslots⟩ := ol
        simp only at hcl hdl
        subst hcl; subst hdl
        have hol' : (s.heap.push (freshO w)).get? l = some { cls := .type "list", dict := odict, data := .seq items nl, slots := oslots } := Heap.get?_push_of_some _ hol
        have hsls := F.sub_list_set
        have hslf := F.sub_list_frozenset
        have hne : (Value.type "list" == Value.type "dict") = false := by decide
        have hl1 : (s.heap.push (freshO w)).IsList l items := ⟨_, hol', rfl, nl, rfl⟩
        unfold Builtin.«set.__init__» noKeywords Builtin.Frozenset.updateFrom
        generalize hPI : pyIter = PI
        wp_walk
        subst hPI
        refine wpAny_pyIter_list hl1 (wpAny_bind (wpAny_runValue ?_))
        have hlS : l < s.heap.objs.size := Heap.lt_size hol
        have hz1 : (s.heap.push (freshO w)).objs.size = s.heap.objs.size + 1 := Heap.size_push ..
        have hneI : l ≠ (s.heap.push (freshO w)).objs.size := by rw [hz1]; exact Nat.ne_of_lt (Nat.lt_succ_of_lt hlS)
        have hSf : s.heap.objs.size ∉ [(s.heap.push (freshO w)).objs.size, l] := by
          rw [hz1]
          intro z
          rcases List.mem_cons.mp z with z | z
          · omega
          · rw [List.mem_singleton.mp z] at hlS
            exact Nat.lt_irrefl _ hlS
        have none_of : ∀ b, s.heap.objs.size ≤ b → s.heap.get? b = none := fun b hb => by
          cases q : s.heap.get? b with
          | none => rfl
          | some o => exact absurd (Nat.lt_of_lt_of_le (Heap.lt_size q) hb) (Nat.lt_irrefl _)
        refine fill_loop ((Walks.list (by simp [hh]) _ l hneI items).toS) s.heap.objs.size hSf ks hisz hU hUl (fun i v hv => ?_) s.heap hk (none_of _ (Nat.le_refl _))
          (fun b hb => none_of b (by rw [List.mem_singleton.mp hb, hz1]; omega)) hu items.size 0 _ (Nat.zero_add _)
          ⟨⟨_, Heap.get?_push_size _ rfl, rfl, rfl⟩, (hl1.push _)⟩ (fun b o e => Heap.get?_push_of_some _ (Heap.get?_push_of_some _ e)) ⟨[], #[], 0, _, bag_new (Heap.get?_push_of_some _ hS), Got.zero ks⟩ fun s' hm hB hkp => ?_
        · have q : items.toList[i]? = some v := by rw [Array.getElem?_toList]; exact hv
          rw [hit, List.getElem?_map] at q
          obtain ⟨p, hp, e⟩ := Option.map_eq_some_iff.mp q
          exact ⟨p, hp, e.symm⟩
        · obtain ⟨h', g2, d', tk', os'⟩ := s'
          have eg : g2 = s.gens := hm.gens
          have ed : d' = s.drawn := hm.drawn
          have eo : os' = s.os := hm.os
          subst eg; subst ed; subst eo
          show wpAny _ _ _ _ _ _
          refine wpAny_pure ?_
          show wpAny _ _ (ret Value.none) _ _ _
          rw [hisz] at hB
          exact wpAny_pure ⟨rfl, h', tk', rfl, hB, hkp⟩
      · rcases r₂ with e | fl₂
        · exact hr₂
        · cases fl₂ with
          | ret r =>
            obtain ⟨rfl, h', tk, rfl, hB, hk'⟩ := hr₂
            repeat (any_goals (first | assumption | wp_step))
            exact h _ _ hB hk'
          | _ => exact hr₂.elim
    | _ => exact hr.elim
end
end Zs


set_option Elab.async false
set_option linter.all false
set_option maxRecDepth 100000
set_option maxHeartbeats 4000000
namespace Zs
open PySem PySem.Spec PyProof.Rows L2 Zd
section
variable {P : Program} {w : World} {A : Around} {E : Value → Shared → Prop} {s : Shared}
theorem isPair_of {h : Heap} {k : List Int} {b : Addr} {x y : Int} (i : IsT P w h k b) (e : k = [x, y]) : Srt.IsPair h (.ref b) x y := by
  subst e
  obtain ⟨o, items, n, ho, hc, hd, hi⟩ := i
  have hi' := ints_of_items hi
  obtain ⟨its⟩ := items
  cases hi' with
  | cons i t r =>
    cases r with
    | cons j u r =>
      cases r
      exact ⟨b, o, t, u, n, rfl, ho, hc, hd⟩
/-- sorted(set) of pairs -/
theorem sorted_bag {a : Addr} {L : List (Addr × List Int)} {es : Array (Int × Value)} {ep : Nat} {t : SetTable} {Q : Value → Shared → Prop} (R : Bag P w s.heap a L es ep t) (hh : A.handled = none)
    (hL : ∀ p ∈ L, p.2.length = 2) (hl : L.length ≤ 1000)
    (hQ : ∀ s' p c (L' : List (Addr × List Int)), (∀ b o, s.heap.get? b = some o → s'.heap.get? b = some o) → s'.gens = s.gens → s'.os = s.os → s.heap.objs.size ≤ p →
      s'.heap.get? p = some (seqObj "list" (L'.map fun q => Value.ref q.1).toArray c) → L'.Perm L → L'.Pairwise (fun q r => ¬ prL (r.2.getD 0 0, r.2.getD 1 0) (q.2.getD 0 0, q.2.getD 1 0)) → Q (.ref p) s') :
    wpAny (model P w) A (call (.builtin "sorted") [.ref a]) Q E s := by
  obtain ⟨o, ho, hex, hd⟩ := R.ob
  have hsz := R.size
  refine Calls.call_function_entry kind_sorted plain_sorted entry_sorted (args_sorted1 _) ?_
  unfold Builtin.«sorted»
  refine wpAny_bind (m := checkCount "sorted" 1 1 _) (wpAny_pure ?_)
  refine wpAny_bind (collect_set (A := A.in1) hh ⟨o, ho, hex.1, hd⟩ R.fits (by unfold scanBound; omega) R.tab.ris R.led fun s1 vs k1 hz g1 o1 pm => ?_)
  have pm : vs.Perm (L.map fun q => Value.ref q.1) := by
    have e : es.toList.map (·.2) = L.map fun q => Value.ref q.1 := by
      rw [R.rows]
      unfold rowsOf
      rw [List.map_map]
      rfl
    rw [← e]
    exact pm
  have vl : vs.length = L.length := by rw [pm.length_eq, List.length_map]
  refine wpAny_bind (wpAny_newList ?_ (by rw [sizeLine_eq]; omega))
  have hoL : (s1.heap.push (seqObj "list" vs.toArray 0)).get? s1.heap.objs.size = some (seqObj "list" vs.toArray 0) := Heap.get?_push_size _ rfl
  -- each value's pair
  have kof : ∃ k : Value → Int × Int, ∀ q ∈ L, k (.ref q.1) = (q.2.getD 0 0, q.2.getD 1 0) := by
    classical
    refine ⟨fun v => if h : ∃ q ∈ L, v = .ref q.1 then (h.choose.2.getD 0 0, h.choose.2.getD 1 0) else (0, 0), fun q hq => ?_⟩
    have h : ∃ q' ∈ L, Value.ref q.1 = .ref q'.1 := ⟨q, hq, rfl⟩
    refine (dif_pos h).trans ?_
    have e : q.1 = h.choose.1 := by
      have z := h.choose_spec.2
      injection z
    have a1 := R.tup q hq
    have a2 := R.tup _ h.choose_spec.1
    rw [← e] at a2
    rw [a1.inj a2]
  obtain ⟨k, hk⟩ := kof
  have pair : ∀ v ∈ vs, Srt.IsPair (s1.heap.push (seqObj "list" vs.toArray 0)) v (k v).1 (k v).2 := fun v hv => by
    obtain ⟨q, hq, rfl⟩ := List.mem_map.mp (pm.mem_iff.mp hv)
    rw [hk q hq]
    refine isPair_of (P := P) (w := w) (isT_keep (R.tup q hq) fun b u e => Heap.get?_push_of_some _ (k1 b u e)) ?_
    have l2 := hL q hq
    match q, l2 with
    | (_, [x, y]), _ => rfl
  refine wpAny_bind (wpAny_holding (wpAny_call_entry slot_list_sort ⟨_, hoL, rfl⟩ entry_list_sort (SrtO.list_sort_ord (s := { s1 with heap := s1.heap.push (seqObj "list" vs.toArray 0) }) (SrtO.swo_lex k) hoL (by rw [sizeLine_eq]; omega)
    (fun h2 => SrtO.pairs_sortableO (by omega) pair fun o' e c => ?_) fun out h1 h2 => ⟨_, rfl, ?_⟩) (args_list_sort _)))
  · rw [hoL] at e
    cases e
    exact absurd (Value.type.inj c) (by decide)
  · obtain ⟨c, hc⟩ := sortedHeap_at (vs := vs) (out := out.toArray) hoL
    -- back to the rows
    have back : ∀ us : List Value, (∀ v ∈ us, ∃ q ∈ L, v = Value.ref q.1) → ∃ L1 : List (Addr × List Int), us = L1.map (fun q => Value.ref q.1) ∧ ∀ q ∈ L1, q ∈ L := by
      intro us
      induction us with
      | nil => exact fun _ => ⟨[], rfl, fun q hq => nomatch hq⟩
      | cons v us ih =>
        intro hv
        obtain ⟨q, hq, e⟩ := hv v List.mem_cons_self
        obtain ⟨L1, e1, hs⟩ := ih fun u hu => hv u (List.mem_cons_of_mem _ hu)
        exact ⟨q :: L1, by rw [List.map_cons, e, e1], fun r hr => (List.mem_cons.mp hr).elim (fun z => z ▸ hq) (hs r)⟩
    obtain ⟨L', e', hs'⟩ := back out fun v hv => by
      obtain ⟨q, hq, e⟩ := List.mem_map.mp (pm.mem_iff.mp (h2.perm.mem_iff.mp hv))
      exact ⟨q, hq, e.symm⟩
    have inj : ∀ q ∈ L, ∀ r ∈ L, Value.ref q.1 = Value.ref r.1 → q = r := fun q hq r hr e => by
      injection e with e
      have a1 := R.tup q hq
      have a2 := R.tup r hr
      rw [e] at a1
      exact Prod.ext e (a1.inj a2)
    have pref : (L'.map fun q => Value.ref q.1).Perm (L.map fun q => Value.ref q.1) := by rw [← e']; exact h2.perm.trans pm
    have nL : L.Nodup := nodup_of_map R.nd
    have nref : (L.map fun q => Value.ref q.1).Nodup := List.pairwise_map.mpr (List.Pairwise.imp_of_mem (fun {q r} hq hr hne e => hne (inj q hq r hr e)) nL)
    have pL : L'.Perm L := (List.perm_ext_iff_of_nodup (nodup_of_map (pref.nodup_iff.mpr nref)) nL).mpr fun q => ⟨hs' q, fun hq => by
      obtain ⟨r, hr, e⟩ := List.mem_map.mp (pref.mem_iff.mpr (List.mem_map.mpr ⟨q, hq, rfl⟩))
      rw [← inj r (hs' r hr) q hq e]
      exact hr⟩
    refine wpAny_pure ⟨_, rfl, hQ _ s1.heap.objs.size c L' (fun b u e => ?_) g1 o1 hz (by rw [← e']; exact hc) pL ?_⟩
    · have q := k1 b u e
      have hlt := Heap.lt_size q
      show (sortedHeap (s1.heap.push (seqObj "list" vs.toArray 0)) s1.heap.objs.size vs out.toArray).get? b = some u
      rw [sortedHeap_old (Nat.ne_of_lt hlt) (by rw [size_push']; exact Nat.lt_succ_of_lt hlt)]
      exact Heap.get?_push_of_some _ q
    · rw [e'] at h1
      refine (List.pairwise_map.mp h1).imp_of_mem fun {q r} hq hr h => ?_
      have h3 : SrtO.lexB (k (Value.ref r.1)) (k (Value.ref q.1)) = false := h
      rw [hk q (hs' q hq), hk r (hs' r hr)] at h3
      exact SrtO.lexB_no.mp h3
end
/-- sorted(set(e)), e a list of pairs of ints -/
def tSortSet (K : PySem.W.Frag) (ta : TE) : TE := fun σ H Q => ta σ H fun x H1 => ∃ (l : Addr) (ks : List (Addr × (Int × Int))) (U : List (Int × Int)), x = .ref l ∧ SqL K H1 l (ks.map fun p => V.ref p.1) ∧ (∀ p ∈ ks, SqT K H1 p.1 [.int p.2.1, .int p.2.2]) ∧ (∀ p ∈ ks, p.2 ∈ U) ∧ U.length ≤ 305 ∧
  ∀ (L : List (Addr × (Int × Int))) (p : Addr), (L.map (·.2)).Nodup → (∀ q ∈ L, q ∈ ks) → (∀ q ∈ ks, q.2 ∈ L.map (·.2)) → L.Pairwise (fun q r => ¬ prL r.2 q.2) → H1 p = none → Q (.ref p) (upd H1 p (.lst (L.map fun q => V.ref q.1)))
def lz (p : Addr × (Int × Int)) : Addr × List Int := (p.1, [p.2.1, p.2.2])
def zl (p : Addr × List Int) : Addr × (Int × Int) := (p.1, (p.2.getD 0 0, p.2.getD 1 0))
theorem zl_lz (p : Addr × (Int × Int)) : zl (lz p) = p := rfl
section
variable {X : Cx}
theorem boot_sorted' : bootBuiltins ("sorted" : Str) = some (Value.builtin "sorted") := by decide +kernel
theorem pe_sortSet {a : Expr} {ta : TE} {p p2 q pos : Pos} (hc : X.calm = true) (hu : X.A.units + 64 < cLine) (hg : Gl X "sorted") (hm : X.mg "sorted" = none) (hg2 : Gl X "set") (hm2 : X.mg "set" = none) (ha : PE X a ta)
    (na : starEach [a] X.env = (false, eval a X.env) :: starEach [] X.env := by rfl) : PE X (.Call (.Name "sorted" p) [.Call (.Name "set" p2) [a] [] q] [] pos) (tSortSet X.K ta) := ⟨fun pins s σ H Q I h => by
  refine Call_ (ld_blt I hg hm boot_sorted' (PyProof.Rows.callWith_builtin1 (PyProof.Rows.args_cons (Call_ (ld_blt I hg2 hm2 PyProof.Rows.boot_set (PyProof.Rows.callWith_type1 (PyProof.Rows.args_cons (thn (ha.run pins s σ H _ I h) fun v s1 ⟨x, H1, I1, r1, l, ks, U, e1, hq, hk, hU, hUl, q1⟩ => PyProof.Rows.args_nil ?_) na) na rfl))) rfl) rfl rfl))
  subst e1
  cases r1
  have ⟨its, rv, pl, hz⟩ := I1.list hq
  have hv : its = (ks.map lz).map fun p => Value.ref p.1 := by
    have e := refs_of_vals (ks := ks.map lz) (us := its) (by rw [List.map_map]; exact rv)
    exact e
  refine call_set_bag (P := X.prog) (w := X.w) (ks.map lz) (I1.ok.hd hc) pl.isList (by simpa using hv) (fun p hp => ?_) (U := U.map fun p => [p.1, p.2]) (fun p hp => ?_) (by rw [List.length_map]; exact hUl) (by omega) fun h' tk B k => ?_
  · obtain ⟨r, hr, rfl⟩ := List.mem_map.mp hp
    exact I1.isT (show SqT X.K H1 r.1 (([r.2.1, r.2.2] : List Int).map V.int) from hk r hr)
  · obtain ⟨r, hr, rfl⟩ := List.mem_map.mp hp
    exact List.mem_map.mpr ⟨r.2, hU r hr, rfl⟩
  · refine PyProof.Rows.args_nil ?_
    obtain ⟨L, es, ep, t, R, g⟩ := B
    have I2 : Inv X pins σ H1 { s1 with heap := h', toks := tk } := I1.kept fun b o e => k b o e
    have fromL : ∀ p ∈ L, ∃ r ∈ ks, p = lz r := fun p hp => by
      obtain ⟨r, hr, e⟩ := List.mem_map.mp (Zs.Got.from g p hp)
      exact ⟨r, hr, e.symm⟩
    have lenL : L.length ≤ 305 := by
      have q := keys_few (ks := ks.map lz) R.nd (Zs.Got.from g) (U := U.map fun p => [p.1, p.2]) fun p hp => by
        obtain ⟨r, hr, rfl⟩ := List.mem_map.mp hp
        exact List.mem_map.mpr ⟨r.2, hU r hr, rfl⟩
      rw [List.length_map] at q
      omega
    refine sorted_bag R (I2.ok.hd hc) (fun p hp => ?_) (by omega) fun s' p' c L' k' g' o' hp' hget pm pw => ?_
    · obtain ⟨r, _, rfl⟩ := fromL p hp
      rfl
    · have fromL' : ∀ p ∈ L', ∃ r ∈ ks, p = lz r := fun p hp => fromL p (pm.mem_iff.mp hp)
      have eL : L' = (L'.map zl).map lz := by
        rw [List.map_map]
        conv => lhs; rw [← List.map_id L']
        refine List.map_congr_left fun p hp => ?_
        obtain ⟨r, _, rfl⟩ := fromL' p hp
        rfl
      have eV : L'.map (fun q => Value.ref q.1) = (L'.map zl).map fun q => Value.ref q.1 := by rw [List.map_map]; rfl
      have hn : H1 p' = none := I2.hok.fresh hp'
      have lenV : ((L'.map zl).map fun q => V.ref q.1).length ≤ sizeLine := by rw [List.length_map, List.length_map, pm.length_eq, sizeLine_eq]; omega
      have hvv : Vals ((L'.map zl).map fun q => V.ref q.1) ((L'.map fun q => Value.ref q.1).toArray).toList := by
        have z := vals_of_refs L'
        rw [List.map_map]
        exact z
      have J : Inv X pins σ (upd H1 p' (.lst ((L'.map zl).map fun q => V.ref q.1))) { s1 with heap := s'.heap, gens := s'.gens, drawn := s'.drawn, toks := s'.toks } :=
        Inv.call (s := { s1 with heap := h', toks := tk }) I2 (ch := []) (Un.laid k' hp' hn) (I2.hok.laid k' hp' ⟨lenV, _, c, hvv, hget⟩) (by rw [g']; exact I2.bare) (fun _ z => nomatch z)
      have e : s' = { s1 with heap := s'.heap, gens := s'.gens, drawn := s'.drawn, toks := s'.toks } := by
        cases s'
        cases s1
        cases o'
        rfl
      rw [e]
      refine ⟨.ref p', _, J, rfl, q1 (L'.map zl) p' ?_ (fun q hq => ?_) (fun q hq => ?_) ?_ hn⟩
      · have nd := (pm.map (·.2)).nodup_iff.mpr R.nd
        rw [eL, List.map_map] at nd
        rw [List.map_map]
        rw [List.map_map] at nd
        refine List.pairwise_map.mpr ((List.pairwise_map.mp nd).imp fun {x y} hne e => hne ?_)
        show [(zl x).2.1, (zl x).2.2] = [(zl y).2.1, (zl y).2.2]
        rw [show (zl x).2 = (zl y).2 from e]
      · obtain ⟨p, hp, rfl⟩ := List.mem_map.mp hq
        obtain ⟨r, hr, rfl⟩ := fromL' p hp
        exact hr
      · have z := g.all (lz q) (by rw [List.take_length]; exact List.mem_map.mpr ⟨q, hq, rfl⟩)
        obtain ⟨p, hp, e⟩ := List.mem_map.mp z
        obtain ⟨r, hr, rfl⟩ := fromL p hp
        have e2 : r.2 = q.2 := by
          have e3 : [r.2.1, r.2.2] = [q.2.1, q.2.2] := e
          injection e3 with a1 a2
          injection a2 with a2 _
          exact Prod.ext a1 a2
        exact List.mem_map.mpr ⟨r, List.mem_map.mpr ⟨lz r, pm.mem_iff.mpr hp, rfl⟩, e2⟩
      · refine List.pairwise_map.mpr (pw.imp fun {x y} h => h)⟩
def dSortSet (ta : TD) : TD := fun ρ μ Q => ta ρ μ fun x μ1 => ∃ (ps U : List (Int × Int)), AsL μ1 x (ps.map prI) ∧ (∀ p ∈ ps, p ∈ U) ∧ U.length ≤ 305 ∧ ∀ qs : List (Int × Int), (∀ q, q ∈ qs ↔ q ∈ ps) → qs.Pairwise prL → Q (.lst (qs.map prI)) μ1
theorem prL_total {p q : Int × Int} (h : ¬ prL q p) (ne : p ≠ q) : prL p q := by
  unfold prL at *
  rcases Int.lt_trichotomy p.1 q.1 with c | c | c
  · exact .inl c
  · rcases Int.lt_trichotomy p.2 q.2 with d | d | d
    · exact .inr ⟨c, d⟩
    · exact absurd (Prod.ext c d) ne
    · exact absurd (.inr ⟨c.symm, d⟩) h
  · exact absurd (.inl c) h
theorem pd_sortSet {a : Expr} {ta : TD} {p p2 q pos : Pos} (hc : X.calm = true) (hu : X.A.units + 64 < cLine) (hg : Gl X "sorted") (hm : X.mg "sorted" = none) (hg2 : Gl X "set") (hm2 : X.mg "set" = none) (ha : PD X a ta)
    (na : starEach [a] X.env = (false, eval a X.env) :: starEach [] X.env := by rfl) : PD X (.Call (.Name "sorted" p) [.Call (.Name "set" p2) [a] [] q] [] pos) (dSortSet ta) := ⟨PE.cq (pe_sortSet hc hu hg hm hg2 hm2 ha.ok na) fun σ H Q ⟨Z, ρ, μ, Q0, rel, q, f⟩ => by
  refine ⟨Z, ρ, μ, _, rel, q, fun x μ1 v H1 ⟨ps, U, h, hU, hUl, q1⟩ rl1 s1 i1 => ?_⟩
  obtain ⟨l, xs, rfl, h1, t1⟩ := h.get rl1 i1
  obtain ⟨e, hx⟩ := isAll_pairs t1
  have mk : ∀ ys : List V, (∀ x ∈ ys, ∃ t, x = .ref t ∧ msk Z μ1 H1 t = some (.tup [.int (pairAt H1 x).1, .int (pairAt H1 x).2])) → ∃ ks : List (Addr × (Int × Int)), ys = ks.map (fun p => V.ref p.1) ∧ ys.map (pairAt H1) = ks.map (·.2) ∧ ∀ p ∈ ks, msk Z μ1 H1 p.1 = some (.tup [.int p.2.1, .int p.2.2]) := by
    intro ys
    induction ys with
    | nil => exact fun _ => ⟨[], rfl, rfl, fun p hp => nomatch hp⟩
    | cons y ys ih =>
      intro hy
      obtain ⟨t, e1, e2⟩ := hy y List.mem_cons_self
      obtain ⟨ks, k1, k2, k3⟩ := ih fun x hx => hy x (List.mem_cons_of_mem _ hx)
      refine ⟨(t, pairAt H1 y) :: ks, by rw [List.map_cons, e1, ← k1], by rw [List.map_cons, k2]; rfl, fun p hp => ?_⟩
      rcases List.mem_cons.mp hp with rfl | hp
      · exact e2
      · exact k3 p hp
  obtain ⟨ks, k1, k2, k3⟩ := mk xs hx
  have ep : ps = ks.map (·.2) := by rw [e, k2]
  refine ⟨l, ks, U, rfl, by rw [← k1]; exact h1, fun p hp => SqT.of (msk_le _ _ _ _ _ (k3 p hp)), fun p hp => hU _ (by rw [ep]; exact List.mem_map.mpr ⟨p, hp, rfl⟩), hUl, fun L p hn hs ha hw hp => ?_⟩
  obtain ⟨r2, s2, e2⟩ := rl1.alloc hp (.lst (L.map fun q => V.ref q.1))
  refine f _ μ1 _ _ (q1 (L.map (·.2)) (fun q => ⟨fun hq => ?_, fun hq => ?_⟩) ?_) r2 (s1.trans s2) (.lst e2 ?_)
  · obtain ⟨r, hr, rfl⟩ := List.mem_map.mp hq
    rw [ep]
    exact List.mem_map.mpr ⟨r, hs r hr, rfl⟩
  · rw [ep] at hq
    obtain ⟨r, hr, rfl⟩ := List.mem_map.mp hq
    exact ha r hr
  · have hn' := List.pairwise_map.mp hn
    exact List.pairwise_map.mpr (List.Pairwise.imp (fun {x y} h => prL_total h.1 h.2) (hw.and hn'))
  · have key : ∀ l : List (Addr × (Int × Int)), (∀ q ∈ l, q ∈ ks) → IsAllK (kw X) (msk Z μ1 (upd H1 p (.lst (L.map fun q => V.ref q.1)))) (l.map fun q => V.ref q.1) ((l.map (·.2)).map prI) := by
      intro l
      induction l with
      | nil => exact fun _ => .nil
      | cons q l ih =>
        intro hl
        exact .cons (.tup (s2.same _ _ (k3 q (hl q List.mem_cons_self))) (.cons (.int _) (.cons (.int _) .nil))) (ih fun r hr => hl r (List.mem_cons_of_mem _ hr))
    exact key L hs⟩
end
end Zs


set_option Elab.async false
set_option linter.all false
set_option maxRecDepth 100000
set_option maxHeartbeats 2000000
namespace Zd
open PySem PySem.Spec PyProof.Rows L2
section
variable {X : Cx} {k : KW} {ρ : EnvD} {μ : Mu} {Q : QD} {D0 : EndsD} {ta tb tc : TD}
theorem rs_leU {K : PySem.W.Frag} : RS k (fun x y H Q => rI0 (fun i j => .bl (decide (i ≤ j))) x y H Q ∨ rLeT K x y H Q) rdLe := (rs_I0 fun _ _ _ => is_bl).or rs_leT
theorem rs_ltU {K : PySem.W.Frag} : RS k (fun x y H Q => rI0 (fun i j => .bl (decide (i < j))) x y H Q ∨ rLtT K x y H Q) rdLtU := (rs_I0 fun _ _ _ => is_bl).or rs_ltT
theorem rs_gt : RS k (rI0 fun i j => .bl (decide (j < i))) rdGt := rs_I0 fun _ _ _ => is_bl
theorem rs_ge : RS k (rI0 fun i j => .bl (decide (j ≤ i))) rdGe := rs_I0 fun _ _ _ => is_bl
theorem rs_plus : RS k (rI0 fun i j => .int (i + j)) (rdI0 fun i j => .int (i + j)) := rs_I0 fun _ _ _ => is_int
theorem w_i0 {g : Int → Int → D} {a b : Int} (h : Q (g a b) μ) : rdI0 g (.int a) (.int b) μ Q := ⟨a, b, rfl, rfl, h⟩
def dPar3 (i j l : Nat) (ta : TAD) : TSD := fun D ρ μ => ta ρ μ fun ds μ1 => ∃ x y z, ds = [x, y, z] ∧ D.nx (((ρ.set i (some x)).set j (some y)).set l (some z)) μ1
theorem psd_par3 {i j l : Nat} {x y z : Str} {a b c : Expr} {ta : TAD} {px py pz pt pos : Pos} {kt k2 pt2} (hc : X.calm = true) (hN : X.N.Nodup) (hi : X.N[i]? = some x) (hj : X.N[j]? = some y) (hl : X.N[l]? = some z) (hij : i ≠ j) (hil : i ≠ l) (hjl : j ≠ l)
    (hx : X.env.scope.names.lookup x = some .local) (hy : X.env.scope.names.lookup y = some .local) (hz : X.env.scope.names.lookup z = some .local) (ha : PAD X [a, b, c] ta)
    (hw : swappedStores [.Tuple [.Name x px, .Name y py, .Name z pz] kt pt] (.Tuple [a, b, c] k2 pt2) X.env = pure (some [x, y, z]))
    (hs : swapsWithSole [.Tuple [.Name x px, .Name y py, .Name z pz] kt pt] (.Tuple [a, b, c] k2 pt2) pos.line X.env = pure false := by rfl) :
    PSD X (.Assign [.Tuple [.Name x px, .Name y py, .Name z pz] kt pt] (.Tuple [a, b, c] k2 pt2) pos) (dPar3 i j l ta) := ⟨PS.cq (ps_par3 hc hN hi hj hl hij hil hjl hx hy hz ha.ok hw hs) fun D σ H ⟨Z, μb, Hb, ρ, μ, DD, rel, s, q, c⟩ => by
  refine ⟨Z, ρ, μ, _, rel, q, fun ds μ1 vs H1 ⟨d1, d2, d3, e, q1⟩ rl1 s1 i1 => ?_⟩
  subst e
  cases i1 with
  | cons j1 j2 =>
    cases j2 with
    | cons j2 j3 =>
      cases j3 with
      | cons j3 j4 =>
        cases j4
        exact ⟨_, _, _, rfl, c.nx _ μ1 _ H1 q1 ((((rel.step s1 rl1).set i j1).set j j2).set l j3) (s.trans s1)⟩⟩
theorem w_ndec {c : Prop} [Decidable c] {A B : Prop} (h1 : ¬ c → A) (h2 : c → B) : if (!decide c) = true then A else B := by
  by_cases h : c
  · rw [decide_eq_true h]; exact w_ff (h2 h)
  · rw [decide_eq_false h]; exact w_tt (h1 h)
theorem w_iteT {t u : TD} (h : t ρ μ Q) : (if true = true then t else u) ρ μ Q := h
theorem w_iteF {t u : TD} (h : u ρ μ Q) : (if false = true then t else u) ρ μ Q := h
theorem w_tdin {neg : Bool} {Q' : Bool → Mu → Prop} (h : ta ρ μ fun y μ1 => tb ρ μ1 fun x μ2 => ∃ kvs key b, AsD μ2 x kvs ∧ y = kD key ∧ (if neg then !(valD kvs key).isSome else (valD kvs key).isSome) = b ∧ Q' b μ2) : dTest (dDin neg ta tb) ρ μ Q' := by
  have e : (fun (y : D) (μ1 : Mu) => tb ρ μ1 fun x μ2 => ∃ kvs key b, AsD μ2 x kvs ∧ y = kD key ∧ (if neg then !(valD kvs key).isSome else (valD kvs key).isSome) = b ∧ Q' b μ2) = fun y μ1 => tb ρ μ1 fun x μ2 => ∃ kvs key, AsD μ2 x kvs ∧ y = kD key ∧ ∃ b, D.bl (if neg then !(valD kvs key).isSome else (valD kvs key).isSome) = .bl b ∧ Q' b μ2 := by
    funext y μ1
    congr 1
    funext x μ2
    refine propext ⟨fun ⟨kvs, key, b, h1, h2, h3, h4⟩ => ⟨kvs, key, h1, h2, b, congrArg D.bl h3, h4⟩, fun ⟨kvs, key, h1, h2, b, h3, h4⟩ => ⟨kvs, key, b, h1, h2, D.bl.inj h3, h4⟩⟩
  rw [e] at h
  exact h
theorem w_blR {b : Bool} {R : Bool → Prop} (h : R b) : ∃ c, D.bl b = .bl c ∧ R c := ⟨b, rfl, h⟩
theorem w_negR {a : Int} {R : Int → Prop} (h : R a) : ∃ i, D.int a = .int i ∧ R i := ⟨a, rfl, h⟩
theorem w_ntt {A B : Prop} (h : A) : if (!false) = true then A else B := w_tt h
theorem w_nff {A B : Prop} (h : B) : if (!true) = true then A else B := w_ff h
theorem w_par3 {i j l : Nat} {ta : TAD} (h : ta ρ μ fun ds μ1 => ∃ x y z, ds = [x, y, z] ∧ D0.nx (((ρ.set i (some x)).set j (some y)).set l (some z)) μ1) : dPar3 i j l ta D0 ρ μ := h
theorem w_sortSet (h : ta ρ μ fun x μ1 => ∃ (ps U : List (Int × Int)), AsL μ1 x (ps.map prI) ∧ (∀ p ∈ ps, p ∈ U) ∧ U.length ≤ 305 ∧ ∀ qs : List (Int × Int), (∀ q, q ∈ qs ↔ q ∈ ps) → qs.Pairwise prL → Q (.lst (qs.map prI)) μ1) : Zs.dSortSet ta ρ μ Q := h
theorem w_lenSet (h : ta ρ μ fun x μ1 => ∃ ns : List Int, x = .tup (ns.map .int) ∧ ns.length ≤ 1000 ∧ ∀ out : List Int, out.Nodup → (∀ j, j ∈ out ↔ j ∈ ns) → Q (.int (out.length : Nat)) μ1) : dLenSet ta ρ μ Q := h
theorem w_gdDput {d : D} {Q : EnvD → Mu → Prop} (h : ta ρ μ fun x μ1 => tb ρ μ1 fun z μ2 => ∃ p kvs key, x = .adr p ∧ μ2 p = some (.dct kvs) ∧ z = kD key ∧ kvs.length < sizeLine ∧ Q ρ (updM μ2 p (.dct (putD kvs key d)))) : gdDput ta tb d ρ μ Q := h
end
theorem pd_globI {X : Cx} {x : Str} {i : Int} {pos : Pos} (hg : Gl X x) (hm : ∃ t, X.mg x = some (.int i t)) (hd : (x == ("__debug__" : Str)) = false := by decide) : PD X (.Name x pos) (dC (.int i)) := hm.elim fun t h => pd_c (pe_glob (v := .int i) hg h ⟨t, rfl⟩ hd) fun _ _ => .int _
/-! loops and comprehensions over what is a list or a tuple -/
def SqD (μ : Mu) (d : D) (ds : List D) : Prop := AsL μ d ds ∨ d = .tup ds
def forQ (g : TGD) (tb : TSD) (D0 : EndsD) (ρ : EnvD) : ItD → Mu → Prop := fun it μ1 => ∃ W : Nat → EnvD → Mu → Prop, W 0 ρ μ1 ∧
  (∀ i x ρ μ, it.items[i]? = some x → W i ρ μ → it.live μ ∧ g x ρ μ fun ρ2 μ2 => tb { D0 with nx := W (i + 1), ct := W (i + 1), bk := D0.nx } ρ2 μ2) ∧ (∀ ρ μ, W it.items.length ρ μ → it.live μ ∧ D0.nx ρ μ)
theorem itS_for {μ : Mu} {d : D} {ds : List D} {g : TGD} {tb : TSD} {D0 : EndsD} {ρ : EnvD} (h : SqD μ d ds) (q : ∀ live : Mu → Prop, live μ → forQ g tb D0 ρ ⟨ds, live⟩ μ) :
    ∃ es, (AsL μ d es ∧ forQ g tb D0 ρ ⟨es, fun μ => AsL μ d es⟩ μ) ∨ (d = .tup es ∧ forQ g tb D0 ρ ⟨es, fun _ => True⟩ μ) := by
  rcases h with h | h
  · exact ⟨ds, .inl ⟨h, q _ h⟩⟩
  · exact ⟨ds, .inr ⟨h, q _ trivial⟩⟩
theorem itS_forA {μ : Mu} {d : D} {ds : List D} {g : TGD} {tb : TSD} {D0 : EndsD} {ρ : EnvD} (h : ∀ μ, SqD μ d ds) (q : ∀ live : Mu → Prop, (∀ μ, live μ) → forQ g tb D0 ρ ⟨ds, live⟩ μ) :
    ∃ es, (AsL μ d es ∧ forQ g tb D0 ρ ⟨es, fun μ => AsL μ d es⟩ μ) ∨ (d = .tup es ∧ forQ g tb D0 ρ ⟨es, fun _ => True⟩ μ) := by
  rcases Classical.em (d = .tup ds) with e | e
  · exact ⟨ds, .inr ⟨e, q _ fun _ => trivial⟩⟩
  · have a : ∀ μ, AsL μ d ds := fun μ => (h μ).resolve_right e
    exact ⟨ds, .inl ⟨a μ, q _ a⟩⟩
def lcQ (g : TGD) (tt : TTD) (te : TD) (vs : List Nat) (ρ : EnvD) (R : List D → Mu → Prop) : ItD → Mu → Prop := fun it μ1 => it.items.length ≤ sizeLine ∧ ∃ W : Nat → List D → Mu → Prop, W 0 [] μ1 ∧
  (∀ (i : Nat) (acc : List D) (μ : Mu) (x : D), it.items[i]? = some x → W i acc μ → it.live μ ∧ g x (wipeD ρ vs) μ fun ρ2 μ2 => tt ρ2 μ2 fun b μ3 => if b = true then te ρ2 μ3 fun y μ4 => W (i + 1) (acc ++ [y]) μ4 else W (i + 1) acc μ3) ∧
  (∀ acc μ, W it.items.length acc μ → it.live μ ∧ R acc μ)
theorem itS_lc {μ : Mu} {d : D} {ds : List D} {g : TGD} {tt : TTD} {te : TD} {vs : List Nat} {ρ : EnvD} {R : List D → Mu → Prop} (h : SqD μ d ds) (q : ∀ live : Mu → Prop, live μ → lcQ g tt te vs ρ R ⟨ds, live⟩ μ) :
    ∃ es, (AsL μ d es ∧ lcQ g tt te vs ρ R ⟨es, fun μ => AsL μ d es⟩ μ) ∨ (d = .tup es ∧ lcQ g tt te vs ρ R ⟨es, fun _ => True⟩ μ) := by
  rcases h with h | h
  · exact ⟨ds, .inl ⟨h, q _ h⟩⟩
  · exact ⟨ds, .inr ⟨h, q _ trivial⟩⟩
theorem itS_map {μ : Mu} {d : D} {ds : List D} {g : TGD} {te : TD} {vs : List Nat} {ρ : EnvD} {R : List D → Mu → Prop} (f : D → D) (h : SqD μ d ds) (hl : ds.length ≤ 1000000)
    (step : ∀ (i : Nat) (x : D), ds[i]? = some x → ∀ N : D → Mu → Prop, N (f x) μ → g x (wipeD ρ vs) μ fun ρ2 μ2 => te ρ2 μ2 fun y μ4 => N y μ4) (q : R (ds.map f) μ) :
    ∃ es, (AsL μ d es ∧ lcQ g dYes te vs ρ R ⟨es, fun μ => AsL μ d es⟩ μ) ∨ (d = .tup es ∧ lcQ g dYes te vs ρ R ⟨es, fun _ => True⟩ μ) :=
  itS_lc h fun live lv => lc_map f (show ds.length ≤ _ by rw [sizeLine_eq]; omega) lv step q
theorem itS_fm {μ : Mu} {d : D} {ds : List D} {g : TGD} {tt : TTD} {te : TD} {vs : List Nat} {ρ : EnvD} {R : List D → Mu → Prop} (F : D → Option D) (h : SqD μ d ds) (hl : ds.length ≤ 1000000)
    (step : ∀ (i : Nat) (x : D), ds[i]? = some x → ∀ N : Option D → Mu → Prop, N (F x) μ → g x (wipeD ρ vs) μ fun ρ2 μ2 => tt ρ2 μ2 fun b μ3 => if b = true then te ρ2 μ3 fun y μ4 => N (some y) μ4 else N none μ3) (q : R (ds.filterMap F) μ) :
    ∃ es, (AsL μ d es ∧ lcQ g tt te vs ρ R ⟨es, fun μ => AsL μ d es⟩ μ) ∨ (d = .tup es ∧ lcQ g tt te vs ρ R ⟨es, fun _ => True⟩ μ) :=
  itS_lc h fun live lv => lc_fm F (show ds.length ≤ _ by rw [sizeLine_eq]; omega) lv step q
section
variable {items : List D} {live : Mu → Prop} {g : TGD} {te to : TD} {vs : List Nat} {ρ : EnvD} {μ : Mu} {R : List D → Mu → Prop} {D0 : EndsD}
theorem w_fldS {C : Addr} {f : Str} (h : te ρ μ fun y μ1 => to ρ μ1 fun x μ2 => ∃ a fs, x = .adr a ∧ μ2 a = some (.ins C fs) ∧ fs.length < 1000 ∧ D0.nx ρ (updM μ2 a (.ins C (putFD f y fs)))) : dFldSet C to te f D0 ρ μ := h
theorem lc_ix (ys : List D) (hy : ys.length = items.length) (hl : items.length ≤ sizeLine) (lv : live μ)
    (step : ∀ (i : Nat) (x y : D), items[i]? = some x → ys[i]? = some y → ∀ N : D → Mu → Prop, N y μ → g x (wipeD ρ vs) μ fun ρ2 μ2 => te ρ2 μ2 fun y μ4 => N y μ4)
    (q : R ys μ) : items.length ≤ sizeLine ∧ ∃ W : Nat → List D → Mu → Prop, W 0 [] μ ∧
      (∀ (i : Nat) (acc : List D) (μ : Mu) (x : D), items[i]? = some x → W i acc μ → live μ ∧ g x (wipeD ρ vs) μ fun ρ2 μ2 => dYes ρ2 μ2 fun b μ3 => if b = true then te ρ2 μ3 fun y μ4 => W (i + 1) (acc ++ [y]) μ4 else W (i + 1) acc μ3) ∧
      (∀ acc μ, W items.length acc μ → live μ ∧ R acc μ) := by
  refine ⟨hl, fun i acc m => acc = ys.take i ∧ m = μ, ⟨rfl, rfl⟩, ?_, ?_⟩
  · rintro i acc m x hx ⟨rfl, rfl⟩
    refine ⟨lv, ?_⟩
    have hi : i < ys.length := by rw [hy]; exact (List.getElem?_eq_some_iff.mp hx).1
    have h := step i x ys[i] hx (List.getElem?_eq_getElem hi) (fun y m4 => ys.take i ++ [y] = ys.take (i + 1) ∧ m4 = m) ⟨?_, rfl⟩
    · exact h
    · rw [List.take_add_one, List.getElem?_eq_getElem hi]
      rfl
  · rintro acc m ⟨rfl, rfl⟩
    rw [← hy, List.take_length]
    exact ⟨lv, q⟩
theorem itS_ix {d : D} (ys : List D) (h : SqD μ d items) (hy : ys.length = items.length) (hl : items.length ≤ 1000000)
    (step : ∀ (i : Nat) (x y : D), items[i]? = some x → ys[i]? = some y → ∀ N : D → Mu → Prop, N y μ → g x (wipeD ρ vs) μ fun ρ2 μ2 => te ρ2 μ2 fun y μ4 => N y μ4) (q : R ys μ) :
    ∃ es, (AsL μ d es ∧ lcQ g dYes te vs ρ R ⟨es, fun μ => AsL μ d es⟩ μ) ∨ (d = .tup es ∧ lcQ g dYes te vs ρ R ⟨es, fun _ => True⟩ μ) :=
  itS_lc h fun live lv => lc_ix ys hy (show items.length ≤ _ by rw [sizeLine_eq]; omega) lv step q
end
end Zd


set_option Elab.async false
set_option linter.all false
set_option maxRecDepth 100000
set_option maxHeartbeats 2000000
namespace Zd
open PySem PySem.Spec PyProof.Rows L2
/-- data of at most k levels -/
structure Sm (k : Nat) (d : D) : Prop where
  pl : plain d = true
  cl : (toPy d).canLay0 = true
  dp : (toPy d).depth ≤ k
theorem Sm.int (k : Nat) (i : Int) : Sm k (.int i) := ⟨rfl, by simp [toPy, PyData.canLay0], by simp [toPy, PyData.depth]⟩
theorem Sm.non (k : Nat) : Sm k .non := ⟨rfl, by simp [toPy, PyData.canLay0], by simp [toPy, PyData.depth]⟩
theorem Sm.bl (k : Nat) (b : Bool) : Sm k (.bl b) := ⟨rfl, by simp [toPy, PyData.canLay0], by simp [toPy, PyData.depth]⟩
theorem Sm.all {k : Nat} : ∀ {ds : List D}, (∀ d ∈ ds, Sm k d) → plainAll ds = true ∧ PyData.canLayAll0 (toPyAll ds) = true ∧ PyData.depthAll (toPyAll ds) ≤ k
  | [], _ => ⟨rfl, by simp [toPyAll, PyData.canLayAll0], by simp [toPyAll, PyData.depthAll]⟩
  | d :: ds, h => by
    obtain ⟨a, b, c⟩ := Sm.all (fun e he => h e (List.mem_cons_of_mem _ he))
    have q := h d List.mem_cons_self
    refine ⟨by rw [plainAll, q.pl, a]; rfl, ?_, ?_⟩
    · rw [toPyAll, PyData.canLayAll0, q.cl, b]; rfl
    · rw [toPyAll, PyData.depthAll]
      have := q.dp
      omega
theorem Sm.lst {k : Nat} {ds : List D} (h : ∀ d ∈ ds, Sm k d) : Sm (k + 1) (.lst ds) := by
  obtain ⟨a, b, c⟩ := Sm.all h
  refine ⟨by rw [plain]; exact a, by rw [toPy, PyData.canLay0]; exact b, by rw [toPy, PyData.depth]; omega⟩
theorem Sm.tup {k : Nat} {ds : List D} (h : ∀ d ∈ ds, Sm k d) : Sm (k + 1) (.tup ds) := by
  obtain ⟨a, b, c⟩ := Sm.all h
  refine ⟨by rw [plain]; exact a, by rw [toPy, PyData.canLay0]; exact b, by rw [toPy, PyData.depth]; omega⟩
theorem Sm.dat {k : Nat} {d : D} (h : Sm k d) (hk : k ≤ 64) : dat d = true := by
  unfold Zd.dat SeqAt.shaped
  rw [h.pl, h.cl, Bool.true_and, Bool.true_and]
  exact decide_eq_true (Nat.le_trans h.dp hk)
theorem Sm.ints (l : List Int) : Sm 1 (.lst (l.map .int)) := .lst fun d hd => by
  obtain ⟨i, _, rfl⟩ := List.mem_map.mp hd
  exact .int 0 i
theorem Sm.intsT (l : List Int) : Sm 1 (.tup (l.map .int)) := .tup fun d hd => by
  obtain ⟨i, _, rfl⟩ := List.mem_map.mp hd
  exact .int 0 i
theorem Sm.pr (p : Int × Int) : Sm 1 (prI p) := Sm.intsT [p.1, p.2]
theorem Sm.prs (l : List (Int × Int)) : Sm 2 (.lst (l.map prI)) := .lst fun d hd => by
  obtain ⟨i, _, rfl⟩ := List.mem_map.mp hd
  exact .pr i
theorem Sm.prsT (l : List (Int × Int)) : Sm 2 (.tup (l.map prI)) := .tup fun d hd => by
  obtain ⟨i, _, rfl⟩ := List.mem_map.mp hd
  exact .pr i
mutual
theorem eqv_same : ∀ d : PyData, d.canLay0 = true → PyData.eqv d d = true
  | .none, _ => by simp [PyData.eqv]
  | .bool _, _ => by simp [PyData.eqv]
  | .int _, _ => by simp [PyData.eqv]
  | .str _, _ => by simp [PyData.eqv]
  | .list xs, h => by
    rw [PyData.eqv]
    rw [PyData.canLay0] at h
    exact eqv_sameAll xs h
  | .tuple xs, h => by
    rw [PyData.eqv]
    rw [PyData.canLay0] at h
    exact eqv_sameAll xs h
  | .dict _, h => by simp [PyData.canLay0] at h
theorem eqv_sameAll : ∀ ds : List PyData, PyData.canLayAll0 ds = true → PyData.eqvAll ds ds = true
  | [], _ => by simp [PyData.eqvAll]
  | d :: ds, h => by
    rw [PyData.canLayAll0, Bool.and_eq_true] at h
    rw [PyData.eqvAll, eqv_same d h.1, eqv_sameAll ds h.2]
    rfl
end
theorem Sm.eq {k : Nat} {d : D} (h : Sm k d) : eqD d d = true := eqv_same _ h.cl
theorem eqD_nil (ds : List D) : eqD (.lst ds) (.lst []) = ds.isEmpty := by
  unfold eqD
  rw [toPy, toPy, PyData.eqv]
  cases ds with
  | nil => simp [toPyAll, PyData.eqvAll]
  | cons d ds => simp [toPyAll, PyData.eqvAll]
theorem eqD_pr (p q : Int × Int) : eqD (prI p) (prI q) = decide (p = q) := by
  unfold eqD prI
  simp only [toPy, toPyAll, PyData.eqv, PyData.eqvAll, Bool.and_true]
  rw [Bool.eq_iff_iff, Bool.and_eq_true, decide_eq_true_eq, beq_iff_eq, beq_iff_eq, Prod.ext_iff]
theorem inD_pr (p : Int × Int) (l : List (Int × Int)) : inD (prI p) (l.map prI) = decide (p ∈ l) := by
  unfold inD
  rw [Bool.eq_iff_iff, List.any_eq_true, decide_eq_true_eq]
  constructor
  · rintro ⟨x, hx, e⟩
    obtain ⟨q, hq, rfl⟩ := List.mem_map.mp hx
    rw [eqD_pr] at e
    rw [← of_decide_eq_true e]
    exact hq
  · intro h
    exact ⟨_, List.mem_map.mpr ⟨p, h, rfl⟩, by rw [eqD_pr]; exact decide_eq_true rfl⟩
section
variable {μ : Mu} {Q : QD}
/-- x in ts, pairs -/
theorem w_in_prT {neg : Bool} {p : Int × Int} {ts : List (Int × Int)} (h : Q (.bl (if neg then !decide (p ∈ ts) else decide (p ∈ ts))) μ) : rdIn neg (.tup [.int p.1, .int p.2]) (.tup (ts.map prI)) μ Q :=
  .inr ⟨prI p, _, .inl rfl, rfl, (Sm.pr p).dat (by decide), (Sm.prsT ts).dat (by decide), by rw [inD_pr]; exact h⟩
theorem w_in_prL {neg : Bool} {p : Int × Int} {x : D} {ts : List (Int × Int)} (hx : Dx μ x (.lst (ts.map prI))) (h : Q (.bl (if neg then !decide (p ∈ ts) else decide (p ∈ ts))) μ) : rdIn neg (.tup [.int p.1, .int p.2]) x μ Q :=
  .inl ⟨prI p, _, .inl rfl, .inl hx, (Sm.pr p).dat (by decide), (Sm.prs ts).dat (by decide), by rw [inD_pr]; exact h⟩
end
/-- a statement that ends anywhere within I -/
theorem w_seqI {t u : TSD} {D0 : EndsD} {ρ : EnvD} {μ : Mu} (I : EnvD → Mu → Prop) (h2 : ∀ ρ μ, I ρ μ → u D0 ρ μ) (h1 : ∀ N : EnvD → Mu → Prop, (∀ ρ μ, I ρ μ → N ρ μ) → t { D0 with nx := N } ρ μ) : dSeq t u D0 ρ μ := h1 (u D0) h2
theorem w_disp {trs : List (TD × TD)} {ρ : EnvD} {μ : Mu} {Q : QD} (h : ∀ p, μ p = none → dPairs trs ρ (updM μ p (.dct [])) fun ps μ2 => μ2 p = some (.dct []) ∧ ∃ kvs : List (Key × D), ps = kvs.map (fun kv => (kD kv.1, kv.2)) ∧ kvs.length ≤ 15 ∧ Q (.adr p) (updM μ2 p (.dct (mergeD kvs)))) : dDisp trs ρ μ Q := h
theorem w_pcons {tk tv : TD} {r : List (TD × TD)} {ρ : EnvD} {μ : Mu} {Q : List (D × D) → Mu → Prop} (h : tk ρ μ fun x μ1 => tv ρ μ1 fun y μ2 => dPairs r ρ μ2 fun ps μ3 => Q ((x, y) :: ps) μ3) : dPairs ((tk, tv) :: r) ρ μ Q := h
theorem w_pnil {ρ : EnvD} {μ : Mu} {Q : List (D × D) → Mu → Prop} (h : Q [] μ) : dPairs [] ρ μ Q := h
theorem itS_lcA {μ : Mu} {d : D} {ds : List D} {g : TGD} {tt : TTD} {te : TD} {vs : List Nat} {ρ : EnvD} {R : List D → Mu → Prop} (h : ∀ μ, SqD μ d ds) (q : ∀ live : Mu → Prop, (∀ μ, live μ) → lcQ g tt te vs ρ R ⟨ds, live⟩ μ) :
    ∃ es, (AsL μ d es ∧ lcQ g tt te vs ρ R ⟨es, fun μ => AsL μ d es⟩ μ) ∨ (d = .tup es ∧ lcQ g tt te vs ρ R ⟨es, fun _ => True⟩ μ) := by
  rcases Classical.em (d = .tup ds) with e | e
  · exact ⟨ds, .inr ⟨e, q _ fun _ => trivial⟩⟩
  · have a : ∀ μ, AsL μ d ds := fun μ => (h μ).resolve_right e
    exact ⟨ds, .inl ⟨a μ, q _ a⟩⟩
/-- a + b, the new list may change -/
def rdCatN : RD := fun x y μ Q => ∃ a b, AsLt μ x a ∧ AsLt μ y b ∧ a.length + b.length ≤ sizeLine ∧ ∀ p, μ p = none → Q (.adr p) (updM μ p (.lst (a ++ b)))
theorem rs_catN {k : KW} : RS k rCat rdCatN := by
  rintro Z μ H x y dx dy Q0 Q r ix iy ⟨a, b, ha, hb, l, q⟩ f
  obtain ⟨pa, xa, rfl, h1, t1⟩ := ha.get r ix
  obtain ⟨pb, xb, rfl, h2, t2⟩ := hb.get r iy
  refine ⟨pa, pb, xa, xb, rfl, rfl, h1, h2, by rw [t1.length, t2.length]; exact l, fun p hp => ?_⟩
  obtain ⟨r2, s2⟩ := r.allocM hp (.lst (xa ++ xb)) (.lst (a ++ b)) ⟨_, upd_same, t1.append t2⟩
  exact f _ _ _ _ (q p (r.free hp).2) r2 s2 (.adr p)
theorem pd_addN {X : Cx} {a b : Expr} {ta tb : TD} {pos : Pos} (ha : PD X a ta) (hb : PD X b tb) : PD X (.BinOp a .Add b pos) (dOp rdCatN ta tb) := pd_op op_cat rs_catN ha hb
theorem w_ifAny {c : TTD} {t u : TSD} {D0 : EndsD} {ρ : EnvD} {μ : Mu} (I : Mu → Prop) (h : ∀ Q' : Bool → Mu → Prop, (∀ b m, I m → Q' b m) → c ρ μ Q') (h1 : ∀ m, I m → t D0 ρ m) (h2 : ∀ m, I m → u D0 ρ m) : dIfS c t u D0 ρ μ := h _ fun b m hI => by
  cases b with
  | true => exact w_tt (h1 m hI)
  | false => exact w_ff (h2 m hI)
theorem w_make {C : Addr} {sp : SpD} {t : TAD} {ρ : EnvD} {μ : Mu} {Q : QD} (h : t ρ μ fun ds μ1 => ∀ x, μ1 x = none → sp (.adr x :: ds) (updM μ1 x (.ins C [])) fun d μ2 => d = .non ∧ ∃ fs, μ2 x = some (.ins C fs) ∧ Q (.ins C (fs.map (·.1)) (fs.map (·.2))) (eraM μ2 x)) : dMake C sp t ρ μ Q := h
theorem valD_hit {κ : Type} [DecidableEq κ] {a : κ} {d : D} {r : List (κ × D)} : valD ((a, d) :: r) a = some d := if_pos rfl
theorem valD_go {κ : Type} [DecidableEq κ] {a x : κ} {d : D} {r : List (κ × D)} (h : a ≠ x) : valD ((a, d) :: r) x = valD r x := if_neg h
end Zd


set_option Elab.async false
set_option linter.all false
set_option maxRecDepth 100000
set_option maxHeartbeats 4000000
namespace K78
open PySem PySem.Spec PyProof.Rows L2 Zd
def top (i : Nat) : Stmt := PySem.Challenge.pw_oddbarriers_k78_sides_and_odd_rounds.main.body.getD i (.Pass ⟨0, 0, 0, 0⟩)
structure Txt (K : PySem.W.Frag) (mg : Str → Option Value) (C : Addr) : Prop where
  len : mg "len" = none
  range : mg "range" = none
  min : mg "min" = none
  max : mg "max" = none
  int : mg "int" = none
  list : mg "list" = none
  tuple : mg "tuple" = none
  sorted : mg "sorted" = none
  set : mg "set" = none
  all : mg "all" = none
  any : mg "any" = none
  isinstance : mg "isinstance" = none
  bool : mg "bool" = none
  enumerate : mg "enumerate" = none
  MOST_READ : ∃ t, mg "MOST_READ" = some (.int 9999 t)
  cWeb : Cls K C
  nWeb_size : NoAttr K C "size"
  nWeb_ties : NoAttr K C "ties"
abbrev s_is_whole : Stmt := top 6
abbrev n_is_whole : List Str := ["value"]
theorem sc_is_whole : FnScope n_is_whole ["value"] (defScope s_is_whole) := ⟨rfl, rfl, rfl, by decide +kernel, rfl, by decide +kernel, by decide +kernel⟩
abbrev s_is_list : Stmt := top 7
abbrev n_is_list : List Str := ["value"]
theorem sc_is_list : FnScope n_is_list ["value"] (defScope s_is_list) := ⟨rfl, rfl, rfl, by decide +kernel, rfl, by decide +kernel, by decide +kernel⟩
abbrev s_is_index : Stmt := top 8
abbrev n_is_index : List Str := ["many", "value"]
theorem sc_is_index : FnScope n_is_index ["many", "value"] (defScope s_is_index) := ⟨rfl, rfl, rfl, by decide +kernel, rfl, by decide +kernel, by decide +kernel⟩
abbrev s_is_pairs : Stmt := top 9
abbrev n_is_pairs : List Str := ["many", "value", "last", "pair", "place"]
theorem sc_is_pairs : FnScope n_is_pairs ["many", "value"] (defScope s_is_pairs) := ⟨rfl, rfl, rfl, by decide +kernel, rfl, by decide +kernel, by decide +kernel⟩
abbrev s_Web___init__ : Stmt := inClass (top 10) 0
abbrev n_Web___init__ : List Str := ["self", "size", "ties", "tie"]
theorem sc_Web___init__ : FnScope n_Web___init__ ["self", "size", "ties"] (defScope s_Web___init__) := ⟨rfl, rfl, rfl, by decide +kernel, rfl, by decide +kernel, by decide +kernel⟩
abbrev s_near_of : Stmt := top 15
abbrev n_near_of : List Str := ["size", "ties", "near", "_", "one", "other", "row"]
theorem sc_near_of : FnScope n_near_of ["size", "ties"] (defScope s_near_of) := ⟨rfl, rfl, rfl, by decide +kernel, rfl, by decide +kernel, by decide +kernel⟩
abbrev s_colours_of : Stmt := top 17
abbrev n_colours_of : List Str := ["web", "near", "sides", "ahead", "first", "waiting", "at", "here", "there"]
theorem sc_colours_of : FnScope n_colours_of ["web"] (defScope s_colours_of) := ⟨rfl, rfl, rfl, by decide +kernel, rfl, by decide +kernel, by decide +kernel⟩
abbrev s_sides_of : Stmt := top 18
abbrev n_sides_of : List Str := ["web", "sides", "_", "wrong", "place"]
theorem sc_sides_of : FnScope n_sides_of ["web"] (defScope s_sides_of) := ⟨rfl, rfl, rfl, by decide +kernel, rfl, by decide +kernel, by decide +kernel⟩
abbrev s_way_home : Stmt := top 19
abbrev n_way_home : List Str := ["ahead", "place", "way"]
theorem sc_way_home : FnScope n_way_home ["ahead", "place"] (defScope s_way_home) := ⟨rfl, rfl, rfl, by decide +kernel, rfl, by decide +kernel, by decide +kernel⟩
abbrev s_odd_round : Stmt := top 20
abbrev n_odd_round : List Str := ["web", "_", "ahead", "wrong", "one", "other"]
theorem sc_odd_round : FnScope n_odd_round ["web"] (defScope s_odd_round) := ⟨rfl, rfl, rfl, by decide +kernel, rfl, by decide +kernel, by decide +kernel⟩
abbrev s_law_size : Stmt := top 22
abbrev n_law_size : List Str := ["pen"]
theorem sc_law_size : FnScope n_law_size ["pen"] (defScope s_law_size) := ⟨rfl, rfl, rfl, by decide +kernel, rfl, by decide +kernel, by decide +kernel⟩
abbrev s_law_pairs : Stmt := top 23
abbrev n_law_pairs : List Str := ["size", "found", "i", "j"]
theorem sc_law_pairs : FnScope n_law_pairs ["size"] (defScope s_law_pairs) := ⟨rfl, rfl, rfl, by decide +kernel, rfl, by decide +kernel, by decide +kernel⟩
abbrev s_law_free_ties : Stmt := top 24
abbrev n_law_free_ties : List Str := ["pen", "size", "much", "pair"]
theorem sc_law_free_ties : FnScope n_law_free_ties ["pen", "size"] (defScope s_law_free_ties) := ⟨rfl, rfl, rfl, by decide +kernel, rfl, by decide +kernel, by decide +kernel⟩
abbrev s_law_tree_ties : Stmt := top 25
abbrev n_law_tree_ties : List Str := ["pen", "size", "ties", "at"]
theorem sc_law_tree_ties : FnScope n_law_tree_ties ["pen", "size"] (defScope s_law_tree_ties) := ⟨rfl, rfl, rfl, by decide +kernel, rfl, by decide +kernel, by decide +kernel⟩
abbrev s_law_flower_ties : Stmt := top 26
abbrev n_law_flower_ties : List Str := ["pen", "places", "ties", "done", "left", "many", "ear", "at", "pair", "spare"]
theorem sc_law_flower_ties : FnScope n_law_flower_ties ["pen", "places"] (defScope s_law_flower_ties) := ⟨rfl, rfl, rfl, by decide +kernel, rfl, by decide +kernel, by decide +kernel⟩
abbrev s_law_barred_ties : Stmt := top 27
abbrev n_law_barred_ties : List Str := ["pen", "size", "order", "many", "barred", "left", "ties", "cut", "flower", "place", "other", "lap"]
theorem sc_law_barred_ties : FnScope n_law_barred_ties ["pen", "size"] (defScope s_law_barred_ties) := ⟨rfl, rfl, rfl, by decide +kernel, rfl, by decide +kernel, by decide +kernel⟩
abbrev s_law_web_ties : Stmt := top 28
abbrev n_law_web_ties : List Str := ["pen", "size", "way", "ties", "at", "spare", "pair", "cut"]
theorem sc_law_web_ties : FnScope n_law_web_ties ["pen", "size"] (defScope s_law_web_ties) := ⟨rfl, rfl, rfl, by decide +kernel, rfl, by decide +kernel, by decide +kernel⟩
abbrev s_law_near : Stmt := top 29
abbrev n_law_near : List Str := ["size", "ties", "near", "i", "j"]
theorem sc_law_near : FnScope n_law_near ["size", "ties"] (defScope s_law_near) := ⟨rfl, rfl, rfl, by decide +kernel, rfl, by decide +kernel, by decide +kernel⟩
abbrev s_law_pen : Stmt := top 30
abbrev n_law_pen : List Str := ["script", "fold", "cell"]
theorem sc_law_pen : FnScope n_law_pen ["script"] (defScope s_law_pen) := ⟨rfl, rfl, rfl, by decide +kernel, rfl, by decide +kernel, by decide +kernel⟩
abbrev s_law_draw : Stmt := top 31
abbrev n_law_draw : List Str := ["pen", "many", "cell", "digit", "blend"]
theorem sc_law_draw : FnScope n_law_draw ["pen", "many"] (defScope s_law_draw) := ⟨rfl, rfl, rfl, by decide +kernel, rfl, by decide +kernel, by decide +kernel⟩
abbrev s_law_pick : Stmt := top 32
abbrev n_law_pick : List Str := ["pen", "some"]
theorem sc_law_pick : FnScope n_law_pick ["pen", "some"] (defScope s_law_pick) := ⟨rfl, rfl, rfl, by decide +kernel, rfl, by decide +kernel, by decide +kernel⟩
abbrev s_law_shuffled : Stmt := top 33
abbrev n_law_shuffled : List Str := ["pen", "some", "remain", "found", "lap"]
theorem sc_law_shuffled : FnScope n_law_shuffled ["pen", "some"] (defScope s_law_shuffled) := ⟨rfl, rfl, rfl, by decide +kernel, rfl, by decide +kernel, by decide +kernel⟩
abbrev s_law_is_int : Stmt := top 34
abbrev n_law_is_int : List Str := ["thing"]
theorem sc_law_is_int : FnScope n_law_is_int ["thing"] (defScope s_law_is_int) := ⟨rfl, rfl, rfl, by decide +kernel, rfl, by decide +kernel, by decide +kernel⟩
abbrev s_law_tied : Stmt := top 35
abbrev n_law_tied : List Str := ["ties", "i", "j"]
theorem sc_law_tied : FnScope n_law_tied ["ties", "i", "j"] (defScope s_law_tied) := ⟨rfl, rfl, rfl, by decide +kernel, rfl, by decide +kernel, by decide +kernel⟩
abbrev s_law_bent_ties : Stmt := top 36
abbrev n_law_bent_ties : List Str := ["pen", "size", "ties", "pair", "tie"]
theorem sc_law_bent_ties : FnScope n_law_bent_ties ["pen", "size", "ties"] (defScope s_law_bent_ties) := ⟨rfl, rfl, rfl, by decide +kernel, rfl, by decide +kernel, by decide +kernel⟩
abbrev s_law_sides : Stmt := top 37
abbrev n_law_sides : List Str := ["size", "ties", "near", "sides", "first", "waiting", "here", "there", "i"]
theorem sc_law_sides : FnScope n_law_sides ["size", "ties"] (defScope s_law_sides) := ⟨rfl, rfl, rfl, by decide +kernel, rfl, by decide +kernel, by decide +kernel⟩
abbrev s_law_two_sided_ties : Stmt := top 38
abbrev n_law_two_sided_ties : List Str := ["pen", "size", "order", "half", "ties", "much", "cut", "i", "j"]
theorem sc_law_two_sided_ties : FnScope n_law_two_sided_ties ["pen", "size"] (defScope s_law_two_sided_ties) := ⟨rfl, rfl, rfl, by decide +kernel, rfl, by decide +kernel, by decide +kernel⟩
abbrev s_law_round_right : Stmt := top 39
abbrev n_law_round_right : List Str := ["size", "ties", "value", "i", "at"]
theorem sc_law_round_right : FnScope n_law_round_right ["size", "ties", "value"] (defScope s_law_round_right) := ⟨rfl, rfl, rfl, by decide +kernel, rfl, by decide +kernel, by decide +kernel⟩
abbrev s_law : Stmt := top 40
abbrev n_law : List Str := ["script", "pen", "lap", "size", "ties", "due", "web", "tie", "told", "ring", "lot", "i", "many", "at"]
theorem sc_law : FnScope n_law ["script"] (defScope s_law) := ⟨rfl, rfl, rfl, by decide +kernel, rfl, by decide +kernel, by decide +kernel⟩
end K78


set_option Elab.async false
set_option linter.all false
set_option maxRecDepth 100000
set_option maxHeartbeats 4000000
namespace K78
open PySem PySem.Spec PyProof.Rows L2 Zd
local macro_rules | `(tactic| walk_at "z") => `(tactic| with_reducible first
  | refine w_seq ?_ | refine w_set ?_ | refine w_c ?_ | refine w_op ?_ | refine w_cons ?_ | refine w_nil ?_ | refine w_ret ?_ | refine w_call ?_ | refine w_tdin ?_ | refine w_test ?_ | refine w_blR ?_ | refine w_ntt ?_ | refine w_nff ?_
  | refine w_ifS ?_ | refine w_and ?_ | refine w_or ?_ | refine w_not ?_ | refine w_tup ?_ | refine w_lst ?_ | refine w_B ?_ | refine w_drop ?_ | refine w_asg ?_ | refine w_if ?_ | refine w_lstN ?_
  | refine w_add_ii ?_ | refine w_sub_ii ?_ | refine w_lt_ii ?_ | refine w_le_ii ?_ | refine w_gt_ii ?_ | refine w_ge_ii ?_ | refine w_eq_ii ?_ | refine w_ne_ii ?_ | refine w_isN ?_ | refine w_notN ?_
  | refine w_add_ll ?_ | refine w_add_tt ?_ | refine w_ix_l ?_ | refine w_ix_t ?_ | refine w_ix_f ?_ | refine w_mod_ii ?_ | refine w_div_ii ?_ | refine w_mul_ii ?_ | refine w_pow_ii ?_
  | refine w_andV ?_ | refine w_orV ?_ | refine w_notV ?_ | refine w_yes ?_ | refine w_tt ?_ | refine w_ff ?_
  | refine w_for ?_ | refine w_it1 ?_ | refine w_it2 ?_ | refine w_itS ?_ | refine w_lc ?_ | refine w_lcN ?_ | refine w_par ?_ | refine w_next ?_ | refine w_gd ?_ | refine w_iteT ?_ | refine w_iteF ?_ | refine w_gdC ?_ | refine w_gdN ?_
  | refine w_neg ?_ | refine w_negR ?_ | refine w_chain ?_ | refine w_cont ?_ | refine w_brk ?_ | refine w_retN ?_ | refine w_asgT ?_ | refine w_dget ?_ | refine w_dput ?_ | refine w_din ?_ | refine w_app ?_ | refine w_pop ?_ | refine w_cut ?_ | refine w_rev ?_ | refine w_while ?_ | refine w_dict ?_ | refine w_aug (by exact rfl) ?_ | refine w_itE ?_ | refine w_fld ?_ | refine w_rg1 ?_ | refine w_rg2 ?_ | refine w_popAt ?_ | refine w_fldS ?_ | refine w_par3 ?_ | refine w_sortSet ?_ | refine w_lenSet ?_ | refine w_gdDput ?_ | refine w_i0 ?_)
local macro_rules | `(tactic| walk_at "v") => `(tactic| ((with_reducible refine w_var (d := ?dv) ?hv ?_); (case hv => exact rfl)))
local macro_rules | `(tactic| walk_at "t") => `(tactic| ((with_reducible refine w_gdT ?hv ?_); (case hv => exact rfl)))
local macro_rules | `(tactic| walk_at "l") => `(tactic| refine And.intro (Nat.le_of_ble_eq_true rfl) ?_)
local macro_rules | `(tactic| walk_at "zz") => `(tactic| ((try (with_reducible conv => whnf)); repeat (first | walk_at "z" | walk_at "v" | walk_at "l" | walk_at "t")))

section
variable {P : Program} {w : World} {K : PySem.W.Frag} {mg : Str → Option Value} {base : Heap} {C : Addr}
/-! ### small tests -/
def spWhole : SpD := fun ds μ Q => ∃ d n, ds = [d] ∧ tyN μ d = some n ∧ Q (.bl (n == "int")) μ
theorem isa_whole {n : String} (b : Bool) (hb : isaN n "int" = b) : (if b = true then (!isaN n "bool") else false) = (n == "int") := by
  subst hb
  unfold isaN
  by_cases h1 : n = "int"
  · subst h1; decide
  · by_cases h2 : n = "bool"
    · subst h2; decide
    · have e1 : (n == "int") = false := beq_eq_false_iff_ne.mpr h1
      have e2 : (n == "bool") = false := beq_eq_false_iff_ne.mpr h2
      rw [e1, e2]
      rfl
theorem ok_is_whole (T : Txt K mg C) (F : Std K mg "is_whole" s_is_whole ["value"]) : Def P w K mg base "is_whole" 1 ["value"] spWhole := by
  refine F.def sc_is_whole (fun ds μ Q h => ?_) fun cdv A outer s H E f hr => ⟨_, ((pssd_one (psd_ret (pd_and (pd_isi (by rfl) T.isinstance (pad_cons (pd_var 0) (pad_cons (pd_c (pe_bltn (v := .ty "int") (by rfl) T.int (by decide +kernel) rfl) fun _ _ => .ty _) pad_nil))) (pd_one (pd_not (pd_isi (by rfl) T.isinstance (pad_cons (pd_var 0) (pad_cons (pd_c (pe_bltn (v := .ty "bool") (by rfl) T.bool (by decide +kernel) rfl) fun _ _ => .ty _) pad_nil))))))))), ?_⟩
  · obtain ⟨d, n, rfl, _⟩ := h
    rfl
  · rintro ds μ Q ⟨d, n, rfl, hn, q⟩
    walk_at "zz"
    refine ⟨d, n, .inl ⟨"int", rfl, by decide, hn, _, rfl, ?_⟩⟩
    have key := isa_whole (n := n) _ rfl
    refine w_bool (fun h => ?_) fun h => ?_
    · walk_at "zz"
      refine ⟨d, n, .inl ⟨"bool", rfl, by decide, hn, _, rfl, ?_⟩⟩
      rw [h, if_pos rfl] at key
      rw [key]
      exact RT.one q
    · rw [h, if_neg Bool.false_ne_true] at key
      rw [key]
      exact RT.one q
def spList : SpD := fun ds μ Q => ∃ d n b, ds = [d] ∧ tyN μ d = some n ∧ (n == "tuple" || n == "list") = b ∧ Q (.bl b) μ
theorem isa_list {n : String} : (isaN n "tuple" || isaN n "list") = (n == "tuple" || n == "list") := by
  unfold isaN
  have e1 : ("tuple" == "int") = false := by decide
  have e2 : ("list" == "int") = false := by decide
  rw [e1, e2, Bool.and_false, Bool.or_false, Bool.or_false]
theorem ok_is_list (T : Txt K mg C) (F : Std K mg "is_list" s_is_list ["value"]) : Def P w K mg base "is_list" 1 ["value"] spList := by
  refine F.def sc_is_list (fun ds μ Q h => ?_) fun cdv A outer s H E f hr => ⟨_, ((pssd_one (psd_ret (pd_isi (by rfl) T.isinstance (pad_cons (pd_var 0) (pad_cons (pd_tup (pad_cons (pd_c (pe_bltn (v := .ty "tuple") (by rfl) T.tuple (by decide +kernel) rfl) fun _ _ => .ty _) (pad_cons (pd_c (pe_bltn (v := .ty "list") (by rfl) T.list (by decide +kernel) rfl) fun _ _ => .ty _) pad_nil))) pad_nil)))))), ?_⟩
  · obtain ⟨d, n, b, rfl, _⟩ := h
    rfl
  · rintro ds μ Q ⟨d, n, b, rfl, hn, rfl, q⟩
    walk_at "zz"
    refine ⟨d, n, .inr ⟨"tuple", "list", rfl, by decide, by decide, hn, ?_⟩⟩
    rw [isa_list]
    exact RT.one q
def spIndex : SpD := fun ds μ Q => ∃ m d, ds = [.int m, d] ∧ ((∃ i, d = .int i ∧ Q (.bl (decide (0 ≤ i ∧ i < m))) μ) ∨ ∃ n, tyN μ d = some n ∧ n ≠ "int" ∧ Q (.bl false) μ)
theorem ok_is_index (T : Txt K mg C) (F : Std K mg "is_index" s_is_index ["many", "value"]) (h_is_whole : Def P w K mg base "is_whole" 1 ["value"] spWhole) : Def P w K mg base "is_index" 2 ["many", "value"] spIndex := by
  refine F.def sc_is_index (fun ds μ Q h => ?_) fun cdv A outer s H E f hr => ⟨_, ((pssd_one (psd_ret (pd_and (pd_callF h_is_whole hr (by decide) (by rfl) (pad_cons (pd_var 1) pad_nil)) (pd_one (pd_chain (op_le.or (op_leT hr.units0)) (op_lt.or (op_ltT hr.units0)) rs_leU rs_ltU pd_i (pd_var 1) (pd_var 0))))))), ?_⟩
  · obtain ⟨m, d, rfl, _⟩ := h
    rfl
  · rintro ds μ Q ⟨m, d, rfl, h⟩
    walk_at "zz"
    rcases h with ⟨i, rfl, q⟩ | ⟨n, hn, hne, q⟩
    · refine ⟨_, "int", rfl, rfl, _, rfl, w_tt ?_⟩
      walk_at "zz"
      refine w_dec (fun h1 => ?_) fun h1 => ?_
      · walk_at "zz"
        refine RT.one ?_
        have e : decide (0 ≤ i ∧ i < m) = decide (i < m) := by
          by_cases h2 : i < m
          · rw [decide_eq_true h2, decide_eq_true ⟨h1, h2⟩]
          · rw [decide_eq_false h2, decide_eq_false fun h => h2 h.2]
        rw [← e]
        exact q
      · refine RT.one ?_
        rw [decide_eq_false fun h => h1 h.1] at q
        exact q
    · refine ⟨_, n, rfl, hn, _, rfl, ?_⟩
      have e : (n == "int") = false := beq_eq_false_iff_ne.mpr hne
      rw [e]
      exact w_ff (RT.one q)
end
end K78


set_option Elab.async false
set_option linter.all false
set_option maxRecDepth 100000
set_option maxHeartbeats 4000000
namespace K78
open PySem PySem.Spec PyProof.Rows L2 Zd
local macro_rules | `(tactic| walk_at "z") => `(tactic| with_reducible first
  | refine w_seq ?_ | refine w_set ?_ | refine w_c ?_ | refine w_op ?_ | refine w_cons ?_ | refine w_nil ?_ | refine w_ret ?_ | refine w_call ?_ | refine w_tdin ?_ | refine w_test ?_ | refine w_blR ?_ | refine w_ntt ?_ | refine w_nff ?_
  | refine w_ifS ?_ | refine w_and ?_ | refine w_or ?_ | refine w_not ?_ | refine w_tup ?_ | refine w_lst ?_ | refine w_B ?_ | refine w_drop ?_ | refine w_asg ?_ | refine w_if ?_ | refine w_lstN ?_
  | refine w_add_ii ?_ | refine w_sub_ii ?_ | refine w_lt_ii ?_ | refine w_le_ii ?_ | refine w_gt_ii ?_ | refine w_ge_ii ?_ | refine w_eq_ii ?_ | refine w_ne_ii ?_ | refine w_isN ?_ | refine w_notN ?_
  | refine w_add_ll ?_ | refine w_add_tt ?_ | refine w_ix_l ?_ | refine w_ix_t ?_ | refine w_ix_f ?_ | refine w_mod_ii ?_ | refine w_div_ii ?_ | refine w_mul_ii ?_ | refine w_pow_ii ?_
  | refine w_andV ?_ | refine w_orV ?_ | refine w_notV ?_ | refine w_yes ?_ | refine w_tt ?_ | refine w_ff ?_
  | refine w_for ?_ | refine w_it1 ?_ | refine w_it2 ?_ | refine w_itS ?_ | refine w_lc ?_ | refine w_lcN ?_ | refine w_par ?_ | refine w_next ?_ | refine w_gd ?_ | refine w_iteT ?_ | refine w_iteF ?_ | refine w_gdC ?_ | refine w_gdN ?_
  | refine w_neg ?_ | refine w_negR ?_ | refine w_chain ?_ | refine w_cont ?_ | refine w_brk ?_ | refine w_retN ?_ | refine w_asgT ?_ | refine w_dget ?_ | refine w_dput ?_ | refine w_din ?_ | refine w_app ?_ | refine w_pop ?_ | refine w_cut ?_ | refine w_rev ?_ | refine w_while ?_ | refine w_dict ?_ | refine w_itE ?_ | refine w_fld ?_ | refine w_rg1 ?_ | refine w_rg2 ?_ | refine w_popAt ?_ | refine w_partN ?_ | refine w_partS ?_ | refine w_disp ?_ | refine w_pcons ?_ | refine w_pnil ?_ | refine w_fldS ?_ | refine w_par3 ?_ | refine w_sortSet ?_ | refine w_lenSet ?_ | refine w_gdDput ?_ | refine w_i0 ?_)
local macro_rules | `(tactic| walk_at "v") => `(tactic| ((with_reducible refine w_var (d := ?dv) ?hv ?_); (case hv => exact rfl)))
local macro_rules | `(tactic| walk_at "t") => `(tactic| ((with_reducible refine w_gdT ?hv ?_); (case hv => exact rfl)))
local macro_rules | `(tactic| walk_at "a") => `(tactic| ((with_reducible refine w_aug (x := ?xv) ?hv ?_); (case hv => exact rfl)))
local macro_rules | `(tactic| walk_at "l") => `(tactic| refine And.intro (Nat.le_of_ble_eq_true rfl) ?_)
local macro_rules | `(tactic| walk_at "zz") => `(tactic| ((try (with_reducible conv => whnf)); repeat (first | walk_at "z" | walk_at "v" | walk_at "l" | walk_at "t" | walk_at "a")))

/-- a class with its __init__, as the end shows it -/
structure StdC (K : PySem.W.Frag) (mg : Str → Option Value) (cls : Str) (C : Addr) (x qual : Str) (st : Stmt) (ps : List Str) : Prop where
  ex : ∃ f fd, L2.Fun K x qual st f fd ∧ Mk K C f ∧ mg cls = some (.ref C) ∧ Binds K fd ps []
theorem StdC.def {P : Program} {w : World} {K : PySem.W.Frag} {mg : Str → Option Value} {base : Heap} {cls : Str} {C : Addr} {x qual : Str} {st : Stmt} {N ps : List Str} {j : Nat} {sp : SpD} (F : StdC K mg cls C x qual st ps) (S : FnScope N ps (defScope st)) (len : ∀ ds μ Q, sp ds μ Q → ds.length = ps.length)
    (hbody : ∀ (cdv : Value) (A : Around) (outer : List Env) (s : Shared) (H : Hp) (E : XK) (f : Addr), Room j (A.deeper (envOfC qual (defScope st) s.heap.objs.size f cdv)) →
      ∃ td, PSsD (cxOf CX0 P w K mg base N qual (defScope st) f cdv A outer s H E).nox (defBody st) td ∧ ∀ ds μ Q, sp ds μ Q → td { nx := fun _ μ' => RT Q .non μ', rt := RT Q } (startD N ds) μ) : DefC P w K mg base cls C (j + 1) ps sp := by
  obtain ⟨f, fd, F, M, g, b⟩ := F.ex
  exact ⟨f, fd, M, fnD F S len fun cdv A outer s H E hr => hbody cdv A outer s H E f hr, g, b⟩
/-- d is a list or a tuple of these -/
structure Sq (μ : Mu) (d : D) (ds : List D) : Prop where
  sq : AsL μ d ds ∨ d = .tup ds
  ty : ∃ n, tyN μ d = some n ∧ (n == "tuple" || n == "list") = true
def prLi (p : Int × Int) : D := .lst [.int p.1, .int p.2]
theorem Sq.tup {μ : Mu} {ds : List D} : Sq μ (.tup ds) ds := ⟨.inr rfl, "tuple", rfl, rfl⟩
theorem Sq.lst {μ : Mu} {ds : List D} : Sq μ (.lst ds) ds := ⟨.inl (.inl rfl), "list", rfl, rfl⟩
/-- ties of n places -/
structure OkT (n : Nat) (ts : List (Int × Int)) : Prop where
  bd : ∀ p ∈ ts, 0 ≤ p.1 ∧ p.1 < p.2 ∧ p.2 < n
  up : ts.Pairwise prL
theorem lexLe_pair {a b c d : Int} : lexLe [a, b] [c, d] = decide (a < c ∨ (a = c ∧ b ≤ d)) := by
  unfold lexLe
  show Ob.lexAt _ _ _ 0 2 = _
  simp only [Ob.lexAt, List.getD_cons_zero, List.getD_cons_succ, List.length_cons, List.length_nil]
  by_cases h1 : a = c
  · subst h1
    by_cases h2 : b = d
    · subst h2; simp
    · simp [h2]
  · simp [h1]
    omega
section
variable {P : Program} {w : World} {K : PySem.W.Frag} {mg : Str → Option Value} {base : Heap} {C : Addr}
def spPairsOk : SpD := fun ds μ Q => ∃ (n : Nat) (d : D) (ts : List (Int × Int)) (f : Int × Int → D), ds = [.int n, d] ∧ Sq μ d (ts.map f) ∧ (∀ p, Sq μ (f p) [.int p.1, .int p.2]) ∧ OkT n ts ∧ Q (.bl true) μ
theorem ok_is_pairs (T : Txt K mg C) (F : Std K mg "is_pairs" s_is_pairs ["many", "value"]) (h_is_list : Def P w K mg base "is_list" 1 ["value"] spList) (h_is_index : Def P w K mg base "is_index" 2 ["many", "value"] spIndex) : Def P w K mg base "is_pairs" 3 ["many", "value"] spPairsOk := by
  refine F.def sc_is_pairs (fun ds μ Q h => ?_) fun cdv A outer s H E f hr => ⟨_, ((pssd_cons (psd_if (ptd_not (ptd_val (pd_callF h_is_list hr (by decide) (by rfl) (pad_cons (pd_var 1) pad_nil)))) (pssd_one (psd_ret pd_b)) pssd_nil)
  (pssd_cons (psd_set (i := 2) sc_is_pairs.nd rfl (Or.inl rfl) (pd_tup (pad_cons (pd_neg pd_i) (pad_cons (pd_neg pd_i) pad_nil))))
  (pssd_cons (psd_for PassesOwn.never rfl (pid_seq (pd_var 1)) (pgd_name (i := 3) sc_is_pairs.nd rfl (Or.inl rfl)) (pssd_cons (psd_if (PWD.pt (pwd_or (ptd_not (ptd_val (pd_callF h_is_list hr (by decide) (by rfl) (pad_cons (pd_var 3) pad_nil)))) (pwd_or (ptd_ne (pd_len (by rfl) T.len (pad_cons (pd_var 3) pad_nil)) pd_i (hr.units)) (pwd_or1 (ptd_not (ptd_val (pd_all rfl (by rfl) T.all (pad_cons (pd_lc (own := [("place", 4)]) rfl sc_is_pairs.nd (pid_seq (pd_var 3)) (blkOk_by (N := n_is_pairs) (sc := defScope s_is_pairs) (own := [("place", 4)]) (by decide +kernel)) (fun _ _ _ _ _ => (pgd_name (i := 4) sc_is_pairs.nd rfl (Or.inl rfl))) (fun _ _ _ _ _ => ptsd_nil) (fun _ _ _ _ _ => (pd_callF h_is_index hr (by decide) (by rfl) (pad_cons (pd_var 0) (pad_cons (pd_var 4) pad_nil))))) pad_nil)))))))) (pssd_one (psd_ret pd_b)) pssd_nil)
  (pssd_cons (psd_if (PWD.pt (pwd_or (ptd_ge (pd_ix (pd_var 3) pd_i) (pd_ix (pd_var 3) pd_i)) (pwd_or1 (ptd_le (pd_tupleC (by rfl) T.tuple (pad_cons (pd_var 3) pad_nil)) (pd_var 2) (hr.units0))))) (pssd_one (psd_ret pd_b)) pssd_nil)
  (pssd_one (psd_set (i := 2) sc_is_pairs.nd rfl (Or.inl rfl) (pd_tupleC (by rfl) T.tuple (pad_cons (pd_var 3) pad_nil)))))))
  (pssd_one (psd_ret pd_b)))))), ?_⟩
  · obtain ⟨n, d, ts, f, rfl, _⟩ := h
    rfl
  · rintro ds μ Q ⟨n, d, ts, f, rfl, hd, hf, ok, q⟩
    obtain ⟨tn, ht, hb⟩ := hd.ty
    walk_at "zz"
    refine ⟨d, tn, _, rfl, ht, hb, ?_⟩
    walk_at "zz"
    refine itS_for hd.sq fun live lv => ⟨fun i ρ m => ∃ x y, ρ = [some (.int n), some d, some (prI (match i with | 0 => (-1, -1) | j + 1 => ts.getD j (0, 0))), x, y] ∧ m = μ, ⟨none, none, rfl, rfl⟩, ?_, ?_⟩
    · rintro i x ρ m hx ⟨z1, z2, rfl, rfl⟩
      rw [List.getElem?_map] at hx
      obtain ⟨p, hp, rfl⟩ := Option.map_eq_some_iff.mp hx
      have hm := List.mem_of_getElem? hp
      have hbd := ok.bd p hm
      obtain ⟨sp, tn2, ht2, hb2⟩ := hf p
      refine ⟨lv, ?_⟩
      walk_at "zz"
      refine ⟨f p, tn2, _, rfl, ht2, hb2, ?_⟩
      walk_at "zz"
      refine ⟨_, rfl, .inl ⟨_, sp, ?_⟩⟩
      walk_at "zz"
      refine w_ndec (fun h => absurd rfl h) fun _ => ?_
      walk_at "zz"
      refine itS_map (fun _ => D.bl true) sp (Nat.le_of_ble_eq_true rfl) (fun j x hx N hN => ?_) ?_
      · walk_at "zz"
        refine ⟨n, x, rfl, .inl ?_⟩
        have key : ∀ i : Int, 0 ≤ i ∧ i < n → N (D.bl (decide (0 ≤ i ∧ i < (n : Int)))) m := fun i hi => by
          rw [decide_eq_true hi]
          exact hN
        match j, hx with
        | 0, hx => cases hx; exact ⟨_, rfl, key _ ⟨by omega, by omega⟩⟩
        | 1, hx => cases hx; exact ⟨_, rfl, key _ ⟨by omega, by omega⟩⟩
      · walk_at "zz"
        refine ⟨_, [true, true], rfl, .inl rfl, ?_⟩
        walk_at "zz"
        refine w_nff ?_
        walk_at "zz"
        refine ⟨0, _, .int p.1, rfl, sp, rfl, ?_⟩
        walk_at "zz"
        refine ⟨1, _, .int p.2, rfl, sp, rfl, ?_⟩
        walk_at "zz"
        refine w_dec (fun h => by omega) fun h => ?_
        walk_at "zz"
        refine ⟨_, _, rfl, sp, ?_⟩
        walk_at "zz"
        refine .inr ⟨[p.1, p.2], [_, _], rfl, rfl, ?_⟩
        walk_at "zz"
        refine w_bool (fun h => ?_) fun _ => ?_
        · exfalso
          rw [lexLe_pair] at h
          have h := of_decide_eq_true h
          revert h
          cases i with
          | zero => show ¬ (p.1 < -1 ∨ (p.1 = -1 ∧ p.2 ≤ -1)); omega
          | succ j =>
            have hl : j + 1 < ts.length := (List.getElem?_eq_some_iff.mp hp).1
            have e1 : ts.getD j (0, 0) = ts[j] := by rw [List.getD_eq_getElem?_getD, List.getElem?_eq_getElem (by omega)]; rfl
            have e2 : ts[j + 1] = p := by rw [List.getElem?_eq_getElem hl] at hp; exact Option.some.inj hp
            have lt := List.pairwise_iff_getElem.mp ok.up j (j + 1) (by omega) hl (by omega)
            rw [e2] at lt
            show ¬ (p.1 < (ts.getD j (0, 0)).1 ∨ (p.1 = (ts.getD j (0, 0)).1 ∧ p.2 ≤ (ts.getD j (0, 0)).2))
            rw [e1]
            unfold prL at lt
            omega
        walk_at "zz"
        refine ⟨_, _, rfl, sp, ?_⟩
        walk_at "zz"
        refine ⟨some (f p), z2, ?_, rfl⟩
        have e : ts.getD i (0, 0) = p := by rw [List.getD_eq_getElem?_getD, hp]; rfl
        show [some (D.int n), some d, some (.tup [.int p.1, .int p.2]), some (f p), z2] = [some (D.int n), some d, some (prI (ts.getD i (0, 0))), some (f p), z2]
        rw [e]
        rfl
    · rintro ρ m ⟨x, y, rfl, rfl⟩
      refine ⟨lv, ?_⟩
      walk_at "zz"
      exact RT.one q
def webD (C : Addr) (n : Nat) (ts : List (Int × Int)) : D := .ins C ["size", "ties"] [.int n, .tup (ts.map prI)]
def spInit (C : Addr) : SpD := fun ds μ Q => ∃ (x : Addr) (n : Nat) (d : D) (ts : List (Int × Int)) (f : Int × Int → D), ds = [.adr x, .int n, d] ∧ μ x = some (.ins C []) ∧ 1 ≤ n ∧ n ≤ 9999 ∧ (∀ μ, Sq μ d (ts.map f)) ∧ (∀ μ p, Sq μ (f p) [.int p.1, .int p.2]) ∧ ts.length ≤ 1000 ∧ OkT n ts ∧
  Q .non (updM μ x (.ins C [("size", .int n), ("ties", .tup (ts.map prI))]))
theorem ok_init (T : Txt K mg C) (F : StdC K mg "Web" C "__init__" "Web.__init__" s_Web___init__ ["self", "size", "ties"]) (h_is_whole : Def P w K mg base "is_whole" 1 ["value"] spWhole) (h_is_pairs : Def P w K mg base "is_pairs" 3 ["many", "value"] spPairsOk) :
    DefC P w K mg base "Web" C 4 ["self", "size", "ties"] (spInit C) := by
  refine F.def sc_Web___init__ (fun ds μ Q h => ?_) fun cdv A outer s H E f hr => ⟨_, ((pssd_cons (psd_if (PWD.pt (pwd_or (ptd_not (ptd_val (pd_callF h_is_whole hr (by decide) (by rfl) (pad_cons (pd_var 1) pad_nil)))) (pwd_or1 (ptd_not (ptd_chain (op_le.or (op_leT hr.units0)) (op_le.or (op_leT hr.units0)) rs_leU rs_leU pd_i (pd_var 1) (pd_globI (by rfl) T.MOST_READ)))))) (pssd_one psd_never) pssd_nil)
  (pssd_cons (psd_if (ptd_not (ptd_val (pd_callF h_is_pairs hr (by decide) (by rfl) (pad_cons (pd_var 1) (pad_cons (pd_var 2) pad_nil))))) (pssd_one psd_never) pssd_nil)
  (pssd_cons (psd_fld T.cWeb T.nWeb_size (pd_var 0) (pd_var 1))
  (pssd_one (psd_fld T.cWeb T.nWeb_ties (pd_var 0) (pd_tupleC (by rfl) T.tuple (pad_cons (pd_lc (own := [("tie", 3)]) rfl sc_Web___init__.nd (pid_seq (pd_var 2)) (blkOk_by (N := n_Web___init__) (sc := defScope s_Web___init__) (own := [("tie", 3)]) (by decide +kernel)) (fun _ _ _ _ _ => (pgd_name (i := 3) sc_Web___init__.nd rfl (Or.inl rfl))) (fun _ _ _ _ _ => ptsd_nil) (fun _ _ _ _ _ => (pd_tupleC (by rfl) T.tuple (pad_cons (pd_var 3) pad_nil)))) pad_nil)))))))), ?_⟩
  · obtain ⟨x, n, d, ts, f, rfl, _⟩ := h
    rfl
  · rintro ds μ Q ⟨x, n, d, ts, f, rfl, hx, h1, h2, hd, hf, hl, ok, q⟩
    walk_at "zz"
    refine ⟨_, "int", rfl, rfl, ?_⟩
    walk_at "zz"
    refine w_nff ?_
    walk_at "zz"
    refine w_dec (fun _ => ?_) fun h => by omega
    walk_at "zz"
    refine w_ndec (fun h => by omega) fun _ => ?_
    walk_at "zz"
    refine ⟨n, d, ts, f, rfl, hd μ, hf μ, ok, ?_⟩
    walk_at "zz"
    refine ⟨x, [], rfl, hx, by decide, ?_⟩
    walk_at "zz"
    refine itS_ix (ts.map prI) (hd _).sq (by rw [List.length_map, List.length_map]) (by rw [List.length_map]; omega) (fun i y z hy hz N hN => ?_) ?_
    · rw [List.getElem?_map] at hy hz
      obtain ⟨p, hp, rfl⟩ := Option.map_eq_some_iff.mp hy
      rw [hp] at hz
      cases hz
      walk_at "zz"
      exact ⟨_, _, rfl, (hf _ p).sq, hN⟩
    · walk_at "zz"
      refine ⟨_, _, rfl, .inl (.inl rfl), ?_⟩
      walk_at "zz"
      refine ⟨x, _, rfl, updM_same, by show 1 < 1000; decide, ?_⟩
      rw [updM_updM]
      exact RT.one q
end
end K78


set_option Elab.async false
set_option linter.all false
set_option maxRecDepth 100000
set_option maxHeartbeats 4000000
namespace K78
open PySem PySem.Spec PyProof.Rows L2 Zd
local macro_rules | `(tactic| walk_at "z") => `(tactic| with_reducible first
  | refine w_seq ?_ | refine w_set ?_ | refine w_c ?_ | refine w_op ?_ | refine w_cons ?_ | refine w_nil ?_ | refine w_ret ?_ | refine w_call ?_ | refine w_tdin ?_ | refine w_test ?_ | refine w_blR ?_ | refine w_ntt ?_ | refine w_nff ?_
  | refine w_ifS ?_ | refine w_and ?_ | refine w_or ?_ | refine w_not ?_ | refine w_tup ?_ | refine w_lst ?_ | refine w_B ?_ | refine w_drop ?_ | refine w_asg ?_ | refine w_if ?_ | refine w_lstN ?_
  | refine w_add_ii ?_ | refine w_sub_ii ?_ | refine w_lt_ii ?_ | refine w_le_ii ?_ | refine w_gt_ii ?_ | refine w_ge_ii ?_ | refine w_eq_ii ?_ | refine w_ne_ii ?_ | refine w_isN ?_ | refine w_notN ?_
  | refine w_add_ll ?_ | refine w_add_tt ?_ | refine w_ix_l ?_ | refine w_ix_t ?_ | refine w_ix_f ?_ | refine w_mod_ii ?_ | refine w_div_ii ?_ | refine w_mul_ii ?_ | refine w_pow_ii ?_
  | refine w_andV ?_ | refine w_orV ?_ | refine w_notV ?_ | refine w_yes ?_ | refine w_tt ?_ | refine w_ff ?_
  | refine w_for ?_ | refine w_it1 ?_ | refine w_it2 ?_ | refine w_itS ?_ | refine w_lc ?_ | refine w_lcN ?_ | refine w_par ?_ | refine w_next ?_ | refine w_gd ?_ | refine w_iteT ?_ | refine w_iteF ?_ | refine w_gdC ?_ | refine w_gdN ?_
  | refine w_neg ?_ | refine w_negR ?_ | refine w_chain ?_ | refine w_cont ?_ | refine w_brk ?_ | refine w_retN ?_ | refine w_asgT ?_ | refine w_dget ?_ | refine w_dput ?_ | refine w_din ?_ | refine w_app ?_ | refine w_pop ?_ | refine w_cut ?_ | refine w_rev ?_ | refine w_while ?_ | refine w_dict ?_ | refine w_itE ?_ | refine w_fld ?_ | refine w_rg1 ?_ | refine w_rg2 ?_ | refine w_popAt ?_ | refine w_partN ?_ | refine w_partS ?_ | refine w_disp ?_ | refine w_pcons ?_ | refine w_pnil ?_ | refine w_fldS ?_ | refine w_par3 ?_ | refine w_sortSet ?_ | refine w_lenSet ?_ | refine w_gdDput ?_ | refine w_i0 ?_)
local macro_rules | `(tactic| walk_at "v") => `(tactic| ((with_reducible refine w_var (d := ?dv) ?hv ?_); (case hv => exact rfl)))
local macro_rules | `(tactic| walk_at "t") => `(tactic| ((with_reducible refine w_gdT ?hv ?_); (case hv => exact rfl)))
local macro_rules | `(tactic| walk_at "a") => `(tactic| ((with_reducible refine w_aug (x := ?xv) ?hv ?_); (case hv => exact rfl)))
local macro_rules | `(tactic| walk_at "l") => `(tactic| refine And.intro (Nat.le_of_ble_eq_true rfl) ?_)
local macro_rules | `(tactic| walk_at "zz") => `(tactic| ((try (with_reducible conv => whnf)); repeat (first | walk_at "z" | walk_at "v" | walk_at "l" | walk_at "t" | walk_at "a")))

/-! ### sorted ints, once for all -/
def insI (x : Int) : List Int → List Int
  | [] => [x]
  | y :: r => if x ≤ y then x :: y :: r else y :: insI x r
def srtI : List Int → List Int
  | [] => []
  | x :: r => insI x (srtI r)
theorem insI_perm (x : Int) : ∀ l, (insI x l).Perm (x :: l)
  | [] => .refl _
  | y :: r => by
    unfold insI
    split
    · exact .refl _
    · exact ((insI_perm x r).cons y).trans (.swap x y r)
theorem srtI_perm : ∀ l, (srtI l).Perm l
  | [] => .refl _
  | x :: r => (insI_perm x _).trans ((srtI_perm r).cons x)
theorem insI_up (x : Int) : ∀ l : List Int, l.Pairwise (· ≤ ·) → (insI x l).Pairwise (· ≤ ·)
  | [], _ => List.pairwise_singleton _ _
  | y :: r, h => by
    obtain ⟨h1, h2⟩ := List.pairwise_cons.mp h
    unfold insI
    split
    · rename_i c
      refine List.pairwise_cons.mpr ⟨fun z hz => ?_, h⟩
      rcases List.mem_cons.mp hz with rfl | hz
      · exact c
      · exact Int.le_trans c (h1 z hz)
    · rename_i c
      refine List.pairwise_cons.mpr ⟨fun z hz => ?_, insI_up x r h2⟩
      rcases List.mem_cons.mp ((insI_perm x r).mem_iff.mp hz) with rfl | hz
      · omega
      · exact h1 z hz
theorem srtI_up : ∀ l : List Int, (srtI l).Pairwise (· ≤ ·)
  | [] => .nil
  | x :: r => insI_up x _ (srtI_up r)
theorem up_uniq : ∀ {l m : List Int}, l.Perm m → l.Pairwise (· ≤ ·) → m.Pairwise (· ≤ ·) → l = m
  | [], m, p, _, _ => (List.Perm.eq_nil p.symm).symm
  | x :: l, [], p, _, _ => absurd p.length_eq (by simp)
  | x :: l, y :: m, p, hl, hm => by
    obtain ⟨a1, a2⟩ := List.pairwise_cons.mp hl
    obtain ⟨b1, b2⟩ := List.pairwise_cons.mp hm
    have e : x = y := by
      have h1 : x ≤ y := by
        rcases List.mem_cons.mp (p.mem_iff.mpr List.mem_cons_self) with e | h
        · omega
        · exact a1 y h
      have h2 : y ≤ x := by
        rcases List.mem_cons.mp (p.mem_iff.mp List.mem_cons_self) with e | h
        · omega
        · exact b1 x h
      omega
    subst e
    rw [up_uniq p.cons_inv a2 b2]
theorem srt_of {ns ms : List Int} (p : ms.Perm ns) (h : ms.Pairwise (· ≤ ·)) : ms = srtI ns := up_uniq (p.trans (srtI_perm ns).symm) h (srtI_up ns)

/-! ### neighbours -/
def nb1 (p : Int × Int) (i : Nat) : List Int := (if p.1 = i then [p.2] else []) ++ (if p.2 = i then [p.1] else [])
def rowN (ts : List (Int × Int)) (i : Nat) : List Int := ts.flatMap fun p => nb1 p i
theorem rowN_snoc (ts : List (Int × Int)) (p : Int × Int) (i : Nat) : rowN (ts ++ [p]) i = rowN ts i ++ nb1 p i := by
  unfold rowN
  rw [List.flatMap_append, List.flatMap_cons, List.flatMap_nil, List.append_nil]
theorem nb1_len (p : Int × Int) (i : Nat) : (nb1 p i).length ≤ 2 := by
  unfold nb1
  split <;> split <;> exact Nat.le_of_ble_eq_true rfl
theorem rowN_len (i : Nat) : ∀ ts, (rowN ts i).length ≤ 2 * ts.length
  | [] => Nat.le_refl _
  | p :: ts => by
    have h1 := nb1_len p i
    have h2 := rowN_len i ts
    have e : rowN (p :: ts) i = nb1 p i ++ rowN ts i := List.flatMap_cons
    rw [e, List.length_append, List.length_cons]
    omega
structure Nr (μ0 m : Mu) (b : Addr) (as : List Addr) (r : Nat → List D) : Prop where
  nd : as.Nodup
  fr : ∀ a ∈ as, μ0 a = none
  b0 : μ0 b = none
  nb : b ∉ as
  hb : m b = some (.lst (as.map .adr))
  row : ∀ i a, as[i]? = some a → m a = some (.lst (r i))
  el : ∀ x, x ≠ b → x ∉ as → m x = μ0 x
theorem Nr.sub {μ0 m : Mu} {b : Addr} {as : List Addr} {r : Nat → List D} (h : Nr μ0 m b as r) : SubM μ0 m := fun a x e => by
  rw [h.el a (fun z => by rw [z, h.b0] at e; cases e) fun z => by rw [h.fr a z] at e; cases e]
  exact e
theorem Nr.push {μ0 m : Mu} {b : Addr} {as : List Addr} {r : Nat → List D} (h : Nr μ0 m b as r) {i : Nat} {a : Addr} (hi : as[i]? = some a) (l : List D) : Nr μ0 (updM m a (.lst l)) b as (fun j => if j = i then l else r j) := by
  have ha := List.mem_of_getElem? hi
  refine ⟨h.nd, h.fr, h.b0, h.nb, ?_, fun j c hj => ?_, fun x h1 h2 => ?_⟩
  · rw [updM_ne (by intro z; subst z; exact h.nb ha)]
    exact h.hb
  · by_cases e : j = i
    · subst e
      rw [hi] at hj
      cases hj
      rw [updM_same, if_pos rfl]
    · have ne : c ≠ a := fun z => by
        subst z
        exact e (by
          obtain ⟨q1, q2⟩ := List.getElem?_eq_some_iff.mp hi
          obtain ⟨q3, q4⟩ := List.getElem?_eq_some_iff.mp hj
          rcases Nat.lt_trichotomy i j with k | k | k
          · exact absurd (q2.trans q4.symm) (List.pairwise_iff_getElem.mp h.nd i j q1 q3 k)
          · exact k.symm
          · exact absurd (q4.trans q2.symm) (List.pairwise_iff_getElem.mp h.nd j i q3 q1 k))
      rw [updM_ne ne, if_neg e]
      exact h.row j c hj
  · rw [updM_ne (by intro z; subst z; exact h2 ha)]
    exact h.el x h1 h2
/-- the rows while they are made -/
structure Ns (μ0 m : Mu) (as : List Addr) : Prop where
  nd : as.Nodup
  fr : ∀ a ∈ as, μ0 a = none
  row : ∀ a ∈ as, m a = some (.lst [])
  el : ∀ x, x ∉ as → m x = μ0 x
theorem Ns.snoc {μ0 m : Mu} {as : List Addr} (h : Ns μ0 m as) {p : Addr} (hp : m p = none) : Ns μ0 (updM m p (.lst [])) (as ++ [p]) := by
  have np : p ∉ as := fun z => by rw [h.row p z] at hp; cases hp
  refine ⟨List.nodup_append.mpr ⟨h.nd, List.nodup_cons.mpr ⟨List.not_mem_nil, List.nodup_nil⟩, fun x hx y hy e => np (by rw [← List.mem_singleton.mp hy, ← e]; exact hx)⟩, fun a ha => ?_, fun a ha => ?_, fun x hx => ?_⟩
  · rcases List.mem_append.mp ha with ha | ha
    · exact h.fr a ha
    · rw [List.mem_singleton.mp ha, ← h.el p np]
      exact hp
  · by_cases e : a = p
    · rw [e, updM_same]
    · rw [updM_ne e]
      rcases List.mem_append.mp ha with ha | ha
      · exact h.row a ha
      · exact absurd (List.mem_singleton.mp ha) e
  · rw [updM_ne fun z => hx (by rw [z]; exact List.mem_append_right _ (List.mem_singleton.mpr rfl))]
    exact h.el x fun z => hx (List.mem_append_left _ z)
theorem Ns.start {μ0 m : Mu} {as : List Addr} (h : Ns μ0 m as) {b : Addr} (hb : m b = none) : Nr μ0 (updM m b (.lst (as.map .adr))) b as fun _ => [] := by
  have nb : b ∉ as := fun z => by rw [h.row b z] at hb; cases hb
  refine ⟨h.nd, h.fr, by rw [← h.el b nb]; exact hb, nb, updM_same, fun i a hi => ?_, fun x h1 h2 => ?_⟩
  · have ha := List.mem_of_getElem? hi
    rw [updM_ne (by intro z; subst z; exact nb ha)]
    exact h.row a ha
  · rw [updM_ne h1]
    exact h.el x h2
def nearD (n : Nat) (ts : List (Int × Int)) : List D := (List.range n).map fun i => .lst ((srtI (rowN ts i)).map .int)
theorem Nr.cg {μ0 m : Mu} {b : Addr} {as : List Addr} {r r' : Nat → List D} (h : Nr μ0 m b as r) (e : ∀ i, r i = r' i) : Nr μ0 m b as r' := by
  have : r = r' := funext e
  rw [← this]
  exact h
/-- one tie noted -/
theorem Nr.tie {μ0 m : Mu} {b : Addr} {as : List Addr} {ts : List (Int × Int)} {p : Int × Int} (h : Nr μ0 m b as fun i => (rowN ts i).map .int) {i j : Nat} {a c : Addr} (ei : p.1 = i) (ej : p.2 = j) (ne : i ≠ j) (hi : as[i]? = some a) (hj : as[j]? = some c) :
    m a = some (.lst ((rowN ts i).map .int)) ∧ (updM m a (.lst ((rowN ts i).map .int ++ [.int p.2]))) c = some (.lst ((rowN ts j).map .int)) ∧
    Nr μ0 (updM (updM m a (.lst ((rowN ts i).map .int ++ [.int p.2]))) c (.lst ((rowN ts j).map .int ++ [.int p.1]))) b as fun i => (rowN (ts ++ [p]) i).map .int := by
  have h1 := h.push hi ((rowN ts i).map .int ++ [.int p.2])
  have e1 := h1.row j c hj
  rw [if_neg (Ne.symm ne)] at e1
  refine ⟨h.row i a hi, e1, (h1.push hj _).cg fun k => ?_⟩
  rw [rowN_snoc, List.map_append]
  unfold nb1
  rw [ei, ej]
  by_cases k1 : k = j
  · subst k1
    rw [if_pos rfl, if_neg (by omega), if_pos rfl]
    rfl
  · rw [if_neg k1]
    by_cases k2 : k = i
    · subst k2
      rw [if_pos rfl, if_pos rfl, if_neg (by omega)]
      rfl
    · rw [if_neg k2, if_neg (by omega), if_neg (by omega)]
      simp
section
variable {P : Program} {w : World} {K : PySem.W.Frag} {mg : Str → Option Value} {base : Heap} {C : Addr}
def spNear : SpD := fun ds μ Q => ∃ (n : Nat) (d : D) (ts : List (Int × Int)), ds = [.int n, d] ∧ (∀ μ, SqD μ d (ts.map prI)) ∧ OkT n ts ∧ n ≤ 1000 ∧ ts.length ≤ 1000 ∧ Q (.lst (nearD n ts)) μ
theorem ok_near_of (T : Txt K mg C) (F : Std K mg "near_of" s_near_of ["size", "ties"]) : Def P w K mg base "near_of" 1 ["size", "ties"] spNear := by
  refine F.def sc_near_of (fun ds μ Q h => ?_) fun cdv A outer s H E f hr => ⟨_, ((pssd_cons (psd_setLcB true (i := 2) (own := [("_", 3)]) rfl sc_near_of.nd rfl rfl (sw_true rfl rfl rfl (by decide +kernel)) (pid_range1 (by rfl) T.range (pad_cons (pd_var 0) pad_nil)) (blkOk_by (N := n_near_of) (sc := defScope s_near_of) (own := [("_", 3)]) (by decide +kernel)) (fun _ _ _ _ _ => (pgd_name (i := 3) sc_near_of.nd rfl (Or.inl rfl))) (fun _ _ _ _ _ => ptsd_nil) (fun _ _ _ _ _ => (pd_lstN pad_nil)))
  (pssd_cons (psd_for PassesOwn.never rfl (pid_seq (pd_var 1)) (pgd_tup rfl (pgsd_cons (pgd_name (i := 4) sc_near_of.nd rfl (Or.inl rfl)) (pgsd_cons (pgd_name (i := 5) sc_near_of.nd rfl (Or.inl rfl)) pgsd_nil))) (pssd_cons (psd_expr (pd_append (pd_ix (pd_var 2) (pd_var 4)) (pd_var 5)))
  (pssd_one (psd_expr (pd_append (pd_ix (pd_var 2) (pd_var 5)) (pd_var 4))))))
  (pssd_one (psd_ret (pd_lc (own := [("row", 6)]) rfl sc_near_of.nd (pid_seq (pd_var 2)) (blkOk_by (N := n_near_of) (sc := defScope s_near_of) (own := [("row", 6)]) (by decide +kernel)) (fun _ _ _ _ _ => (pgd_name (i := 6) sc_near_of.nd rfl (Or.inl rfl))) (fun _ _ _ _ _ => ptsd_nil) (fun _ _ _ _ _ => (pd_sortI (by rfl) T.sorted (pad_cons (pd_var 6) pad_nil))))))))), ?_⟩
  · obtain ⟨n, d, ts, rfl, _⟩ := h
    rfl
  · rintro ds μ Q ⟨n, d, ts, rfl, hd, ok, hn, hl, q⟩
    walk_at "zz"
    refine ⟨n, rfl, by omega, by omega, by rw [rngD_len, sizeLine_eq]; omega, fun i acc m => ∃ as, acc = as.map .adr ∧ as.length = i ∧ Ns μ m as, ⟨[], rfl, rfl, .nil, (fun _ z => nomatch z), (fun _ z => nomatch z), fun _ _ => rfl⟩, ?_, ?_⟩
    · rintro i acc m x hx ⟨as, rfl, rfl, h⟩
      refine ⟨trivial, ?_⟩
      walk_at "zz"
      exact fun p hp => ⟨as ++ [p], by rw [List.map_append]; rfl, List.length_append, h.snoc hp⟩
    · rintro acc m ⟨as, rfl, hlen, h⟩
      refine ⟨trivial, fun b hb => ?_⟩
      have N := h.start hb
      rw [rngD_len] at hlen
      have hlen : as.length = n := by simpa using hlen
      walk_at "zz"
      refine itS_forA hd fun live lv => ⟨fun i ρ m => ∃ y z u v, ρ = [some (.int n), some d, some (.adr b), y, z, u, v] ∧ Nr μ m b as fun j => (rowN (ts.take i) j).map .int, ⟨_, _, _, _, rfl, N⟩, ?_, ?_⟩
      · rintro i x ρ m hx ⟨y, z, u, v, rfl, N⟩
        rw [List.getElem?_map] at hx
        obtain ⟨p, hp, rfl⟩ := Option.map_eq_some_iff.mp hx
        obtain ⟨b1, b2, b3⟩ := ok.bd p (List.mem_of_getElem? hp)
        obtain ⟨k, hk⟩ : ∃ k : Nat, p.1 = k := ⟨p.1.toNat, by omega⟩
        obtain ⟨l, hl2⟩ : ∃ l : Nat, p.2 = l := ⟨p.2.toNat, by omega⟩
        have ik : as[k]? = some as[k] := List.getElem?_eq_getElem (by omega)
        have il : as[l]? = some as[l] := List.getElem?_eq_getElem (by omega)
        obtain ⟨t1, t2, t3⟩ := N.tie hk hl2 (by omega) ik il
        have hb2 : (updM m as[k] (.lst ((rowN (ts.take i) k).map .int ++ [.int p.2]))) b = some (.lst (as.map .adr)) := (N.push ik _).hb
        have at1 : atI (as.map D.adr) p.1 = some (.adr as[k]) := by rw [hk]; exact atI_nat (by rw [List.getElem?_map, ik]; rfl)
        have at2 : atI (as.map D.adr) p.2 = some (.adr as[l]) := by rw [hl2]; exact atI_nat (by rw [List.getElem?_map, il]; rfl)
        have len : ∀ j, ((rowN (ts.take i) j).map D.int).length < sizeLine := fun j => by
          have q1 := rowN_len j (ts.take i)
          have q2 : (ts.take i).length ≤ ts.length := List.length_take_le' ..
          rw [List.length_map, sizeLine_eq]
          omega
        refine ⟨lv _, ?_⟩
        unfold prI
        walk_at "zz"
        refine ⟨_, _, _, rfl, .inl (.inr (.inr ⟨b, rfl, N.hb⟩)), at1, ?_⟩
        refine ⟨_, rfl, ⟨_, t1⟩, ?_⟩
        walk_at "zz"
        refine ⟨_, t1, len _, ?_⟩
        walk_at "zz"
        refine ⟨_, _, _, rfl, .inl (.inr (.inr ⟨b, rfl, hb2⟩)), at2, ?_⟩
        refine ⟨_, rfl, ⟨_, t2⟩, ?_⟩
        walk_at "zz"
        refine ⟨_, t2, len _, ?_⟩
        refine ⟨_, _, _, _, rfl, ?_⟩
        rw [List.take_add_one, hp]
        exact t3
      · rintro ρ m ⟨y, z, u, v, rfl, N⟩
        refine ⟨lv _, ?_⟩
        rw [List.length_map, List.take_length] at N
        walk_at "zz"
        refine itS_ix (nearD n ts) (.inl (.inr (.inr ⟨b, rfl, N.hb⟩))) (by unfold nearD; rw [List.length_map, List.length_map, List.length_range, hlen]) (by rw [List.length_map]; omega) (fun i x y hx hy N' hN => ?_) ?_
        · unfold nearD at hy
          rw [List.getElem?_map] at hx hy
          obtain ⟨a, ha, rfl⟩ := Option.map_eq_some_iff.mp hx
          obtain ⟨j, hj, rfl⟩ := Option.map_eq_some_iff.mp hy
          have ej : j = i := by
            rw [List.getElem?_range (by have := (List.getElem?_eq_some_iff.mp ha).1; omega)] at hj
            exact (Option.some.inj hj).symm
          subst ej
          walk_at "zz"
          refine ⟨_, rowN ts j, rfl, .inr (.inr ⟨a, rfl, N.row j a ha⟩), fun ms h1 h2 => ?_⟩
          rw [srt_of h1 h2]
          exact hN
        · exact ⟨_, μ, N.sub, .refl _, q⟩
def spLNear : SpD := fun ds μ Q => ∃ (n : Nat) (d : D) (ts : List (Int × Int)), ds = [.int n, d] ∧ (∀ μ, SqD μ d (ts.map prI)) ∧ OkT n ts ∧ n ≤ 1000 ∧ ts.length ≤ 1000 ∧ ∀ m b as, as.length = n → (Nr μ m b as fun j => (rowN ts j).map .int) → Q (.adr b) m
theorem ok_law_near (T : Txt K mg C) (F : Std K mg "_law_near" s_law_near ["size", "ties"]) : Def P w K mg base "_law_near" 1 ["size", "ties"] spLNear := by
  refine F.def sc_law_near (fun ds μ Q h => ?_) fun cdv A outer s H E f hr => ⟨_, ((pssd_cons (psd_setLcB true (i := 2) (own := [("i", 3)]) rfl sc_law_near.nd rfl rfl (sw_true rfl rfl rfl (by decide +kernel)) (pid_range1 (by rfl) T.range (pad_cons (pd_var 0) pad_nil)) (blkOk_by (N := n_law_near) (sc := defScope s_law_near) (own := [("i", 3)]) (by decide +kernel)) (fun _ _ _ _ _ => (pgd_name (i := 3) sc_law_near.nd rfl (Or.inl rfl))) (fun _ _ _ _ _ => ptsd_nil) (fun _ _ _ _ _ => (pd_lstN pad_nil)))
  (pssd_cons (psd_for PassesOwn.never rfl (pid_seq (pd_var 1)) (pgd_tup rfl (pgsd_cons (pgd_name (i := 3) sc_law_near.nd rfl (Or.inl rfl)) (pgsd_cons (pgd_name (i := 4) sc_law_near.nd rfl (Or.inl rfl)) pgsd_nil))) (pssd_cons (psd_expr (pd_append (pd_ix (pd_var 2) (pd_var 3)) (pd_var 4)))
  (pssd_one (psd_expr (pd_append (pd_ix (pd_var 2) (pd_var 4)) (pd_var 3))))))
  (pssd_one (psd_ret (pd_var 2)))))), ?_⟩
  · obtain ⟨n, d, ts, rfl, _⟩ := h
    rfl
  · rintro ds μ Q ⟨n, d, ts, rfl, hd, ok, hn, hl, q⟩
    walk_at "zz"
    refine ⟨n, rfl, by omega, by omega, by rw [rngD_len, sizeLine_eq]; omega, fun i acc m => ∃ as, acc = as.map .adr ∧ as.length = i ∧ Ns μ m as, ⟨[], rfl, rfl, .nil, (fun _ z => nomatch z), (fun _ z => nomatch z), fun _ _ => rfl⟩, ?_, ?_⟩
    · rintro i acc m x hx ⟨as, rfl, rfl, h⟩
      refine ⟨trivial, ?_⟩
      walk_at "zz"
      exact fun p hp => ⟨as ++ [p], by rw [List.map_append]; rfl, List.length_append, h.snoc hp⟩
    · rintro acc m ⟨as, rfl, hlen, h⟩
      refine ⟨trivial, fun b hb => ?_⟩
      have N := h.start hb
      rw [rngD_len] at hlen
      have hlen : as.length = n := by simpa using hlen
      walk_at "zz"
      refine itS_forA hd fun live lv => ⟨fun i ρ m => ∃ y z, ρ = [some (.int n), some d, some (.adr b), y, z] ∧ Nr μ m b as fun j => (rowN (ts.take i) j).map .int, ⟨_, _, rfl, N⟩, ?_, ?_⟩
      · rintro i x ρ m hx ⟨y, z, rfl, N⟩
        rw [List.getElem?_map] at hx
        obtain ⟨p, hp, rfl⟩ := Option.map_eq_some_iff.mp hx
        obtain ⟨b1, b2, b3⟩ := ok.bd p (List.mem_of_getElem? hp)
        obtain ⟨k, hk⟩ : ∃ k : Nat, p.1 = k := ⟨p.1.toNat, by omega⟩
        obtain ⟨l, hl2⟩ : ∃ l : Nat, p.2 = l := ⟨p.2.toNat, by omega⟩
        have ik : as[k]? = some as[k] := List.getElem?_eq_getElem (by omega)
        have il : as[l]? = some as[l] := List.getElem?_eq_getElem (by omega)
        obtain ⟨t1, t2, t3⟩ := N.tie hk hl2 (by omega) ik il
        have hb2 : (updM m as[k] (.lst ((rowN (ts.take i) k).map .int ++ [.int p.2]))) b = some (.lst (as.map .adr)) := (N.push ik _).hb
        have at1 : atI (as.map D.adr) p.1 = some (.adr as[k]) := by rw [hk]; exact atI_nat (by rw [List.getElem?_map, ik]; rfl)
        have at2 : atI (as.map D.adr) p.2 = some (.adr as[l]) := by rw [hl2]; exact atI_nat (by rw [List.getElem?_map, il]; rfl)
        have len : ∀ j, ((rowN (ts.take i) j).map D.int).length < sizeLine := fun j => by
          have q1 := rowN_len j (ts.take i)
          have q2 : (ts.take i).length ≤ ts.length := List.length_take_le' ..
          rw [List.length_map, sizeLine_eq]
          omega
        refine ⟨lv _, ?_⟩
        unfold prI
        walk_at "zz"
        refine ⟨_, _, _, rfl, .inl (.inr (.inr ⟨b, rfl, N.hb⟩)), at1, ?_⟩
        refine ⟨_, rfl, ⟨_, t1⟩, ?_⟩
        walk_at "zz"
        refine ⟨_, t1, len _, ?_⟩
        walk_at "zz"
        refine ⟨_, _, _, rfl, .inl (.inr (.inr ⟨b, rfl, hb2⟩)), at2, ?_⟩
        refine ⟨_, rfl, ⟨_, t2⟩, ?_⟩
        walk_at "zz"
        refine ⟨_, t2, len _, ?_⟩
        refine ⟨_, _, rfl, ?_⟩
        rw [List.take_add_one, hp]
        exact t3
      · rintro ρ m ⟨y, z, rfl, N⟩
        refine ⟨lv _, ?_⟩
        rw [List.length_map, List.take_length] at N
        walk_at "zz"
        exact RT.one (q m b as hlen N)
end
end K78


set_option Elab.async false
set_option linter.all false
set_option maxRecDepth 100000
set_option maxHeartbeats 4000000
namespace K78
open PySem PySem.Spec PyProof.Rows L2 Zd
local macro_rules | `(tactic| walk_at "z") => `(tactic| with_reducible first
  | refine w_seq ?_ | refine w_set ?_ | refine w_c ?_ | refine w_op ?_ | refine w_cons ?_ | refine w_nil ?_ | refine w_ret ?_ | refine w_call ?_ | refine w_tdin ?_ | refine w_test ?_ | refine w_blR ?_ | refine w_ntt ?_ | refine w_nff ?_
  | refine w_ifS ?_ | refine w_and ?_ | refine w_or ?_ | refine w_not ?_ | refine w_tup ?_ | refine w_lst ?_ | refine w_B ?_ | refine w_drop ?_ | refine w_asg ?_ | refine w_if ?_ | refine w_lstN ?_
  | refine w_add_ii ?_ | refine w_sub_ii ?_ | refine w_lt_ii ?_ | refine w_le_ii ?_ | refine w_gt_ii ?_ | refine w_ge_ii ?_ | refine w_eq_ii ?_ | refine w_ne_ii ?_ | refine w_isN ?_ | refine w_notN ?_
  | refine w_add_ll ?_ | refine w_add_tt ?_ | refine w_ix_l ?_ | refine w_ix_t ?_ | refine w_ix_f ?_ | refine w_mod_ii ?_ | refine w_div_ii ?_ | refine w_mul_ii ?_ | refine w_pow_ii ?_
  | refine w_andV ?_ | refine w_orV ?_ | refine w_notV ?_ | refine w_yes ?_ | refine w_tt ?_ | refine w_ff ?_
  | refine w_for ?_ | refine w_it1 ?_ | refine w_it2 ?_ | refine w_itS ?_ | refine w_lc ?_ | refine w_lcN ?_ | refine w_par ?_ | refine w_next ?_ | refine w_gd ?_ | refine w_iteT ?_ | refine w_iteF ?_ | refine w_gdC ?_ | refine w_gdN ?_
  | refine w_neg ?_ | refine w_negR ?_ | refine w_chain ?_ | refine w_cont ?_ | refine w_brk ?_ | refine w_retN ?_ | refine w_asgT ?_ | refine w_dget ?_ | refine w_dput ?_ | refine w_din ?_ | refine w_app ?_ | refine w_pop ?_ | refine w_cut ?_ | refine w_rev ?_ | refine w_while ?_ | refine w_dict ?_ | refine w_itE ?_ | refine w_fld ?_ | refine w_rg1 ?_ | refine w_rg2 ?_ | refine w_popAt ?_ | refine w_partN ?_ | refine w_partS ?_ | refine w_disp ?_ | refine w_pcons ?_ | refine w_pnil ?_ | refine w_fldS ?_ | refine w_par3 ?_ | refine w_sortSet ?_ | refine w_lenSet ?_ | refine w_gdDput ?_ | refine w_i0 ?_)
local macro_rules | `(tactic| walk_at "v") => `(tactic| ((with_reducible refine w_var (d := ?dv) ?hv ?_); (case hv => exact rfl)))
local macro_rules | `(tactic| walk_at "t") => `(tactic| ((with_reducible refine w_gdT ?hv ?_); (case hv => exact rfl)))
local macro_rules | `(tactic| walk_at "a") => `(tactic| ((with_reducible refine w_aug (x := ?xv) ?hv ?_); (case hv => exact rfl)))
local macro_rules | `(tactic| walk_at "l") => `(tactic| refine And.intro (Nat.le_of_ble_eq_true rfl) ?_)
local macro_rules | `(tactic| walk_at "zz") => `(tactic| ((try (with_reducible conv => whnf)); repeat (first | walk_at "z" | walk_at "v" | walk_at "l" | walk_at "t" | walk_at "a")))

/-! ### the colouring, told in Lean -/
def lk : List (Int × Int) → Int → Option Int
  | [], _ => none
  | (a, d) :: r, x => if a = x then some d else lk r x
def kv (l : List (Int × Int)) : List (Key × D) := l.map fun p => (.inl p.1, .int p.2)
theorem valD_kv (x : Int) : ∀ l, valD (kv l) (.inl x) = (lk l x).map D.int
  | [] => rfl
  | (a, d) :: r => by
    show (if (Sum.inl a : Key) = .inl x then some (D.int d) else valD (kv r) (.inl x)) = _
    unfold lk
    by_cases e : a = x
    · subst e
      rw [if_pos rfl, if_pos rfl]
      rfl
    · rw [if_neg fun z => e (Sum.inl.inj z), if_neg e]
      exact valD_kv x r
theorem lk_none {x : Int} : ∀ {l : List (Int × Int)}, lk l x = none ↔ x ∉ l.map (·.1)
  | [] => ⟨(fun _ z => nomatch z), fun _ => rfl⟩
  | (a, d) :: r => by
    unfold lk
    rw [List.map_cons, List.mem_cons]
    by_cases e : a = x
    · rw [if_pos e]
      exact ⟨(fun z => nomatch z), fun z => absurd (Or.inl e.symm) z⟩
    · rw [if_neg e, lk_none (l := r)]
      exact ⟨fun z q => q.elim (fun k => e k.symm) z, fun z q => z (.inr q)⟩
theorem lk_app {x : Int} : ∀ {l m : List (Int × Int)}, lk (l ++ m) x = (lk l x).orElse fun _ => lk m x
  | [], m => rfl
  | (a, d) :: r, m => by
    show (if a = x then some d else lk (r ++ m) x) = (if a = x then some d else lk r x).orElse fun _ => lk m x
    by_cases e : a = x
    · rw [if_pos e, if_pos e]; rfl
    · rw [if_neg e, if_neg e]
      exact lk_app
theorem lk_old {x d : Int} {l m : List (Int × Int)} (h : lk l x = some d) : lk (l ++ m) x = some d := by rw [lk_app, h]; rfl
theorem lk_mem {x d : Int} : ∀ {l : List (Int × Int)}, lk l x = some d → (x, d) ∈ l
  | (a, b) :: r, h => by
    unfold lk at h
    by_cases e : a = x
    · rw [if_pos e] at h
      cases h
      subst e
      exact List.mem_cons_self
    · rw [if_neg e] at h
      exact List.mem_cons_of_mem _ (lk_mem h)
theorem lk_of_key {x : Int} {l : List (Int × Int)} (h : x ∈ l.map (·.1)) : ∃ d, lk l x = some d := by
  cases e : lk l x with
  | none => exact absurd h (lk_none.mp e)
  | some d => exact ⟨d, rfl⟩
theorem putD_kv {l : List (Int × Int)} {x d : Int} (h : lk l x = none) : putD (kv l) (.inl x) (.int d) = kv (l ++ [(x, d)]) := by
  unfold putD
  rw [if_neg]
  · unfold kv
    rw [List.map_append]
    rfl
  · intro z
    obtain ⟨p, hp, e⟩ := List.any_eq_true.mp z
    obtain ⟨q, hq, rfl⟩ := List.mem_map.mp hp
    have e : (Sum.inl q.1 : Key) = .inl x := of_decide_eq_true e
    exact lk_none.mp h (List.mem_map.mpr ⟨q, hq, Sum.inl.inj e⟩)
structure BS where
  sd : List (Int × Int)
  ah : List (Int × Int)
  wt : List Int
def BS.add (s : BS) (here c v : Int) : BS := ⟨s.sd ++ [(v, 1 - c)], s.ah ++ [(v, here)], s.wt ++ [v]⟩
def bNb (here c : Int) : List Int → BS → BS × Option Int
  | [], s => (s, none)
  | v :: r, s => match lk s.sd v with
    | none => bNb here c r (s.add here c v)
    | some d => if d = c then (s, some v) else bNb here c r s
def bWh (rows : Int → List Int) : Nat → Nat → BS → BS × Option (Int × Int)
  | 0, _, s => (s, none)
  | f + 1, i, s => match s.wt[i]? with
    | none => (s, none)
    | some here => match bNb here ((lk s.sd here).getD 0) (rows here) s with
      | (s', some v) => (s', some (here, v))
      | (s', none) => bWh rows f (i + 1) s'
def BS.root (s : BS) (v : Int) : BS := ⟨s.sd ++ [(v, 0)], s.ah, [v]⟩
def bAll (rows : Int → List Int) (n : Nat) : List Int → BS → BS × Option (Int × Int)
  | [], s => (s, none)
  | v :: r, s => match lk s.sd v with
    | some _ => bAll rows n r s
    | none => match bWh rows (n + 1) 0 (s.root v) with
      | (s', some w) => (s', some w)
      | (s', none) => bAll rows n r s'
def rngI (n : Nat) : List Int := (List.range n).map fun (i : Nat) => (i : Int)
def rowsS (ts : List (Int × Int)) (v : Int) : List Int := srtI (rowN ts v.toNat)
def bfs (n : Nat) (ts : List (Int × Int)) : BS × Option (Int × Int) := bAll (rowsS ts) n (rngI n) ⟨[], [], []⟩
theorem bNb_new {here c v : Int} {r : List Int} {s : BS} (h : lk s.sd v = none) : bNb here c (v :: r) s = bNb here c r (s.add here c v) := by simp only [bNb, h]
theorem bNb_hit {here c v : Int} {r : List Int} {s : BS} (h : lk s.sd v = some c) : bNb here c (v :: r) s = (s, some v) := by simp only [bNb, h, if_true]
theorem bNb_skip {here c d v : Int} {r : List Int} {s : BS} (h : lk s.sd v = some d) (ne : d ≠ c) : bNb here c (v :: r) s = bNb here c r s := by simp only [bNb, h, if_neg ne]
theorem bWh_end {rows : Int → List Int} {f i : Nat} {s : BS} (h : s.wt[i]? = none) : bWh rows (f + 1) i s = (s, none) := by simp only [bWh, h]
theorem bWh_hit {rows : Int → List Int} {f i : Nat} {s s' : BS} {here c v : Int} (h : s.wt[i]? = some here) (hc : lk s.sd here = some c) (e : bNb here c (rows here) s = (s', some v)) : bWh rows (f + 1) i s = (s', some (here, v)) := by simp only [bWh, h, hc, Option.getD_some, e]
theorem bWh_go {rows : Int → List Int} {f i : Nat} {s s' : BS} {here c : Int} (h : s.wt[i]? = some here) (hc : lk s.sd here = some c) (e : bNb here c (rows here) s = (s', none)) : bWh rows (f + 1) i s = bWh rows f (i + 1) s' := by simp only [bWh, h, hc, Option.getD_some, e]
theorem bAll_skip {rows : Int → List Int} {n : Nat} {v d : Int} {r : List Int} {s : BS} (h : lk s.sd v = some d) : bAll rows n (v :: r) s = bAll rows n r s := by simp only [bAll, h]
theorem bAll_hit {rows : Int → List Int} {n : Nat} {v : Int} {r : List Int} {s s' : BS} {w : Int × Int} (h : lk s.sd v = none) (e : bWh rows (n + 1) 0 (s.root v) = (s', some w)) : bAll rows n (v :: r) s = (s', some w) := by simp only [bAll, h, e]
theorem bAll_go {rows : Int → List Int} {n : Nat} {v : Int} {r : List Int} {s s' : BS} (h : lk s.sd v = none) (e : bWh rows (n + 1) 0 (s.root v) = (s', none)) : bAll rows n (v :: r) s = bAll rows n r s' := by simp only [bAll, h, e]
structure BOk (n : Nat) (s : BS) : Prop where
  nd : (s.sd.map (·.1)).Nodup
  bd : ∀ p ∈ s.sd, 0 ≤ p.1 ∧ p.1 < n ∧ (p.2 = 0 ∨ p.2 = 1)
  wn : s.wt.Nodup
  wk : ∀ v ∈ s.wt, v ∈ s.sd.map (·.1)
  al : s.ah.length ≤ s.sd.length
  ak : ∀ v ∈ s.ah.map (·.1), v ∈ s.sd.map (·.1)
theorem rngI_len (n : Nat) : (rngI n).length = n := by unfold rngI; rw [List.length_map, List.length_range]
theorem mem_rngI {n : Nat} {v : Int} : v ∈ rngI n ↔ 0 ≤ v ∧ v < n := by
  unfold rngI
  rw [List.mem_map]
  constructor
  · rintro ⟨i, hi, rfl⟩
    have := List.mem_range.mp hi
    omega
  · rintro ⟨h1, h2⟩
    exact ⟨v.toNat, List.mem_range.mpr (by omega), by omega⟩
theorem few_int {n : Nat} {l : List Int} (h : l.Nodup) (hb : ∀ v ∈ l, 0 ≤ v ∧ v < n) : l.length ≤ n := by
  have q := List.Nodup.length_le_of_subset h (l₂ := rngI n) fun v hv => mem_rngI.mpr (hb v hv)
  rw [rngI_len] at q
  exact q
theorem BOk.key {n : Nat} {s : BS} (h : BOk n s) {v : Int} (hv : v ∈ s.sd.map (·.1)) : 0 ≤ v ∧ v < n := by
  obtain ⟨p, hp, rfl⟩ := List.mem_map.mp hv
  exact ⟨(h.bd p hp).1, (h.bd p hp).2.1⟩
theorem BOk.len {n : Nat} {s : BS} (h : BOk n s) : s.sd.length ≤ n := by
  have q := few_int h.nd fun v hv => h.key hv
  rw [List.length_map] at q
  exact q
theorem BOk.wlen {n : Nat} {s : BS} (h : BOk n s) : s.wt.length ≤ n := few_int h.wn fun v hv => h.key (h.wk v hv)
theorem nodup_snoc {α : Type} {l : List α} {x : α} (h : l.Nodup) (hx : x ∉ l) : (l ++ [x]).Nodup :=
  List.nodup_append.mpr ⟨h, List.nodup_cons.mpr ⟨List.not_mem_nil, List.nodup_nil⟩, fun a ha b hb e => hx (by rw [← List.mem_singleton.mp hb, ← e]; exact ha)⟩
theorem BOk.add {n : Nat} {s : BS} (h : BOk n s) {here c v : Int} (hc : c = 0 ∨ c = 1) (hv : 0 ≤ v ∧ v < n) (hn : lk s.sd v = none) : BOk n (s.add here c v) := by
  have nk := lk_none.mp hn
  refine ⟨?_, fun p hp => ?_, nodup_snoc h.wn fun z => nk (h.wk v z), fun u hu => ?_, ?_, fun u hu => ?_⟩
  · show (List.map (fun p : Int × Int => p.1) (s.sd ++ [(v, 1 - c)])).Nodup
    rw [List.map_append]
    exact nodup_snoc h.nd nk
  · rcases List.mem_append.mp hp with hp | hp
    · exact h.bd p hp
    · rw [List.mem_singleton.mp hp]
      exact ⟨hv.1, hv.2, by show 1 - c = 0 ∨ 1 - c = 1; omega⟩
  · show u ∈ List.map (fun p : Int × Int => p.1) (s.sd ++ [(v, 1 - c)])
    rw [List.map_append]
    rcases List.mem_append.mp hu with hu | hu
    · exact List.mem_append_left _ (h.wk u hu)
    · exact List.mem_append_right _ hu
  · show (s.ah ++ _).length ≤ (s.sd ++ _).length
    rw [List.length_append, List.length_append]
    have := h.al
    show _ + 1 ≤ _ + 1
    omega
  · have hu : u ∈ List.map (fun p : Int × Int => p.1) (s.ah ++ [(v, here)]) := hu
    show u ∈ List.map (fun p : Int × Int => p.1) (s.sd ++ [(v, 1 - c)])
    rw [List.map_append] at hu ⊢
    rcases List.mem_append.mp hu with hu | hu
    · exact List.mem_append_left _ (h.ak u hu)
    · exact List.mem_append_right _ hu
theorem BOk.root {n : Nat} {s : BS} (h : BOk n s) {v : Int} (hv : 0 ≤ v ∧ v < n) (hn : lk s.sd v = none) : BOk n (s.root v) := by
  have nk := lk_none.mp hn
  refine ⟨?_, fun p hp => ?_, List.nodup_cons.mpr ⟨List.not_mem_nil, List.nodup_nil⟩, fun u hu => ?_, ?_, fun u hu => ?_⟩
  · show (List.map (fun p : Int × Int => p.1) (s.sd ++ [(v, 0)])).Nodup
    rw [List.map_append]
    exact nodup_snoc h.nd nk
  · rcases List.mem_append.mp hp with hp | hp
    · exact h.bd p hp
    · rw [List.mem_singleton.mp hp]
      exact ⟨hv.1, hv.2, .inl rfl⟩
  · show u ∈ List.map (fun p : Int × Int => p.1) (s.sd ++ [(v, 0)])
    rw [List.map_append]
    exact List.mem_append_right _ hu
  · show s.ah.length ≤ (s.sd ++ _).length
    rw [List.length_append]
    have := h.al
    omega
  · show u ∈ List.map (fun p : Int × Int => p.1) (s.sd ++ [(v, 0)])
    rw [List.map_append]
    exact List.mem_append_left _ (h.ak u hu)
theorem BOk.nil (n : Nat) : BOk n ⟨[], [], []⟩ := ⟨List.nodup_nil, (fun _ z => nomatch z), List.nodup_nil, (fun _ z => nomatch z), Nat.le_refl _, fun _ z => nomatch z⟩
theorem rowN_bd {n : Nat} {ts : List (Int × Int)} (ok : OkT n ts) {i : Nat} {v : Int} (h : v ∈ rowN ts i) : 0 ≤ v ∧ v < n := by
  unfold rowN at h
  obtain ⟨p, hp, hv⟩ := List.mem_flatMap.mp h
  have b := ok.bd p hp
  unfold nb1 at hv
  rcases List.mem_append.mp hv with hv | hv
  · split at hv
    · rw [List.mem_singleton.mp hv]; omega
    · cases hv
  · split at hv
    · rw [List.mem_singleton.mp hv]; omega
    · cases hv
theorem rowsS_bd {n : Nat} {ts : List (Int × Int)} (ok : OkT n ts) {u v : Int} (h : v ∈ rowsS ts u) : 0 ≤ v ∧ v < n := rowN_bd ok ((srtI_perm _).mem_iff.mp h)
theorem nearD_at {n : Nat} {ts : List (Int × Int)} {v : Int} (h : 0 ≤ v ∧ v < n) : atI (nearD n ts) v = some (.lst ((rowsS ts v).map .int)) := by
  obtain ⟨i, rfl⟩ : ∃ i : Nat, v = i := ⟨v.toNat, by omega⟩
  refine atI_nat ?_
  unfold nearD
  rw [List.getElem?_map, List.getElem?_range (by omega)]
  rfl
def dctD (l : List (Int × Int)) : D := .dct ((kv l).map (·.1)) ((kv l).map (·.2))
theorem dctD_as {μ : Mu} (l : List (Int × Int)) : AsD μ (dctD l) (kv l) := .inl ⟨_, _, rfl, (zip_split _).symm, by rw [List.length_map, List.length_map]⟩
def wrD : Option (Int × Int) → D
  | none => .non
  | some (a, b) => .tup [.int a, .int b]
structure Mm (μ m : Mu) (p1 p2 : Addr) (s : BS) : Prop where
  sub : SubM μ m
  n1 : μ p1 = none
  n2 : μ p2 = none
  ne : p1 ≠ p2
  h1 : m p1 = some (.dct (kv s.sd))
  h2 : m p2 = some (.dct (kv s.ah))
theorem sub_upd {μ m : Mu} (h : SubM μ m) {p : Addr} (hp : μ p = none) (o : MO) : SubM μ (updM m p o) := fun a x e => by
  rw [updM_ne (by intro z; subst z; rw [hp] at e; cases e)]
  exact h a x e
theorem sub_none {μ m : Mu} (h : SubM μ m) {p : Addr} (hp : m p = none) : μ p = none := by
  cases e : μ p with
  | none => rfl
  | some x => rw [h p x e] at hp; cases hp
theorem Mm.out {μ m : Mu} {p1 p2 : Addr} {s : BS} (h : Mm μ m p1 p2 s) (w : Option (Int × Int)) {Q : QD} (q : Q (.tup [dctD s.sd, dctD s.ah, wrD w]) μ) : RT Q (.tup [.adr p1, .adr p2, wrD w]) m :=
  ⟨_, μ, h.sub, .tup (.cons (.dct h.h1 h.n1 (FzAll.refl _)) (.cons (.dct h.h2 h.n2 (FzAll.refl _)) (.cons (.refl _) .nil))), q⟩
theorem Mm.upd {μ m : Mu} {p1 p2 : Addr} {s s' : BS} (h : Mm μ m p1 p2 s) {p : Addr} (hp : μ p = none) (h1 : p ≠ p1) (h2 : p ≠ p2) (o : MO) (e1 : s'.sd = s.sd) (e2 : s'.ah = s.ah) : Mm μ (updM m p o) p1 p2 s' :=
  ⟨sub_upd h.sub hp o, h.n1, h.n2, h.ne, by rw [updM_ne (Ne.symm h1), e1]; exact h.h1, by rw [updM_ne (Ne.symm h2), e2]; exact h.h2⟩
theorem Mm.put1 {μ m : Mu} {p1 p2 : Addr} {s s' : BS} (h : Mm μ m p1 p2 s) (e2 : s'.ah = s.ah) : Mm μ (updM m p1 (.dct (kv s'.sd))) p1 p2 s' :=
  ⟨sub_upd h.sub h.n1 _, h.n1, h.n2, h.ne, updM_same, by rw [updM_ne (Ne.symm h.ne), e2]; exact h.h2⟩
theorem Mm.put2 {μ m : Mu} {p1 p2 : Addr} {s s' : BS} (h : Mm μ m p1 p2 s) (e1 : s'.sd = s.sd) : Mm μ (updM m p2 (.dct (kv s'.ah))) p1 p2 s' :=
  ⟨sub_upd h.sub h.n2 _, h.n1, h.n2, h.ne, by rw [updM_ne h.ne, e1]; exact h.h1, updM_same⟩
theorem kv_len (l : List (Int × Int)) : (kv l).length = l.length := by unfold kv; rw [List.length_map]
section
variable {P : Program} {w : World} {K : PySem.W.Frag} {mg : Str → Option Value} {base : Heap} {C : Addr}
def spCol (C : Addr) : SpD := fun ds μ Q => ∃ (n : Nat) (ts : List (Int × Int)), ds = [webD C n ts] ∧ OkT n ts ∧ n ≤ 1000 ∧ ts.length ≤ 1000 ∧ Q (.tup [dctD (bfs n ts).1.sd, dctD (bfs n ts).1.ah, wrD (bfs n ts).2]) μ
theorem ok_colours_of (T : Txt K mg C) (F : Std K mg "colours_of" s_colours_of ["web"]) (h_near_of : Def P w K mg base "near_of" 1 ["size", "ties"] spNear) : Def P w K mg base "colours_of" 2 ["web"] (spCol C) := by
  refine F.def sc_colours_of (fun ds μ Q h => ?_) fun cdv A outer s H E f hr => ⟨_, ((pssd_cons (psd_set (i := 1) sc_colours_of.nd rfl (Or.inl rfl) (pd_callF h_near_of hr (by decide) (by rfl) (pad_cons (pd_fld T.cWeb T.nWeb_size (pd_var 0)) (pad_cons (pd_fld T.cWeb T.nWeb_ties (pd_var 0)) pad_nil))))
  (pssd_cons (psd_set (i := 2) sc_colours_of.nd rfl (Or.inl rfl) pd_dictN)
  (pssd_cons (psd_set (i := 3) sc_colours_of.nd rfl (Or.inl rfl) pd_dictN)
  (pssd_cons (psd_for PassesOwn.never rfl (pid_range1 (by rfl) T.range (pad_cons (pd_fld T.cWeb T.nWeb_size (pd_var 0)) pad_nil)) (pgd_name (i := 4) sc_colours_of.nd rfl (Or.inl rfl)) (pssd_cons (psd_if (ptd_din (hu_of hr) (pd_var 4) (pd_var 2)) (pssd_one psd_continue) pssd_nil)
  (pssd_cons (psd_dput (hu_of hr) (pd_var 2) (pd_var 4) pd_i)
  (pssd_cons (psd_set (i := 5) sc_colours_of.nd rfl (Or.inl rfl) (pd_lstN (pad_cons (pd_var 4) pad_nil)))
  (pssd_cons (psd_set (i := 6) sc_colours_of.nd rfl (Or.inl rfl) pd_i)
  (pssd_one (psd_while PassesOwn.never (ptd_lt (pd_var 6) (pd_len (by rfl) T.len (pad_cons (pd_var 5) pad_nil)) (hr.units0)) (pssd_cons (psd_set (i := 7) sc_colours_of.nd rfl (Or.inl rfl) (pd_ix (pd_var 5) (pd_var 6)))
  (pssd_cons (psd_aug (i := 6) sc_colours_of.nd rfl (Or.inl rfl) pd_i ip_add (rs_I0 fun _ _ _ => is_int))
  (pssd_one (psd_for PassesOwn.never rfl (pid_seq (pd_ix (pd_var 1) (pd_var 7))) (pgd_name (i := 8) sc_colours_of.nd rfl (Or.inl rfl)) (pssd_one (psd_if (ptd_dnotin (hu_of hr) (pd_var 8) (pd_var 2)) (pssd_cons (psd_dput (hu_of hr) (pd_var 2) (pd_var 8) (pd_sub pd_i (pd_dget (hu_of hr) (pd_var 2) (pd_var 7))))
  (pssd_cons (psd_dput (hu_of hr) (pd_var 3) (pd_var 8) (pd_var 7))
  (pssd_one (psd_expr (pd_append (pd_var 5) (pd_var 8)))))) (pssd_one (psd_if (ptd_eq (pd_dget (hu_of hr) (pd_var 2) (pd_var 8)) (pd_dget (hu_of hr) (pd_var 2) (pd_var 7)) (hr.units)) (pssd_one (psd_ret (pd_tup (pad_cons (pd_var 2) (pad_cons (pd_var 3) (pad_cons (pd_tup (pad_cons (pd_var 7) (pad_cons (pd_var 8) pad_nil))) pad_nil)))))) pssd_nil)))))))))))))))
  (pssd_one (psd_ret (pd_tup (pad_cons (pd_var 2) (pad_cons (pd_var 3) (pad_cons pd_n pad_nil))))))))))), ?_⟩
  · obtain ⟨n, ts, rfl, _⟩ := h
    rfl
  · rintro ds μ Q ⟨n, ts, rfl, ok, hn, hl, q⟩
    walk_at "zz"
    refine ⟨_, .inl ⟨_, _, rfl, rfl⟩, ?_⟩
    walk_at "zz"
    refine ⟨_, .inl ⟨_, _, rfl, rfl⟩, ?_⟩
    walk_at "zz"
    refine ⟨n, _, ts, rfl, fun _ => .inr rfl, ok, hn, hl, ?_⟩
    walk_at "zz"
    intro p1 hp1
    walk_at "zz"
    intro p2 hp2
    have ne12 : p1 ≠ p2 := by
      intro z
      subst z
      rw [updM_same] at hp2
      cases hp2
    have hp2' : μ p2 = none := by rw [updM_ne (Ne.symm ne12)] at hp2; exact hp2
    walk_at "zz"
    refine ⟨_, .inl ⟨_, _, rfl, rfl⟩, ?_⟩
    walk_at "zz"
    generalize hRA : bfs n ts = RA at q
    refine ⟨n, rfl, by omega, by omega, fun i ρ m => ∃ s x4 x5 x6 x7 x8, ρ = [some (webD C n ts), some (.lst (nearD n ts)), some (.adr p1), some (.adr p2), x4, x5, x6, x7, x8] ∧ BOk n s ∧ Mm μ m p1 p2 s ∧ bAll (rowsS ts) n ((rngI n).drop i) s = RA,
      ⟨⟨[], [], []⟩, _, _, _, _, _, rfl, .nil n, ⟨sub_upd (sub_upd (fun _ _ e => e) hp1 _) hp2' _, hp1, hp2', ne12, by rw [updM_ne ne12, updM_same]; rfl, by rw [updM_same]; rfl⟩, hRA⟩, ?_, ?_⟩
    · rintro i x ρ m hx ⟨s, x4, x5, x6, x7, x8, rfl, B, M, hA⟩
      obtain ⟨hi, rfl⟩ := rngD_get hx
      have hi : i < n := by simpa using hi
      have edrop : (rngI n).drop i = (0 + (i : Int)) :: (rngI n).drop (i + 1) := by
        rw [List.drop_eq_getElem_cons (by rw [rngI_len]; exact hi)]
        unfold rngI
        simp
      refine ⟨trivial, ?_⟩
      rw [edrop] at hA
      have hiR : 0 ≤ 0 + (i : Int) ∧ 0 + (i : Int) < n := by omega
      generalize 0 + (i : Int) = v at hA hiR ⊢
      walk_at "zz"
      refine ⟨_, .inl v, (lk s.sd v).isSome, .inr ⟨p1, rfl, M.h1⟩, rfl, by rw [valD_kv]; cases lk s.sd v <;> rfl, ?_⟩
      refine w_bool (fun h => ?_) fun h => ?_
      · obtain ⟨d, hd⟩ := Option.isSome_iff_exists.mp h
        rw [bAll_skip hd] at hA
        exact ⟨s, _, _, _, _, _, rfl, B, M, hA⟩
      · have hd : lk s.sd v = none := by cases e : lk s.sd v with
          | none => rfl
          | some _ => rw [e] at h; cases h
        have hd' := hd
        have B1 := B.root hiR hd
        have lenB := B.len
        walk_at "zz"
        refine ⟨p1, _, .inl v, rfl, M.h1, rfl, by rw [kv_len, sizeLine_eq]; omega, ?_⟩
        rw [putD_kv hd]
        have M1 : Mm μ (updM m p1 (.dct (kv (s.sd ++ [(v, 0)])))) p1 p2 (s.root v) := M.put1 (s' := s.root v) rfl
        generalize updM m p1 (.dct (kv (s.sd ++ [(v, 0)]))) = m1 at M1 ⊢
        walk_at "zz"
        intro p3 hp3
        have n3 := sub_none M1.sub hp3
        have n31 : p3 ≠ p1 := by intro z; subst z; rw [M1.h1] at hp3; cases hp3
        have n32 : p3 ≠ p2 := by intro z; subst z; rw [M1.h2] at hp3; cases hp3
        walk_at "zz"
        generalize hRW : bWh (rowsS ts) (n + 1) 0 (s.root v) = RW
        refine ⟨fun f ρ m => ∃ s a x7 x8, ρ = [some (webD C n ts), some (.lst (nearD n ts)), some (.adr p1), some (.adr p2), some (.int v), some (.adr p3), some (.int (a : Nat)), x7, x8] ∧ BOk n s ∧ Mm μ m p1 p2 s ∧ m p3 = some (.lst (s.wt.map .int)) ∧ a + f = n + 1 ∧ a ≤ s.wt.length ∧ bWh (rowsS ts) f a s = RW,
          ⟨n + 1, s.root v, 0, _, _, rfl, B1, M1.upd n3 n31 n32 _ rfl rfl, by rw [updM_same]; rfl, by omega, Nat.zero_le _, hRW⟩, ?_⟩
        rintro f ρ m2 ⟨s2, a, x7, x8, rfl, B2, M2, h3, haf, hal, hW⟩
        have wl := B2.wlen
        obtain ⟨f, rfl⟩ : ∃ f', f = f' + 1 := ⟨f - 1, by omega⟩
        walk_at "zz"
        refine ⟨_, rfl, .inl ⟨_, .inl (.inr (.inr ⟨p3, rfl, h3⟩)), ?_⟩⟩
        rw [List.length_map]
        walk_at "zz"
        refine w_dec (fun hlt => ?_) fun hge => ?_
        · have hlt : a < s2.wt.length := by omega
          obtain ⟨here, hh⟩ : ∃ here, s2.wt[a]? = some here := ⟨_, List.getElem?_eq_getElem hlt⟩
          have hkey := B2.wk here (List.mem_of_getElem? hh)
          have hhb := B2.key hkey
          obtain ⟨c, hc⟩ := lk_of_key hkey
          have hc01 := (B2.bd _ (lk_mem hc)).2.2
          have hc01 : c = 0 ∨ c = 1 := hc01
          refine ⟨fun ρ m => ∃ s a x7 x8, ρ = [some (webD C n ts), some (.lst (nearD n ts)), some (.adr p1), some (.adr p2), some (.int v), some (.adr p3), some (.int (a : Nat)), x7, x8] ∧ BOk n s ∧ Mm μ m p1 p2 s ∧ m p3 = some (.lst (s.wt.map .int)) ∧ a + f = n + 1 ∧ a ≤ s.wt.length ∧ bWh (rowsS ts) f a s = RW, fun ρ' μ' h => ⟨f, by omega, h⟩, ?_⟩
          walk_at "zz"
          refine ⟨a, _, .int here, rfl, .inl (.inr (.inr ⟨p3, rfl, h3⟩)), atI_nat (by rw [List.getElem?_map, hh]; rfl), ?_⟩
          walk_at "zz"
          refine ⟨_, nearD_at hhb, ?_⟩
          generalize hRN : bNb here c (rowsS ts here) s2 = RN
          refine itS_forA (fun _ => .inl (.inl rfl)) fun live lv => ⟨fun j ρ m => ∃ s x8, ρ = [some (webD C n ts), some (.lst (nearD n ts)), some (.adr p1), some (.adr p2), some (.int v), some (.adr p3), some (.int ((a : Int) + 1)), some (.int here), x8] ∧ BOk n s ∧ Mm μ m p1 p2 s ∧ m p3 = some (.lst (s.wt.map .int)) ∧ a + 1 ≤ s.wt.length ∧ lk s.sd here = some c ∧ s.wt[a]? = some here ∧ bNb here c ((rowsS ts here).drop j) s = RN,
            ⟨s2, _, rfl, B2, M2, h3, hlt, hc, hh, hRN⟩, ?_, ?_⟩
          · rintro j x ρ m3 hx ⟨s3, x8, rfl, B3, M3, h33, hl3, hc3, hh3, hN⟩
            rw [List.getElem?_map] at hx
            obtain ⟨u, hu, rfl⟩ := Option.map_eq_some_iff.mp hx
            have hub := rowsS_bd ok (List.mem_of_getElem? hu)
            obtain ⟨hjl, hju⟩ := List.getElem?_eq_some_iff.mp hu
            rw [List.drop_eq_getElem_cons hjl, hju] at hN
            have lenB := B3.len
            have wlB := B3.wlen
            have alB := B3.al
            refine ⟨lv _, ?_⟩
            walk_at "zz"
            refine ⟨_, .inl u, (lk s3.sd u).isNone, .inr ⟨p1, rfl, M3.h1⟩, rfl, by rw [valD_kv]; cases lk s3.sd u <;> rfl, ?_⟩
            refine w_bool (fun h => ?_) fun h => ?_
            · have hd : lk s3.sd u = none := Option.isNone_iff_eq_none.mp h
              rw [bNb_new hd] at hN
              walk_at "zz"
              refine ⟨_, .inl here, .int c, .inr ⟨p1, rfl, M3.h1⟩, rfl, by rw [valD_kv, hc3]; rfl, ?_⟩
              walk_at "zz"
              refine ⟨p1, _, .inl u, rfl, M3.h1, rfl, by rw [kv_len, sizeLine_eq]; omega, ?_⟩
              rw [putD_kv hd]
              have M4 : Mm μ (updM m3 p1 (.dct (kv (s3.sd ++ [(u, 1 - c)])))) p1 p2 ⟨s3.sd ++ [(u, 1 - c)], s3.ah, s3.wt⟩ := M3.put1 (s' := ⟨s3.sd ++ [(u, 1 - c)], s3.ah, s3.wt⟩) rfl
              have n31 : p3 ≠ p1 := by intro z; subst z; rw [M3.h1] at h33; cases h33
              have n32 : p3 ≠ p2 := by intro z; subst z; rw [M3.h2] at h33; cases h33
              have h34 : (updM m3 p1 (.dct (kv (s3.sd ++ [(u, 1 - c)])))) p3 = some (.lst (s3.wt.map .int)) := by rw [updM_ne n31]; exact h33
              generalize updM m3 p1 (.dct (kv (s3.sd ++ [(u, 1 - c)]))) = m4 at M4 h34 ⊢
              have ha : lk s3.ah u = none := lk_none.mpr fun z => lk_none.mp hd (B3.ak u z)
              walk_at "zz"
              refine ⟨p2, _, .inl u, rfl, M4.h2, rfl, by rw [kv_len, sizeLine_eq]; show s3.ah.length < _; omega, ?_⟩
              rw [putD_kv ha]
              have M5 : Mm μ (updM m4 p2 (.dct (kv (s3.ah ++ [(u, here)])))) p1 p2 ⟨s3.sd ++ [(u, 1 - c)], s3.ah ++ [(u, here)], s3.wt⟩ := M4.put2 (s' := ⟨s3.sd ++ [(u, 1 - c)], s3.ah ++ [(u, here)], s3.wt⟩) rfl
              have h35 : (updM m4 p2 (.dct (kv (s3.ah ++ [(u, here)])))) p3 = some (.lst (s3.wt.map .int)) := by rw [updM_ne n32]; exact h34
              generalize updM m4 p2 (.dct (kv (s3.ah ++ [(u, here)]))) = m5 at M5 h35 ⊢
              walk_at "zz"
              refine ⟨p3, rfl, ⟨_, h35⟩, ?_⟩
              walk_at "zz"
              refine ⟨_, h35, by rw [List.length_map, sizeLine_eq]; omega, ?_⟩
              refine ⟨s3.add here c u, _, rfl, B3.add hc01 hub hd, M5.upd n3 n31 n32 _ rfl rfl, ?_, ?_, lk_old hc3, ?_, hN⟩
              · rw [updM_same]
                show _ = some (MO.lst ((s3.wt ++ [u]).map .int))
                rw [List.map_append]
                rfl
              · show _ ≤ (s3.wt ++ [u]).length
                rw [List.length_append]
                omega
              · show (s3.wt ++ [u])[a]? = _
                rw [List.getElem?_append_left (by omega)]
                exact hh3
            · obtain ⟨d, hd⟩ : ∃ d, lk s3.sd u = some d := by cases e : lk s3.sd u with
                | none => rw [e] at h; cases h
                | some d => exact ⟨d, rfl⟩
              walk_at "zz"
              refine ⟨_, .inl u, .int d, .inr ⟨p1, rfl, M3.h1⟩, rfl, by rw [valD_kv, hd]; rfl, ?_⟩
              walk_at "zz"
              refine ⟨_, .inl here, .int c, .inr ⟨p1, rfl, M3.h1⟩, rfl, by rw [valD_kv, hc3]; rfl, ?_⟩
              walk_at "zz"
              refine w_dec (fun e => ?_) fun e => ?_
              · subst e
                rw [bNb_hit hd] at hN
                rw [← hN] at hRN
                rw [bWh_hit hh hc hRN] at hW
                rw [← hW] at hRW
                rw [bAll_hit hd' hRW] at hA
                walk_at "zz"
                rw [← hA] at q
                exact M3.out (some (here, u)) q
              · rw [bNb_skip hd e] at hN
                exact ⟨s3, _, rfl, B3, M3, h33, hl3, hc3, hh3, hN⟩
          · rintro ρ m3 ⟨s3, x8, rfl, B3, M3, h33, hl3, hc3, hh3, hN⟩
            refine ⟨lv _, ?_⟩
            rw [List.length_map, List.drop_length] at hN
            have hN : (s3, none) = RN := hN
            rw [← hN] at hRN
            rw [bWh_go hh hc hRN] at hW
            exact ⟨s3, a + 1, _, _, rfl, B3, M3, h33, by omega, hl3, hW⟩
        · have he : s2.wt[a]? = none := List.getElem?_eq_none (by omega)
          rw [bWh_end he] at hW
          rw [← hW] at hRW
          rw [bAll_go hd' hRW] at hA
          exact ⟨s2, _, _, _, _, _, rfl, B2, M2, hA⟩
    · rintro ρ m ⟨s, x4, x5, x6, x7, x8, rfl, B, M, hA⟩
      refine ⟨trivial, ?_⟩
      rw [rngD_len] at hA
      have e : (rngI n).drop ((n : Int) - 0).toNat = [] := List.drop_eq_nil_of_le (by rw [rngI_len]; omega)
      have e : (rngI n).drop (Int.toNat n) = [] := List.drop_eq_nil_of_le (by rw [rngI_len]; omega)
      rw [e] at hA
      have hA : (s, none) = RA := hA
      rw [← hA] at q
      walk_at "zz"
      exact M.out none q
end
end K78


set_option Elab.async false
set_option linter.all false
set_option maxRecDepth 100000
set_option maxHeartbeats 2000000
/-! the plain law of colourings and odd rounds -/
namespace K78
def Tied (ts : List (Int × Int)) (x y : Int) : Prop := (x, y) ∈ ts ∨ (y, x) ∈ ts
theorem Tied.symm {ts : List (Int × Int)} {x y : Int} (h : Tied ts x y) : Tied ts y x := h.elim .inr .inl
theorem Tied.bd {n : Nat} {ts : List (Int × Int)} (ok : OkT n ts) {x y : Int} (h : Tied ts x y) : (0 ≤ x ∧ x < n) ∧ (0 ≤ y ∧ y < n) ∧ x ≠ y := by
  rcases h with h | h
  · have := ok.bd _ h; simp only at this; omega
  · have := ok.bd _ h; simp only at this; omega
theorem mem_rowN {ts : List (Int × Int)} {x y : Int} (hx : 0 ≤ x) : y ∈ rowN ts x.toNat ↔ Tied ts x y := by
  have ex : ((x.toNat : Nat) : Int) = x := by omega
  unfold rowN Tied nb1
  rw [List.mem_flatMap]
  constructor
  · rintro ⟨p, hp, h⟩
    rw [ex] at h
    rcases List.mem_append.mp h with h | h
    · split at h
      · rename_i e
        rw [List.mem_singleton.mp h]
        exact .inl (by rw [← e]; exact hp)
      · cases h
    · split at h
      · rename_i e
        rw [List.mem_singleton.mp h]
        exact .inr (by rw [← e]; exact hp)
      · cases h
  · rintro (h | h)
    · exact ⟨_, h, by rw [ex]; exact List.mem_append_left _ (by rw [if_pos rfl]; exact List.mem_singleton.mpr rfl)⟩
    · exact ⟨_, h, by rw [ex]; exact List.mem_append_right _ (by rw [if_pos rfl]; exact List.mem_singleton.mpr rfl)⟩
theorem mem_rowsS {ts : List (Int × Int)} {x y : Int} (hx : 0 ≤ x) : y ∈ rowsS ts x ↔ Tied ts x y := by
  unfold rowsS
  rw [(srtI_perm _).mem_iff]
  exact mem_rowN hx
inductive Conn (ts : List (Int × Int)) : Int → Int → Prop
  | refl (x : Int) : Conn ts x x
  | step {x y z : Int} : Conn ts x y → Tied ts y z → Conn ts x z
inductive Ch (R : Int → Int → Prop) : List Int → Prop
  | one (x : Int) : Ch R [x]
  | cons {x y : Int} {l : List Int} : R x y → Ch R (y :: l) → Ch R (x :: y :: l)
/-! the way home -/
def home : List (Int × Int) → Int → List Int
  | [], v => [v]
  | (x, u) :: r, v => if x = v then v :: home r u else home r v
theorem home_ne : ∀ (l : List (Int × Int)) (v : Int), ∃ t, home l v = v :: t
  | [], v => ⟨[], rfl⟩
  | (x, u) :: r, v => by
    unfold home
    split
    · exact ⟨_, rfl⟩
    · exact home_ne r v
theorem home_skip {x u v : Int} {r : List (Int × Int)} (h : x ≠ v) : home ((x, u) :: r) v = home r v := by
  show (if x = v then v :: home r u else home r v) = _
  rw [if_neg h]
theorem home_go {u v : Int} {r : List (Int × Int)} : home ((v, u) :: r) v = v :: home r u := by
  show (if v = v then v :: home r u else home r v) = _
  rw [if_pos rfl]
theorem home_pass {v : Int} {r : List (Int × Int)} : ∀ {a : List (Int × Int)}, v ∉ a.map (·.1) → home (a ++ r) v = home r v
  | [], _ => rfl
  | (x, u) :: a, h => by
    rw [List.cons_append, home_skip fun e => h (by rw [List.map_cons, e]; exact List.mem_cons_self)]
    exact home_pass fun z => h (by rw [List.map_cons]; exact List.mem_cons_of_mem _ z)
theorem home_end {v : Int} {r : List (Int × Int)} (h : v ∉ r.map (·.1)) : home r v = [v] := by
  have q := home_pass (r := []) h
  rw [List.append_nil] at q
  exact q
/-- newest first: a parent is older than its child -/
def Des (rl : List (Int × Int)) : Prop := ∀ a v u b, rl = a ++ (v, u) :: b → u ∉ a.map (·.1) ∧ u ≠ v
theorem Des.tail {p : Int × Int} {rl : List (Int × Int)} (h : Des (p :: rl)) : Des rl := fun a v u b e => by
  obtain ⟨h1, h2⟩ := h (p :: a) v u b (by rw [e]; rfl)
  exact ⟨fun z => h1 (List.mem_cons_of_mem _ z), h2⟩
theorem Des.cons {v u : Int} {rl : List (Int × Int)} (h : Des rl) (ne : u ≠ v) (hp : ∀ p ∈ rl, p.2 ≠ v) : Des ((v, u) :: rl) := fun a x y b e => by
  cases a with
  | nil =>
    have e : (v, u) :: rl = (x, y) :: b := e
    injection e with e1 e2
    injection e1 with e3 e4
    subst e3 e4
    exact ⟨(fun z => nomatch z), ne⟩
  | cons q a =>
    have e : (v, u) :: rl = q :: (a ++ (x, y) :: b) := e
    injection e with e1 e2
    obtain ⟨h1, h2⟩ := h a x y b e2
    refine ⟨fun z => ?_, h2⟩
    rcases List.mem_cons.mp z with z | z
    · rw [← e1] at z
      exact hp (x, y) (by rw [e2]; exact List.mem_append_right _ List.mem_cons_self) z
    · exact h1 z
theorem home_off {v : Int} : ∀ (l : List (Int × Int)) (w : Int), w ≠ v → (∀ p ∈ l, p.2 ≠ v) → ∀ z ∈ home l w, z ≠ v
  | [], w, hw, _, z, hz => by
    rw [show home [] w = [w] from rfl] at hz
    rw [List.mem_singleton.mp hz]
    exact hw
  | (a, b) :: l, w, hw, hl, z, hz => by
    by_cases c : a = w
    · subst c
      rw [home_go] at hz
      rcases List.mem_cons.mp hz with rfl | hz
      · exact hw
      · exact home_off l b (hl (a, b) List.mem_cons_self) (fun p hp => hl p (List.mem_cons_of_mem _ hp)) z hz
    · rw [home_skip c] at hz
      exact home_off l w hw (fun p hp => hl p (List.mem_cons_of_mem _ hp)) z hz
/-- from each place of the way on it's that place's way -/
theorem home_from {rl : List (Int × Int)} : Des rl → ∀ {x y : Int} {pre post : List Int}, home rl x = pre ++ y :: post → home rl y = y :: post := by
  induction rl with
  | nil =>
    intro _ x y pre post e
    have e : [x] = pre ++ y :: post := e
    cases pre with
    | nil =>
      injection e with e1 e2
      subst e1
      rw [← e2]
      rfl
    | cons a pre =>
      injection e with e1 e2
      exact absurd e2 (by simp)
  | cons p rl ih =>
    obtain ⟨v, u⟩ := p
    intro D x y pre post e
    have par : ∀ p ∈ rl, p.2 ≠ v := fun p hp => by
      obtain ⟨a, b, e⟩ := List.append_of_mem hp
      obtain ⟨p1, p2⟩ := p
      intro z
      have z : p2 = v := z
      exact (D ((v, u) :: a) p1 p2 b (by rw [e]; rfl)).1 (by rw [z]; exact List.mem_cons_self)
    have own := home_off rl u (D [] v u rl rfl).2 par
    have own2 := fun w hw => home_off rl w hw par
    by_cases c : v = x
    · subst c
      rw [home_go] at e
      cases pre with
      | nil =>
        injection e with e1 e2
        subst e1
        rw [home_go, e2]
      | cons a pre =>
        injection e with e1 e2
        have ny : y ≠ v := own y (by rw [e2]; exact List.mem_append_right _ List.mem_cons_self)
        rw [home_skip (Ne.symm ny)]
        exact ih D.tail e2
    · rw [home_skip c] at e
      have ny : y ≠ v := own2 x (Ne.symm c) y (by rw [e]; exact List.mem_append_right _ List.mem_cons_self)
      rw [home_skip (Ne.symm ny)]
      exact ih D.tail e
/-- its steps are child and parent -/
theorem home_steps {R : Int → Int → Prop} : ∀ {rl : List (Int × Int)}, (∀ p ∈ rl, R p.1 p.2) → ∀ x, Ch R (home rl x)
  | [], _, x => Ch.one x
  | (v, u) :: rl, h, x => by
    by_cases c : v = x
    · subst c
      rw [home_go]
      obtain ⟨t, e⟩ := home_ne rl u
      have q := home_steps (fun p hp => h p (List.mem_cons_of_mem _ hp)) u
      rw [e] at q ⊢
      exact Ch.cons (h (v, u) List.mem_cons_self) q
    · rw [home_skip c]
      exact home_steps (fun p hp => h p (List.mem_cons_of_mem _ hp)) x
theorem home_nodup {rl : List (Int × Int)} (D : Des rl) (x : Int) : (home rl x).Nodup := by
  -- else a way would be its own proper part
  rw [List.Nodup, List.pairwise_iff_getElem]
  intro i j hi hj hij e
  have s1 : home rl x = (home rl x).take i ++ (home rl x)[i] :: (home rl x).drop (i + 1) := by rw [← List.drop_eq_getElem_cons hi, List.take_append_drop]
  have s2 : home rl x = (home rl x).take j ++ (home rl x)[j] :: (home rl x).drop (j + 1) := by rw [← List.drop_eq_getElem_cons hj, List.take_append_drop]
  have q1 := home_from D s1
  have q2 := home_from D s2
  rw [e] at q1
  have q := congrArg List.length (q1.symm.trans q2)
  rw [List.length_cons, List.length_cons, List.length_drop, List.length_drop] at q
  omega

/-! ### what the colouring keeps -/
abbrev keys (l : List (Int × Int)) : List Int := l.map fun p => p.1
structure CI (n : Nat) (ts sd ah : List (Int × Int)) (cp : List Int) (r : Int) (o : List Int) : Prop where
  bd : ∀ p ∈ sd, 0 ≤ p.1 ∧ p.1 < n ∧ (p.2 = 0 ∨ p.2 = 1)
  cpk : ∀ x ∈ cp, x ∈ keys sd
  ocp : ∀ x ∈ o, x ∈ cp
  rc : r ∈ cp
  r0 : lk sd r = some 0
  low : ∀ x, 0 ≤ x → x < r → x ∈ keys sd ∧ x ∉ cp
  old : ∀ x ∈ keys sd, x ∉ cp → ∀ y, Tied ts x y → y ∈ keys sd ∧ y ∉ cp
  prp : ∀ x ∈ keys sd, x ∉ o → ∀ y, Tied ts x y → ∃ c d, lk sd x = some c ∧ lk sd y = some d ∧ c ≠ d
  fc : ∀ χ : Int → Bool, (∀ x y, Tied ts x y → χ x ≠ χ y) → ∀ x ∈ cp, ∀ c, lk sd x = some c → χ x = xor (χ r) (decide (c = 1))
  con : ∀ x ∈ cp, Conn ts r x
  can : ∀ x ∈ keys sd, x ∉ cp → ∃ q, Conn ts q x ∧ lk sd q = some 0 ∧ ∀ y, Conn ts y x → q ≤ y
  ank : (keys ah).Nodup
  ak : ∀ x ∈ keys ah, x ∈ keys sd
  par : ∀ p ∈ ah, Tied ts p.1 p.2 ∧ p.2 ∈ keys sd ∧ ∃ c d, lk sd p.1 = some c ∧ lk sd p.2 = some d ∧ c ≠ d
  ord : Des ah.reverse
  rt : ∀ x ∈ cp, (home ah.reverse x).getLast? = some r
theorem CI.open {n : Nat} {ts sd ah : List (Int × Int)} {cp : List Int} {r : Int} {o o' : List Int} (h : CI n ts sd ah cp r o) (h1 : ∀ x ∈ o, x ∈ o') (h2 : ∀ x ∈ o', x ∈ cp) : CI n ts sd ah cp r o' :=
  { h with ocp := h2, prp := fun x hx no => h.prp x hx fun z => no (h1 x z) }
theorem CI.close {n : Nat} {ts sd ah : List (Int × Int)} {cp : List Int} {r here c : Int} {o : List Int} (h : CI n ts sd ah cp r (here :: o)) (hc : lk sd here = some c) (hn : ∀ y, Tied ts here y → ∃ d, lk sd y = some d ∧ d ≠ c) : CI n ts sd ah cp r o :=
  { h with ocp := fun x hx => h.ocp x (List.mem_cons_of_mem _ hx), prp := fun x hx no y hy => (Classical.em (x = here)).elim (fun e => (hn y (e ▸ hy)).elim fun d q => ⟨c, d, e ▸ hc, q.1, Ne.symm q.2⟩) fun e => h.prp x hx (fun z => (List.mem_cons.mp z).elim e no) y hy }
theorem key_app {l : List (Int × Int)} {v c x : Int} : x ∈ keys (l ++ [(v, c)]) ↔ x ∈ keys l ∨ x = v := by
  show x ∈ List.map (fun p : Int × Int => p.1) (l ++ [(v, c)]) ↔ _
  rw [List.map_append, List.mem_append]
  exact or_congr_right List.mem_singleton
theorem lk_new {l : List (Int × Int)} {v c : Int} (h : lk l v = none) : lk (l ++ [(v, c)]) v = some c := by
  rw [lk_app, h]
  show lk [(v, c)] v = some c
  unfold lk
  rw [if_pos rfl]
theorem lk_key {l : List (Int × Int)} {x d : Int} (h : lk l x = some d) : x ∈ keys l := List.mem_map.mpr ⟨(x, d), lk_mem h, rfl⟩
theorem lk_other {l : List (Int × Int)} {v c x d : Int} (hx : x ∈ keys l) (h : lk (l ++ [(v, c)]) x = some d) : lk l x = some d := by
  obtain ⟨e, he⟩ := lk_of_key hx
  rw [lk_old he] at h
  rw [he, h]
theorem CI.add {n : Nat} {ts sd ah : List (Int × Int)} {cp : List Int} {r here c v : Int} {o : List Int} (ok : OkT n ts) (h : CI n ts sd ah cp r o) (ho : here ∈ o) (hc : lk sd here = some c) (ht : Tied ts here v) (hv : lk sd v = none) :
    CI n ts (sd ++ [(v, 1 - c)]) (ah ++ [(v, here)]) (cp ++ [v]) r (o ++ [v]) := by
  have hcp := h.ocp here ho
  have hk := h.cpk here hcp
  have nv : v ∉ keys sd := lk_none.mp hv
  have vcp : v ∉ cp := fun z => nv (h.cpk v z)
  have c01 : c = 0 ∨ c = 1 := (h.bd _ (lk_mem hc)).2.2
  have vb := (ht.bd ok).2.1
  have nah : v ∉ keys ah := fun z => nv (h.ak v z)
  have rev : (ah ++ [(v, here)]).reverse = (v, here) :: ah.reverse := by rw [List.reverse_append]; rfl
  have nk : ∀ {x : Int}, x ∈ keys sd → x ≠ v := fun hx e => nv (e ▸ hx)
  refine ⟨fun p hp => ?_, fun x hx => ?_, fun x hx => ?_, List.mem_append_left _ h.rc, lk_old h.r0, fun x h0 h1 => ?_, fun x hx hn y hy => ?_, fun x hx hn y hy => ?_, fun χ hχ x hx d hd => ?_, fun x hx => ?_, fun x hx hn => ?_, ?_, fun x hx => ?_, fun p hp => ?_, ?_, fun x hx => ?_⟩
  · rcases List.mem_append.mp hp with hp | hp
    · exact h.bd p hp
    · rw [List.mem_singleton.mp hp]
      exact ⟨vb.1, vb.2, by show 1 - c = 0 ∨ 1 - c = 1; omega⟩
  · rw [key_app]
    rcases List.mem_append.mp hx with hx | hx
    · exact .inl (h.cpk x hx)
    · exact .inr (List.mem_singleton.mp hx)
  · rcases List.mem_append.mp hx with hx | hx
    · exact List.mem_append_left _ (h.ocp x hx)
    · exact List.mem_append_right _ hx
  · obtain ⟨a, b⟩ := h.low x h0 h1
    exact ⟨key_app.mpr (.inl a), fun z => (List.mem_append.mp z).elim b fun z => nk a (List.mem_singleton.mp z)⟩
  · rcases key_app.mp hx with hx | hx
    · obtain ⟨a, b⟩ := h.old x hx (fun z => hn (List.mem_append_left _ z)) y hy
      exact ⟨key_app.mpr (.inl a), fun z => (List.mem_append.mp z).elim b fun z => nk a (List.mem_singleton.mp z)⟩
    · exact absurd (List.mem_append_right _ (List.mem_singleton.mpr hx)) hn
  · rcases key_app.mp hx with hx | hx
    · obtain ⟨a, b, e1, e2, e3⟩ := h.prp x hx (fun z => hn (List.mem_append_left _ z)) y hy
      exact ⟨a, b, lk_old e1, lk_old e2, e3⟩
    · exact absurd (List.mem_append_right _ (List.mem_singleton.mpr hx)) hn
  · rcases List.mem_append.mp hx with hx | hx
    · exact h.fc χ hχ x hx d (lk_other (h.cpk x hx) hd)
    · have e := List.mem_singleton.mp hx
      subst e
      rw [lk_new hv] at hd
      have hd : 1 - c = d := Option.some.inj hd
      have q := h.fc χ hχ here hcp c hc
      have ne := hχ here x ht
      rcases c01 with z | z
      · subst z
        have : d = 1 := by omega
        subst this
        revert q ne
        cases χ x <;> cases χ here <;> cases χ r <;> simp
      · subst z
        have : d = 0 := by omega
        subst this
        revert q ne
        cases χ x <;> cases χ here <;> cases χ r <;> simp
  · rcases List.mem_append.mp hx with hx | hx
    · exact h.con x hx
    · rw [List.mem_singleton.mp hx]
      exact (h.con here hcp).step ht
  · rcases key_app.mp hx with hx | hx
    · obtain ⟨q, a, b, d⟩ := h.can x hx (fun z => hn (List.mem_append_left _ z))
      exact ⟨q, a, lk_old b, d⟩
    · exact absurd (List.mem_append_right _ (List.mem_singleton.mpr hx)) hn
  · show (List.map (fun p : Int × Int => p.1) (ah ++ [(v, here)])).Nodup
    rw [List.map_append]
    exact nodup_snoc h.ank nah
  · rcases key_app.mp hx with hx | hx
    · exact key_app.mpr (.inl (h.ak x hx))
    · exact key_app.mpr (.inr hx)
  · rcases List.mem_append.mp hp with hp | hp
    · obtain ⟨a, b, c1, d1, e1, e2, e3⟩ := h.par p hp
      exact ⟨a, key_app.mpr (.inl b), c1, d1, lk_old e1, lk_old e2, e3⟩
    · rw [List.mem_singleton.mp hp]
      exact ⟨ht.symm, key_app.mpr (.inl hk), 1 - c, c, lk_new hv, lk_old hc, by omega⟩
  · rw [rev]
    exact h.ord.cons (nk hk) fun p hp => nk (h.par p (List.mem_reverse.mp hp)).2.1
  · rw [rev]
    rcases List.mem_append.mp hx with hx | hx
    · rw [home_skip (Ne.symm (nk (h.cpk x hx)))]
      exact h.rt x hx
    · rw [List.mem_singleton.mp hx, home_go]
      obtain ⟨t, e⟩ := home_ne ah.reverse here
      have q := h.rt here hcp
      rw [e] at q ⊢
      rw [List.getLast?_cons_cons]
      exact q
theorem nb_run {n : Nat} {ts : List (Int × Int)} (ok : OkT n ts) {r here c : Int} : ∀ (L : List Int) (s : BS) (cp o : List Int), CI n ts s.sd s.ah cp r o → here ∈ o → lk s.sd here = some c → (∀ y ∈ L, Tied ts here y) →
    ∃ new, CI n ts (bNb here c L s).1.sd (bNb here c L s).1.ah (cp ++ new) r (o ++ new) ∧ (bNb here c L s).1.wt = s.wt ++ new ∧ lk (bNb here c L s).1.sd here = some c ∧ (∀ x d, lk s.sd x = some d → lk (bNb here c L s).1.sd x = some d) ∧
      ((bNb here c L s).2 = none → ∀ y ∈ L, ∃ d, lk (bNb here c L s).1.sd y = some d ∧ d ≠ c) ∧ (∀ v, (bNb here c L s).2 = some v → Tied ts here v ∧ lk (bNb here c L s).1.sd v = some c)
  | [], s, cp, o, h, ho, hc, _ => ⟨[], by rw [List.append_nil, List.append_nil]; exact h, by rw [List.append_nil]; rfl, hc, fun _ _ e => e, fun _ _ z => (nomatch z), fun _ z => nomatch z⟩
  | v :: L, s, cp, o, h, ho, hc, ht => by
    have tv := ht v List.mem_cons_self
    cases e : lk s.sd v with
    | none =>
      rw [bNb_new e]
      obtain ⟨new, h1, h2, h3, h4, h5, h6⟩ := nb_run ok L (s.add here c v) (cp ++ [v]) (o ++ [v]) (h.add ok ho hc tv e) (List.mem_append_left _ ho) (lk_old hc) fun y hy => ht y (List.mem_cons_of_mem _ hy)
      refine ⟨v :: new, ?_, ?_, h3, fun x d hx => h4 x d (lk_old hx), fun hn y hy => ?_, h6⟩
      · rw [List.append_assoc, List.append_assoc] at h1
        exact h1
      · rw [h2]
        show (s.wt ++ [v]) ++ new = _
        rw [List.append_assoc]
        rfl
      · rcases List.mem_cons.mp hy with rfl | hy
        · refine ⟨1 - c, h4 _ _ (lk_new e), ?_⟩
          have := (h.bd _ (lk_mem hc)).2.2
          simp only at this
          omega
        · exact h5 hn y hy
    | some d =>
      by_cases z : d = c
      · subst z
        rw [bNb_hit e]
        exact ⟨[], by rw [List.append_nil, List.append_nil]; exact h, by rw [List.append_nil], hc, fun _ _ e => e, (fun z => nomatch z), fun u hu => by cases hu; exact ⟨tv, e⟩⟩
      · rw [bNb_skip e z]
        obtain ⟨new, h1, h2, h3, h4, h5, h6⟩ := nb_run ok L s cp o h ho hc fun y hy => ht y (List.mem_cons_of_mem _ hy)
        refine ⟨new, h1, h2, h3, h4, fun hn y hy => ?_, h6⟩
        rcases List.mem_cons.mp hy with rfl | hy
        · exact ⟨d, h4 _ _ e, z⟩
        · exact h5 hn y hy
/-- what is known where two of one colour are tied -/
structure Hit (n : Nat) (ts sd ah : List (Int × Int)) (a b : Int) : Prop where
  ti : Tied ts a b
  ord : Des ah.reverse
  ank : (keys ah).Nodup
  par : ∀ p ∈ ah, Tied ts p.1 p.2 ∧ ∃ c d, lk sd p.1 = some c ∧ lk sd p.2 = some d ∧ c ≠ d
  c01 : ∀ x c, lk sd x = some c → c = 0 ∨ c = 1
  same : ∃ c, lk sd a = some c ∧ lk sd b = some c
  rt : ∃ r, (home ah.reverse a).getLast? = some r ∧ (home ah.reverse b).getLast? = some r
  no : ∀ χ : Int → Bool, ¬ ∀ x y, Tied ts x y → χ x ≠ χ y
theorem CI.hit {n : Nat} {ts sd ah : List (Int × Int)} {cp : List Int} {r a b c : Int} {o : List Int} (h : CI n ts sd ah cp r o) (ha : a ∈ cp) (ht : Tied ts a b) (h1 : lk sd a = some c) (h2 : lk sd b = some c) : Hit n ts sd ah a b := by
  have hb : b ∈ cp := Classical.byContradiction fun z => (h.old b (lk_key h2) z a ht.symm).2 ha
  refine ⟨ht, h.ord, h.ank, fun p hp => ⟨(h.par p hp).1, (h.par p hp).2.2⟩, fun x d hx => (h.bd _ (lk_mem hx)).2.2, ⟨c, h1, h2⟩, ⟨r, h.rt a ha, h.rt b hb⟩, fun χ hχ => ?_⟩
  exact hχ a b ht ((h.fc χ hχ a ha c h1).trans (h.fc χ hχ b hb c h2).symm)
end K78


set_option Elab.async false
set_option linter.all false
set_option maxRecDepth 100000
set_option maxHeartbeats 2000000
namespace K78
theorem bNb_ok {n : Nat} {here c : Int} (hc : c = 0 ∨ c = 1) : ∀ (L : List Int) (s : BS), BOk n s → (∀ y ∈ L, 0 ≤ y ∧ y < n) → BOk n (bNb here c L s).1
  | [], s, h, _ => h
  | v :: L, s, h, hb => by
    cases e : lk s.sd v with
    | none =>
      rw [bNb_new e]
      exact bNb_ok hc L _ (h.add hc (hb v List.mem_cons_self) e) fun y hy => hb y (List.mem_cons_of_mem _ hy)
    | some d =>
      by_cases z : d = c
      · subst z
        rw [bNb_hit e]
        exact h
      · rw [bNb_skip e z]
        exact bNb_ok hc L s h fun y hy => hb y (List.mem_cons_of_mem _ hy)
/-- between two pieces: all that is coloured is done -/
structure Base (n : Nat) (ts sd ah : List (Int × Int)) (b : Int) : Prop where
  bd : ∀ p ∈ sd, 0 ≤ p.1 ∧ p.1 < n ∧ (p.2 = 0 ∨ p.2 = 1)
  low : ∀ x, 0 ≤ x → x < b → x ∈ keys sd
  prp : ∀ x ∈ keys sd, ∀ y, Tied ts x y → ∃ c d, lk sd x = some c ∧ lk sd y = some d ∧ c ≠ d
  can : ∀ x ∈ keys sd, ∃ q, Conn ts q x ∧ lk sd q = some 0 ∧ ∀ y, Conn ts y x → q ≤ y
  ank : (keys ah).Nodup
  ak : ∀ x ∈ keys ah, x ∈ keys sd
  par : ∀ p ∈ ah, Tied ts p.1 p.2 ∧ p.2 ∈ keys sd ∧ ∃ c d, lk sd p.1 = some c ∧ lk sd p.2 = some d ∧ c ≠ d
  ord : Des ah.reverse
theorem Base.nil (n : Nat) (ts : List (Int × Int)) : Base n ts [] [] 0 := ⟨fun _ z => (nomatch z), fun x h1 h2 => by omega, fun _ z => (nomatch z), fun _ z => (nomatch z), List.nodup_nil, fun _ z => (nomatch z), fun _ z => (nomatch z), fun a v u b e => absurd e (by simp)⟩
theorem Base.skip {n : Nat} {ts sd ah : List (Int × Int)} {b : Int} (h : Base n ts sd ah b) (hb : b ∈ keys sd) : Base n ts sd ah (b + 1) :=
  { h with low := fun x h0 h1 => (Classical.em (x = b)).elim (fun e => e ▸ hb) fun e => h.low x h0 (by omega) }
theorem conn_old {ts : List (Int × Int)} {p : Int → Prop} (h : ∀ x y, p x → Tied ts x y → p y) {x y : Int} (c : Conn ts x y) (hx : p x) : p y := by
  induction c with
  | refl => exact hx
  | step _ t ih => exact h _ _ ih t
theorem conn_bd {n : Nat} {ts : List (Int × Int)} (ok : OkT n ts) {x y : Int} (c : Conn ts x y) (hy : 0 ≤ y ∧ y < n) : 0 ≤ x ∧ x < n := by
  induction c with
  | refl => exact hy
  | step _ t ih => exact ih (t.bd ok).1
theorem Base.root {n : Nat} {ts sd ah : List (Int × Int)} {b : Int} (ok : OkT n ts) (h : Base n ts sd ah b) (hb : 0 ≤ b ∧ b < n) (hn : lk sd b = none) : CI n ts (sd ++ [(b, 0)]) ah [b] b [b] := by
  have nb := lk_none.mp hn
  have nk : ∀ {x : Int}, x ∈ keys sd → x ≠ b := fun hx e => nb (e ▸ hx)
  have one : ∀ {x : Int}, x ∈ [b] → x = b := List.mem_singleton.mp
  refine ⟨fun p hp => ?_, fun x hx => key_app.mpr (.inr (one hx)), fun x hx => hx, List.mem_singleton.mpr rfl, lk_new hn, fun x h0 h1 => ⟨key_app.mpr (.inl (h.low x h0 h1)), fun z => by have := one z; omega⟩,
    fun x hx hnb y hy => ?_, fun x hx hnb y hy => ?_, fun χ hχ x hx c hc => ?_, fun x hx => ?_, fun x hx hnb => ?_, h.ank, fun x hx => key_app.mpr (.inl (h.ak x hx)), fun p hp => ?_, h.ord, fun x hx => ?_⟩
  · rcases List.mem_append.mp hp with hp | hp
    · exact h.bd p hp
    · rw [List.mem_singleton.mp hp]
      exact ⟨hb.1, hb.2, .inl rfl⟩
  · rcases key_app.mp hx with hx | hx
    · obtain ⟨c, d, e1, e2, e3⟩ := h.prp x hx y hy
      exact ⟨key_app.mpr (.inl (lk_key e2)), fun z => nk (lk_key e2) (one z)⟩
    · exact absurd (List.mem_singleton.mpr hx) hnb
  · rcases key_app.mp hx with hx | hx
    · obtain ⟨c, d, e1, e2, e3⟩ := h.prp x hx y hy
      exact ⟨c, d, lk_old e1, lk_old e2, e3⟩
    · exact absurd (List.mem_singleton.mpr hx) hnb
  · rw [one hx] at hc ⊢
    rw [lk_new hn] at hc
    cases hc
    cases χ b <;> rfl
  · rw [one hx]
    exact .refl b
  · rcases key_app.mp hx with hx | hx
    · obtain ⟨q, a, c, d⟩ := h.can x hx
      exact ⟨q, a, lk_old c, d⟩
    · exact absurd (List.mem_singleton.mpr hx) hnb
  · obtain ⟨a, c, c1, d1, e1, e2, e3⟩ := h.par p hp
    exact ⟨a, key_app.mpr (.inl c), c1, d1, lk_old e1, lk_old e2, e3⟩
  · rw [one hx, home_end fun z => nb (h.ak b (by
      obtain ⟨p, hp, e⟩ := List.mem_map.mp z
      exact List.mem_map.mpr ⟨p, List.mem_reverse.mp hp, e⟩))]
    rfl
theorem CI.done {n : Nat} {ts sd ah : List (Int × Int)} {cp : List Int} {r : Int} (ok : OkT n ts) (h : CI n ts sd ah cp r []) : Base n ts sd ah (r + 1) := by
  refine ⟨h.bd, fun x h0 h1 => ?_, fun x hx => h.prp x hx fun z => (nomatch z), fun x hx => ?_, h.ank, h.ak, h.par, h.ord⟩
  · by_cases e : x = r
    · rw [e]
      exact h.cpk r h.rc
    · exact (h.low x h0 (by omega)).1
  · by_cases c : x ∈ cp
    · refine ⟨r, h.con x c, h.r0, fun y hy => ?_⟩
      refine Classical.byContradiction fun lt => ?_
      obtain ⟨p, hp, ep⟩ := List.mem_map.mp hx
      have xb := h.bd p hp
      rw [ep] at xb
      have yb := conn_bd ok hy ⟨xb.1, xb.2.1⟩
      obtain ⟨y1, y2⟩ := h.low y yb.1 (by omega)
      exact (conn_old (p := fun z => z ∈ keys sd ∧ z ∉ cp) (fun a b ha t => h.old a ha.1 ha.2 b t) hy ⟨y1, y2⟩).2 c
    · exact h.can x hx c
/-- a colouring from the least places -/
structure Canon (n : Nat) (ts sd : List (Int × Int)) : Prop where
  bd : ∀ p ∈ sd, 0 ≤ p.1 ∧ p.1 < n ∧ (p.2 = 0 ∨ p.2 = 1)
  all : ∀ x : Int, 0 ≤ x → x < n → x ∈ keys sd
  prp : ∀ x y, Tied ts x y → ∃ c d, lk sd x = some c ∧ lk sd y = some d ∧ c ≠ d
  can : ∀ x : Int, 0 ≤ x → x < n → ∃ q, Conn ts q x ∧ lk sd q = some 0 ∧ ∀ y, Conn ts y x → q ≤ y
theorem Base.canon {n : Nat} {ts sd ah : List (Int × Int)} (ok : OkT n ts) (h : Base n ts sd ah n) : Canon n ts sd :=
  ⟨h.bd, h.low, fun x y t => h.prp x (h.low x (t.bd ok).1.1 (t.bd ok).1.2) y t, fun x h0 h1 => h.can x (h.low x h0 h1)⟩
theorem Canon.c01 {n : Nat} {ts sd : List (Int × Int)} (h : Canon n ts sd) {x c : Int} (e : lk sd x = some c) : c = 0 ∨ c = 1 := (h.bd _ (lk_mem e)).2.2
theorem Canon.uniq {n : Nat} {ts sd sd' : List (Int × Int)} (h : Canon n ts sd) (h' : Canon n ts sd') {x : Int} (h0 : 0 ≤ x) (h1 : x < n) : ∃ c, lk sd x = some c ∧ lk sd' x = some c := by
  obtain ⟨q, a, b, d⟩ := h.can x h0 h1
  obtain ⟨q', a', b', d'⟩ := h'.can x h0 h1
  have e : q = q' := by
    have := d q' a'
    have := d' q a
    omega
  subst e
  have key : ∀ {y}, Conn ts q y → ∃ c, lk sd y = some c ∧ lk sd' y = some c := by
    intro y c
    induction c with
    | refl => exact ⟨0, b, b'⟩
    | step _ t ih =>
      obtain ⟨c, e1, e2⟩ := ih
      obtain ⟨c1, c2, f1, f2, f3⟩ := h.prp _ _ t
      obtain ⟨g1, g2, k1, k2, k3⟩ := h'.prp _ _ t
      rw [e1] at f1
      rw [e2] at k1
      cases f1
      cases k1
      have z1 := h.c01 e1
      have z2 := h.c01 f2
      have z3 := h'.c01 k2
      exact ⟨c2, f2, by rw [k2]; congr 1; omega⟩
  exact key a
theorem Canon.proper {n : Nat} {ts sd : List (Int × Int)} (h : Canon n ts sd) : ∃ χ : Int → Bool, ∀ x y, Tied ts x y → χ x ≠ χ y := by
  refine ⟨fun x => decide (lk sd x = some 1), fun x y t => ?_⟩
  obtain ⟨c, d, e1, e2, e3⟩ := h.prp x y t
  have z1 := h.c01 e1
  have z2 := h.c01 e2
  intro e
  have e : decide (lk sd x = some 1) = decide (lk sd y = some 1) := e
  rw [e1, e2] at e
  have e := decide_eq_decide.mp e
  simp only [Option.some.injEq] at e
  omega
/-! the breadth-first road -/
theorem bWh_law {n : Nat} {ts : List (Int × Int)} (ok : OkT n ts) {r : Int} : ∀ (f i : Nat) (s : BS), BOk n s → CI n ts s.sd s.ah s.wt r (s.wt.drop i) → i ≤ s.wt.length → i + f = n + 1 →
    ((bWh (rowsS ts) f i s).2 = none → BOk n (bWh (rowsS ts) f i s).1 ∧ ∃ cp, CI n ts (bWh (rowsS ts) f i s).1.sd (bWh (rowsS ts) f i s).1.ah cp r []) ∧
    (∀ a b, (bWh (rowsS ts) f i s).2 = some (a, b) → Hit n ts (bWh (rowsS ts) f i s).1.sd (bWh (rowsS ts) f i s).1.ah a b)
  | 0, i, s, B, h, hi, e => by
    have := B.wlen
    omega
  | f + 1, i, s, B, h, hi, e => by
    cases hw : s.wt[i]? with
    | none =>
      rw [bWh_end hw]
      refine ⟨fun _ => ⟨B, s.wt, ?_⟩, fun a b z => nomatch z⟩
      have : s.wt.drop i = [] := List.drop_eq_nil_of_le (by rw [List.getElem?_eq_none_iff] at hw; exact hw)
      rw [this] at h
      exact h
    | some here =>
      obtain ⟨hl, hv⟩ := List.getElem?_eq_some_iff.mp hw
      have ed : s.wt.drop i = here :: s.wt.drop (i + 1) := by rw [List.drop_eq_getElem_cons hl, hv]
      rw [ed] at h
      have hm : here ∈ s.wt := List.mem_of_getElem? hw
      obtain ⟨c, hc⟩ := lk_of_key (B.wk here hm)
      have hb := B.key (B.wk here hm)
      have rows : ∀ y ∈ rowsS ts here, Tied ts here y := fun y hy => (mem_rowsS hb.1).mp hy
      obtain ⟨new, h1, h2, h3, h4, h5, h6⟩ := nb_run ok (rowsS ts here) s s.wt _ h List.mem_cons_self hc rows
      have B' := bNb_ok (here := here) (B.bd _ (lk_mem hc)).2.2 (rowsS ts here) s B fun y hy => rowsS_bd ok hy
      generalize hN : bNb here c (rowsS ts here) s = RN at h1 h2 h3 h4 h5 h6 B'
      obtain ⟨s', w⟩ := RN
      cases w with
      | none =>
        rw [bWh_go hw hc hN]
        refine bWh_law ok f (i + 1) s' B' ?_ ?_ (by omega)
        · rw [h2, List.drop_append_of_le_length hl]
          exact CI.close (c := c) h1 h3 fun y hy => h5 rfl y ((mem_rowsS hb.1).mpr hy)
        · rw [h2, List.length_append]
          omega
      | some v =>
        rw [bWh_hit hw hc hN]
        refine ⟨(fun z => nomatch z), fun a b z => ?_⟩
        cases z
        obtain ⟨t, q⟩ := h6 v rfl
        exact h1.hit (List.mem_append_left _ hm) t h3 q
theorem rngI_drop {n i : Nat} (hi : i < n) : (rngI n).drop i = (i : Int) :: (rngI n).drop (i + 1) := by
  rw [List.drop_eq_getElem_cons (by rw [rngI_len]; exact hi)]
  unfold rngI
  simp
theorem bAll_law {n : Nat} {ts : List (Int × Int)} (ok : OkT n ts) : ∀ (k i : Nat) (s : BS), i + k = n → BOk n s → Base n ts s.sd s.ah i →
    ((bAll (rowsS ts) n ((rngI n).drop i) s).2 = none → BOk n (bAll (rowsS ts) n ((rngI n).drop i) s).1 ∧ Base n ts (bAll (rowsS ts) n ((rngI n).drop i) s).1.sd (bAll (rowsS ts) n ((rngI n).drop i) s).1.ah n) ∧
    (∀ a b, (bAll (rowsS ts) n ((rngI n).drop i) s).2 = some (a, b) → Hit n ts (bAll (rowsS ts) n ((rngI n).drop i) s).1.sd (bAll (rowsS ts) n ((rngI n).drop i) s).1.ah a b)
  | 0, i, s, e, B, h => by
    have ed : (rngI n).drop i = [] := List.drop_eq_nil_of_le (by rw [rngI_len]; omega)
    rw [ed]
    have : i = n := e
    rw [this] at h
    exact ⟨fun _ => ⟨B, h⟩, fun a b z => nomatch z⟩
  | k + 1, i, s, e, B, h => by
    rw [rngI_drop (by omega)]
    cases hk : lk s.sd i with
    | some d =>
      rw [bAll_skip hk]
      exact bAll_law ok k (i + 1) s (by omega) B (h.skip (lk_key hk))
    | none =>
      have hb : 0 ≤ (i : Int) ∧ (i : Int) < n := by omega
      obtain ⟨g1, g2⟩ := bWh_law ok (n + 1) 0 (s.root i) (B.root hb hk) (h.root ok hb hk) (Nat.zero_le _) (by omega)
      generalize hW : bWh (rowsS ts) (n + 1) 0 (s.root i) = RW at g1 g2
      obtain ⟨s', w⟩ := RW
      cases w with
      | none =>
        rw [bAll_go hk hW]
        obtain ⟨B', cp, c⟩ := g1 rfl
        exact bAll_law ok k (i + 1) s' (by omega) B' (c.done ok)
      | some p =>
        obtain ⟨a, b⟩ := p
        rw [bAll_hit hk hW]
        exact ⟨(fun z => nomatch z), g2⟩
theorem bfs_law {n : Nat} {ts : List (Int × Int)} (ok : OkT n ts) : ((bfs n ts).2 = none → BOk n (bfs n ts).1 ∧ Base n ts (bfs n ts).1.sd (bfs n ts).1.ah n) ∧ (∀ a b, (bfs n ts).2 = some (a, b) → Hit n ts (bfs n ts).1.sd (bfs n ts).1.ah a b) :=
  bAll_law ok n 0 ⟨[], [], []⟩ (Nat.zero_add _) (.nil n) (.nil n ts)
/-! the depth-first road -/
def dWh (rows : Int → List Int) : Nat → BS → BS × Bool
  | 0, s => (s, false)
  | f + 1, s => match s.wt.reverse with
    | [] => (s, false)
    | here :: rest => match bNb here ((lk s.sd here).getD 0) (rows here) ⟨s.sd, s.ah, rest.reverse⟩ with
      | (s', some _) => (s', true)
      | (s', none) => dWh rows f s'
def dAll (rows : Int → List Int) (n : Nat) : List Int → BS → BS × Bool
  | [], s => (s, false)
  | v :: r, s => match lk s.sd v with
    | some _ => dAll rows n r s
    | none => match dWh rows (n + 2) (s.root v) with
      | (s', true) => (s', true)
      | (s', false) => dAll rows n r s'
def rowsD (ts : List (Int × Int)) (v : Int) : List Int := rowN ts v.toNat
def dfs (n : Nat) (ts : List (Int × Int)) : BS × Bool := dAll (rowsD ts) n (rngI n) ⟨[], [], []⟩
theorem dWh_end {rows : Int → List Int} {f : Nat} {s : BS} (h : s.wt = []) : dWh rows (f + 1) s = (s, false) := by simp only [dWh, h, List.reverse_nil]
theorem dWh_hit {rows : Int → List Int} {f : Nat} {s s' : BS} {here c v : Int} {wt : List Int} (h : s.wt = wt ++ [here]) (hc : lk s.sd here = some c) (e : bNb here c (rows here) ⟨s.sd, s.ah, wt⟩ = (s', some v)) : dWh rows (f + 1) s = (s', true) := by
  simp only [dWh, h, List.reverse_append, List.reverse_cons, List.reverse_nil, List.nil_append, List.cons_append, List.reverse_reverse, hc, Option.getD_some, e]
theorem dWh_go {rows : Int → List Int} {f : Nat} {s s' : BS} {here c : Int} {wt : List Int} (h : s.wt = wt ++ [here]) (hc : lk s.sd here = some c) (e : bNb here c (rows here) ⟨s.sd, s.ah, wt⟩ = (s', none)) : dWh rows (f + 1) s = dWh rows f s' := by
  simp only [dWh, h, List.reverse_append, List.reverse_cons, List.reverse_nil, List.nil_append, List.cons_append, List.reverse_reverse, hc, Option.getD_some, e]
theorem dAll_skip {rows : Int → List Int} {n : Nat} {v d : Int} {r : List Int} {s : BS} (h : lk s.sd v = some d) : dAll rows n (v :: r) s = dAll rows n r s := by simp only [dAll, h]
theorem dAll_hit {rows : Int → List Int} {n : Nat} {v : Int} {r : List Int} {s s' : BS} (h : lk s.sd v = none) (e : dWh rows (n + 2) (s.root v) = (s', true)) : dAll rows n (v :: r) s = (s', true) := by simp only [dAll, h, e]
theorem dAll_go {rows : Int → List Int} {n : Nat} {v : Int} {r : List Int} {s s' : BS} (h : lk s.sd v = none) (e : dWh rows (n + 2) (s.root v) = (s', false)) : dAll rows n (v :: r) s = dAll rows n r s' := by simp only [dAll, h, e]
theorem rowsD_bd {n : Nat} {ts : List (Int × Int)} (ok : OkT n ts) {u v : Int} (h : v ∈ rowsD ts u) : 0 ≤ v ∧ v < n := rowN_bd ok h
theorem BOk.pop {n : Nat} {s : BS} (h : BOk n s) {wt : List Int} {here : Int} (e : s.wt = wt ++ [here]) : BOk n ⟨s.sd, s.ah, wt⟩ :=
  ⟨h.nd, h.bd, by have q := h.wn; rw [e] at q; exact (List.nodup_append.mp q).1, fun v hv => h.wk v (by rw [e]; exact List.mem_append_left _ hv), h.al, h.ak⟩
theorem bNb_count {here c : Int} : ∀ (L : List Int) (s : BS), (bNb here c L s).1.sd.length + s.wt.length = s.sd.length + (bNb here c L s).1.wt.length
  | [], s => rfl
  | v :: L, s => by
    cases e : lk s.sd v with
    | none =>
      rw [bNb_new e]
      have q := bNb_count (here := here) (c := c) L (s.add here c v)
      have e1 : (s.add here c v).wt.length = s.wt.length + 1 := List.length_append
      have e2 : (s.add here c v).sd.length = s.sd.length + 1 := List.length_append
      omega
    | some d =>
      by_cases z : d = c
      · subst z; rw [bNb_hit e]
      · rw [bNb_skip e z]
        exact bNb_count L s
theorem dWh_law {n : Nat} {ts : List (Int × Int)} (ok : OkT n ts) {r : Int} : ∀ (f : Nat) (s : BS) (cp : List Int), BOk n s → CI n ts s.sd s.ah cp r s.wt → n + s.wt.length < f + s.sd.length →
    ((dWh (rowsD ts) f s).2 = false → BOk n (dWh (rowsD ts) f s).1 ∧ ∃ cp, CI n ts (dWh (rowsD ts) f s).1.sd (dWh (rowsD ts) f s).1.ah cp r []) ∧
    ((dWh (rowsD ts) f s).2 = true → ∀ χ : Int → Bool, ¬ ∀ x y, Tied ts x y → χ x ≠ χ y)
  | 0, s, cp, B, h, hf => by
    have := B.len
    omega
  | f + 1, s, cp, B, h, hf => by
    rcases Classical.em (s.wt = []) with hw | hw
    · rw [dWh_end hw]
      rw [hw] at h
      exact ⟨fun _ => ⟨B, cp, h⟩, fun z => nomatch z⟩
    · obtain ⟨wt, here, e⟩ : ∃ wt here, s.wt = wt ++ [here] := ⟨s.wt.dropLast, s.wt.getLast hw, (List.dropLast_concat_getLast hw).symm⟩
      have hm : here ∈ s.wt := by rw [e]; exact List.mem_append_right _ (List.mem_singleton.mpr rfl)
      obtain ⟨c, hc⟩ := lk_of_key (B.wk here hm)
      have hb := B.key (B.wk here hm)
      have rows : ∀ y ∈ rowsD ts here, Tied ts here y := fun y hy => (mem_rowN hb.1).mp hy
      have h0 : CI n ts s.sd s.ah cp r (here :: wt) := h.open (fun x hx => by
        rw [e] at hx
        rcases List.mem_append.mp hx with hx | hx
        · exact List.mem_cons_of_mem _ hx
        · rw [List.mem_singleton.mp hx]; exact List.mem_cons_self) fun x hx => h.ocp x (by
          rw [e]
          rcases List.mem_cons.mp hx with rfl | hx
          · exact List.mem_append_right _ (List.mem_singleton.mpr rfl)
          · exact List.mem_append_left _ hx)
      obtain ⟨new, h1, h2, h3, h4, h5, h6⟩ := nb_run ok (rowsD ts here) ⟨s.sd, s.ah, wt⟩ cp _ h0 List.mem_cons_self hc rows
      have B' := bNb_ok (here := here) (B.bd _ (lk_mem hc)).2.2 (rowsD ts here) _ (B.pop e) fun y hy => rowsD_bd ok hy
      have cnt := bNb_count (here := here) (c := c) (rowsD ts here) ⟨s.sd, s.ah, wt⟩
      have le : s.wt.length = wt.length + 1 := by rw [e]; exact List.length_append
      generalize hN : bNb here c (rowsD ts here) ⟨s.sd, s.ah, wt⟩ = RN at h1 h2 h3 h4 h5 h6 B' cnt
      obtain ⟨s', w⟩ := RN
      simp only at cnt
      cases w with
      | none =>
        rw [dWh_go e hc hN]
        refine dWh_law ok f s' (cp ++ new) B' ?_ (by omega)
        rw [h2]
        exact CI.close (c := c) h1 h3 fun y hy => h5 rfl y ((mem_rowN hb.1).mpr hy)
      | some v =>
        rw [dWh_hit e hc hN]
        refine ⟨(fun z => nomatch z), fun _ => ?_⟩
        obtain ⟨t, q⟩ := h6 v rfl
        exact (h1.hit (List.mem_append_left _ (h.ocp here hm)) t h3 q).no
theorem dAll_law {n : Nat} {ts : List (Int × Int)} (ok : OkT n ts) : ∀ (k i : Nat) (s : BS), i + k = n → BOk n s → Base n ts s.sd s.ah i →
    ((dAll (rowsD ts) n ((rngI n).drop i) s).2 = false → BOk n (dAll (rowsD ts) n ((rngI n).drop i) s).1 ∧ Base n ts (dAll (rowsD ts) n ((rngI n).drop i) s).1.sd (dAll (rowsD ts) n ((rngI n).drop i) s).1.ah n) ∧
    ((dAll (rowsD ts) n ((rngI n).drop i) s).2 = true → ∀ χ : Int → Bool, ¬ ∀ x y, Tied ts x y → χ x ≠ χ y)
  | 0, i, s, e, B, h => by
    have ed : (rngI n).drop i = [] := List.drop_eq_nil_of_le (by rw [rngI_len]; omega)
    rw [ed]
    have : i = n := e
    rw [this] at h
    exact ⟨fun _ => ⟨B, h⟩, fun z => nomatch z⟩
  | k + 1, i, s, e, B, h => by
    rw [rngI_drop (by omega)]
    cases hk : lk s.sd i with
    | some d =>
      rw [dAll_skip hk]
      exact dAll_law ok k (i + 1) s (by omega) B (h.skip (lk_key hk))
    | none =>
      have hb : 0 ≤ (i : Int) ∧ (i : Int) < n := by omega
      have e2 : (s.root i).sd.length = s.sd.length + 1 := List.length_append
      have e3 : (s.root i).wt.length = 1 := rfl
      obtain ⟨g1, g2⟩ := dWh_law ok (n + 2) (s.root i) [(i : Int)] (B.root hb hk) (h.root ok hb hk) (by omega)
      generalize hW : dWh (rowsD ts) (n + 2) (s.root i) = RW at g1 g2
      obtain ⟨s', w⟩ := RW
      cases w with
      | false =>
        rw [dAll_go hk hW]
        obtain ⟨B', cp, c⟩ := g1 rfl
        exact dAll_law ok k (i + 1) s' (by omega) B' (c.done ok)
      | true =>
        rw [dAll_hit hk hW]
        exact ⟨(fun z => nomatch z), fun _ => g2 rfl⟩
theorem dfs_law {n : Nat} {ts : List (Int × Int)} (ok : OkT n ts) : ((dfs n ts).2 = false → BOk n (dfs n ts).1 ∧ Base n ts (dfs n ts).1.sd (dfs n ts).1.ah n) ∧ ((dfs n ts).2 = true → ∀ χ : Int → Bool, ¬ ∀ x y, Tied ts x y → χ x ≠ χ y) :=
  dAll_law ok n 0 ⟨[], [], []⟩ (Nat.zero_add _) (.nil n) (.nil n ts)
end K78


set_option Elab.async false
set_option linter.all false
set_option maxRecDepth 100000
set_option maxHeartbeats 2000000
namespace K78
def trim : List Int → List Int → List Int × List Int
  | x :: a :: r, y :: b :: q => if a = b then trim (a :: r) (b :: q) else (x :: a :: r, y :: b :: q)
  | l, k => (l, k)
theorem trim_go {x a y : Int} {r q : List Int} : trim (x :: a :: r) (y :: a :: q) = trim (a :: r) (a :: q) := by rw [trim, if_pos rfl]
theorem trim_stop {x a y b : Int} {r q : List Int} (h : a ≠ b) : trim (x :: a :: r) (y :: b :: q) = (x :: a :: r, y :: b :: q) := by rw [trim, if_neg h]
theorem trim_l {x : Int} {k : List Int} : trim [x] k = ([x], k) := by simp [trim]
theorem trim_r {y : Int} {l : List Int} : trim l [y] = (l, [y]) := by simp [trim]
theorem trim_spec : ∀ (l1 k1 : List Int) (z : Int), ∃ π z' l' k', trim (z :: l1) (z :: k1) = (z' :: l', z' :: k') ∧ z :: l1 = π ++ z' :: l' ∧ z :: k1 = π ++ z' :: k' ∧ (∀ x y, l'.head? = some x → k'.head? = some y → x ≠ y)
  | [], k1, z => ⟨[], z, [], k1, trim_l, rfl, rfl, fun x y e => nomatch e⟩
  | a :: r, [], z => ⟨[], z, a :: r, [], trim_r, rfl, rfl, fun x y _ e => nomatch e⟩
  | a :: r, b :: q, z => by
    by_cases c : a = b
    · subst c
      obtain ⟨π, z', l', k', e, e1, e2, h⟩ := trim_spec r q a
      exact ⟨z :: π, z', l', k', by rw [trim_go, e], by rw [e1]; rfl, by rw [e2]; rfl, h⟩
    · refine ⟨[], z, a :: r, b :: q, trim_stop c, rfl, rfl, fun x y e1 e2 => ?_⟩
      cases e1
      cases e2
      exact c
section
variable {R : Int → Int → Prop}
theorem Ch.pre {z : Int} {m : List Int} : ∀ {l : List Int}, Ch R (l ++ z :: m) → Ch R (l ++ [z])
  | [], _ => .one z
  | [x], h => by
    cases h with
    | cons r _ => exact .cons r (.one z)
  | x :: y :: l, h => by
    cases h with
    | cons r t => exact .cons r (Ch.pre (l := y :: l) t)
theorem Ch.glue {z : Int} {m : List Int} (hm : Ch R (z :: m)) : ∀ {l : List Int}, Ch R (l ++ [z]) → Ch R (l ++ z :: m)
  | [], _ => hm
  | [x], h => by
    cases h with
    | cons r _ => exact .cons r hm
  | x :: y :: l, h => by
    cases h with
    | cons r t => exact .cons r (Ch.glue hm (l := y :: l) t)
theorem Ch.rev (hs : ∀ x y, R x y → R y x) : ∀ {l : List Int}, Ch R l → Ch R l.reverse
  | _, .one x => .one x
  | _, .cons (x := x) (y := y) (l := l) r t => by
    have q := Ch.rev hs t
    rw [List.reverse_cons] at q
    rw [List.reverse_cons, List.reverse_cons, List.append_assoc]
    exact Ch.glue (.cons (hs _ _ r) (.one x)) q
theorem Ch.get : ∀ {l : List Int}, Ch R l → ∀ (i : Nat) (x y : Int), l[i]? = some x → l[i + 1]? = some y → R x y
  | _, .one x, i, _, _, _, h => by simp at h
  | _, .cons r t, 0, _, _, h1, h2 => by
    simp at h1 h2
    subst h1 h2
    exact r
  | _, .cons r t, i + 1, x, y, h1, h2 => Ch.get t i x y (by simpa using h1) (by simpa using h2)
theorem Ch.mem : ∀ {l : List Int}, Ch R l → 2 ≤ l.length → ∀ v ∈ l, ∃ w, R v w ∨ R w v
  | _, .one x, h, _, _ => by simp at h
  | _, .cons (x := x) (y := y) r (.one _), _, v, hv => by
    rcases List.mem_cons.mp hv with rfl | hv
    · exact ⟨_, .inl r⟩
    · rw [List.mem_singleton.mp hv]; exact ⟨_, .inr r⟩
  | _, .cons r (.cons r2 t), _, v, hv => by
    rcases List.mem_cons.mp hv with rfl | hv
    · exact ⟨_, .inl r⟩
    · exact Ch.mem (.cons r2 t) (by simp) v hv
theorem Ch.imp {S : Int → Int → Prop} (h : ∀ x y, R x y → S x y) : ∀ {l : List Int}, Ch R l → Ch S l
  | _, .one x => .one x
  | _, .cons r t => .cons (h _ _ r) (Ch.imp h t)
theorem Ch.par {col : Int → Int} (h1 : ∀ x y, R x y → col x ≠ col y ∧ (col x = 0 ∨ col x = 1) ∧ (col y = 0 ∨ col y = 1)) : ∀ {l : List Int}, Ch R l → ∀ a b, l.head? = some a → l.getLast? = some b → (col a = col b ↔ l.length % 2 = 1)
  | _, .one x, a, b, ha, hb => by
    simp at ha hb
    subst ha hb
    simp
  | _, .cons (x := x) (y := y) (l := l) r t, a, b, ha, hb => by
    simp only [List.head?_cons, Option.some.injEq] at ha
    subst ha
    rw [List.getLast?_cons_cons] at hb
    have ih := Ch.par h1 t y b rfl hb
    obtain ⟨c1, c2, c3⟩ := h1 _ _ r
    have hcb : col b = 0 ∨ col b = 1 := by
      rcases Classical.em (2 ≤ (y :: l).length) with q | q
      · obtain ⟨w, hw⟩ := t.mem q b (List.mem_of_getLast? hb)
        rcases hw with hw | hw
        · exact (h1 _ _ hw).2.1
        · exact (h1 _ _ hw).2.2
      · have e : l = [] := by simp at q; exact q
        subst e
        simp at hb
        subst hb
        exact c3
    rw [List.length_cons]
    omega
end
/-- a right odd round -/
structure RingOk (n : Nat) (ts : List (Int × Int)) (l : List Int) : Prop where
  len : 3 ≤ l.length
  odd : l.length % 2 = 1
  bd : ∀ v ∈ l, 0 ≤ v ∧ v < n
  nd : l.Nodup
  ch : Ch (Tied ts) l
  ends : ∃ a b, l.head? = some a ∧ l.getLast? = some b ∧ Tied ts a b
def ringOf (ah : List (Int × Int)) (a b : Int) : List Int := (trim (home ah.reverse a).reverse (home ah.reverse b).reverse).1.reverse ++ (trim (home ah.reverse a).reverse (home ah.reverse b).reverse).2.drop 1
theorem head_rev {l : List Int} : l.reverse.head? = l.getLast? := by rw [List.head?_reverse]
theorem Hit.ring {n : Nat} {ts sd ah : List (Int × Int)} {a b : Int} (ok : OkT n ts) (h : Hit n ts sd ah a b) : RingOk n ts (ringOf ah a b) := by
  have D := h.ord
  obtain ⟨r, ra, rb⟩ := h.rt
  have par : ∀ p ∈ ah.reverse, Tied ts p.1 p.2 ∧ ∃ c d, lk sd p.1 = some c ∧ lk sd p.2 = some d ∧ c ≠ d := fun p hp => h.par p (List.mem_reverse.mp hp)
  have stA := home_steps (R := fun x y => Tied ts x y ∧ ∃ c d, lk sd x = some c ∧ lk sd y = some d ∧ c ≠ d) par a
  have stB := home_steps (R := fun x y => Tied ts x y ∧ ∃ c d, lk sd x = some c ∧ lk sd y = some d ∧ c ≠ d) par b
  have ndA := home_nodup D a
  have ndB := home_nodup D b
  obtain ⟨tA, eA⟩ := home_ne ah.reverse a
  obtain ⟨tB, eB⟩ := home_ne ah.reverse b
  have hA : (home ah.reverse a).head? = some a := by rw [eA]; rfl
  have hB : (home ah.reverse b).head? = some b := by rw [eB]; rfl
  have fA : ∀ {x y : Int} {pre post : List Int}, home ah.reverse x = pre ++ y :: post → home ah.reverse y = y :: post := home_from D
  unfold ringOf
  generalize hpA : home ah.reverse a = p at stA ndA eA hA ra ⊢
  generalize hpB : home ah.reverse b = q at stB ndB eB hB rb ⊢
  have revp : ∃ l1, p.reverse = r :: l1 := by
    have e := head_rev (l := p)
    rw [ra] at e
    cases hp : p.reverse with
    | nil => rw [hp] at e; cases e
    | cons x l => rw [hp] at e; cases e; exact ⟨l, rfl⟩
  have revq : ∃ l1, q.reverse = r :: l1 := by
    have e := head_rev (l := q)
    rw [rb] at e
    cases hp : q.reverse with
    | nil => rw [hp] at e; cases e
    | cons x l => rw [hp] at e; cases e; exact ⟨l, rfl⟩
  obtain ⟨l1, e1⟩ := revp
  obtain ⟨k1, e2⟩ := revq
  obtain ⟨π, z, l', k', et, el, ek, hh⟩ := trim_spec l1 k1 r
  rw [e1, e2, et]
  rw [← e1] at el
  rw [← e2] at ek
  have ep : p = l'.reverse ++ z :: π.reverse := by
    have := congrArg List.reverse el
    rw [List.reverse_reverse, List.reverse_append, List.reverse_cons, List.append_assoc] at this
    exact this
  have eq : q = k'.reverse ++ z :: π.reverse := by
    have := congrArg List.reverse ek
    rw [List.reverse_reverse, List.reverse_append, List.reverse_cons, List.append_assoc] at this
    exact this
  have ering : (z :: l').reverse ++ (z :: k').drop 1 = l'.reverse ++ z :: k' := by
    rw [List.reverse_cons, List.append_assoc]
    rfl
  show RingOk n ts ((z :: l').reverse ++ (z :: k').drop 1)
  rw [ering]
  -- the chain
  have ch1 : Ch (fun x y => Tied ts x y ∧ ∃ c d, lk sd x = some c ∧ lk sd y = some d ∧ c ≠ d) (l'.reverse ++ [z]) := by rw [ep] at stA; exact stA.pre
  have sym : ∀ x y, (Tied ts x y ∧ ∃ c d, lk sd x = some c ∧ lk sd y = some d ∧ c ≠ d) → (Tied ts y x ∧ ∃ c d, lk sd y = some c ∧ lk sd x = some d ∧ c ≠ d) := fun x y ⟨t, c, d, f1, f2, f3⟩ => ⟨t.symm, d, c, f2, f1, Ne.symm f3⟩
  have ch2 : Ch (fun x y => Tied ts x y ∧ ∃ c d, lk sd x = some c ∧ lk sd y = some d ∧ c ≠ d) (z :: k') := by
    rw [eq] at stB
    have q := Ch.rev sym stB.pre
    rw [List.reverse_append, List.reverse_reverse] at q
    exact q
  have ch := Ch.glue ch2 ch1
  -- its ends
  have hd : (l'.reverse ++ z :: k').head? = some a := by
    rw [← hA, ep]
    cases l'.reverse with
    | nil => rfl
    | cons x l => rfl
  have la : (l'.reverse ++ z :: k').getLast? = some b := by
    have e : (z :: k').getLast? = some b := by
      rw [← hB, eq, ← head_rev, List.reverse_cons]
      cases k'.reverse with
      | nil => rfl
      | cons x l => rfl
    rw [List.getLast?_append, e]
    rfl
  have par := Ch.par (col := fun x => (lk sd x).getD 0) (fun x y ⟨_, c, d, f1, f2, f3⟩ => by
    show (lk sd x).getD 0 ≠ (lk sd y).getD 0 ∧ ((lk sd x).getD 0 = 0 ∨ (lk sd x).getD 0 = 1) ∧ ((lk sd y).getD 0 = 0 ∨ (lk sd y).getD 0 = 1)
    rw [f1, f2]
    exact ⟨f3, h.c01 x c f1, h.c01 y d f2⟩) ch a b hd la
  obtain ⟨c, s1, s2⟩ := h.same
  have odd : (l'.reverse ++ z :: k').length % 2 = 1 := par.mp (by show (lk sd a).getD 0 = (lk sd b).getD 0; rw [s1, s2])
  have ne := (h.ti.bd ok).2.2
  have len : 3 ≤ (l'.reverse ++ z :: k').length := by
    refine Classical.byContradiction fun lt => ?_
    have one : (l'.reverse ++ z :: k').length = 1 := by omega
    obtain ⟨x, ex⟩ := List.length_eq_one_iff.mp one
    rw [ex] at hd la
    cases hd
    cases la
    exact ne rfl
  refine ⟨len, odd, fun v hv => ?_, ?_, ch.imp fun x y q => q.1, a, b, hd, la, h.ti⟩
  · obtain ⟨w, hw⟩ := ch.mem (by omega) v hv
    rcases hw with hw | hw
    · exact (hw.1.bd ok).1
    · exact (hw.1.bd ok).2.1
  · rw [ep] at ndA
    rw [eq] at ndB
    obtain ⟨n1, n2, n3⟩ := List.nodup_append.mp ndA
    obtain ⟨m1, m2, m3⟩ := List.nodup_append.mp ndB
    have zk : z ∉ k' := fun zz => m3 z (List.mem_reverse.mpr zz) z List.mem_cons_self rfl
    refine List.nodup_append.mpr ⟨n1, List.nodup_cons.mpr ⟨zk, by rw [← List.reverse_reverse k']; exact List.pairwise_reverse.mpr (m1.imp Ne.symm)⟩, fun x hx y hy e => ?_⟩
    subst e
    rcases List.mem_cons.mp hy with rfl | hy
    · exact n3 x hx x List.mem_cons_self rfl
    · have hx := List.mem_reverse.mp hx
      obtain ⟨s1, t1, f1⟩ := List.append_of_mem hx
      obtain ⟨s2, t2, f2⟩ := List.append_of_mem hy
      have g1 := fA (x := a) (y := x) (pre := t1.reverse) (post := s1.reverse ++ z :: π.reverse) (by rw [hpA, ep, f1, List.reverse_append, List.reverse_cons, List.append_assoc, List.append_assoc]; rfl)
      have g2 := fA (x := b) (y := x) (pre := t2.reverse) (post := s2.reverse ++ z :: π.reverse) (by rw [hpB, eq, f2, List.reverse_append, List.reverse_cons, List.append_assoc, List.append_assoc]; rfl)
      rw [g1] at g2
      injection g2 with _ g3
      have g4 := List.append_cancel_right g3
      have g5 : s1 = s2 := by rw [← List.reverse_reverse s1, g4, List.reverse_reverse]
      subst g5
      cases s1 with
      | nil => exact hh x x (by rw [f1]; rfl) (by rw [f2]; rfl) rfl
      | cons u s => exact hh u u (by rw [f1]; rfl) (by rw [f2]; rfl) rfl
end K78


set_option Elab.async false
set_option linter.all false
set_option maxRecDepth 100000
set_option maxHeartbeats 4000000
namespace K78
open PySem PySem.Spec PyProof.Rows L2 Zd
local macro_rules | `(tactic| walk_at "z") => `(tactic| with_reducible first
  | refine w_seq ?_ | refine w_set ?_ | refine w_c ?_ | refine w_op ?_ | refine w_cons ?_ | refine w_nil ?_ | refine w_ret ?_ | refine w_call ?_ | refine w_tdin ?_ | refine w_test ?_ | refine w_blR ?_ | refine w_ntt ?_ | refine w_nff ?_
  | refine w_ifS ?_ | refine w_and ?_ | refine w_or ?_ | refine w_not ?_ | refine w_tup ?_ | refine w_lst ?_ | refine w_B ?_ | refine w_drop ?_ | refine w_asg ?_ | refine w_if ?_ | refine w_lstN ?_
  | refine w_add_ii ?_ | refine w_sub_ii ?_ | refine w_lt_ii ?_ | refine w_le_ii ?_ | refine w_gt_ii ?_ | refine w_ge_ii ?_ | refine w_eq_ii ?_ | refine w_ne_ii ?_ | refine w_isN ?_ | refine w_notN ?_
  | refine w_add_ll ?_ | refine w_add_tt ?_ | refine w_ix_l ?_ | refine w_ix_t ?_ | refine w_ix_f ?_ | refine w_mod_ii ?_ | refine w_div_ii ?_ | refine w_mul_ii ?_ | refine w_pow_ii ?_
  | refine w_andV ?_ | refine w_orV ?_ | refine w_notV ?_ | refine w_yes ?_ | refine w_tt ?_ | refine w_ff ?_
  | refine w_for ?_ | refine w_it1 ?_ | refine w_it2 ?_ | refine w_itS ?_ | refine w_lc ?_ | refine w_lcN ?_ | refine w_par ?_ | refine w_next ?_ | refine w_gd ?_ | refine w_iteT ?_ | refine w_iteF ?_ | refine w_gdC ?_ | refine w_gdN ?_
  | refine w_neg ?_ | refine w_negR ?_ | refine w_chain ?_ | refine w_cont ?_ | refine w_brk ?_ | refine w_retN ?_ | refine w_asgT ?_ | refine w_dget ?_ | refine w_dput ?_ | refine w_din ?_ | refine w_app ?_ | refine w_pop ?_ | refine w_cut ?_ | refine w_rev ?_ | refine w_while ?_ | refine w_dict ?_ | refine w_itE ?_ | refine w_fld ?_ | refine w_rg1 ?_ | refine w_rg2 ?_ | refine w_popAt ?_ | refine w_partN ?_ | refine w_partS ?_ | refine w_disp ?_ | refine w_pcons ?_ | refine w_pnil ?_ | refine w_fldS ?_ | refine w_par3 ?_ | refine w_sortSet ?_ | refine w_lenSet ?_ | refine w_gdDput ?_ | refine w_i0 ?_)
local macro_rules | `(tactic| walk_at "v") => `(tactic| ((with_reducible refine w_var (d := ?dv) ?hv ?_); (case hv => exact rfl)))
local macro_rules | `(tactic| walk_at "t") => `(tactic| ((with_reducible refine w_gdT ?hv ?_); (case hv => exact rfl)))
local macro_rules | `(tactic| walk_at "a") => `(tactic| ((with_reducible refine w_aug (x := ?xv) ?hv ?_); (case hv => exact rfl)))
local macro_rules | `(tactic| walk_at "l") => `(tactic| refine And.intro (Nat.le_of_ble_eq_true rfl) ?_)
local macro_rules | `(tactic| walk_at "zz") => `(tactic| ((try (with_reducible conv => whnf)); repeat (first | walk_at "z" | walk_at "v" | walk_at "l" | walk_at "t" | walk_at "a")))

theorem lk_nd {l : List (Int × Int)} {x d : Int} (nd : (keys l).Nodup) (h : (x, d) ∈ l) : lk l x = some d := by
  induction l with
  | nil => cases h
  | cons p l ih =>
    obtain ⟨a, b⟩ := p
    obtain ⟨n1, n2⟩ := List.nodup_cons.mp nd
    show (if a = x then some b else lk l x) = _
    rcases List.mem_cons.mp h with h | h
    · cases h
      rw [if_pos rfl]
    · rw [if_neg fun e => n1 (by rw [e]; exact List.mem_map.mpr ⟨(x, d), h, rfl⟩)]
      exact ih n2 h
theorem atI_last2 {α : Type} (xs : List α) (a b : α) : atI (xs ++ [a] ++ [b]) (-2) = some a := by
  have hl : (xs ++ [a] ++ [b]).length = xs.length + 2 := by simp
  have e : ixN (xs ++ [a] ++ [b]).length (-2) = some xs.length := by
    rw [hl]
    unfold ixN
    rw [if_neg (by omega), if_pos (by omega)]
    congr 1
    omega
  unfold atI
  rw [e]
  show (xs ++ [a] ++ [b])[xs.length]? = _
  rw [List.append_assoc, List.getElem?_append_right (Nat.le_refl _), Nat.sub_self]
  rfl
section
variable {P : Program} {w : World} {K : PySem.W.Frag} {mg : Str → Option Value} {base : Heap} {C : Addr}
/-! ### way_home -/
def spHome : SpD := fun ds μ Q => ∃ (ah : List (Int × Int)) (v : Int), ds = [dctD ah, .int v] ∧ (keys ah).Nodup ∧ Des ah.reverse ∧ ah.length ≤ 1000 ∧ ∀ a, μ a = none → Q (.adr a) (updM μ a (.lst ((home ah.reverse v).map .int)))
theorem ok_way_home (T : Txt K mg C) (F : Std K mg "way_home" s_way_home ["ahead", "place"]) : Def P w K mg base "way_home" 1 ["ahead", "place"] spHome := by
  refine F.def sc_way_home (fun ds μ Q h => ?_) fun cdv A outer s H E f hr => ⟨_, ((pssd_cons (psd_set (i := 2) sc_way_home.nd rfl (Or.inl rfl) (pd_lstN (pad_cons (pd_var 1) pad_nil)))
  (pssd_cons (psd_while PassesOwn.never (ptd_din (hu_of hr) (pd_ix (pd_var 2) (pd_neg pd_i)) (pd_var 0)) (pssd_one (psd_expr (pd_append (pd_var 2) (pd_dget (hu_of hr) (pd_var 0) (pd_ix (pd_var 2) (pd_neg pd_i)))))))
  (pssd_one (psd_ret (pd_var 2)))))), ?_⟩
  · obtain ⟨ah, v, rfl, _⟩ := h
    rfl
  · rintro ds μ Q ⟨ah, v0, rfl, nd, Ds, hl, q⟩
    walk_at "zz"
    intro p hp
    walk_at "zz"
    refine ⟨fun k ρ m => ∃ a r pre v, ρ = [some (dctD ah), some (.int v0), some (.adr p)] ∧ ah.reverse = a ++ r ∧ v ∉ keys a ∧ m = updM μ p (.lst ((pre ++ [v]).map .int)) ∧ home ah.reverse v0 = pre ++ home r v ∧ r.length = k ∧ pre.length + r.length ≤ ah.length,
      ⟨ah.length, [], ah.reverse, [], v0, rfl, rfl, (fun z => nomatch z), rfl, rfl, List.length_reverse, by rw [List.length_reverse]; exact Nat.le_of_eq (Nat.zero_add _)⟩, ?_⟩
    rintro k ρ m ⟨a, r, pre, v, rfl, er, hv, rfl, hh, rfl, hlen⟩
    have hm : (updM μ p (.lst ((pre ++ [v]).map .int))) p = some (.lst (pre.map D.int ++ [.int v])) := by rw [updM_same, List.map_append]; rfl
    walk_at "zz"
    refine ⟨-1, _, .int v, rfl, .inl (.inr (.inr ⟨p, rfl, hm⟩)), atI_last _ _, ?_⟩
    walk_at "zz"
    refine ⟨_, .inl v, (lk ah v).isSome, dctD_as ah, rfl, by rw [valD_kv]; cases lk ah v <;> rfl, ?_⟩
    refine w_bool (fun h => ?_) fun h => ?_
    · obtain ⟨u, hu⟩ := Option.isSome_iff_exists.mp h
      have mr : (v, u) ∈ r := by
        have m1 : (v, u) ∈ ah.reverse := List.mem_reverse.mpr (lk_mem hu)
        rw [er] at m1
        rcases List.mem_append.mp m1 with m1 | m1
        · exact absurd (List.mem_map.mpr ⟨_, m1, rfl⟩) hv
        · exact m1
      obtain ⟨b1, b2, rfl⟩ := List.append_of_mem mr
      have ndr : (keys (a ++ (b1 ++ (v, u) :: b2))).Nodup := by
        have : (keys ah.reverse).Nodup := by
          show (List.map (fun p : Int × Int => p.1) ah.reverse).Nodup
          rw [List.map_reverse]
          exact List.pairwise_reverse.mpr (nd.imp Ne.symm)
        rw [er] at this
        exact this
      have vb1 : v ∉ keys b1 := fun z => by
        have n2 : (keys (b1 ++ (v, u) :: b2)).Nodup := by
          have : keys (a ++ (b1 ++ (v, u) :: b2)) = keys a ++ keys (b1 ++ (v, u) :: b2) := List.map_append
          rw [this] at ndr
          exact (List.nodup_append.mp ndr).2.1
        have : keys (b1 ++ (v, u) :: b2) = keys b1 ++ v :: keys b2 := List.map_append
        rw [this] at n2
        exact (List.nodup_append.mp n2).2.2 v z v List.mem_cons_self rfl
      have er2 : ah.reverse = (a ++ b1) ++ (v, u) :: b2 := by rw [er, List.append_assoc]
      have un := Ds (a ++ b1) v u b2 er2
      refine ⟨fun ρ m => ∃ a r pre v, ρ = [some (dctD ah), some (.int v0), some (.adr p)] ∧ ah.reverse = a ++ r ∧ v ∉ keys a ∧ m = updM μ p (.lst ((pre ++ [v]).map .int)) ∧ home ah.reverse v0 = pre ++ home r v ∧ r.length = b2.length ∧ pre.length + r.length ≤ ah.length, fun ρ' μ' h => ⟨b2.length, by rw [List.length_append, List.length_cons]; omega, h⟩, ?_⟩
      walk_at "zz"
      refine ⟨p, rfl, ⟨_, hm⟩, ?_⟩
      walk_at "zz"
      refine ⟨-1, _, .int v, rfl, .inl (.inr (.inr ⟨p, rfl, hm⟩)), atI_last _ _, ?_⟩
      refine ⟨_, .inl v, .int u, dctD_as ah, rfl, by rw [valD_kv, hu]; rfl, ?_⟩
      rw [List.length_append, List.length_cons] at hlen
      refine ⟨_, hm, by rw [List.length_append, List.length_map, sizeLine_eq]; show pre.length + 1 < _; omega, ?_⟩
      refine ⟨a ++ b1 ++ [(v, u)], b2, pre ++ [v], u, rfl, by rw [er2, List.append_assoc (a ++ b1)]; rfl, fun z => ?_, ?_, ?_, rfl, by rw [List.length_append]; show pre.length + 1 + _ ≤ _; omega⟩
      · rcases key_app.mp z with z | z
        · exact un.1 z
        · exact un.2 z
      · rw [updM_updM, List.map_append, List.map_append]
        rfl
      · rw [hh, home_pass vb1, home_go, List.append_assoc]
        rfl
    · have hn : lk ah v = none := by cases e : lk ah v with
        | none => rfl
        | some _ => rw [e] at h; cases h
      have nk := lk_none.mp hn
      have nr : v ∉ keys r := fun z => nk (by
        obtain ⟨x, hx, ex⟩ := List.mem_map.mp z
        exact List.mem_map.mpr ⟨x, List.mem_reverse.mp (by rw [er]; exact List.mem_append_right _ hx), ex⟩)
      rw [home_end nr] at hh
      walk_at "zz"
      have e := q p hp
      rw [hh] at e
      exact RT.one e
/-! ### sides_of -/
def sdOf (sd : List (Int × Int)) (n : Nat) (c : Int) : List Int := (rngI n).filter fun v => lk sd v == some c
def sidesD (sd : List (Int × Int)) (n : Nat) : D := .tup [.tup ((sdOf sd n 0).map .int), .tup ((sdOf sd n 1).map .int)]
def toldD (n : Nat) (ts : List (Int × Int)) : D := match (bfs n ts).2 with
  | none => sidesD (bfs n ts).1.sd n
  | some _ => .non
def spSides (C : Addr) : SpD := fun ds μ Q => ∃ (n : Nat) (ts : List (Int × Int)), ds = [webD C n ts] ∧ OkT n ts ∧ n ≤ 1000 ∧ ts.length ≤ 1000 ∧ Q (toldD n ts) μ
theorem rngD_rngI (n : Nat) : rngD 0 n = (rngI n).map D.int := by
  unfold rngD rngI
  rw [List.map_map]
  refine List.map_congr_left fun i _ => ?_
  show D.int (0 + (i : Int)) = D.int i
  rw [Int.zero_add]
theorem filterMap_int (l : List Int) (f : Int → Bool) (F : D → Option D) (h : ∀ v ∈ l, F (.int v) = if f v then some (.int v) else none) : (l.map D.int).filterMap F = (l.filter f).map D.int := by
  induction l with
  | nil => rfl
  | cons v l ih =>
    have hv := h v List.mem_cons_self
    have ih := ih fun u hu => h u (List.mem_cons_of_mem _ hu)
    rw [List.map_cons, List.filterMap_cons, hv, List.filter_cons]
    cases f v
    · simpa using ih
    · simpa using ih
def selD (sd : List (Int × Int)) (c : Int) : D → Option D
  | .int v => if lk sd v == some c then some (.int v) else none
  | _ => none
theorem selD_all (sd : List (Int × Int)) (c : Int) (n : Nat) : (rngD 0 ((n : Int)).toNat).filterMap (selD sd c) = (sdOf sd n c).map .int := by
  rw [Int.toNat_natCast, rngD_rngI]
  exact filterMap_int _ _ _ fun v _ => rfl
theorem ok_sides_of (T : Txt K mg C) (F : Std K mg "sides_of" s_sides_of ["web"]) (h_colours_of : Def P w K mg base "colours_of" 2 ["web"] (spCol C)) : Def P w K mg base "sides_of" 3 ["web"] (spSides C) := by
  refine F.def sc_sides_of (fun ds μ Q h => ?_) fun cdv A outer s H E f hr => ⟨_, ((pssd_cons (psd_asg (pd_callF h_colours_of hr (by decide) (by rfl) (pad_cons (pd_var 0) pad_nil)) (pgd_tup rfl (pgsd_cons (pgd_name (i := 1) sc_sides_of.nd rfl (Or.inr rfl)) (pgsd_cons (pgd_name (i := 2) sc_sides_of.nd rfl (Or.inl rfl)) (pgsd_cons (pgd_name (i := 3) sc_sides_of.nd rfl (Or.inl rfl)) pgsd_nil)))))
  (pssd_cons (psd_if (ptd_notN (pd_var 3) pd_n) (pssd_one (psd_ret pd_n)) pssd_nil)
  (pssd_one (psd_ret (pd_tup (pad_cons (pd_tupleC (by rfl) T.tuple (pad_cons (pd_lc (own := [("place", 4)]) rfl sc_sides_of.nd (pid_range1 (by rfl) T.range (pad_cons (pd_fld T.cWeb T.nWeb_size (pd_var 0)) pad_nil)) (blkOk_by (N := n_sides_of) (sc := defScope s_sides_of) (own := [("place", 4)]) (by decide +kernel)) (fun _ _ _ _ _ => (pgd_name (i := 4) sc_sides_of.nd rfl (Or.inl rfl))) (fun _ _ _ _ _ => (ptsd_one (ptd_eq (pd_dget (hu_of hr) (pd_var 1) (pd_var 4)) pd_i (hr.units)))) (fun _ _ _ _ _ => (pd_var 4))) pad_nil)) (pad_cons (pd_tupleC (by rfl) T.tuple (pad_cons (pd_lc (own := [("place", 4)]) rfl sc_sides_of.nd (pid_range1 (by rfl) T.range (pad_cons (pd_fld T.cWeb T.nWeb_size (pd_var 0)) pad_nil)) (blkOk_by (N := n_sides_of) (sc := defScope s_sides_of) (own := [("place", 4)]) (by decide +kernel)) (fun _ _ _ _ _ => (pgd_name (i := 4) sc_sides_of.nd rfl (Or.inl rfl))) (fun _ _ _ _ _ => (ptsd_one (ptd_eq (pd_dget (hu_of hr) (pd_var 1) (pd_var 4)) pd_i (hr.units)))) (fun _ _ _ _ _ => (pd_var 4))) pad_nil)) pad_nil)))))))), ?_⟩
  · obtain ⟨n, ts, rfl, _⟩ := h
    rfl
  · rintro ds μ Q ⟨n, ts, rfl, ok, hn, hl, q⟩
    walk_at "zz"
    refine ⟨n, ts, rfl, ok, hn, hl, ?_⟩
    have law := bfs_law ok
    unfold toldD at q
    generalize bfs n ts = R at law q ⊢
    obtain ⟨s, w⟩ := R
    walk_at "zz"
    cases w with
    | some p =>
      obtain ⟨a, b⟩ := p
      refine w_tt ?_
      walk_at "zz"
      exact RT.one q
    | none =>
      obtain ⟨B, base⟩ := law.1 rfl
      have can := base.canon ok
      refine w_ff ?_
      have key : ∀ (c v : Int) (i : Nat) (hx : (rngD 0 ((n : Int)).toNat)[i]? = some (.int v)), ∃ d, lk s.sd v = some d := fun c v i hx => by
        obtain ⟨hi, e⟩ := rngD_get hx
        cases e
        exact lk_of_key (can.all _ (by omega) (by omega))
      walk_at "zz"
      refine ⟨_, .inl ⟨_, _, rfl, rfl⟩, ?_⟩
      walk_at "zz"
      refine ⟨n, rfl, by omega, by omega, ?_⟩
      refine lc_fm (selD s.sd 0) (rngD_small (by omega)) trivial (fun i x hx N hN => ?_) ?_
      · obtain ⟨hi, e⟩ := rngD_get hx
        rw [e] at hx hN ⊢
        obtain ⟨d, hd⟩ := key 0 _ i hx
        walk_at "zz"
        refine ⟨_, .inl (0 + (i : Int)), .int d, dctD_as _, rfl, by rw [valD_kv, hd]; rfl, ?_⟩
        have hN : N (if lk s.sd (0 + (i : Int)) == some 0 then some (.int (0 + (i : Int))) else none) μ := hN
        rw [hd] at hN
        walk_at "zz"
        refine w_dec (fun e => ?_) fun e => ?_
        · subst e
          walk_at "zz"
          exact hN
        · rw [if_neg (by simp [e])] at hN
          exact hN
      · walk_at "zz"
        rw [selD_all]
        refine ⟨_, _, rfl, .inl (.inl rfl), ?_⟩
        walk_at "zz"
        refine ⟨_, .inl ⟨_, _, rfl, rfl⟩, ?_⟩
        walk_at "zz"
        refine ⟨n, rfl, by omega, by omega, ?_⟩
        refine lc_fm (selD s.sd 1) (rngD_small (by omega)) trivial (fun i x hx N hN => ?_) ?_
        · obtain ⟨hi, e⟩ := rngD_get hx
          rw [e] at hx hN ⊢
          obtain ⟨d, hd⟩ := key 0 _ i hx
          walk_at "zz"
          refine ⟨_, .inl (0 + (i : Int)), .int d, dctD_as _, rfl, by rw [valD_kv, hd]; rfl, ?_⟩
          have hN : N (if lk s.sd (0 + (i : Int)) == some 1 then some (.int (0 + (i : Int))) else none) μ := hN
          rw [hd] at hN
          walk_at "zz"
          refine w_dec (fun e => ?_) fun e => ?_
          · subst e
            walk_at "zz"
            exact hN
          · rw [if_neg (by simp [e])] at hN
            exact hN
        · walk_at "zz"
          rw [selD_all]
          refine ⟨_, _, rfl, .inl (.inl rfl), ?_⟩
          walk_at "zz"
          exact RT.one q
/-! ### odd_round -/
def oddR (n : Nat) (ts : List (Int × Int)) : D := match bfs n ts with
  | (_, none) => .non
  | (s, some (a, b)) => .tup ((ringOf s.ah a b).map .int)
def spOdd (C : Addr) : SpD := fun ds μ Q => ∃ (n : Nat) (ts : List (Int × Int)), ds = [webD C n ts] ∧ OkT n ts ∧ n ≤ 1000 ∧ ts.length ≤ 1000 ∧ Q (oddR n ts) μ
theorem cut_one (l : List D) : Zd.cutD l (some 1) none = l.drop 1 := by
  unfold Zd.cutD
  have e1 : HT.sIx l.length 0 (some 1) = min 1 l.length := HT.sIx_nat l.length 0 1
  rw [e1, HT.sIx_none]
  cases l with
  | nil => rfl
  | cons x l =>
    have e2 : min 1 (x :: l).length = 1 := by rw [List.length_cons]; omega
    rw [e2]
    show List.take (l.length + 1 - 1) l = l
    rw [Nat.add_sub_cancel, List.take_length]
theorem trim_sl {l k : List Int} (h : l.length ≤ 1) : trim l k = (l, k) := by
  match l, h with
  | [], _ => simp [trim]
  | [x], _ => simp [trim]
theorem trim_sk {l k : List Int} (h : k.length ≤ 1) : trim l k = (l, k) := by
  match k, h with
  | [], _ => simp [trim]
  | [x], _ => simp [trim]
theorem home_len : ∀ (l : List (Int × Int)) (v : Int), (home l v).length ≤ l.length + 1
  | [], v => Nat.le_refl _
  | (a, b) :: l, v => by
    by_cases c : a = v
    · subst c
      rw [home_go, List.length_cons, List.length_cons]
      have := home_len l b
      omega
    · rw [home_skip c, List.length_cons]
      have := home_len l v
      omega
theorem ok_odd_round (T : Txt K mg C) (F : Std K mg "odd_round" s_odd_round ["web"]) (h_colours_of : Def P w K mg base "colours_of" 2 ["web"] (spCol C)) (h_way_home : Def P w K mg base "way_home" 1 ["ahead", "place"] spHome) : Def P w K mg base "odd_round" 3 ["web"] (spOdd C) := by
  refine F.def sc_odd_round (fun ds μ Q h => ?_) fun cdv A outer s H E f hr => ⟨_, ((pssd_cons (psd_asg (pd_callF h_colours_of hr (by decide) (by rfl) (pad_cons (pd_var 0) pad_nil)) (pgd_tup rfl (pgsd_cons (pgd_name (i := 1) sc_odd_round.nd rfl (Or.inl rfl)) (pgsd_cons (pgd_name (i := 2) sc_odd_round.nd rfl (Or.inl rfl)) (pgsd_cons (pgd_name (i := 3) sc_odd_round.nd rfl (Or.inl rfl)) pgsd_nil)))))
  (pssd_cons (psd_if (ptd_isN (pd_var 3) pd_n) (pssd_one (psd_ret pd_n)) pssd_nil)
  (pssd_cons (psd_set (i := 4) sc_odd_round.nd rfl (Or.inl rfl) (pd_callF h_way_home hr (by decide) (by rfl) (pad_cons (pd_var 2) (pad_cons (pd_ix (pd_var 3) pd_i) pad_nil))))
  (pssd_cons (psd_set (i := 5) sc_odd_round.nd rfl (Or.inl rfl) (pd_callF h_way_home hr (by decide) (by rfl) (pad_cons (pd_var 2) (pad_cons (pd_ix (pd_var 3) pd_i) pad_nil))))
  (pssd_cons (psd_while PassesOwn.never (PWD.pt (pwd_and (ptd_gt (pd_len (by rfl) T.len (pad_cons (pd_var 4) pad_nil)) pd_i) (pwd_and (ptd_gt (pd_len (by rfl) T.len (pad_cons (pd_var 5) pad_nil)) pd_i) (pwd_and1 (ptd_eq (pd_ix (pd_var 4) (pd_neg pd_i)) (pd_ix (pd_var 5) (pd_neg pd_i)) (hr.units)))))) (pssd_cons (psd_expr (pd_pop (pd_var 4)))
  (pssd_one (psd_expr (pd_pop (pd_var 5))))))
  (pssd_one (psd_ret (pd_tupleC (by rfl) T.tuple (pad_cons (pd_add (pd_var 4) (pd_cut false (pd_rev (pd_var 5)) (pod_some pd_i) pod_none)) pad_nil)))))))))), ?_⟩
  · obtain ⟨n, ts, rfl, _⟩ := h
    rfl
  · rintro ds μ Q ⟨n, ts, rfl, ok, hn, hl, q⟩
    walk_at "zz"
    refine ⟨n, ts, rfl, ok, hn, hl, ?_⟩
    have law := bfs_law ok
    unfold oddR at q
    generalize bfs n ts = R at law q ⊢
    obtain ⟨s, w⟩ := R
    walk_at "zz"
    cases w with
    | none =>
      refine w_tt ?_
      walk_at "zz"
      exact RT.one q
    | some p =>
      obtain ⟨a, b⟩ := p
      have hit := law.2 a b rfl
      have hah : s.ah.length ≤ 1000 := by
        have q1 := few_int (n := n) hit.ank fun v hv => by
          obtain ⟨p, hp, rfl⟩ := List.mem_map.mp hv
          exact ((hit.par p hp).1.bd ok).1
        have q2 : (keys s.ah).length = s.ah.length := List.length_map _
        have q3 : (keys s.ah).length ≤ n := q1
        omega
      refine w_ff ?_
      walk_at "zz"
      refine ⟨0, _, .int a, rfl, .inr rfl, rfl, ?_⟩
      walk_at "zz"
      refine ⟨s.ah, a, rfl, hit.ank, hit.ord, hah, fun p1 hp1 => ?_⟩
      walk_at "zz"
      refine ⟨1, _, .int b, rfl, .inr rfl, rfl, ?_⟩
      walk_at "zz"
      refine ⟨s.ah, b, rfl, hit.ank, hit.ord, hah, fun p2 hp2 => ?_⟩
      have ne : p1 ≠ p2 := by
        intro z
        subst z
        rw [updM_same] at hp2
        cases hp2
      have hp2' : μ p2 = none := by rw [updM_ne (Ne.symm ne)] at hp2; exact hp2
      have hlA := home_len s.ah.reverse a
      have hlB := home_len s.ah.reverse b
      rw [List.length_reverse] at hlA hlB
      have q : Q (.tup ((ringOf s.ah a b).map .int)) μ := q
      unfold ringOf at q
      walk_at "zz"
      generalize hTR : trim (home s.ah.reverse a).reverse (home s.ah.reverse b).reverse = TR at q
      refine ⟨fun f ρ m => ∃ l k, ρ = [some (webD C n ts), some (dctD s.sd), some (dctD s.ah), some (.tup [.int a, .int b]), some (.adr p1), some (.adr p2)] ∧ SubM μ m ∧ m p1 = some (.lst (l.reverse.map .int)) ∧ m p2 = some (.lst (k.reverse.map .int)) ∧ trim l k = TR ∧ l.length = f ∧ l.length ≤ 1001 ∧ k.length ≤ 1001,
        ⟨_, (home s.ah.reverse a).reverse, (home s.ah.reverse b).reverse, rfl, sub_upd (sub_upd (fun _ _ e => e) hp1 _) hp2' _, by rw [updM_ne ne, updM_same, List.reverse_reverse], by rw [updM_same, List.reverse_reverse], hTR, rfl, by rw [List.length_reverse]; omega, by rw [List.length_reverse]; omega⟩, ?_⟩
      rintro f ρ m ⟨l, k, rfl, sub, h1, h2, ht, rfl, hl1, hk1⟩
      have fin : Q (.tup ((TR.1.reverse ++ TR.2.drop 1).map .int)) μ := q
      have out : trim l k = (l, k) → dRet (dB rdTuple (dCons (dOp rdAdd (dVar 4) (dCut false (dRev (dVar 5)) (some (dC (.int 1))) none)) dNil)) { nx := fun x μ' => RT Q D.non μ', rt := RT Q } [some (webD C n ts), some (dctD s.sd), some (dctD s.ah), some (.tup [.int a, .int b]), some (.adr p1), some (.adr p2)] m := fun e => by
        rw [e] at ht
        rw [← ht] at fin
        walk_at "zz"
        refine ⟨_, .inr (.inr ⟨p2, rfl, h2⟩), ?_⟩
        walk_at "zz"
        refine ⟨_, .inl ⟨.inl rfl, w_ff ?_⟩⟩
        refine .inr (.inl ⟨_, _, .inr ⟨p1, rfl, h1⟩, .inl rfl, ?_, ?_⟩)
        · rw [cut_one, List.length_drop, List.length_reverse, List.length_map, List.length_map, List.length_reverse, List.length_reverse, sizeLine_eq]
          omega
        · walk_at "zz"
          refine ⟨_, _, rfl, .inl (.inl rfl), ?_⟩
          refine ⟨_, μ, sub, .refl _, ?_⟩
          rw [cut_one, ← List.map_reverse, List.reverse_reverse, ← List.map_drop, ← List.map_append]
          exact fin
      walk_at "zz"
      refine ⟨_, rfl, .inl ⟨_, .inl (.inr (.inr ⟨p1, rfl, h1⟩)), ?_⟩⟩
      rw [List.length_map, List.length_reverse]
      walk_at "zz"
      refine w_dec (fun g1 => ?_) fun g1 => ?_
      · walk_at "zz"
        refine ⟨_, rfl, .inl ⟨_, .inl (.inr (.inr ⟨p2, rfl, h2⟩)), ?_⟩⟩
        rw [List.length_map, List.length_reverse]
        walk_at "zz"
        refine w_dec (fun g2 => ?_) fun g2 => ?_
        · obtain ⟨x, c, r, rfl⟩ : ∃ x c r, l = x :: c :: r := by
            match l, g1 with
            | [], g => simp at g
            | [x], g => simp at g
            | x :: c :: r, _ => exact ⟨x, c, r, rfl⟩
          obtain ⟨y, d, t, rfl⟩ : ∃ x c r, k = x :: c :: r := by
            match k, g2 with
            | [], g => simp at g
            | [x], g => simp at g
            | x :: c :: r, _ => exact ⟨x, c, r, rfl⟩
          have j1 : m p1 = some (.lst ((r.reverse.map D.int ++ [.int c]) ++ [.int x])) := by rw [h1]; simp
          have j2 : m p2 = some (.lst ((t.reverse.map D.int ++ [.int d]) ++ [.int y])) := by rw [h2]; simp
          walk_at "zz"
          refine ⟨-2, _, .int c, rfl, .inl (.inr (.inr ⟨p1, rfl, j1⟩)), atI_last2 _ _ _, ?_⟩
          walk_at "zz"
          refine ⟨-2, _, .int d, rfl, .inl (.inr (.inr ⟨p2, rfl, j2⟩)), atI_last2 _ _ _, ?_⟩
          walk_at "zz"
          refine w_dec (fun e => ?_) fun e => ?_
          · subst e
            rw [trim_go] at ht
            refine ⟨fun ρ m => ∃ l k, ρ = [some (webD C n ts), some (dctD s.sd), some (dctD s.ah), some (.tup [.int a, .int b]), some (.adr p1), some (.adr p2)] ∧ SubM μ m ∧ m p1 = some (.lst (l.reverse.map .int)) ∧ m p2 = some (.lst (k.reverse.map .int)) ∧ trim l k = TR ∧ l.length = r.length + 1 ∧ l.length ≤ 1001 ∧ k.length ≤ 1001, fun ρ' μ' h => ⟨r.length + 1, by rw [List.length_cons, List.length_cons]; omega, h⟩, ?_⟩
            walk_at "zz"
            refine ⟨p1, _, _, rfl, j1, ?_⟩
            have j3 : (updM m p1 (.lst (r.reverse.map D.int ++ [.int c]))) p2 = some (.lst ((t.reverse.map D.int ++ [.int c]) ++ [.int y])) := by rw [updM_ne (Ne.symm ne)]; exact j2
            walk_at "zz"
            refine ⟨p2, _, _, rfl, j3, ?_⟩
            rw [List.length_cons, List.length_cons] at hl1 hk1
            refine ⟨c :: r, c :: t, rfl, sub_upd (sub_upd sub hp1 _) hp2' _, ?_, ?_, ht, rfl, by rw [List.length_cons]; omega, by rw [List.length_cons]; omega⟩
            · rw [updM_ne ne, updM_same]
              simp
            · rw [updM_same]
              simp
          · exact out (trim_stop e)
        · exact out (trim_sk (by omega))
      · refine w_ff (out (trim_sl (by omega)))
end
end K78


set_option Elab.async false
set_option linter.all false
set_option maxRecDepth 100000
set_option maxHeartbeats 4000000
namespace K78
open PySem PySem.Spec PyProof.Rows L2 Zd
local macro_rules | `(tactic| walk_at "z") => `(tactic| with_reducible first
  | refine w_seq ?_ | refine w_set ?_ | refine w_c ?_ | refine w_op ?_ | refine w_cons ?_ | refine w_nil ?_ | refine w_ret ?_ | refine w_call ?_ | refine w_tdin ?_ | refine w_test ?_ | refine w_blR ?_ | refine w_ntt ?_ | refine w_nff ?_
  | refine w_ifS ?_ | refine w_and ?_ | refine w_or ?_ | refine w_not ?_ | refine w_tup ?_ | refine w_lst ?_ | refine w_B ?_ | refine w_drop ?_ | refine w_asg ?_ | refine w_if ?_ | refine w_lstN ?_
  | refine w_add_ii ?_ | refine w_sub_ii ?_ | refine w_lt_ii ?_ | refine w_le_ii ?_ | refine w_gt_ii ?_ | refine w_ge_ii ?_ | refine w_eq_ii ?_ | refine w_ne_ii ?_ | refine w_isN ?_ | refine w_notN ?_
  | refine w_add_ll ?_ | refine w_add_tt ?_ | refine w_ix_l ?_ | refine w_ix_t ?_ | refine w_ix_f ?_ | refine w_mod_ii ?_ | refine w_div_ii ?_ | refine w_mul_ii ?_ | refine w_pow_ii ?_
  | refine w_andV ?_ | refine w_orV ?_ | refine w_notV ?_ | refine w_yes ?_ | refine w_tt ?_ | refine w_ff ?_
  | refine w_for ?_ | refine w_it1 ?_ | refine w_it2 ?_ | refine w_itS ?_ | refine w_lc ?_ | refine w_lcN ?_ | refine w_par ?_ | refine w_next ?_ | refine w_gd ?_ | refine w_iteT ?_ | refine w_iteF ?_ | refine w_gdC ?_ | refine w_gdN ?_
  | refine w_neg ?_ | refine w_negR ?_ | refine w_chain ?_ | refine w_cont ?_ | refine w_brk ?_ | refine w_retN ?_ | refine w_asgT ?_ | refine w_dget ?_ | refine w_dput ?_ | refine w_din ?_ | refine w_app ?_ | refine w_pop ?_ | refine w_cut ?_ | refine w_rev ?_ | refine w_while ?_ | refine w_dict ?_ | refine w_itE ?_ | refine w_fld ?_ | refine w_rg1 ?_ | refine w_rg2 ?_ | refine w_popAt ?_ | refine w_partN ?_ | refine w_partS ?_ | refine w_disp ?_ | refine w_pcons ?_ | refine w_pnil ?_ | refine w_fldS ?_ | refine w_par3 ?_ | refine w_sortSet ?_ | refine w_lenSet ?_ | refine w_gdDput ?_ | refine w_i0 ?_)
local macro_rules | `(tactic| walk_at "v") => `(tactic| ((with_reducible refine w_var (d := ?dv) ?hv ?_); (case hv => exact rfl)))
local macro_rules | `(tactic| walk_at "t") => `(tactic| ((with_reducible refine w_gdT ?hv ?_); (case hv => exact rfl)))
local macro_rules | `(tactic| walk_at "a") => `(tactic| ((with_reducible refine w_aug (x := ?xv) ?hv ?_); (case hv => exact rfl)))
local macro_rules | `(tactic| walk_at "l") => `(tactic| refine And.intro (Nat.le_of_ble_eq_true rfl) ?_)
local macro_rules | `(tactic| walk_at "zz") => `(tactic| ((try (with_reducible conv => whnf)); repeat (first | walk_at "z" | walk_at "v" | walk_at "l" | walk_at "t" | walk_at "a")))

structure Nw (μ m : Mu) (b : Addr) (as : List Addr) (ts : List (Int × Int)) : Prop where
  sub : SubM μ m
  hb : m b = some (.lst (as.map .adr))
  row : ∀ i a, as[i]? = some a → m a = some (.lst ((rowN ts i).map .int))
theorem Nw.upd {μ m : Mu} {b : Addr} {as : List Addr} {ts : List (Int × Int)} (h : Nw μ m b as ts) {p : Addr} (hp : μ p = none) (h1 : p ≠ b) (h2 : p ∉ as) (o : MO) : Nw μ (updM m p o) b as ts :=
  ⟨sub_upd h.sub hp o, by rw [updM_ne (Ne.symm h1)]; exact h.hb, fun i a hi => by rw [updM_ne (by intro z; subst z; exact h2 (List.mem_of_getElem? hi))]; exact h.row i a hi⟩
theorem Nw.free {μ m : Mu} {b : Addr} {as : List Addr} {ts : List (Int × Int)} (h : Nw μ m b as ts) {p : Addr} (hp : m p = none) : μ p = none ∧ p ≠ b ∧ p ∉ as := by
  refine ⟨sub_none h.sub hp, (by intro z; subst z; rw [h.hb] at hp; cases hp), fun z => ?_⟩
  obtain ⟨i, hi⟩ := List.mem_iff_getElem?.mp z
  rw [h.row i p hi] at hp
  cases hp
def lsD (n : Nat) (ts : List (Int × Int)) : D := match dfs n ts with
  | (_, true) => .non
  | (s, false) => .lst ((rngI n).map fun v => .int ((lk s.sd v).getD 0))
section
variable {P : Program} {w : World} {K : PySem.W.Frag} {mg : Str → Option Value} {base : Heap} {C : Addr}
def spLSides : SpD := fun ds μ Q => ∃ (n : Nat) (d : D) (ts : List (Int × Int)), ds = [.int n, d] ∧ (∀ μ, SqD μ d (ts.map prI)) ∧ OkT n ts ∧ n ≤ 1000 ∧ ts.length ≤ 1000 ∧ Q (lsD n ts) μ
theorem ok_law_sides (T : Txt K mg C) (F : Std K mg "_law_sides" s_law_sides ["size", "ties"]) (h_law_near : Def P w K mg base "_law_near" 1 ["size", "ties"] spLNear) : Def P w K mg base "_law_sides" 2 ["size", "ties"] spLSides := by
  refine F.def sc_law_sides (fun ds μ Q h => ?_) fun cdv A outer s H E f hr => ⟨_, ((pssd_cons (psd_asg (pd_tup (pad_cons (pd_callF h_law_near hr (by decide) (by rfl) (pad_cons (pd_var 0) (pad_cons (pd_var 1) pad_nil))) (pad_cons pd_dictN pad_nil))) (pgd_tup rfl (pgsd_cons (pgd_name (i := 2) sc_law_sides.nd rfl (Or.inl rfl)) (pgsd_cons (pgd_name (i := 3) sc_law_sides.nd rfl (Or.inr rfl)) pgsd_nil))))
  (pssd_cons (psd_for PassesOwn.never rfl (pid_range1 (by rfl) T.range (pad_cons (pd_var 0) pad_nil)) (pgd_name (i := 4) sc_law_sides.nd rfl (Or.inl rfl)) (pssd_one (psd_if (ptd_dnotin (hu_of hr) (pd_var 4) (pd_var 3)) (pssd_cons (psd_asg (pd_tup (pad_cons pd_i (pad_cons (pd_lstN (pad_cons (pd_var 4) pad_nil)) pad_nil))) (pgd_tup rfl (pgsd_cons (pgd_dput (hu_of hr) (pd_var 3) (pd_var 4)) (pgsd_cons (pgd_name (i := 5) sc_law_sides.nd rfl (Or.inl rfl)) pgsd_nil))))
  (pssd_one (psd_while PassesOwn.never (ptd_ne (pd_var 5) (pd_lst pad_nil) (hr.units)) (pssd_cons (psd_set (i := 6) sc_law_sides.nd rfl (Or.inl rfl) (pd_pop (pd_var 5)))
  (pssd_one (psd_for PassesOwn.never rfl (pid_seq (pd_ix (pd_var 2) (pd_var 6))) (pgd_name (i := 7) sc_law_sides.nd rfl (Or.inl rfl)) (pssd_one (psd_if (ptd_dnotin (hu_of hr) (pd_var 7) (pd_var 3)) (pssd_cons (psd_dput (hu_of hr) (pd_var 3) (pd_var 7) (pd_sub pd_i (pd_dget (hu_of hr) (pd_var 3) (pd_var 6))))
  (pssd_one (psd_expr (pd_append (pd_var 5) (pd_var 7))))) (pssd_one (psd_if (ptd_eq (pd_dget (hu_of hr) (pd_var 3) (pd_var 7)) (pd_dget (hu_of hr) (pd_var 3) (pd_var 6)) (hr.units)) (pssd_one (psd_ret pd_n)) pssd_nil)))))))))) pssd_nil)))
  (pssd_one (psd_ret (pd_lc (own := [("i", 8)]) rfl sc_law_sides.nd (pid_range1 (by rfl) T.range (pad_cons (pd_var 0) pad_nil)) (blkOk_by (N := n_law_sides) (sc := defScope s_law_sides) (own := [("i", 8)]) (by decide +kernel)) (fun _ _ _ _ _ => (pgd_name (i := 8) sc_law_sides.nd rfl (Or.inl rfl))) (fun _ _ _ _ _ => ptsd_nil) (fun _ _ _ _ _ => (pd_dget (hu_of hr) (pd_var 3) (pd_var 8))))))))), ?_⟩
  · obtain ⟨n, d, ts, rfl, _⟩ := h
    rfl
  · rintro ds μ Q ⟨n, d, ts, rfl, hd, ok, hn, hl, q⟩
    walk_at "zz"
    refine ⟨n, d, ts, rfl, hd, ok, hn, hl, fun m0 b as hlen N0 => ?_⟩
    have N0 : Nw μ m0 b as ts := ⟨N0.sub, N0.hb, N0.row⟩
    walk_at "zz"
    intro p1 hp1
    obtain ⟨f1, f1b, f1a⟩ := N0.free hp1
    walk_at "zz"
    generalize hRA : dfs n ts = RA
    have hRA' := hRA
    refine ⟨n, rfl, by omega, by omega, fun i ρ m => ∃ s x4 x5 x6 x7 x8, ρ = [some (.int n), some d, some (.adr b), some (.adr p1), x4, x5, x6, x7, x8] ∧ BOk n s ∧ Nw μ m b as ts ∧ m p1 = some (.dct (kv s.sd)) ∧ dAll (rowsD ts) n ((rngI n).drop i) s = RA,
      ⟨⟨[], [], []⟩, _, _, _, _, _, rfl, .nil n, N0.upd f1 f1b f1a _, by rw [updM_same]; rfl, hRA⟩, ?_, ?_⟩
    · rintro i x ρ m hx ⟨s, x4, x5, x6, x7, x8, rfl, B, N, h1, hA⟩
      obtain ⟨hi, rfl⟩ := rngD_get hx
      have hi : i < n := by simpa using hi
      have edrop : (rngI n).drop i = (0 + (i : Int)) :: (rngI n).drop (i + 1) := by rw [rngI_drop hi, Int.zero_add]
      rw [edrop] at hA
      have hiR : 0 ≤ 0 + (i : Int) ∧ 0 + (i : Int) < n := by omega
      generalize 0 + (i : Int) = v at hA hiR ⊢
      refine ⟨trivial, ?_⟩
      walk_at "zz"
      refine ⟨_, .inl v, (lk s.sd v).isNone, .inr ⟨p1, rfl, h1⟩, rfl, by rw [valD_kv]; cases lk s.sd v <;> rfl, ?_⟩
      refine w_bool (fun h => ?_) fun h => ?_
      · have hk : lk s.sd v = none := Option.isNone_iff_eq_none.mp h
        have lenB := B.len
        walk_at "zz"
        intro p3 hp3
        obtain ⟨f3, f3b, f3a⟩ := N.free hp3
        have f31 : p3 ≠ p1 := by intro z; subst z; rw [h1] at hp3; cases hp3
        have h1' : (updM m p3 (.lst [.int v])) p1 = some (.dct (kv s.sd)) := by rw [updM_ne (Ne.symm f31)]; exact h1
        walk_at "zz"
        refine ⟨p1, _, .inl v, rfl, h1', rfl, by rw [kv_len, sizeLine_eq]; omega, ?_⟩
        rw [putD_kv hk]
        walk_at "zz"
        generalize hRW : dWh (rowsD ts) (n + 2) (s.root v) = RW
        refine ⟨fun f ρ m => ∃ s x6 x7 x8, ρ = [some (.int n), some d, some (.adr b), some (.adr p1), some (.int v), some (.adr p3), x6, x7, x8] ∧ BOk n s ∧ Nw μ m b as ts ∧ m p1 = some (.dct (kv s.sd)) ∧ m p3 = some (.lst (s.wt.map .int)) ∧ n + s.wt.length < f + s.sd.length ∧ dWh (rowsD ts) f s = RW,
          ⟨n + 2, s.root v, _, _, _, rfl, B.root hiR hk, (N.upd f3 f3b f3a _).upd f1 f1b f1a _, by rw [updM_same]; rfl, by rw [updM_ne f31, updM_same]; rfl, ?_, hRW⟩, ?_⟩
        · show n + 1 < n + 2 + (s.sd ++ [(v, 0)]).length
          omega
        rintro f ρ m2 ⟨s2, x6, x7, x8, rfl, B2, N2, h12, h32, hf, hW⟩
        have lenB2 := B2.len
        obtain ⟨f, rfl⟩ : ∃ f', f = f' + 1 := ⟨f - 1, by omega⟩
        walk_at "zz"
        refine ⟨_, _, .inr ⟨p3, _, rfl, h32, rfl⟩, .inl rfl, (Sm.ints _).dat (by decide), (Sm.ints []).dat (by decide), ?_⟩
        rw [eqD_nil]
        walk_at "zz"
        rcases Classical.em (s2.wt = []) with hw | hw
        · rw [hw]
          refine w_ff ?_
          rw [dWh_end hw] at hW
          rw [← hW] at hRW
          rw [dAll_go hk hRW] at hA
          exact ⟨s2, _, _, _, _, _, rfl, B2, N2, h12, hA⟩
        · obtain ⟨wt, here, ew⟩ : ∃ wt here, s2.wt = wt ++ [here] := ⟨s2.wt.dropLast, s2.wt.getLast hw, (List.dropLast_concat_getLast hw).symm⟩
          have hm : here ∈ s2.wt := by rw [ew]; exact List.mem_append_right _ (List.mem_singleton.mpr rfl)
          obtain ⟨c, hc⟩ := lk_of_key (B2.wk here hm)
          have hhb := B2.key (B2.wk here hm)
          have c01 : c = 0 ∨ c = 1 := (B2.bd _ (lk_mem hc)).2.2
          have h33 : m2 p3 = some (.lst (wt.map D.int ++ [.int here])) := by rw [h32, ew, List.map_append]; rfl
          have isn : (List.map D.int s2.wt).isEmpty = false := by rw [ew]; simp
          rw [isn]
          refine w_tt ?_
          obtain ⟨k, rfl⟩ : ∃ k : Nat, here = k := ⟨here.toNat, by omega⟩
          have ik : as[k]? = some as[k] := List.getElem?_eq_getElem (by omega)
          have at1 : atI (as.map D.adr) (k : Int) = some (.adr as[k]) := atI_nat (by rw [List.getElem?_map, ik]; rfl)
          refine ⟨fun ρ m => ∃ s x6 x7 x8, ρ = [some (.int n), some d, some (.adr b), some (.adr p1), some (.int v), some (.adr p3), x6, x7, x8] ∧ BOk n s ∧ Nw μ m b as ts ∧ m p1 = some (.dct (kv s.sd)) ∧ m p3 = some (.lst (s.wt.map .int)) ∧ n + s.wt.length < f + s.sd.length ∧ dWh (rowsD ts) f s = RW, fun ρ' μ' h => ⟨f, by omega, h⟩, ?_⟩
          walk_at "zz"
          refine ⟨p3, _, _, rfl, h33, ?_⟩
          have N3 := N2.upd f3 f3b f3a (.lst (wt.map .int))
          have h13 : (updM m2 p3 (.lst (wt.map .int))) p1 = some (.dct (kv s2.sd)) := by rw [updM_ne (Ne.symm f31)]; exact h12
          have h34 : (updM m2 p3 (.lst (wt.map D.int))) p3 = some (.lst (wt.map .int)) := updM_same
          generalize updM m2 p3 (.lst (wt.map .int)) = m3 at N3 h13 h34 ⊢
          walk_at "zz"
          refine ⟨k, _, _, rfl, .inl (.inr (.inr ⟨b, rfl, N3.hb⟩)), at1, ?_⟩
          have ew2 : s2.wt.length = wt.length + 1 := by rw [ew]; exact List.length_append
          generalize hRN : bNb (k : Int) c (rowsD ts k) ⟨s2.sd, s2.ah, wt⟩ = RN
          have cnt0 := bNb_count (here := (k : Int)) (c := c) (rowsD ts k) ⟨s2.sd, s2.ah, wt⟩
          rw [hRN] at cnt0
          refine ⟨_, .inl ⟨.inr (.inr ⟨_, rfl, N3.row k _ ik⟩), fun j ρ m => ∃ s x7 x8, ρ = [some (.int n), some d, some (.adr b), some (.adr p1), some (.int v), some (.adr p3), some (.int k), x7, x8] ∧ BOk n s ∧ Nw μ m b as ts ∧ m p1 = some (.dct (kv s.sd)) ∧ m p3 = some (.lst (s.wt.map .int)) ∧ lk s.sd k = some c ∧ bNb (k : Int) c ((rowsD ts k).drop j) s = RN,
            ⟨_, _, _, rfl, B2.pop ew, N3, h13, h34, hc, hRN⟩, ?_, ?_⟩⟩
          · rintro j x ρ m4 hx ⟨s3, x7, x8, rfl, B3, N4, h14, h35, hc3, hN⟩
            have hx : ((rowN ts k).map D.int)[j]? = some x := hx
            rw [List.getElem?_map] at hx
            obtain ⟨u, hu, rfl⟩ := Option.map_eq_some_iff.mp hx
            have hu : (rowsD ts k)[j]? = some u := hu
            have hub := rowsD_bd ok (List.mem_of_getElem? hu)
            obtain ⟨hjl, hju⟩ := List.getElem?_eq_some_iff.mp hu
            rw [List.drop_eq_getElem_cons hjl, hju] at hN
            have lenB := B3.len
            have wlB := B3.wlen
            refine ⟨.inr (.inr ⟨_, rfl, N4.row k _ ik⟩), ?_⟩
            walk_at "zz"
            refine ⟨_, .inl u, (lk s3.sd u).isNone, .inr ⟨p1, rfl, h14⟩, rfl, by rw [valD_kv]; cases lk s3.sd u <;> rfl, ?_⟩
            refine w_bool (fun h => ?_) fun h => ?_
            · have hk3 : lk s3.sd u = none := Option.isNone_iff_eq_none.mp h
              rw [bNb_new hk3] at hN
              walk_at "zz"
              refine ⟨_, .inl (k : Int), .int c, .inr ⟨p1, rfl, h14⟩, rfl, by rw [valD_kv, hc3]; rfl, ?_⟩
              walk_at "zz"
              refine ⟨p1, _, .inl u, rfl, h14, rfl, by rw [kv_len, sizeLine_eq]; omega, ?_⟩
              rw [putD_kv hk3]
              have h36 : (updM m4 p1 (.dct (kv (s3.sd ++ [(u, 1 - c)])))) p3 = some (.lst (s3.wt.map .int)) := by rw [updM_ne f31]; exact h35
              walk_at "zz"
              refine ⟨p3, rfl, ⟨_, h36⟩, ?_⟩
              walk_at "zz"
              refine ⟨_, h36, by rw [List.length_map, sizeLine_eq]; omega, ?_⟩
              refine ⟨s3.add k c u, _, _, rfl, B3.add c01 hub hk3, (N4.upd f1 f1b f1a _).upd f3 f3b f3a _, by rw [updM_ne (Ne.symm f31), updM_same]; rfl, ?_, lk_old hc3, hN⟩
              rw [updM_same]
              show _ = some (MO.lst ((s3.wt ++ [u]).map .int))
              rw [List.map_append]
              rfl
            · obtain ⟨e, he⟩ : ∃ e, lk s3.sd u = some e := by cases e : lk s3.sd u with
                | none => rw [e] at h; cases h
                | some d => exact ⟨d, rfl⟩
              walk_at "zz"
              refine ⟨_, .inl u, .int e, .inr ⟨p1, rfl, h14⟩, rfl, by rw [valD_kv, he]; rfl, ?_⟩
              walk_at "zz"
              refine ⟨_, .inl (k : Int), .int c, .inr ⟨p1, rfl, h14⟩, rfl, by rw [valD_kv, hc3]; rfl, ?_⟩
              walk_at "zz"
              refine w_dec (fun z => ?_) fun z => ?_
              · subst z
                rw [bNb_hit he] at hN
                rw [← hN] at hRN
                rw [dWh_hit ew hc hRN] at hW
                rw [← hW] at hRW
                rw [dAll_hit hk hRW] at hA
                walk_at "zz"
                unfold lsD at q
                rw [hRA', ← hA] at q
                exact ⟨_, μ, N4.sub, .refl _, q⟩
              · rw [bNb_skip he z] at hN
                exact ⟨s3, _, _, rfl, B3, N4, h14, h35, hc3, hN⟩
          · rintro ρ m4 ⟨s3, x7, x8, rfl, B3, N4, h14, h35, hc3, hN⟩
            refine ⟨.inr (.inr ⟨_, rfl, N4.row k _ ik⟩), ?_⟩
            have el : ({ items := (rowN ts k).map D.int, live := fun μ => AsL μ (D.adr as[k]) ((rowN ts k).map D.int) } : ItD).items.length = (rowsD ts k).length := List.length_map _
            rw [el, List.drop_length] at hN
            have hN : (s3, none) = RN := hN
            rw [← hN] at hRN cnt0
            rw [dWh_go ew hc hRN] at hW
            exact ⟨s3, _, _, _, rfl, B3, N4, h14, h35, by simp only at cnt0; omega, hW⟩
      · obtain ⟨e, he⟩ : ∃ e, lk s.sd v = some e := by cases e : lk s.sd v with
          | none => rw [e] at h; cases h
          | some d => exact ⟨d, rfl⟩
        rw [dAll_skip he] at hA
        exact ⟨s, _, _, _, _, _, rfl, B, N, h1, hA⟩
    · rintro ρ m ⟨s, x4, x5, x6, x7, x8, rfl, B, N, h1, hA⟩
      refine ⟨trivial, ?_⟩
      rw [rngD_len] at hA
      have e : (rngI n).drop (Int.toNat n) = [] := List.drop_eq_nil_of_le (by rw [rngI_len]; omega)
      rw [e] at hA
      have hA : (s, false) = RA := hA
      have law := dfs_law ok
      rw [hRA', ← hA] at law
      have can := (law.1 rfl).2.canon ok
      unfold lsD at q
      rw [hRA', ← hA] at q
      walk_at "zz"
      refine ⟨n, rfl, by omega, by omega, ?_⟩
      refine lc_ix ((rngI n).map fun v => .int ((lk s.sd v).getD 0)) ?_ (rngD_small (by omega)) trivial (fun i x y hx hy N' hN => ?_) ?_
      · rw [List.length_map, rngI_len]
        show n = (rngD 0 (Int.toNat n)).length
        rw [rngD_len]
        omega
      · have hx : (rngD 0 (Int.toNat n))[i]? = some x := hx
        obtain ⟨hi, rfl⟩ := rngD_get hx
        obtain ⟨d, hd⟩ := lk_of_key (can.all (0 + (i : Int)) (by omega) (by omega))
        rw [List.getElem?_map] at hy
        obtain ⟨z, hz, rfl⟩ := Option.map_eq_some_iff.mp hy
        have ez : z = 0 + (i : Int) := by
          unfold rngI at hz
          rw [List.getElem?_map, List.getElem?_range (by omega)] at hz
          have e : (i : Int) = z := Option.some.inj hz
          omega
        subst ez
        rw [hd] at hN
        walk_at "zz"
        exact ⟨_, .inl (0 + (i : Int)), .int d, .inr ⟨p1, rfl, h1⟩, rfl, by rw [valD_kv, hd]; rfl, hN⟩
      · exact ⟨_, μ, N.sub, .refl _, q⟩
end
end K78


set_option Elab.async false
set_option linter.all false
set_option maxRecDepth 100000
set_option maxHeartbeats 4000000
namespace K78
open PySem PySem.Spec PyProof.Rows L2 Zd
local macro_rules | `(tactic| walk_at "z") => `(tactic| with_reducible first
  | refine w_seq ?_ | refine w_set ?_ | refine w_c ?_ | refine w_op ?_ | refine w_cons ?_ | refine w_nil ?_ | refine w_ret ?_ | refine w_call ?_ | refine w_tdin ?_ | refine w_test ?_ | refine w_blR ?_ | refine w_ntt ?_ | refine w_nff ?_
  | refine w_ifS ?_ | refine w_and ?_ | refine w_or ?_ | refine w_not ?_ | refine w_tup ?_ | refine w_lst ?_ | refine w_B ?_ | refine w_drop ?_ | refine w_asg ?_ | refine w_if ?_ | refine w_lstN ?_
  | refine w_add_ii ?_ | refine w_sub_ii ?_ | refine w_lt_ii ?_ | refine w_le_ii ?_ | refine w_gt_ii ?_ | refine w_ge_ii ?_ | refine w_eq_ii ?_ | refine w_ne_ii ?_ | refine w_isN ?_ | refine w_notN ?_
  | refine w_add_ll ?_ | refine w_add_tt ?_ | refine w_ix_l ?_ | refine w_ix_t ?_ | refine w_ix_f ?_ | refine w_mod_ii ?_ | refine w_div_ii ?_ | refine w_mul_ii ?_ | refine w_pow_ii ?_
  | refine w_andV ?_ | refine w_orV ?_ | refine w_notV ?_ | refine w_yes ?_ | refine w_tt ?_ | refine w_ff ?_
  | refine w_for ?_ | refine w_it1 ?_ | refine w_it2 ?_ | refine w_itS ?_ | refine w_lc ?_ | refine w_lcN ?_ | refine w_par ?_ | refine w_next ?_ | refine w_gd ?_ | refine w_iteT ?_ | refine w_iteF ?_ | refine w_gdC ?_ | refine w_gdN ?_
  | refine w_neg ?_ | refine w_negR ?_ | refine w_chain ?_ | refine w_cont ?_ | refine w_brk ?_ | refine w_retN ?_ | refine w_asgT ?_ | refine w_dget ?_ | refine w_dput ?_ | refine w_din ?_ | refine w_app ?_ | refine w_pop ?_ | refine w_cut ?_ | refine w_rev ?_ | refine w_while ?_ | refine w_dict ?_ | refine w_itE ?_ | refine w_fld ?_ | refine w_rg1 ?_ | refine w_rg2 ?_ | refine w_popAt ?_ | refine w_partN ?_ | refine w_partS ?_ | refine w_disp ?_ | refine w_pcons ?_ | refine w_pnil ?_ | refine w_fldS ?_ | refine w_par3 ?_ | refine w_sortSet ?_ | refine w_lenSet ?_ | refine w_gdDput ?_ | refine w_i0 ?_)
local macro_rules | `(tactic| walk_at "v") => `(tactic| ((with_reducible refine w_var (d := ?dv) ?hv ?_); (case hv => exact rfl)))
local macro_rules | `(tactic| walk_at "t") => `(tactic| ((with_reducible refine w_gdT ?hv ?_); (case hv => exact rfl)))
local macro_rules | `(tactic| walk_at "a") => `(tactic| ((with_reducible refine w_aug (x := ?xv) ?hv ?_); (case hv => exact rfl)))
local macro_rules | `(tactic| walk_at "l") => `(tactic| refine And.intro (Nat.le_of_ble_eq_true rfl) ?_)
local macro_rules | `(tactic| walk_at "zz") => `(tactic| ((try (with_reducible conv => whnf)); repeat (first | walk_at "z" | walk_at "v" | walk_at "l" | walk_at "t" | walk_at "a")))

section
variable {P : Program} {w : World} {K : PySem.W.Frag} {mg : Str → Option Value} {base : Heap} {C : Addr}
def spIsInt : SpD := fun ds μ Q => ∃ i : Int, ds = [.int i] ∧ Q (.bl true) μ
theorem ok_law_is_int (T : Txt K mg C) (F : Std K mg "_law_is_int" s_law_is_int ["thing"]) : Def P w K mg base "_law_is_int" 1 ["thing"] spIsInt := by
  refine F.def sc_law_is_int (fun ds μ Q h => ?_) fun cdv A outer s H E f hr => ⟨_, ((pssd_one (psd_ret (pd_and (pd_isi (by rfl) T.isinstance (pad_cons (pd_var 0) (pad_cons (pd_c (pe_bltn (v := .ty "int") (by rfl) T.int (by decide +kernel) rfl) fun _ _ => .ty _) pad_nil))) (pd_one (pd_not (pd_isi (by rfl) T.isinstance (pad_cons (pd_var 0) (pad_cons (pd_c (pe_bltn (v := .ty "bool") (by rfl) T.bool (by decide +kernel) rfl) fun _ _ => .ty _) pad_nil))))))))), ?_⟩
  · obtain ⟨i, rfl, _⟩ := h
    rfl
  · rintro ds μ Q ⟨i, rfl, q⟩
    walk_at "zz"
    refine ⟨_, "int", .inl ⟨"int", rfl, by decide, rfl, ?_⟩⟩
    walk_at "zz"
    refine w_tt ?_
    walk_at "zz"
    refine ⟨_, "int", .inl ⟨"bool", rfl, by decide, rfl, ?_⟩⟩
    walk_at "zz"
    exact RT.one q
def spTied : SpD := fun ds μ Q => ∃ (n : Nat) (ts : List (Int × Int)) (i j : Int), ds = [.tup (ts.map prI), .int i, .int j] ∧ OkT n ts ∧ Tied ts i j ∧ Q (.bl true) μ
theorem tied_in {n : Nat} {ts : List (Int × Int)} (ok : OkT n ts) {i j : Int} (t : Tied ts i j) : (min i j, max i j) ∈ ts := by
  rcases t with t | t
  · have b := ok.bd _ t
    simp only at b
    rw [Int.min_eq_left (by omega), Int.max_eq_right (by omega)]
    exact t
  · have b := ok.bd _ t
    simp only at b
    rw [Int.min_eq_right (by omega), Int.max_eq_left (by omega)]
    exact t
theorem ok_law_tied (T : Txt K mg C) (F : Std K mg "_law_tied" s_law_tied ["ties", "i", "j"]) : Def P w K mg base "_law_tied" 1 ["ties", "i", "j"] spTied := by
  refine F.def sc_law_tied (fun ds μ Q h => ?_) fun cdv A outer s H E f hr => ⟨_, ((pssd_one (psd_ret (pd_in (pd_tup (pad_cons (pd_min2 rfl (by rfl) T.min (pad_cons (pd_var 1) (pad_cons (pd_var 2) pad_nil))) (pad_cons (pd_max2 rfl (by rfl) T.max (pad_cons (pd_var 1) (pad_cons (pd_var 2) pad_nil))) pad_nil))) (pd_var 0) (hu65 hr))))), ?_⟩
  · obtain ⟨n, ts, i, j, rfl, _⟩ := h
    rfl
  · rintro ds μ Q ⟨n, ts, i, j, rfl, ok, t, q⟩
    walk_at "zz"
    refine ⟨i, j, rfl, ?_⟩
    walk_at "zz"
    refine ⟨i, j, rfl, ?_⟩
    walk_at "zz"
    refine w_in_prT (p := (min i j, max i j)) ?_
    rw [if_neg Bool.false_ne_true, decide_eq_true (tied_in ok t)]
    exact RT.one q
def spRR : SpD := fun ds μ Q => ∃ (n : Nat) (ts : List (Int × Int)) (l : List Int), ds = [.int n, .tup (ts.map prI), .tup (l.map .int)] ∧ OkT n ts ∧ n ≤ 1000 ∧ RingOk n ts l ∧ Q (.bl true) μ
theorem all_true (n : Nat) : (List.replicate n true).all id = true := by
  induction n with
  | zero => rfl
  | succ n ih => rw [List.replicate_succ, List.all_cons, ih]; rfl
theorem map_true {α : Type} (l : List α) : l.map (fun _ => D.bl true) = (List.replicate l.length true).map D.bl := by
  induction l with
  | nil => rfl
  | cons x l ih => rw [List.map_cons, ih, List.length_cons, List.replicate_succ, List.map_cons]
theorem ok_law_round_right (T : Txt K mg C) (F : Std K mg "_law_round_right" s_law_round_right ["size", "ties", "value"]) (h_law_is_int : Def P w K mg base "_law_is_int" 1 ["thing"] spIsInt) (h_law_tied : Def P w K mg base "_law_tied" 1 ["ties", "i", "j"] spTied) :
    Def P w K mg base "_law_round_right" 2 ["size", "ties", "value"] spRR := by
  refine F.def sc_law_round_right (fun ds μ Q h => ?_) fun cdv A outer s H E f hr => ⟨_, ((pssd_cons (psd_if (PWD.pt (pwd_or (ptd_not (ptd_val (pd_isi (by rfl) T.isinstance (pad_cons (pd_var 2) (pad_cons (pd_c (pe_bltn (v := .ty "tuple") (by rfl) T.tuple (by decide +kernel) rfl) fun _ _ => .ty _) pad_nil))))) (pwd_or (ptd_lt (pd_len (by rfl) T.len (pad_cons (pd_var 2) pad_nil)) pd_i (hr.units0)) (pwd_or (ptd_eq (pd_mod (pd_int (by rfl) T.int (pad_cons (pd_len (by rfl) T.len (pad_cons (pd_var 2) pad_nil)) pad_nil)) pd_i) pd_i (hr.units)) (pwd_or1 (ptd_not (ptd_val (pd_all rfl (by rfl) T.all (pad_cons (pd_lc (own := [("i", 3)]) rfl sc_law_round_right.nd (pid_seq (pd_var 2)) (blkOk_by (N := n_law_round_right) (sc := defScope s_law_round_right) (own := [("i", 3)]) (by decide +kernel)) (fun _ _ _ _ _ => (pgd_name (i := 3) sc_law_round_right.nd rfl (Or.inl rfl))) (fun _ _ _ _ _ => ptsd_nil) (fun _ _ _ _ _ => (pd_and (pd_callF h_law_is_int hr (by decide) (by rfl) (pad_cons (pd_var 3) pad_nil)) (pd_one (pd_chain (op_le.or (op_leT hr.units0)) (op_lt.or (op_ltT hr.units0)) rs_leU rs_ltU pd_i (pd_var 3) (pd_var 0)))))) pad_nil))))))))) (pssd_one (psd_ret pd_b)) pssd_nil)
  (pssd_one (psd_ret (pd_and (pd_eq (pd_lenSet (by rfl) T.len (by rfl) T.set (pd_var 2)) (pd_len (by rfl) T.len (pad_cons (pd_var 2) pad_nil)) (hr.units)) (pd_one (pd_all rfl (by rfl) T.all (pad_cons (pd_lc (own := [("at", 4)]) rfl sc_law_round_right.nd (pid_range1 (by rfl) T.range (pad_cons (pd_len (by rfl) T.len (pad_cons (pd_var 2) pad_nil)) pad_nil)) (blkOk_by (N := n_law_round_right) (sc := defScope s_law_round_right) (own := [("at", 4)]) (by decide +kernel)) (fun _ _ _ _ _ => (pgd_name (i := 4) sc_law_round_right.nd rfl (Or.inl rfl))) (fun _ _ _ _ _ => ptsd_nil) (fun _ _ _ _ _ => (pd_callF h_law_tied hr (by decide) (by rfl) (pad_cons (pd_var 1) (pad_cons (pd_ix (pd_var 2) (pd_var 4)) (pad_cons (pd_ix (pd_var 2) (pd_sub (pd_var 4) pd_i)) pad_nil)))))) pad_nil)))))))), ?_⟩
  · obtain ⟨n, ts, l, rfl, _⟩ := h
    rfl
  · rintro ds μ Q ⟨n, ts, l, rfl, ok, hn, R, q⟩
    have ll : l.length ≤ n := few_int R.nd R.bd
    have l3 := R.len
    have lo := R.odd
    walk_at "zz"
    refine ⟨_, "tuple", .inl ⟨"tuple", rfl, by decide, rfl, ?_⟩⟩
    walk_at "zz"
    refine w_nff ?_
    walk_at "zz"
    refine ⟨_, rfl, .inl ⟨_, .inr rfl, ?_⟩⟩
    rw [List.length_map]
    walk_at "zz"
    refine w_dec (fun h => by omega) fun _ => ?_
    walk_at "zz"
    refine ⟨_, rfl, .inl ⟨_, .inr rfl, ?_⟩⟩
    rw [List.length_map]
    walk_at "zz"
    refine .inl ⟨_, rfl, ?_⟩
    walk_at "zz"
    refine ⟨by decide, ?_⟩
    walk_at "zz"
    refine w_dec (fun h => by rw [Int.fmod_eq_emod_of_nonneg _ (by decide)] at h; omega) fun _ => ?_
    walk_at "zz"
    refine itS_map (fun _ => D.bl true) (.inr rfl) (by rw [List.length_map]; omega) (fun i x hx N hN => ?_) ?_
    · rw [List.getElem?_map] at hx
      obtain ⟨v, hv, rfl⟩ := Option.map_eq_some_iff.mp hx
      have vb := R.bd v (List.mem_of_getElem? hv)
      walk_at "zz"
      refine ⟨v, rfl, ?_⟩
      walk_at "zz"
      refine w_dec (fun _ => ?_) fun h => by omega
      walk_at "zz"
      rw [decide_eq_true (show v < (n : Int) by omega)]
      exact hN
    · walk_at "zz"
      rw [map_true]
      refine ⟨_, _, rfl, .inl rfl, ?_⟩
      rw [all_true]
      walk_at "zz"
      refine ⟨l, rfl, by omega, fun out nd mem => ?_⟩
      have el : out.length = l.length := ((List.perm_ext_iff_of_nodup nd R.nd).mpr mem).length_eq
      rw [el]
      walk_at "zz"
      refine ⟨_, rfl, .inl ⟨_, .inr rfl, ?_⟩⟩
      rw [List.length_map]
      walk_at "zz"
      refine w_dec (fun _ => ?_) fun h => absurd rfl h
      walk_at "zz"
      refine ⟨_, rfl, .inl ⟨_, .inr rfl, ?_⟩⟩
      rw [List.length_map]
      walk_at "zz"
      refine ⟨l.length, rfl, by omega, by omega, ?_⟩
      refine lc_map (fun _ => D.bl true) (rngD_small (by omega)) trivial (fun i x hx N hN => ?_) ?_
      · obtain ⟨hi, rfl⟩ := rngD_get hx
        have hi : i < l.length := by omega
        obtain ⟨x, hx⟩ : ∃ x, l[i]? = some x := ⟨_, List.getElem?_eq_getElem hi⟩
        rw [Int.zero_add]
        have at0 : atI (l.map D.int) (i : Int) = some (.int x) := atI_nat (by rw [List.getElem?_map, hx]; rfl)
        have at1 : ∃ y, atI (l.map D.int) ((i : Int) - 1) = some (.int y) ∧ Tied ts x y := by
          cases i with
          | zero =>
            obtain ⟨a, b, e1, e2, t⟩ := R.ends
            have ea : x = a := by
              rw [List.head?_eq_getElem?, hx] at e1
              exact Option.some.inj e1
            subst ea
            refine ⟨b, ?_, t⟩
            have es : l = l.dropLast ++ [b] := by
              have ne : l ≠ [] := by intro z; rw [z] at l3; simp at l3
              rw [List.getLast?_eq_getLast ne] at e2
              rw [← Option.some.inj e2, List.dropLast_concat_getLast]
            rw [es, List.map_append]
            exact atI_last _ _
          | succ k =>
            obtain ⟨y, hy⟩ : ∃ y, l[k]? = some y := ⟨_, List.getElem?_eq_getElem (by omega)⟩
            refine ⟨y, ?_, (R.ch.get k y x hy hx).symm⟩
            have e : ((k + 1 : Nat) : Int) - 1 = (k : Nat) := by omega
            rw [e]
            exact atI_nat (by rw [List.getElem?_map, hy]; rfl)
        obtain ⟨y, at1, t⟩ := at1
        walk_at "zz"
        refine ⟨_, at0, ?_⟩
        walk_at "zz"
        refine ⟨_, at1, ?_⟩
        exact ⟨n, ts, x, y, rfl, ok, t, hN⟩
      · walk_at "zz"
        rw [map_true]
        refine ⟨_, _, rfl, .inl rfl, ?_⟩
        rw [all_true]
        exact RT.one q
end
end K78


set_option Elab.async false
set_option linter.all false
set_option maxRecDepth 100000
set_option maxHeartbeats 4000000
namespace K78
open PySem PySem.Spec PyProof.Rows L2 Zd
local macro_rules | `(tactic| walk_at "z") => `(tactic| with_reducible first
  | refine w_seq ?_ | refine w_set ?_ | refine w_c ?_ | refine w_op ?_ | refine w_cons ?_ | refine w_nil ?_ | refine w_ret ?_ | refine w_call ?_ | refine w_tdin ?_ | refine w_test ?_ | refine w_blR ?_ | refine w_ntt ?_ | refine w_nff ?_
  | refine w_ifS ?_ | refine w_and ?_ | refine w_or ?_ | refine w_not ?_ | refine w_tup ?_ | refine w_lst ?_ | refine w_B ?_ | refine w_drop ?_ | refine w_asg ?_ | refine w_if ?_ | refine w_lstN ?_
  | refine w_add_ii ?_ | refine w_sub_ii ?_ | refine w_lt_ii ?_ | refine w_le_ii ?_ | refine w_gt_ii ?_ | refine w_ge_ii ?_ | refine w_eq_ii ?_ | refine w_ne_ii ?_ | refine w_isN ?_ | refine w_notN ?_
  | refine w_add_ll ?_ | refine w_add_tt ?_ | refine w_ix_l ?_ | refine w_ix_t ?_ | refine w_ix_f ?_ | refine w_mod_ii ?_ | refine w_div_ii ?_ | refine w_mul_ii ?_ | refine w_pow_ii ?_
  | refine w_andV ?_ | refine w_orV ?_ | refine w_notV ?_ | refine w_yes ?_ | refine w_tt ?_ | refine w_ff ?_
  | refine w_for ?_ | refine w_it1 ?_ | refine w_it2 ?_ | refine w_itS ?_ | refine w_lc ?_ | refine w_lcN ?_ | refine w_par ?_ | refine w_next ?_ | refine w_gd ?_ | refine w_iteT ?_ | refine w_iteF ?_ | refine w_gdC ?_ | refine w_gdN ?_
  | refine w_neg ?_ | refine w_negR ?_ | refine w_chain ?_ | refine w_cont ?_ | refine w_brk ?_ | refine w_retN ?_ | refine w_asgT ?_ | refine w_dget ?_ | refine w_dput ?_ | refine w_din ?_ | refine w_app ?_ | refine w_pop ?_ | refine w_cut ?_ | refine w_rev ?_ | refine w_while ?_ | refine w_dict ?_ | refine w_itE ?_ | refine w_fld ?_ | refine w_rg1 ?_ | refine w_rg2 ?_ | refine w_popAt ?_ | refine w_partN ?_ | refine w_partS ?_ | refine w_disp ?_ | refine w_pcons ?_ | refine w_pnil ?_ | refine w_fldS ?_ | refine w_par3 ?_ | refine w_sortSet ?_ | refine w_lenSet ?_ | refine w_gdDput ?_ | refine w_i0 ?_)
local macro_rules | `(tactic| walk_at "v") => `(tactic| ((with_reducible refine w_var (d := ?dv) ?hv ?_); (case hv => exact rfl)))
local macro_rules | `(tactic| walk_at "t") => `(tactic| ((with_reducible refine w_gdT ?hv ?_); (case hv => exact rfl)))
local macro_rules | `(tactic| walk_at "a") => `(tactic| ((with_reducible refine w_aug (x := ?xv) ?hv ?_); (case hv => exact rfl)))
local macro_rules | `(tactic| walk_at "l") => `(tactic| refine And.intro (Nat.le_of_ble_eq_true rfl) ?_)
local macro_rules | `(tactic| walk_at "zz") => `(tactic| ((try (with_reducible conv => whnf)); repeat (first | walk_at "z" | walk_at "v" | walk_at "l" | walk_at "t" | walk_at "a")))

/-! ### the pen -/
abbrev kc : Key := .inr "cells"
abbrev ka : Key := .inr "at"
abbrev kd : Key := .inr "digits"
abbrev kn : Key := .inr "count"
abbrev kf : Key := .inr "fold"
def penK (cells : List Int) (i g n f : Int) : List (Key × D) := [(kc, .lst (cells.map .int)), (ka, .int i), (kd, .int g), (kn, .int n), (kf, .int f)]
section
variable {c : List Int} {i g n f x : Int}
theorem pen_c : valD (penK c i g n f) kc = some (.lst (c.map .int)) := valD_hit
theorem pen_a : valD (penK c i g n f) ka = some (.int i) := (valD_go (by decide +kernel)).trans valD_hit
theorem pen_d : valD (penK c i g n f) kd = some (.int g) := (valD_go (by decide +kernel)).trans ((valD_go (by decide +kernel)).trans valD_hit)
theorem pen_n : valD (penK c i g n f) kn = some (.int n) := (valD_go (by decide +kernel)).trans ((valD_go (by decide +kernel)).trans ((valD_go (by decide +kernel)).trans valD_hit))
theorem pen_f : valD (penK c i g n f) kf = some (.int f) := (valD_go (by decide +kernel)).trans ((valD_go (by decide +kernel)).trans ((valD_go (by decide +kernel)).trans ((valD_go (by decide +kernel)).trans valD_hit)))
theorem ne_ca : (kc : Key) ≠ ka := by decide +kernel
theorem ne_cd : (kc : Key) ≠ kd := by decide +kernel
theorem ne_cn : (kc : Key) ≠ kn := by decide +kernel
theorem ne_cf : (kc : Key) ≠ kf := by decide +kernel
theorem ne_ad : (ka : Key) ≠ kd := by decide +kernel
theorem ne_an : (ka : Key) ≠ kn := by decide +kernel
theorem ne_af : (ka : Key) ≠ kf := by decide +kernel
theorem ne_dn : (kd : Key) ≠ kn := by decide +kernel
theorem ne_df : (kd : Key) ≠ kf := by decide +kernel
theorem ne_nf : (kn : Key) ≠ kf := by decide +kernel
theorem put_a : putD (penK c i g n f) ka (.int x) = penK c x g n f := by simp [putD, penK, ne_ca, ne_ad.symm, ne_an.symm, ne_af.symm, -reduceCtorEq, -Sum.inr.injEq]
theorem put_d : putD (penK c i g n f) kd (.int x) = penK c i x n f := by simp [putD, penK, ne_cd, ne_ad, ne_dn.symm, ne_df.symm, -reduceCtorEq, -Sum.inr.injEq]
theorem put_n : putD (penK c i g n f) kn (.int x) = penK c i g x f := by simp [putD, penK, ne_cn, ne_an, ne_dn, ne_nf.symm, -reduceCtorEq, -Sum.inr.injEq]
theorem put_f : putD (penK c i g n f) kf (.int x) = penK c i g n x := by simp [putD, penK, ne_cf, ne_af, ne_df, ne_nf, -reduceCtorEq, -Sum.inr.injEq]
end
theorem merge_pen {c : List Int} {i g n f : Int} : mergeD (penK c i g n f) = penK c i g n f := by
  simp [mergeD, penK, putD, ne_ca, ne_cd, ne_cn, ne_cf, ne_ad, ne_an, ne_af, ne_dn, ne_df, ne_nf, -reduceCtorEq, -Sum.inr.injEq]
/-- the pen at p, good for b more numbers -/
def Pn (μ : Mu) (p : Addr) (b : Nat) : Prop := ∃ (c : List Int) (i : Nat) (g n f : Int), μ p = some (.dct (penK c i g n f)) ∧ i ≤ c.length ∧ c.length ≤ 63 ∧ 0 ≤ g ∧ 0 ≤ n ∧ n + b ≤ 1099511627776 ∧ 0 ≤ f ∧ f < 4294967296
def Ex (p : Addr) (μ μ' : Mu) : Prop := ∀ x, x ≠ p → μ' x = μ x
theorem Ex.refl {p : Addr} {μ : Mu} : Ex p μ μ := fun _ _ => rfl
theorem Ex.trans {p : Addr} {μ μ1 μ2 : Mu} (h : Ex p μ μ1) (h' : Ex p μ1 μ2) : Ex p μ μ2 := fun x hx => (h' x hx).trans (h x hx)
theorem Ex.upd {p : Addr} {μ : Mu} {o : MO} : Ex p μ (updM μ p o) := fun x hx => updM_ne hx
theorem Pn.less {μ : Mu} {p : Addr} {b b' : Nat} (h : Pn μ p b) (l : b' ≤ b) : Pn μ p b' := by
  obtain ⟨c, i, g, n, f, e, h1, h2, h3, h4, h5, h6⟩ := h
  exact ⟨c, i, g, n, f, e, h1, h2, h3, h4, by omega, h6⟩
section
variable {P : Program} {w : World} {K : PySem.W.Frag} {mg : Str → Option Value} {base : Heap} {C : Addr}
def spPen : SpD := fun ds μ Q => ∃ (ns : List Int), ds = [.frz (ns.map .int)] ∧ ns.length ≤ 63 ∧ ∀ p μ', μ p = none → Pn μ' p 1000000 → Ex p μ μ' → Q (.adr p) μ'
theorem ok_law_pen (T : Txt K mg C) (F : Std K mg "_law_pen" s_law_pen ["script"]) : Def P w K mg base "_law_pen" 1 ["script"] spPen := by
  refine F.def sc_law_pen (fun ds μ Q h => ?_) fun cdv A outer s H E f hr => ⟨_, ((pssd_cons (psd_set (i := 1) sc_law_pen.nd rfl (Or.inl rfl) pd_i)
  (pssd_cons (psd_for PassesOwn.never rfl (pid_seq (pd_var 0)) (pgd_name (i := 2) sc_law_pen.nd rfl (Or.inl rfl)) (pssd_one (psd_set (i := 1) sc_law_pen.nd rfl (Or.inl rfl) (pd_mod (pd_int (by rfl) T.int (pad_cons (pd_add (pd_mul (pd_var 1) pd_i) (pd_var 2)) pad_nil)) pd_i))))
  (pssd_one (psd_ret (pd_disp (ppd_cons pd_s (pd_listC false (by rfl) T.list (pad_cons (pd_var 0) pad_nil)) (ppd_cons pd_s pd_i (ppd_cons pd_s pd_i (ppd_cons pd_s pd_i (ppd_cons pd_s (pd_var 1) ppd_nil))))))))))), ?_⟩
  · obtain ⟨ns, rfl, _⟩ := h
    rfl
  · rintro ds μ Q ⟨ns, rfl, hn, q⟩
    walk_at "zz"
    refine itS_forA (fun _ => .inl (.inr (.inl rfl))) fun live lv => ⟨fun i ρ m => ∃ f x, ρ = [some (.frz (ns.map .int)), some (.int f), x] ∧ 0 ≤ f ∧ f < 4294967296 ∧ m = μ, ⟨0, _, rfl, by decide, by decide, rfl⟩, ?_, ?_⟩
    · rintro i x ρ m hx ⟨f, y, rfl, h1, h2, rfl⟩
      rw [List.getElem?_map] at hx
      obtain ⟨v, _, rfl⟩ := Option.map_eq_some_iff.mp hx
      refine ⟨lv _, ?_⟩
      walk_at "zz"
      refine ⟨.inr ⟨by decide, by decide⟩, ?_⟩
      walk_at "zz"
      refine .inl ⟨_, rfl, ?_⟩
      walk_at "zz"
      refine ⟨by decide, ?_⟩
      refine ⟨_, _, rfl, Int.fmod_nonneg_of_pos _ (by decide), ?_, rfl⟩
      have := Int.fmod_lt_of_pos (f * 59 + v) (b := 1000000009) (by decide)
      omega
    · rintro ρ m ⟨f, y, rfl, h1, h2, rfl⟩
      refine ⟨lv _, ?_⟩
      walk_at "zz"
      intro p hp
      walk_at "zz"
      refine ⟨_, _, rfl, .inl (.inr (.inl rfl)), w_ff ?_⟩
      walk_at "zz"
      refine ⟨updM_same, penK ns 0 0 0 f, rfl, by show 5 ≤ 15; decide, ?_⟩
      rw [updM_updM, merge_pen]
      exact RT.one (q p _ hp ⟨ns, 0, 0, 0, f, updM_same, Nat.zero_le _, hn, by decide, by decide, by decide, h1, h2⟩ Ex.upd)
def spDraw : SpD := fun ds μ Q => ∃ (p : Addr) (n b : Nat), ds = [.adr p, .int n] ∧ 1 ≤ n ∧ n ≤ 1000000 ∧ Pn μ p (b + 1) ∧ ∀ (d : Nat) μ', d < n → Pn μ' p b → Ex p μ μ' → Q (.int d) μ'
theorem ok_law_draw (T : Txt K mg C) (F : Std K mg "_law_draw" s_law_draw ["pen", "many"]) : Def P w K mg base "_law_draw" 1 ["pen", "many"] spDraw := by
  refine F.def sc_law_draw (fun ds μ Q h => ?_) fun cdv A outer s H E f hr => ⟨_, ((pssd_cons (psd_dput (hu_of hr) (pd_var 0) pd_s (pd_add (pd_dget (hu_of hr) (pd_var 0) pd_s) pd_i))
  (pssd_cons (psd_if (PWD.pt (pwd_and (ptd_eq (pd_dget (hu_of hr) (pd_var 0) pd_s) pd_i (hr.units)) (pwd_and1 (ptd_lt (pd_dget (hu_of hr) (pd_var 0) pd_s) (pd_len (by rfl) T.len (pad_cons (pd_dget (hu_of hr) (pd_var 0) pd_s) pad_nil)) (hr.units0))))) (pssd_cons (psd_set (i := 2) sc_law_draw.nd rfl (Or.inl rfl) (pd_ix (pd_dget (hu_of hr) (pd_var 0) pd_s) (pd_dget (hu_of hr) (pd_var 0) pd_s)))
  (pssd_cons (psd_dput (hu_of hr) (pd_var 0) pd_s (pd_add (pd_dget (hu_of hr) (pd_var 0) pd_s) pd_i))
  (pssd_one (psd_if (ptd_ge (pd_var 2) (pd_pow pd_i pd_i)) (pssd_one (psd_dput (hu_of hr) (pd_var 0) pd_s (pd_sub (pd_var 2) (pd_pow pd_i pd_i)))) (pssd_one (psd_dput (hu_of hr) (pd_var 0) pd_s (pd_mod (pd_int (by rfl) T.int (pad_cons (pd_add (pd_mul (pd_dget (hu_of hr) (pd_var 0) pd_s) pd_i) (pd_var 2)) pad_nil)) pd_i))))))) pssd_nil)
  (pssd_cons (psd_if (ptd_gt (pd_dget (hu_of hr) (pd_var 0) pd_s) pd_i) (pssd_cons (psd_set (i := 3) sc_law_draw.nd rfl (Or.inl rfl) (pd_mod (pd_int (by rfl) T.int (pad_cons (pd_dget (hu_of hr) (pd_var 0) pd_s) pad_nil)) (pd_var 1)))
  (pssd_cons (psd_dput (hu_of hr) (pd_var 0) pd_s (pd_div (pd_dget (hu_of hr) (pd_var 0) pd_s) (pd_var 1)))
  (pssd_one (psd_ret (pd_var 3))))) pssd_nil)
  (pssd_cons (psd_set (i := 4) sc_law_draw.nd rfl (Or.inl rfl) (pd_add (pd_add (pd_dget (hu_of hr) (pd_var 0) pd_s) (pd_mul (pd_dget (hu_of hr) (pd_var 0) pd_s) pd_i)) pd_i))
  (pssd_one (psd_ret (pd_mod (pd_div (pd_int (by rfl) T.int (pad_cons (pd_mod (pd_pow (pd_var 4) pd_i) pd_i) pad_nil)) pd_i) (pd_var 1))))))))), ?_⟩
  · obtain ⟨p, n, b, rfl, _⟩ := h
    rfl
  · rintro ds μ Q ⟨p, k, b, rfl, k1, k2, ⟨c, i, g, n, f, e, h1, h2, h3, h4, h5, h6, h7⟩, q⟩
    walk_at "zz"
    refine ⟨_, kn, .int n, .inr ⟨p, rfl, e⟩, rfl, pen_n, ?_⟩
    walk_at "zz"
    refine ⟨p, _, kn, rfl, e, rfl, by show 5 < _; rw [sizeLine_eq]; decide, ?_⟩
    rw [put_n]
    with_reducible conv => whnf
    with_reducible refine w_seqI (fun ρ m => ∃ x2 c i g n f, ρ = [some (.adr p), some (.int k), x2, none, none] ∧ m p = some (.dct (penK c (i : Nat) g n f)) ∧ i ≤ c.length ∧ c.length ≤ 63 ∧ 0 ≤ g ∧ 0 ≤ n ∧ n + b ≤ 1099511627776 ∧ 0 ≤ f ∧ f < 4294967296 ∧ Ex p μ m) (fun ρ m hI => ?rest) (fun N hN => ?test)
    case test =>
      have e1 : (updM μ p (.dct (penK c i g (n + 1) f))) p = some (.dct (penK c i g (n + 1) f)) := updM_same
      have x1 : Ex p μ (updM μ p (.dct (penK c i g (n + 1) f))) := Ex.upd
      generalize updM μ p (.dct (penK c i g (n + 1) f)) = m1 at e1 x1 ⊢
      have n0 : 0 ≤ n + 1 := by omega
      have nb : n + 1 + b ≤ 1099511627776 := by omega
      generalize n + 1 = n at e1 n0 nb ⊢
      walk_at "zz"
      refine ⟨_, kd, .int g, .inr ⟨p, rfl, e1⟩, rfl, pen_d, ?_⟩
      walk_at "zz"
      refine w_dec (fun _ => ?_) fun _ => ?_
      · walk_at "zz"
        refine ⟨_, ka, .int i, .inr ⟨p, rfl, e1⟩, rfl, pen_a, ?_⟩
        walk_at "zz"
        refine ⟨_, kc, _, .inr ⟨p, rfl, e1⟩, rfl, pen_c, ?_⟩
        walk_at "zz"
        refine ⟨_, rfl, .inl ⟨_, .inl (.inl rfl), ?_⟩⟩
        rw [List.length_map]
        walk_at "zz"
        refine w_dec (fun hlt => ?_) fun _ => ?_
        · have hlt : i < c.length := by omega
          obtain ⟨v, hv⟩ : ∃ v, c[i]? = some v := ⟨_, List.getElem?_eq_getElem hlt⟩
          walk_at "zz"
          refine ⟨_, kc, _, .inr ⟨p, rfl, e1⟩, rfl, pen_c, ?_⟩
          walk_at "zz"
          refine ⟨_, ka, .int i, .inr ⟨p, rfl, e1⟩, rfl, pen_a, ?_⟩
          walk_at "zz"
          refine ⟨.int v, atI_nat (by rw [List.getElem?_map, hv]; rfl), ?_⟩
          walk_at "zz"
          refine ⟨_, ka, .int i, .inr ⟨p, rfl, e1⟩, rfl, pen_a, ?_⟩
          walk_at "zz"
          refine ⟨p, _, ka, rfl, e1, rfl, by show 5 < _; rw [sizeLine_eq]; decide, ?_⟩
          rw [put_a]
          have e2 : (updM m1 p (.dct (penK c ((i : Int) + 1) g n f))) p = some (.dct (penK c ((i : Int) + 1) g n f)) := updM_same
          have x2 : Ex p μ (updM m1 p (.dct (penK c ((i : Int) + 1) g n f))) := x1.trans Ex.upd
          generalize updM m1 p (.dct (penK c ((i : Int) + 1) g n f)) = m2 at e2 x2 ⊢
          walk_at "zz"
          refine ⟨⟨by decide, by decide, by decide⟩, ?_⟩
          walk_at "zz"
          refine w_dec (fun hge => ?_) fun _ => ?_
          · walk_at "zz"
            refine ⟨⟨by decide, by decide, by decide⟩, ?_⟩
            walk_at "zz"
            refine ⟨p, _, kd, rfl, e2, rfl, by show 5 < _; rw [sizeLine_eq]; decide, ?_⟩
            rw [put_d]
            exact hN _ _ ⟨_, c, i + 1, _, n, f, rfl, updM_same, hlt, h2, by omega, n0, nb, h6, h7, x2.trans Ex.upd⟩
          · walk_at "zz"
            refine ⟨_, kf, .int f, .inr ⟨p, rfl, e2⟩, rfl, pen_f, ?_⟩
            walk_at "zz"
            refine ⟨.inr ⟨by decide, by decide⟩, ?_⟩
            walk_at "zz"
            refine .inl ⟨_, rfl, ?_⟩
            walk_at "zz"
            refine ⟨by decide, ?_⟩
            walk_at "zz"
            refine ⟨p, _, kf, rfl, e2, rfl, by show 5 < _; rw [sizeLine_eq]; decide, ?_⟩
            rw [put_f]
            have l1 := Int.fmod_lt_of_pos (f * 48271 + v) (b := 2147483563) (by decide)
            exact hN _ _ ⟨_, c, i + 1, g, n, _, rfl, updM_same, hlt, h2, h3, n0, nb, Int.fmod_nonneg_of_pos _ (by decide), by omega, x2.trans Ex.upd⟩
        · walk_at "zz"
          exact hN _ _ ⟨_, c, i, g, n, f, rfl, e1, h1, h2, h3, n0, nb, h6, h7, x1⟩
      · refine w_ff (hN _ _ ⟨_, c, i, g, n, f, rfl, e1, h1, h2, h3, n0, nb, h6, h7, x1⟩)
    case rest =>
      obtain ⟨x2, c, i, g, n, f, rfl, e1, h1, h2, h3, n0, nb, h6, h7, x1⟩ := hI
      have hk : (0 : Int) < k := by omega
      walk_at "zz"
      refine ⟨_, kd, .int g, .inr ⟨p, rfl, e1⟩, rfl, pen_d, ?_⟩
      walk_at "zz"
      refine w_dec (fun _ => ?_) fun _ => ?_
      · walk_at "zz"
        refine ⟨_, kd, .int g, .inr ⟨p, rfl, e1⟩, rfl, pen_d, ?_⟩
        walk_at "zz"
        refine .inl ⟨_, rfl, ?_⟩
        walk_at "zz"
        refine ⟨by omega, ?_⟩
        walk_at "zz"
        refine ⟨_, kd, .int g, .inr ⟨p, rfl, e1⟩, rfl, pen_d, ?_⟩
        walk_at "zz"
        refine ⟨⟨by omega, by omega⟩, ?_⟩
        walk_at "zz"
        refine ⟨p, _, kd, rfl, e1, rfl, by show 5 < _; rw [sizeLine_eq]; decide, ?_⟩
        rw [put_d]
        walk_at "zz"
        have l0 := Int.fmod_nonneg_of_pos g hk
        have l1 := Int.fmod_lt_of_pos g hk
        have := q (g.fmod k).toNat _ (by omega) ⟨c, i, g.fdiv k, n, f, updM_same, h1, h2, Int.fdiv_nonneg h3 (by omega), n0, nb, h6, h7⟩ (x1.trans Ex.upd)
        rw [Int.toNat_of_nonneg l0] at this
        exact RT.one this
      · walk_at "zz"
        refine ⟨_, kf, .int f, .inr ⟨p, rfl, e1⟩, rfl, pen_f, ?_⟩
        walk_at "zz"
        refine ⟨_, kn, .int n, .inr ⟨p, rfl, e1⟩, rfl, pen_n, ?_⟩
        walk_at "zz"
        refine ⟨.inr ⟨by decide, by decide⟩, ?_⟩
        walk_at "zz"
        refine ⟨⟨by decide, by decide, by omega⟩, ?_⟩
        walk_at "zz"
        refine ⟨by decide, ?_⟩
        walk_at "zz"
        refine .inl ⟨_, rfl, ?_⟩
        walk_at "zz"
        refine ⟨⟨by decide, by decide⟩, ?_⟩
        walk_at "zz"
        refine ⟨by omega, ?_⟩
        generalize Int.fdiv _ _ = z
        have l0 := Int.fmod_nonneg_of_pos z hk
        have l1 := Int.fmod_lt_of_pos z hk
        have := q (z.fmod k).toNat _ (by omega) ⟨c, i, g, n, f, e1, h1, h2, h3, n0, nb, h6, h7⟩ x1
        rw [Int.toNat_of_nonneg l0] at this
        exact RT.one this
end
end K78


set_option Elab.async false
set_option linter.all false
set_option maxRecDepth 100000
set_option maxHeartbeats 4000000
namespace K78
open PySem PySem.Spec PyProof.Rows L2 Zd
local macro_rules | `(tactic| walk_at "z") => `(tactic| with_reducible first
  | refine w_seq ?_ | refine w_set ?_ | refine w_c ?_ | refine w_op ?_ | refine w_cons ?_ | refine w_nil ?_ | refine w_ret ?_ | refine w_call ?_ | refine w_tdin ?_ | refine w_test ?_ | refine w_blR ?_ | refine w_ntt ?_ | refine w_nff ?_
  | refine w_ifS ?_ | refine w_and ?_ | refine w_or ?_ | refine w_not ?_ | refine w_tup ?_ | refine w_lst ?_ | refine w_B ?_ | refine w_drop ?_ | refine w_asg ?_ | refine w_if ?_ | refine w_lstN ?_
  | refine w_add_ii ?_ | refine w_sub_ii ?_ | refine w_lt_ii ?_ | refine w_le_ii ?_ | refine w_gt_ii ?_ | refine w_ge_ii ?_ | refine w_eq_ii ?_ | refine w_ne_ii ?_ | refine w_isN ?_ | refine w_notN ?_
  | refine w_add_ll ?_ | refine w_add_tt ?_ | refine w_ix_l ?_ | refine w_ix_t ?_ | refine w_ix_f ?_ | refine w_mod_ii ?_ | refine w_div_ii ?_ | refine w_mul_ii ?_ | refine w_pow_ii ?_
  | refine w_andV ?_ | refine w_orV ?_ | refine w_notV ?_ | refine w_yes ?_ | refine w_tt ?_ | refine w_ff ?_
  | refine w_for ?_ | refine w_it1 ?_ | refine w_it2 ?_ | refine w_itS ?_ | refine w_lc ?_ | refine w_lcN ?_ | refine w_par ?_ | refine w_next ?_ | refine w_gd ?_ | refine w_iteT ?_ | refine w_iteF ?_ | refine w_gdC ?_ | refine w_gdN ?_
  | refine w_neg ?_ | refine w_negR ?_ | refine w_chain ?_ | refine w_cont ?_ | refine w_brk ?_ | refine w_retN ?_ | refine w_asgT ?_ | refine w_dget ?_ | refine w_dput ?_ | refine w_din ?_ | refine w_app ?_ | refine w_pop ?_ | refine w_cut ?_ | refine w_rev ?_ | refine w_while ?_ | refine w_dict ?_ | refine w_itE ?_ | refine w_fld ?_ | refine w_rg1 ?_ | refine w_rg2 ?_ | refine w_popAt ?_ | refine w_partN ?_ | refine w_partS ?_ | refine w_disp ?_ | refine w_pcons ?_ | refine w_pnil ?_ | refine w_fldS ?_ | refine w_par3 ?_ | refine w_sortSet ?_ | refine w_lenSet ?_ | refine w_gdDput ?_ | refine w_i0 ?_)
local macro_rules | `(tactic| walk_at "v") => `(tactic| ((with_reducible refine w_var (d := ?dv) ?hv ?_); (case hv => exact rfl)))
local macro_rules | `(tactic| walk_at "t") => `(tactic| ((with_reducible refine w_gdT ?hv ?_); (case hv => exact rfl)))
local macro_rules | `(tactic| walk_at "a") => `(tactic| ((with_reducible refine w_aug (x := ?xv) ?hv ?_); (case hv => exact rfl)))
local macro_rules | `(tactic| walk_at "l") => `(tactic| refine And.intro (Nat.le_of_ble_eq_true rfl) ?_)
local macro_rules | `(tactic| walk_at "zz") => `(tactic| ((try (with_reducible conv => whnf)); repeat (first | walk_at "z" | walk_at "v" | walk_at "l" | walk_at "t" | walk_at "a")))

/-! ### what stays while the pen moves -/
def Kp (p : Addr) (μ m : Mu) : Prop := ∀ x, x ≠ p → ∀ o, μ x = some o → m x = some o
theorem Kp.refl {p : Addr} {μ : Mu} : Kp p μ μ := fun _ _ _ e => e
theorem Kp.ex {p : Addr} {μ m m' : Mu} (h : Kp p μ m) (e : Ex p m m') : Kp p μ m' := fun x hx o ho => (e x hx).trans (h x hx o ho)
theorem Kp.upd {p : Addr} {μ m : Mu} (h : Kp p μ m) {a : Addr} (ha : μ a = none) (o : MO) : Kp p μ (updM m a o) := fun x hx o' ho => by
  rw [updM_ne (by intro z; subst z; rw [ha] at ho; cases ho)]
  exact h x hx o' ho
theorem Kp.none {p : Addr} {μ m : Mu} (h : Kp p μ m) {a : Addr} (hp : a ≠ p) (ha : m a = none) : μ a = none := by
  cases e : μ a with
  | none => rfl
  | some o => rw [h a hp o e] at ha; cases ha
theorem Pn.some {μ : Mu} {p : Addr} {b : Nat} (h : Pn μ p b) : ∃ o, μ p = some o := by
  obtain ⟨c, i, g, n, f, e, _⟩ := h
  exact ⟨_, e⟩
theorem Pn.ne {μ : Mu} {p : Addr} {b : Nat} (h : Pn μ p b) {a : Addr} (ha : μ a = none) : a ≠ p := by
  obtain ⟨o, e⟩ := h.some
  intro z
  subst z
  rw [ha] at e
  cases e
theorem Pn.upd {μ : Mu} {p : Addr} {b : Nat} (h : Pn μ p b) {a : Addr} (ha : a ≠ p) (o : MO) : Pn (updM μ a o) p b := by
  obtain ⟨c, i, g, n, f, e, r⟩ := h
  exact ⟨c, i, g, n, f, by rw [updM_ne (Ne.symm ha)]; exact e, r⟩
open Classical in
noncomputable def trimM (p : Addr) (μ m : Mu) : Mu := fun x => if x = p ∨ μ x ≠ none then m x else none
theorem trimM_sub {p : Addr} {μ m : Mu} : SubM (trimM p μ m) m := fun a x e => by
  unfold trimM at e
  split at e
  · exact e
  · cases e
theorem trimM_ex {p : Addr} {μ m : Mu} (h : Kp p μ m) : Ex p μ (trimM p μ m) := fun x hx => by
  unfold trimM
  cases e : μ x with
  | none =>
    refine if_neg ?_
    rintro (z | z)
    · exact hx z
    · exact z rfl
  | some o =>
    rw [if_pos (.inr (by intro z; cases z))]
    exact h x hx o e
theorem trimM_pn {p : Addr} {μ m : Mu} {b : Nat} (h : Pn m p b) : Pn (trimM p μ m) p b := by
  obtain ⟨c, i, g, n, f, e, r⟩ := h
  refine ⟨c, i, g, n, f, ?_, r⟩
  unfold trimM
  rw [if_pos (.inl rfl)]
  exact e
theorem trimM_none {p a : Addr} {μ m : Mu} (hp : a ≠ p) (h : μ a = none) : trimM p μ m a = none := by
  unfold trimM
  rw [if_neg]
  rintro (z | z)
  · exact hp z
  · exact z h
theorem ret_lst {p a : Addr} {μ m : Mu} {b : Nat} {l : List D} {Q : QD} (k : Kp p μ m) (h : Pn m p b) (ha : m a = some (.lst l)) (hp : a ≠ p) (h0 : μ a = none) (q : ∀ μ', Pn μ' p b → Ex p μ μ' → Q (.lst l) μ') : RT Q (.adr a) m :=
  ⟨.lst l, trimM p μ m, trimM_sub, .lst ha (trimM_none hp h0) (FzAll.refl _), q _ (trimM_pn h) (trimM_ex k)⟩
theorem ret_any {p : Addr} {μ m : Mu} {b : Nat} {d : D} {Q : QD} (k : Kp p μ m) (h : Pn m p b) (q : ∀ μ', Pn μ' p b → Ex p μ μ' → Q d μ') : RT Q d m :=
  ⟨d, trimM p μ m, trimM_sub, .refl _, q _ (trimM_pn h) (trimM_ex k)⟩
/-! ### pairs -/
def VT (n : Nat) (ts : List (Int × Int)) : Prop := ∀ p ∈ ts, 0 ≤ p.1 ∧ p.1 < p.2 ∧ p.2 < n
def rowP (n i : Nat) : List (Int × Int) := (List.range (n - (i + 1))).map fun (k : Nat) => ((i : Int), (i : Int) + 1 + (k : Int))
def upP (n : Nat) : Nat → List (Int × Int)
  | 0 => []
  | i + 1 => upP n i ++ rowP n i
def allP (n : Nat) : List (Int × Int) := upP n n
theorem mem_upP {n : Nat} {p : Int × Int} : ∀ {i : Nat}, p ∈ upP n i ↔ 0 ≤ p.1 ∧ p.1 < p.2 ∧ p.2 < n ∧ p.1 < i
  | 0 => ⟨(fun z => nomatch z), fun h => by omega⟩
  | i + 1 => by
    rw [upP, List.mem_append, mem_upP (i := i)]
    unfold rowP
    rw [List.mem_map]
    constructor
    · rintro (h | ⟨k, hk, rfl⟩)
      · omega
      · have := List.mem_range.mp hk
        simp only
        omega
    · intro h
      by_cases c : p.1 < i
      · exact .inl ⟨h.1, h.2.1, h.2.2.1, c⟩
      · refine .inr ⟨(p.2 - i - 1).toNat, List.mem_range.mpr (by omega), ?_⟩
        refine Prod.ext ?_ ?_
        · show (i : Int) = p.1; omega
        · show (i : Int) + 1 + ((p.2 - i - 1).toNat : Int) = p.2; omega
theorem mem_allP {n : Nat} {p : Int × Int} : p ∈ allP n ↔ 0 ≤ p.1 ∧ p.1 < p.2 ∧ p.2 < n := by
  unfold allP
  rw [mem_upP]
  omega
theorem allP_few {n : Nat} (h : n ≤ 24) : (allP n).length ≤ 276 := by
  have key : ((List.range 25).all fun n => decide ((allP n).length ≤ 276)) = true := by decide +kernel
  exact of_decide_eq_true (List.all_eq_true.mp key n (List.mem_range.mpr (by omega)))
theorem upP_len {n : Nat} (h : n ≤ 24) : ∀ i, (upP n i).length ≤ 24 * i
  | 0 => Nat.le_refl _
  | i + 1 => by
    rw [upP, List.length_append]
    have h1 : (rowP n i).length ≤ 24 := by unfold rowP; rw [List.length_map, List.length_range]; omega
    have h2 := upP_len h i
    omega
section
variable {P : Program} {w : World} {K : PySem.W.Frag} {mg : Str → Option Value} {base : Heap} {C : Addr}
def spPick : SpD := fun ds μ Q => ∃ (p : Addr) (es : List D) (b : Nat), ds = [.adr p, .lst es] ∧ 1 ≤ es.length ∧ es.length ≤ 1000000 ∧ Pn μ p (b + 1) ∧ ∀ (i : Nat) d μ', es[i]? = some d → Pn μ' p b → Ex p μ μ' → Q d μ'
theorem ok_law_pick (T : Txt K mg C) (F : Std K mg "_law_pick" s_law_pick ["pen", "some"]) (h_law_draw : Def P w K mg base "_law_draw" 1 ["pen", "many"] spDraw) : Def P w K mg base "_law_pick" 2 ["pen", "some"] spPick := by
  refine F.def sc_law_pick (fun ds μ Q h => ?_) fun cdv A outer s H E f hr => ⟨_, ((pssd_one (psd_ret (pd_ix (pd_var 1) (pd_callF h_law_draw hr (by decide) (by rfl) (pad_cons (pd_var 0) (pad_cons (pd_len (by rfl) T.len (pad_cons (pd_var 1) pad_nil)) pad_nil))))))), ?_⟩
  · obtain ⟨p, es, b, rfl, _⟩ := h
    rfl
  · rintro ds μ Q ⟨p, es, b, rfl, h1, h2, hP, q⟩
    walk_at "zz"
    refine ⟨_, rfl, .inl ⟨_, .inl (.inl rfl), ?_⟩⟩
    walk_at "zz"
    refine ⟨p, es.length, b, rfl, h1, h2, hP, fun d m hd hPn hx => ?_⟩
    obtain ⟨e, he⟩ : ∃ e, es[d]? = some e := ⟨_, List.getElem?_eq_getElem hd⟩
    walk_at "zz"
    exact ⟨e, atI_nat he, RT.one (q d e m he hPn hx)⟩
def spSize : SpD := fun ds μ Q => ∃ (p : Addr) (b : Nat), ds = [.adr p] ∧ Pn μ p (b + 1) ∧ ∀ (n : Nat) μ', 1 ≤ n → n ≤ 9 → Pn μ' p b → Ex p μ μ' → Q (.int n) μ'
theorem ok_law_size (T : Txt K mg C) (F : Std K mg "_law_size" s_law_size ["pen"]) (h_law_pick : Def P w K mg base "_law_pick" 2 ["pen", "some"] spPick) : Def P w K mg base "_law_size" 3 ["pen"] spSize := by
  refine F.def sc_law_size (fun ds μ Q h => ?_) fun cdv A outer s H E f hr => ⟨_, ((pssd_one (psd_ret (pd_callF h_law_pick hr (by decide) (by rfl) (pad_cons (pd_var 0) (pad_cons (pd_lst (pad_cons pd_i (pad_cons pd_i (pad_cons pd_i (pad_cons pd_i (pad_cons pd_i (pad_cons pd_i (pad_cons pd_i (pad_cons pd_i (pad_cons pd_i (pad_cons pd_i pad_nil))))))))))) pad_nil)))))), ?_⟩
  · obtain ⟨p, b, rfl, _⟩ := h
    rfl
  · rintro ds μ Q ⟨p, b, rfl, hP, q⟩
    walk_at "zz"
    refine ⟨p, _, b, rfl, by decide, by decide, hP, fun i d m hd hPn hx => ?_⟩
    have key : ∃ n : Nat, 1 ≤ n ∧ n ≤ 9 ∧ d = .int n := by
      have hd : ([5, 4, 6, 3, 7, 2, 8, 5, 1, 9] : List Int)[i]?.map D.int = some d := by rw [← List.getElem?_map]; exact hd
      obtain ⟨v, hv, rfl⟩ := Option.map_eq_some_iff.mp hd
      have := List.mem_of_getElem? hv
      have hb : 1 ≤ v ∧ v ≤ 9 := by
        simp only [List.mem_cons, List.not_mem_nil, or_false] at this
        omega
      exact ⟨v.toNat, by omega, by omega, by rw [Int.toNat_of_nonneg (by omega)]⟩
    obtain ⟨n, n1, n2, rfl⟩ := key
    exact RT.one (q n m n1 n2 hPn hx)
def spPairs : SpD := fun ds μ Q => ∃ n : Nat, ds = [.int n] ∧ n ≤ 24 ∧ Q (.lst ((allP n).map prI)) μ
theorem ok_law_pairs (T : Txt K mg C) (F : Std K mg "_law_pairs" s_law_pairs ["size"]) : Def P w K mg base "_law_pairs" 1 ["size"] spPairs := by
  refine F.def sc_law_pairs (fun ds μ Q h => ?_) fun cdv A outer s H E f hr => ⟨_, ((pssd_cons (psd_set (i := 1) sc_law_pairs.nd rfl (Or.inl rfl) (pd_lst pad_nil))
  (pssd_cons (psd_for PassesOwn.never rfl (pid_range1 (by rfl) T.range (pad_cons (pd_var 0) pad_nil)) (pgd_name (i := 2) sc_law_pairs.nd rfl (Or.inr rfl)) (pssd_one (psd_set (i := 1) sc_law_pairs.nd rfl (Or.inl rfl) (pd_add (pd_var 1) (pd_lc (own := [("j", 3)]) rfl sc_law_pairs.nd (pid_range2 (by rfl) T.range (pad_cons (pd_add (pd_var 2) pd_i) (pad_cons (pd_var 0) pad_nil))) (blkOk_by (N := n_law_pairs) (sc := defScope s_law_pairs) (own := [("j", 3)]) (by decide +kernel)) (fun _ _ _ _ _ => (pgd_name (i := 3) sc_law_pairs.nd rfl (Or.inl rfl))) (fun _ _ _ _ _ => ptsd_nil) (fun _ _ _ _ _ => (pd_tup (pad_cons (pd_var 2) (pad_cons (pd_var 3) pad_nil)))))))))
  (pssd_one (psd_ret (pd_var 1)))))), ?_⟩
  · obtain ⟨n, rfl, _⟩ := h
    rfl
  · rintro ds μ Q ⟨n, rfl, hn, q⟩
    walk_at "zz"
    refine ⟨n, rfl, by omega, by omega, fun i ρ m => ∃ x y, ρ = [some (.int n), some (.lst ((upP n i).map prI)), x, y] ∧ m = μ, ⟨none, none, rfl, rfl⟩, ?_, ?_⟩
    · rintro i x ρ m hx ⟨y, z, rfl, rfl⟩
      obtain ⟨hi, rfl⟩ := rngD_get hx
      have hi' : i < n := by simpa using hi
      rw [Int.zero_add]
      refine ⟨trivial, ?_⟩
      walk_at "zz"
      refine ⟨_, _, rfl, by omega, ?_⟩
      refine lc_map (fun j => D.tup [.int i, j]) (rngD_small (by omega)) trivial (fun k x hk N hN => ?_) ?_
      · walk_at "zz"
        exact hN
      · walk_at "zz"
        have e : (List.map (fun j => D.tup [.int i, j]) (rngD ((i : Int) + 1) ((n : Int) - ((i : Int) + 1)).toNat)) = (rowP n i).map prI := by
          unfold rngD rowP
          rw [List.map_map, List.map_map]
          have e2 : ((n : Int) - ((i : Int) + 1)).toNat = n - (i + 1) := by omega
          rw [e2]
          rfl
        have el : (rngD ((i : Int) + 1) ((n : Int) - ((i : Int) + 1)).toNat).length ≤ 24 := by rw [rngD_len]; omega
        have l1 := upP_len hn i
        refine ⟨Nat.le_trans (Nat.add_le_add (by rw [List.length_map]; exact l1) (by rw [List.length_map]; exact el)) (by rw [sizeLine_eq]; omega), ?_⟩
        show ∃ x y, _ = [some (D.int n), some (.lst ((upP n i ++ rowP n i).map prI)), x, y] ∧ _
        rw [e, ← List.map_append]
        exact ⟨_, _, rfl, rfl⟩
    · rintro ρ m ⟨x, y, rfl, rfl⟩
      refine ⟨trivial, ?_⟩
      walk_at "zz"
      refine RT.one ?_
      rw [rngD_len]
      exact q
def spShuf : SpD := fun ds μ Q => ∃ (p : Addr) (es : List D) (b : Nat), ds = [.adr p, .lst es] ∧ es.length ≤ 1000 ∧ Pn μ p (b + es.length) ∧ ∀ out μ', out.Perm es → Pn μ' p b → Ex p μ μ' → Q (.lst out) μ'
theorem erase_perm {α : Type} : ∀ {l : List α} {k : Nat} {x : α}, l[k]? = some x → (x :: l.eraseIdx k).Perm l
  | a :: l, 0, x, h => by
    cases h
    exact .refl _
  | a :: l, k + 1, x, h => ((erase_perm (l := l) (by simpa using h)).cons a).symm.trans (.swap ..) |>.symm
theorem ok_law_shuffled (T : Txt K mg C) (F : Std K mg "_law_shuffled" s_law_shuffled ["pen", "some"]) (h_law_draw : Def P w K mg base "_law_draw" 1 ["pen", "many"] spDraw) : Def P w K mg base "_law_shuffled" 2 ["pen", "some"] spShuf := by
  refine F.def sc_law_shuffled (fun ds μ Q h => ?_) fun cdv A outer s H E f hr => ⟨_, ((pssd_cons (psd_par (i := 2) (j := 3) rfl sc_law_shuffled.nd rfl rfl (by decide) rfl rfl (pad_cons (pd_listC true (by rfl) T.list (pad_cons (pd_var 1) pad_nil)) (pad_cons (pd_lstN pad_nil) pad_nil)) (by rfl))
  (pssd_cons (psd_for PassesOwn.never rfl (pid_range1 (by rfl) T.range (pad_cons (pd_len (by rfl) T.len (pad_cons (pd_var 1) pad_nil)) pad_nil)) (pgd_name (i := 4) sc_law_shuffled.nd rfl (Or.inl rfl)) (pssd_one (psd_expr (pd_append (pd_var 3) (pd_popAt (pd_var 2) (pd_callF h_law_draw hr (by decide) (by rfl) (pad_cons (pd_var 0) (pad_cons (pd_len (by rfl) T.len (pad_cons (pd_var 2) pad_nil)) pad_nil))))))))
  (pssd_one (psd_ret (pd_var 3)))))), ?_⟩
  · obtain ⟨p, es, b, rfl, _⟩ := h
    rfl
  · rintro ds μ Q ⟨p, es, b, rfl, hl, hP, q⟩
    walk_at "zz"
    refine ⟨_, _, rfl, .inl (.inl rfl), w_tt ?_⟩
    intro a1 ha1
    walk_at "zz"
    intro a2 ha2
    have ne : a2 ≠ a1 := by intro z; subst z; rw [updM_same] at ha2; cases ha2
    have ha2' : μ a2 = none := by rw [updM_ne ne] at ha2; exact ha2
    have p1 := hP.ne ha1
    have p2 := hP.ne ha2'
    walk_at "zz"
    refine ⟨_, _, rfl, ?_⟩
    walk_at "zz"
    refine ⟨_, rfl, .inl ⟨_, .inl (.inl rfl), ?_⟩⟩
    walk_at "zz"
    refine ⟨es.length, rfl, by omega, by omega, fun i ρ m => ∃ x r f, ρ = [some (.adr p), some (.lst es), some (.adr a1), some (.adr a2), x] ∧ Kp p μ m ∧ Pn m p (b + r.length) ∧ m a1 = some (.lst r) ∧ m a2 = some (.lst f) ∧ (f ++ r).Perm es ∧ f.length = i,
      ⟨_, es, [], rfl, (Kp.refl.upd ha1 _).upd ha2' _, (hP.upd p1 _).upd p2 _, by rw [updM_ne (Ne.symm ne), updM_same], updM_same, .refl _, rfl⟩, ?_, ?_⟩
    · rintro i x ρ m hx ⟨y, r, f, rfl, k, hPn, h1, h2, pm, rfl⟩
      obtain ⟨hi, rfl⟩ := rngD_get hx
      have hi : f.length < es.length := by simpa using hi
      have lr := pm.length_eq
      rw [List.length_append] at lr
      refine ⟨trivial, ?_⟩
      walk_at "zz"
      refine ⟨a2, rfl, ⟨f, h2⟩, ?_⟩
      walk_at "zz"
      refine ⟨a1, rfl, ⟨r, h1⟩, ?_⟩
      walk_at "zz"
      refine ⟨_, rfl, .inl ⟨_, .inl (.inr (.inr ⟨a1, rfl, h1⟩)), ?_⟩⟩
      walk_at "zz"
      refine ⟨p, r.length, b + (r.length - 1), rfl, by omega, by omega, by rw [show b + (r.length - 1) + 1 = b + r.length by omega]; exact hPn, fun d m' hd hPn' hx => ?_⟩
      obtain ⟨e, he⟩ : ∃ e, r[d]? = some e := ⟨_, List.getElem?_eq_getElem hd⟩
      have h1' : m' a1 = some (.lst r) := (hx a1 p1).trans h1
      have h2' : m' a2 = some (.lst f) := (hx a2 p2).trans h2
      refine ⟨r, d, d, e, h1', rfl, by omega, by omega, ?_, he, ?_⟩
      · unfold seqIndex?
        simp
        omega
      · refine ⟨f, by rw [updM_ne ne]; exact h2', by rw [sizeLine_eq]; omega, ?_⟩
        have ep := erase_perm he
        have el := ep.length_eq
        rw [List.length_cons] at el
        refine ⟨_, r.eraseIdx d, f ++ [e], rfl, ((k.ex hx).upd ha1 _).upd ha2' _, ?_, by rw [updM_ne (Ne.symm ne), updM_same], updM_same, ?_, by rw [List.length_append]; rfl⟩
        · have := (hPn'.upd p1 (.lst (r.eraseIdx d))).upd p2 (.lst (f ++ [e]))
          rw [show r.length - 1 = (r.eraseIdx d).length by omega] at this
          exact this
        · rw [List.append_assoc]
          exact (ep.append_left f).trans pm
    · rintro ρ m ⟨y, r, f, rfl, k, hPn, h1, h2, pm, hf⟩
      refine ⟨trivial, ?_⟩
      rw [rngD_len] at hf
      have hf : f.length = es.length := by simpa using hf
      have lr := pm.length_eq
      rw [List.length_append] at lr
      have e : r = [] := List.eq_nil_of_length_eq_zero (by omega)
      subst e
      rw [List.append_nil] at pm
      walk_at "zz"
      exact ret_lst k hPn h2 p2 ha2' fun μ' a b => q f μ' pm a b
end
end K78


set_option Elab.async false
set_option linter.all false
set_option maxRecDepth 100000
set_option maxHeartbeats 4000000
namespace K78
open PySem PySem.Spec PyProof.Rows L2 Zd
local macro_rules | `(tactic| walk_at "z") => `(tactic| with_reducible first
  | refine w_seq ?_ | refine w_set ?_ | refine w_c ?_ | refine w_op ?_ | refine w_cons ?_ | refine w_nil ?_ | refine w_ret ?_ | refine w_call ?_ | refine w_tdin ?_ | refine w_test ?_ | refine w_blR ?_ | refine w_ntt ?_ | refine w_nff ?_
  | refine w_ifS ?_ | refine w_and ?_ | refine w_or ?_ | refine w_not ?_ | refine w_tup ?_ | refine w_lst ?_ | refine w_B ?_ | refine w_drop ?_ | refine w_asg ?_ | refine w_if ?_ | refine w_lstN ?_
  | refine w_add_ii ?_ | refine w_sub_ii ?_ | refine w_lt_ii ?_ | refine w_le_ii ?_ | refine w_gt_ii ?_ | refine w_ge_ii ?_ | refine w_eq_ii ?_ | refine w_ne_ii ?_ | refine w_isN ?_ | refine w_notN ?_
  | refine w_add_ll ?_ | refine w_add_tt ?_ | refine w_ix_l ?_ | refine w_ix_t ?_ | refine w_ix_f ?_ | refine w_mod_ii ?_ | refine w_div_ii ?_ | refine w_mul_ii ?_ | refine w_pow_ii ?_
  | refine w_andV ?_ | refine w_orV ?_ | refine w_notV ?_ | refine w_yes ?_ | refine w_tt ?_ | refine w_ff ?_
  | refine w_for ?_ | refine w_it1 ?_ | refine w_it2 ?_ | refine w_itS ?_ | refine w_lc ?_ | refine w_lcN ?_ | refine w_par ?_ | refine w_next ?_ | refine w_gd ?_ | refine w_iteT ?_ | refine w_iteF ?_ | refine w_gdC ?_ | refine w_gdN ?_
  | refine w_neg ?_ | refine w_negR ?_ | refine w_chain ?_ | refine w_cont ?_ | refine w_brk ?_ | refine w_retN ?_ | refine w_asgT ?_ | refine w_dget ?_ | refine w_dput ?_ | refine w_din ?_ | refine w_app ?_ | refine w_pop ?_ | refine w_cut ?_ | refine w_rev ?_ | refine w_while ?_ | refine w_dict ?_ | refine w_itE ?_ | refine w_fld ?_ | refine w_rg1 ?_ | refine w_rg2 ?_ | refine w_popAt ?_ | refine w_partN ?_ | refine w_partS ?_ | refine w_disp ?_ | refine w_pcons ?_ | refine w_pnil ?_ | refine w_fldS ?_ | refine w_par3 ?_ | refine w_sortSet ?_ | refine w_lenSet ?_ | refine w_gdDput ?_ | refine w_i0 ?_)
local macro_rules | `(tactic| walk_at "v") => `(tactic| ((with_reducible refine w_var (d := ?dv) ?hv ?_); (case hv => exact rfl)))
local macro_rules | `(tactic| walk_at "t") => `(tactic| ((with_reducible refine w_gdT ?hv ?_); (case hv => exact rfl)))
local macro_rules | `(tactic| walk_at "a") => `(tactic| ((with_reducible refine w_aug (x := ?xv) ?hv ?_); (case hv => exact rfl)))
local macro_rules | `(tactic| walk_at "l") => `(tactic| refine And.intro (Nat.le_of_ble_eq_true rfl) ?_)
local macro_rules | `(tactic| walk_at "zz") => `(tactic| ((try (with_reducible conv => whnf)); repeat (first | walk_at "z" | walk_at "v" | walk_at "l" | walk_at "t" | walk_at "a")))

theorem prs_app (a b : List (Int × Int)) : a.map prI ++ b.map prI = (a ++ b).map prI := List.map_append.symm
theorem VT.app {n : Nat} {a b : List (Int × Int)} (ha : VT n a) (hb : VT n b) : VT n (a ++ b) := fun p hp => (List.mem_append.mp hp).elim (ha p) (hb p)
theorem VT.one {n : Nat} {i j : Int} (h : 0 ≤ i ∧ i < n) (h' : 0 ≤ j ∧ j < n) (ne : i ≠ j) : VT n [(min i j, max i j)] := fun p hp => by
  rw [List.mem_singleton.mp hp]
  show 0 ≤ min i j ∧ min i j < max i j ∧ max i j < n
  rcases Int.lt_trichotomy i j with c | c | c
  · rw [Int.min_eq_left (by omega), Int.max_eq_right (by omega)]; omega
  · exact absurd c ne
  · rw [Int.min_eq_right (by omega), Int.max_eq_left (by omega)]; omega
section
variable {P : Program} {w : World} {K : PySem.W.Frag} {mg : Str → Option Value} {base : Heap} {C : Addr}
def spGen : SpD := fun ds μ Q => ∃ (p : Addr) (n b : Nat), ds = [.adr p, .int n] ∧ 1 ≤ n ∧ n ≤ 24 ∧ Pn μ p (b + 10000) ∧ ∀ ts μ', VT n ts → ts.length ≤ 100000 → Pn μ' p b → Ex p μ μ' → Q (.lst (ts.map prI)) μ'
theorem ok_law_free_ties (T : Txt K mg C) (F : Std K mg "_law_free_ties" s_law_free_ties ["pen", "size"]) (h_law_draw : Def P w K mg base "_law_draw" 1 ["pen", "many"] spDraw) (h_law_pick : Def P w K mg base "_law_pick" 2 ["pen", "some"] spPick) (h_law_pairs : Def P w K mg base "_law_pairs" 1 ["size"] spPairs) :
    Def P w K mg base "_law_free_ties" 3 ["pen", "size"] spGen := by
  refine F.def sc_law_free_ties (fun ds μ Q h => ?_) fun cdv A outer s H E f hr => ⟨_, ((pssd_cons (psd_set (i := 2) sc_law_free_ties.nd rfl (Or.inr rfl) (pd_callF h_law_pick hr (by decide) (by rfl) (pad_cons (pd_var 0) (pad_cons (pd_lst (pad_cons pd_i (pad_cons pd_i (pad_cons pd_i (pad_cons pd_i (pad_cons pd_i pad_nil)))))) pad_nil))))
  (pssd_one (psd_ret (pd_lc (own := [("pair", 3)]) rfl sc_law_free_ties.nd (pid_seq (pd_callF h_law_pairs hr (by decide) (by rfl) (pad_cons (pd_var 1) pad_nil))) (blkOk_by (N := n_law_free_ties) (sc := defScope s_law_free_ties) (own := [("pair", 3)]) (by decide +kernel)) (fun _ _ _ _ _ => (pgd_name (i := 3) sc_law_free_ties.nd rfl (Or.inl rfl))) (fun _ _ _ _ _ => (ptsd_one (ptd_eq (pd_callF h_law_draw hr (by decide) (by rfl) (pad_cons (pd_var 0) (pad_cons (pd_var 2) pad_nil))) pd_i (hr.units)))) (fun _ _ _ _ _ => (pd_var 3))))))), ?_⟩
  · obtain ⟨p, n, b, rfl, _⟩ := h
    rfl
  · rintro ds μ Q ⟨p, n, b, rfl, n1, n2, hP, q⟩
    walk_at "zz"
    refine ⟨p, _, b + 9999, rfl, by decide, by decide, hP, fun i d m hd hPn hx => ?_⟩
    have key : ∃ n : Nat, 1 ≤ n ∧ n ≤ 9 ∧ d = .int n := by
      have hd : ([2, 3, 4, 3, 2] : List Int)[i]?.map D.int = some d := by rw [← List.getElem?_map]; exact hd
      obtain ⟨v, hv, rfl⟩ := Option.map_eq_some_iff.mp hd
      have := List.mem_of_getElem? hv
      have hb : 1 ≤ v ∧ v ≤ 9 := by
        simp only [List.mem_cons, List.not_mem_nil, or_false] at this
        omega
      exact ⟨v.toNat, by omega, by omega, by rw [Int.toNat_of_nonneg (by omega)]⟩
    obtain ⟨k, k1, k2, rfl⟩ := key
    walk_at "zz"
    refine ⟨n, rfl, n2, ?_⟩
    have few := allP_few n2
    refine itS_lcA (fun _ => .inl (.inl rfl)) fun live lv => ⟨by show (List.map prI (allP n)).length ≤ _; rw [List.length_map, sizeLine_eq]; omega, fun i acc m => ∃ ts, acc = ts.map prI ∧ VT n ts ∧ ts.length ≤ i ∧ Pn m p (b + 9999 - i) ∧ Ex p μ m, ⟨[], rfl, (fun _ z => nomatch z), Nat.le_refl _, hPn, hx⟩, ?_, ?_⟩
    · rintro i acc m x hxi ⟨ts, rfl, hv, hl, hPn, hx⟩
      have hxi : ((allP n).map prI)[i]? = some x := hxi
      rw [List.getElem?_map] at hxi
      obtain ⟨pr, hpr, rfl⟩ := Option.map_eq_some_iff.mp hxi
      have hi := (List.getElem?_eq_some_iff.mp hpr).1
      have hmem := mem_allP.mp (List.mem_of_getElem? hpr)
      refine ⟨lv _, ?_⟩
      walk_at "zz"
      refine ⟨p, k, b + 9999 - (i + 1), rfl, k1, by omega, by rw [show b + 9999 - (i + 1) + 1 = b + 9999 - i by omega]; exact hPn, fun d m' hd hPn' hx' => ?_⟩
      walk_at "zz"
      refine w_dec (fun _ => ?_) fun _ => ?_
      · walk_at "zz"
        refine ⟨ts ++ [pr], by rw [List.map_append]; rfl, hv.app fun p hp => by rw [List.mem_singleton.mp hp]; exact hmem, by rw [List.length_append]; exact Nat.succ_le_succ hl, hPn', hx.trans hx'⟩
      · exact ⟨ts, rfl, hv, Nat.le_succ_of_le hl, hPn', hx.trans hx'⟩
    · rintro acc m ⟨ts, rfl, hv, hl, hPn, hx⟩
      have hl : ts.length ≤ ((allP n).map prI).length := hl
      rw [List.length_map] at hl
      have hPn : Pn m p (b + 9999 - ((allP n).map prI).length) := hPn
      rw [List.length_map] at hPn
      refine ⟨lv _, ?_⟩
      exact RT.one (q ts m hv (by omega) (hPn.less (by omega)) hx)
theorem ok_law_tree_ties (T : Txt K mg C) (F : Std K mg "_law_tree_ties" s_law_tree_ties ["pen", "size"]) (h_law_draw : Def P w K mg base "_law_draw" 1 ["pen", "many"] spDraw) (h_law_pick : Def P w K mg base "_law_pick" 2 ["pen", "some"] spPick) :
    Def P w K mg base "_law_tree_ties" 3 ["pen", "size"] spGen := by
  refine F.def sc_law_tree_ties (fun ds μ Q h => ?_) fun cdv A outer s H E f hr => ⟨_, ((pssd_cons (psd_set (i := 2) sc_law_tree_ties.nd rfl (Or.inl rfl) (pd_lstN pad_nil))
  (pssd_cons (psd_for PassesOwn.never rfl (pid_range2 (by rfl) T.range (pad_cons pd_i (pad_cons (pd_var 1) pad_nil))) (pgd_name (i := 3) sc_law_tree_ties.nd rfl (Or.inl rfl)) (pssd_one (psd_expr (pd_append (pd_var 2) (pd_tup (pad_cons (pd_callF h_law_pick hr (by decide) (by rfl) (pad_cons (pd_var 0) (pad_cons (pd_lst (pad_cons (pd_callF h_law_draw hr (by decide) (by rfl) (pad_cons (pd_var 0) (pad_cons (pd_var 3) pad_nil))) (pad_cons (pd_sub (pd_var 3) pd_i) pad_nil))) pad_nil))) (pad_cons (pd_var 3) pad_nil)))))))
  (pssd_one (psd_ret (pd_var 2)))))), ?_⟩
  · obtain ⟨p, n, b, rfl, _⟩ := h
    rfl
  · rintro ds μ Q ⟨p, n, b, rfl, n1, n2, hP, q⟩
    walk_at "zz"
    intro a ha
    have pa := hP.ne ha
    walk_at "zz"
    refine ⟨1, n, rfl, by omega, fun i ρ m => ∃ x ts, ρ = [some (.adr p), some (.int n), some (.adr a), x] ∧ Kp p μ m ∧ Pn m p (b + 10000 - 2 * i) ∧ m a = some (.lst (ts.map prI)) ∧ VT n ts ∧ ts.length = i, ⟨_, [], rfl, Kp.refl.upd ha _, hP.upd pa _, updM_same, (fun _ z => nomatch z), rfl⟩, ?_, ?_⟩
    · rintro i x ρ m hx ⟨y, ts, rfl, k, hPn, h1, hv, rfl⟩
      obtain ⟨hi, rfl⟩ := rngD_get hx
      have hi : ts.length < n - 1 := by omega
      refine ⟨trivial, ?_⟩
      walk_at "zz"
      refine ⟨a, rfl, ⟨_, h1⟩, ?_⟩
      walk_at "zz"
      refine ⟨p, 1 + ts.length, b + 10000 - (2 * ts.length + 1), by rw [Int.natCast_add]; rfl, by omega, by omega, by rw [show b + 10000 - (2 * ts.length + 1) + 1 = b + 10000 - 2 * ts.length by omega]; exact hPn, fun d m1 hd hP1 hx1 => ?_⟩
      walk_at "zz"
      refine ⟨p, _, b + 10000 - 2 * (ts.length + 1), rfl, Nat.le_of_ble_eq_true rfl, Nat.le_of_ble_eq_true rfl, by rw [show b + 10000 - 2 * (ts.length + 1) + 1 = b + 10000 - (2 * ts.length + 1) by omega]; exact hP1, fun j e m2 he hP2 hx2 => ?_⟩
      have key : ∃ v : Int, 0 ≤ v ∧ v < 1 + (ts.length : Int) ∧ e = .int v := by
        have he : ([(d : Int), 1 + (ts.length : Int) - 1] : List Int)[j]?.map D.int = some e := by rw [← List.getElem?_map]; exact he
        obtain ⟨v, hv, rfl⟩ := Option.map_eq_some_iff.mp he
        have := List.mem_of_getElem? hv
        simp only [List.mem_cons, List.not_mem_nil, or_false] at this
        exact ⟨v, by omega, by omega, rfl⟩
      obtain ⟨v, v1, v2, rfl⟩ := key
      walk_at "zz"
      have h2 : m2 a = some (.lst (ts.map prI)) := (hx2 a pa).trans ((hx1 a pa).trans h1)
      refine ⟨_, h2, by rw [List.length_map, sizeLine_eq]; omega, ?_⟩
      refine ⟨_, ts ++ [(v, 1 + (ts.length : Int))], rfl, ((k.ex hx1).ex hx2).upd ha _, hP2.upd pa _, by rw [updM_same, List.map_append]; rfl, hv.app fun p hp => ?_, by rw [List.length_append]; rfl⟩
      rw [List.mem_singleton.mp hp]
      show 0 ≤ v ∧ v < 1 + (ts.length : Int) ∧ 1 + (ts.length : Int) < n
      omega
    · rintro ρ m ⟨y, ts, rfl, k, hPn, h1, hv, hl⟩
      rw [rngD_len] at hl hPn
      refine ⟨trivial, ?_⟩
      walk_at "zz"
      exact ret_lst k (hPn.less (b' := b) (by omega)) h1 pa ha fun μ' c d => q ts μ' hv (by omega) c d
/-! ### flowers -/
def spFlower : SpD := fun ds μ Q => ∃ (p : Addr) (n b : Nat) (l : List Int), ds = [.adr p, .lst (l.map .int)] ∧ l.Nodup ∧ (∀ v ∈ l, 0 ≤ v ∧ v < n) ∧ 1 ≤ l.length ∧ l.length ≤ 24 ∧ Pn μ p (b + 100) ∧ ∀ ts μ', VT n ts → ts.length ≤ 200 → Pn μ' p b → Ex p μ μ' → Q (.lst (ts.map prI)) μ'
theorem ne_chain : ∀ {l : List Int}, l ≠ [] → l.Nodup → Ch (· ≠ ·) l
  | [], h, _ => absurd rfl h
  | [x], _, _ => .one x
  | x :: y :: l, _, h => by
    obtain ⟨h1, h2⟩ := List.nodup_cons.mp h
    exact .cons (fun e => h1 (e ▸ List.mem_cons_self)) (ne_chain (List.cons_ne_nil _ _) h2)
theorem ear_chain {x y : Int} {t : List Int} (ht : t ≠ []) (nd : t.Nodup) (hx : x ∉ t) (hy : y ∉ t) : Ch (· ≠ ·) (x :: t ++ [y]) := by
  have c := ne_chain ht nd
  obtain ⟨u, z, rfl⟩ : ∃ u z, t = u ++ [z] := ⟨t.dropLast, t.getLast ht, (List.dropLast_concat_getLast ht).symm⟩
  have zy : z ≠ y := fun e => hy (e ▸ List.mem_append_right _ (List.mem_singleton.mpr rfl))
  have c2 : Ch (· ≠ ·) (u ++ z :: [y]) := Ch.glue (.cons zy (.one y)) c
  rw [List.cons_append, List.append_assoc]
  show Ch _ (x :: (u ++ z :: [y]))
  cases u with
  | nil => exact .cons (fun e => hx (e ▸ List.mem_cons_self)) c2
  | cons a u => exact .cons (fun e => hx (e ▸ List.mem_cons_self)) c2
theorem cut_to (l : List D) (k : Nat) : Zd.cutD l none (some (k : Int)) = l.take k := by
  unfold Zd.cutD
  rw [HT.sIx_none, HT.sIx_nat, List.drop_zero, Nat.sub_zero]
  rcases Nat.le_total k l.length with h | h
  · rw [Nat.min_eq_left h]
  · rw [Nat.min_eq_right h, List.take_length, List.take_of_length_le h]
theorem cut_from (l : List D) (k : Nat) : Zd.cutD l (some (k : Int)) none = l.drop k := by
  unfold Zd.cutD
  rw [HT.sIx_none, HT.sIx_nat]
  rcases Nat.le_total k l.length with h | h
  · rw [Nat.min_eq_left h, ← List.length_drop, List.take_length]
  · rw [Nat.min_eq_right h, List.drop_length, List.drop_of_length_le h, List.take_nil]
theorem ok_law_flower_ties (T : Txt K mg C) (F : Std K mg "_law_flower_ties" s_law_flower_ties ["pen", "places"]) (h_law_pick : Def P w K mg base "_law_pick" 2 ["pen", "some"] spPick) :
    Def P w K mg base "_law_flower_ties" 3 ["pen", "places"] spFlower := by
  refine F.def sc_law_flower_ties (fun ds μ Q h => ?_) fun cdv A outer s H E f hr => ⟨_, ((pssd_cons (psd_set (i := 2) sc_law_flower_ties.nd rfl (Or.inr rfl) (pd_lst pad_nil))
  (pssd_cons (psd_set (i := 3) sc_law_flower_ties.nd rfl (Or.inl rfl) (pd_cut false (pd_var 1) pod_none (pod_some pd_i)))
  (pssd_cons (psd_set (i := 4) sc_law_flower_ties.nd rfl (Or.inl rfl) (pd_cut false (pd_var 1) (pod_some pd_i) pod_none))
  (pssd_cons (psd_while PassesOwn.never (ptd_gt (pd_len (by rfl) T.len (pad_cons (pd_var 4) pad_nil)) pd_i) (pssd_cons (psd_set (i := 5) sc_law_flower_ties.nd rfl (Or.inl rfl) (pd_if (ptd_gt (pd_len (by rfl) T.len (pad_cons (pd_var 4) pad_nil)) pd_i) (pd_callF h_law_pick hr (by decide) (by rfl) (pad_cons (pd_var 0) (pad_cons (pd_lst (pad_cons pd_i (pad_cons pd_i (pad_cons pd_i pad_nil)))) pad_nil))) pd_i))
  (pssd_cons (psd_set (i := 6) sc_law_flower_ties.nd rfl (Or.inl rfl) (pd_add (pd_add (pd_lst (pad_cons (pd_callF h_law_pick hr (by decide) (by rfl) (pad_cons (pd_var 0) (pad_cons (pd_var 3) pad_nil))) pad_nil)) (pd_cut false (pd_var 4) pod_none (pod_some (pd_var 5)))) (pd_lst (pad_cons (pd_callF h_law_pick hr (by decide) (by rfl) (pad_cons (pd_var 0) (pad_cons (pd_var 3) pad_nil))) pad_nil))))
  (pssd_cons (psd_for PassesOwn.never rfl (pid_range1 (by rfl) T.range (pad_cons (pd_sub (pd_len (by rfl) T.len (pad_cons (pd_var 6) pad_nil)) pd_i) pad_nil)) (pgd_name (i := 7) sc_law_flower_ties.nd rfl (Or.inl rfl)) (pssd_cons (psd_set (i := 8) sc_law_flower_ties.nd rfl (Or.inr rfl) (pd_tup (pad_cons (pd_min2 rfl (by rfl) T.min (pad_cons (pd_ix (pd_var 6) (pd_var 7)) (pad_cons (pd_ix (pd_var 6) (pd_add (pd_var 7) pd_i)) pad_nil))) (pad_cons (pd_max2 rfl (by rfl) T.max (pad_cons (pd_ix (pd_var 6) (pd_var 7)) (pad_cons (pd_ix (pd_var 6) (pd_add (pd_var 7) pd_i)) pad_nil))) pad_nil))))
  (pssd_one (psd_set (i := 2) sc_law_flower_ties.nd rfl (Or.inr rfl) (pd_add (pd_var 2) (pd_lc (own := [("spare", 9)]) rfl sc_law_flower_ties.nd (pid_seq (pd_lst (pad_cons pd_i pad_nil))) (blkOk_by (N := n_law_flower_ties) (sc := defScope s_law_flower_ties) (own := [("spare", 9)]) (by decide +kernel)) (fun _ _ _ _ _ => (pgd_name (i := 9) sc_law_flower_ties.nd rfl (Or.inl rfl))) (fun _ _ _ _ _ => (ptsd_one (ptd_notIn (pd_var 8) (pd_var 2) (hu65 hr)))) (fun _ _ _ _ _ => (pd_var 8))))))))
  (pssd_one (psd_par (i := 3) (j := 4) rfl sc_law_flower_ties.nd rfl rfl (by decide) rfl rfl (pad_cons (pd_add (pd_var 3) (pd_cut false (pd_var 4) pod_none (pod_some (pd_var 5)))) (pad_cons (pd_cut false (pd_var 4) (pod_some (pd_var 5)) pod_none) pad_nil)) (by rfl)))))))
  (pssd_one (psd_ret (pd_var 2)))))))), ?_⟩
  · obtain ⟨p, n, b, l, rfl, _⟩ := h
    rfl
  · rintro ds μ Q ⟨p, n, b, l, rfl, nd, hb, l1, l2, hP, q⟩
    obtain ⟨x0, l', rfl⟩ : ∃ x l', l = x :: l' := by
      cases l with
      | nil => simp at l1
      | cons x l => exact ⟨x, l, rfl⟩
    walk_at "zz"
    refine ⟨_, .inl ⟨.inl rfl, w_ff ?_⟩⟩
    walk_at "zz"
    refine ⟨_, .inl ⟨.inl rfl, w_ff ?_⟩⟩
    rw [show Zd.cutD ((x0 :: l').map D.int) none (some (1 : Int)) = [x0].map D.int from cut_to _ 1, show Zd.cutD ((x0 :: l').map D.int) (some (1 : Int)) none = l'.map D.int from cut_from _ 1]
    walk_at "zz"
    have nx0 : ∀ {dn lf : List Int}, dn ++ lf = x0 :: l' → dn.length ≤ 24 ∧ lf.length ≤ 24 := fun {dn lf} e => by
      have q1 := congrArg List.length e
      rw [List.length_append] at q1
      omega
    refine ⟨fun f ρ m => ∃ dn lf ts x5 x6 x7 x8 x9, ρ = [some (.adr p), some (.lst ((x0 :: l').map .int)), some (.lst (ts.map prI)), some (.lst (dn.map .int)), some (.lst (lf.map .int)), x5, x6, x7, x8, x9] ∧ dn ++ lf = x0 :: l' ∧ dn ≠ [] ∧ VT n ts ∧ ts.length ≤ 5 * dn.length ∧ Pn m p (b + 3 * lf.length) ∧ Ex p μ m ∧ lf.length = f,
      ⟨l'.length, [x0], l', [], _, _, _, _, _, rfl, rfl, List.cons_ne_nil _ _, (fun _ z => nomatch z), Nat.zero_le _, hP.less (by rw [List.length_cons] at l2; omega), Ex.refl, rfl⟩, ?_⟩
    rintro f ρ m ⟨dn, lf, ts, x5, x6, x7, x8, x9, rfl, eall, dne, hv, hl, hPn, hx, rfl⟩
    obtain ⟨d24, f24⟩ := nx0 eall
    have ndall : (dn ++ lf).Nodup := by rw [eall]; exact nd
    obtain ⟨ndd, ndf, dis⟩ := List.nodup_append.mp ndall
    have bd : ∀ v, v ∈ dn ∨ v ∈ lf → 0 ≤ v ∧ v < n := fun v h => hb v (by rw [← eall]; exact List.mem_append.mpr h)
    walk_at "zz"
    refine ⟨_, rfl, .inl ⟨_, .inl (.inl rfl), ?_⟩⟩
    rw [List.length_map]
    walk_at "zz"
    refine w_dec (fun h1 => ?_) fun h1 => ?_
    · refine ⟨fun ρ m => ∃ dn lf' ts x5 x6 x7 x8 x9, ρ = [some (.adr p), some (.lst ((x0 :: l').map .int)), some (.lst (ts.map prI)), some (.lst (dn.map .int)), some (.lst (lf'.map .int)), x5, x6, x7, x8, x9] ∧ dn ++ lf' = x0 :: l' ∧ dn ≠ [] ∧ VT n ts ∧ ts.length ≤ 5 * dn.length ∧ Pn m p (b + 3 * lf'.length) ∧ Ex p μ m ∧ lf'.length < lf.length, fun ρ' μ' ⟨dn, lf', ts, x5, x6, x7, x8, x9, e, h⟩ => ⟨lf'.length, h.2.2.2.2.2.2, dn, lf', ts, x5, x6, x7, x8, x9, e, h.1, h.2.1, h.2.2.1, h.2.2.2.1, h.2.2.2.2.1, h.2.2.2.2.2.1, rfl⟩, ?_⟩
      have h1 : 1 < lf.length := by omega
      with_reducible refine w_seqI (fun ρ m' => ∃ k : Nat, ρ = [some (.adr p), some (.lst ((x0 :: l').map .int)), some (.lst (ts.map prI)), some (.lst (dn.map .int)), some (.lst (lf.map .int)), some (.int k), x6, x7, x8, x9] ∧ 2 ≤ k ∧ k ≤ 4 ∧ k ≤ lf.length ∧ Pn m' p (b + 3 * lf.length - 1) ∧ Ex p μ m') (fun ρ m' hI => ?rest) (fun N hN => ?many)
      case many =>
        walk_at "zz"
        refine ⟨_, rfl, .inl ⟨_, .inl (.inl rfl), ?_⟩⟩
        rw [List.length_map]
        walk_at "zz"
        refine w_dec (fun h3 => ?_) fun h3 => ?_
        · walk_at "zz"
          refine ⟨p, _, b + 3 * lf.length - 1, rfl, by decide, by decide, by rw [show b + 3 * lf.length - 1 + 1 = b + 3 * lf.length by omega]; exact hPn, fun i d m' hd hP' hx' => ?_⟩
          have hd : ([2, 2, 4] : List Int)[i]?.map D.int = some d := by rw [← List.getElem?_map]; exact hd
          obtain ⟨v, hv', rfl⟩ := Option.map_eq_some_iff.mp hd
          have := List.mem_of_getElem? hv'
          simp only [List.mem_cons, List.not_mem_nil, or_false] at this
          refine hN _ _ ⟨v.toNat, by rw [Int.toNat_of_nonneg (by omega)]; rfl, by omega, by omega, by omega, hP', hx.trans hx'⟩
        · walk_at "zz"
          exact hN _ _ ⟨2, rfl, by decide, by decide, by omega, hPn.less (by omega), hx⟩
      case rest =>
        obtain ⟨k, rfl, k2, k4, kl, hPn, hx⟩ := hI
        have tlen : (lf.take k).length = k := by rw [List.length_take]; omega
        have tne : lf.take k ≠ [] := by intro z; rw [z] at tlen; simp at tlen; omega
        have tsub : ∀ v ∈ lf.take k, v ∈ lf := fun v hv => List.mem_of_mem_take hv
        have d1 : 1 ≤ (dn.map D.int).length := by rw [List.length_map]; exact List.length_pos_iff.mpr dne
        walk_at "zz"
        refine ⟨p, _, b + 3 * lf.length - 2, rfl, d1, by rw [List.length_map]; omega, by rw [show b + 3 * lf.length - 2 + 1 = b + 3 * lf.length - 1 by omega]; exact hPn, fun i d m1 hd hP1 hx1 => ?_⟩
        rw [List.getElem?_map] at hd
        obtain ⟨x, hxi, rfl⟩ := Option.map_eq_some_iff.mp hd
        have xd := List.mem_of_getElem? hxi
        walk_at "zz"
        refine ⟨_, .inl ⟨.inl rfl, w_ff ?_⟩⟩
        rw [cut_to, ← List.map_take]
        walk_at "zz"
        refine ⟨by rw [List.length_map, tlen, sizeLine_eq]; show 1 + k ≤ _; omega, ?_⟩
        walk_at "zz"
        refine ⟨p, _, b + 3 * lf.length - 3, rfl, d1, by rw [List.length_map]; omega, by rw [show b + 3 * lf.length - 3 + 1 = b + 3 * lf.length - 2 by omega]; exact hP1, fun j d m2 hd hP2 hx2 => ?_⟩
        rw [List.getElem?_map] at hd
        obtain ⟨y, hyj, rfl⟩ := Option.map_eq_some_iff.mp hd
        have yd := List.mem_of_getElem? hyj
        walk_at "zz"
        refine ⟨by rw [List.length_append, List.length_map, tlen, sizeLine_eq]; show 1 + k + 1 ≤ _; omega, ?_⟩
        have chain := ear_chain (x := x) (y := y) tne (ndf.sublist (List.take_sublist _ _)) (fun z => dis x xd x (tsub x z) rfl) (fun z => dis y yd y (tsub y z) rfl)
        have elen : (x :: lf.take k ++ [y]).length = k + 2 := by rw [List.cons_append, List.length_cons, List.length_append, tlen]; rfl
        have ebd : ∀ v ∈ x :: lf.take k ++ [y], 0 ≤ v ∧ v < n := fun v hv => by
          rcases List.mem_append.mp hv with hv | hv
          · rcases List.mem_cons.mp hv with rfl | hv
            · exact bd _ (.inl xd)
            · exact bd v (.inr (tsub v hv))
          · rw [List.mem_singleton.mp hv]; exact bd y (.inl yd)
        have eear : [D.int x] ++ (lf.take k).map D.int ++ [D.int y] = (x :: lf.take k ++ [y]).map D.int := by rw [List.map_append]; rfl
        rw [eear]
        generalize x :: lf.take k ++ [y] = ear at chain elen ebd
        walk_at "zz"
        refine ⟨_, rfl, .inl ⟨_, .inl (.inl rfl), ?_⟩⟩
        rw [List.length_map, elen]
        walk_at "zz"
        refine ⟨_, rfl, by omega, by omega, fun j ρ m => ∃ ts' x7 x8 x9, ρ = [some (.adr p), some (.lst ((x0 :: l').map .int)), some (.lst (ts'.map prI)), some (.lst (dn.map .int)), some (.lst (lf.map .int)), some (.int k), some (.lst (ear.map .int)), x7, x8, x9] ∧ VT n ts' ∧ ts'.length ≤ ts.length + j ∧ m = m2, ⟨ts, _, _, _, rfl, hv, Nat.le_refl _, rfl⟩, ?_, ?_⟩
        · rintro j x ρ m hxj ⟨ts', x7, x8, x9, rfl, hv', hl', rfl⟩
          obtain ⟨hj, rfl⟩ := rngD_get hxj
          rw [Int.zero_add]
          obtain ⟨u, hu⟩ : ∃ u, ear[j]? = some u := ⟨_, List.getElem?_eq_getElem (by omega)⟩
          obtain ⟨v, hv2⟩ : ∃ v, ear[j + 1]? = some v := ⟨_, List.getElem?_eq_getElem (by omega)⟩
          have uv := chain.get j u v hu hv2
          have a1 : atI (ear.map D.int) (j : Int) = some (.int u) := atI_nat (by rw [List.getElem?_map, hu]; rfl)
          have a2 : atI (ear.map D.int) ((j : Int) + 1) = some (.int v) := atI_nat (j := j + 1) (by rw [List.getElem?_map, hv2]; rfl)
          refine ⟨trivial, ?_⟩
          walk_at "zz"
          refine ⟨_, a1, ?_⟩
          walk_at "zz"
          refine ⟨_, a2, ?_⟩
          walk_at "zz"
          refine ⟨u, v, rfl, ?_⟩
          walk_at "zz"
          refine ⟨_, a1, ?_⟩
          walk_at "zz"
          refine ⟨_, a2, ?_⟩
          walk_at "zz"
          refine ⟨u, v, rfl, ?_⟩
          walk_at "zz"
          refine itS_fm (fun _ => if (min u v, max u v) ∈ ts' then none else some (prI (min u v, max u v))) (.inl (.inl rfl)) (by decide) (fun i x hx N hN => ?_) ?_
          · walk_at "zz"
            refine w_in_prL (p := (min u v, max u v)) (.inl rfl) ?_
            walk_at "zz"
            by_cases c : (min u v, max u v) ∈ ts'
            · rw [if_pos c] at hN
              rw [decide_eq_true c]
              exact w_ff hN
            · rw [if_neg c] at hN
              rw [decide_eq_false c]
              refine w_tt ?_
              walk_at "zz"
              exact hN
          · have e : [D.int 0].filterMap (fun _ => if (min u v, max u v) ∈ ts' then none else some (prI (min u v, max u v))) = (if (min u v, max u v) ∈ ts' then [] else [(min u v, max u v)]).map prI := by
              by_cases c : (min u v, max u v) ∈ ts'
              · simp [c]
              · simp [c]
            rw [e]
            have l1 : ((if (min u v, max u v) ∈ ts' then [] else [(min u v, max u v)]) : List (Int × Int)).length ≤ 1 := by split <;> simp
            have v1 : VT n (if (min u v, max u v) ∈ ts' then [] else [(min u v, max u v)]) := by
              split
              · exact fun _ z => nomatch z
              · exact VT.one (ebd u (List.mem_of_getElem? hu)) (ebd v (List.mem_of_getElem? hv2)) uv
            walk_at "zz"
            refine ⟨by rw [List.length_map, List.length_map, sizeLine_eq]; omega, ?_⟩
            rw [prs_app]
            exact ⟨_, _, _, _, rfl, hv'.app v1, by rw [List.length_append]; omega, rfl⟩
        · rintro ρ m ⟨ts', x7, x8, x9, rfl, hv', hl', rfl⟩
          rw [rngD_len] at hl'
          refine ⟨trivial, ?_⟩
          walk_at "zz"
          refine ⟨_, .inl ⟨.inl rfl, w_ff ?_⟩⟩
          rw [cut_to, ← List.map_take]
          walk_at "zz"
          refine ⟨by rw [List.length_map, List.length_map, tlen, sizeLine_eq]; omega, ?_⟩
          walk_at "zz"
          refine ⟨_, .inl ⟨.inl rfl, w_ff ?_⟩⟩
          rw [cut_from, ← List.map_drop, ← List.map_append]
          walk_at "zz"
          refine ⟨_, _, rfl, dn ++ lf.take k, lf.drop k, ts', _, _, _, _, _, rfl, by rw [List.append_assoc, List.take_append_drop]; exact eall, by intro z; exact dne (List.append_eq_nil_iff.mp z).1, hv', by rw [List.length_append, tlen]; omega, hP2.less (by rw [List.length_drop]; omega), (hx.trans hx1).trans hx2, by rw [List.length_drop]; omega⟩
    · walk_at "zz"
      exact RT.one (q ts m hv (by omega) (hPn.less (by omega)) hx)
end
end K78


set_option Elab.async false
set_option linter.all false
set_option maxRecDepth 100000
set_option maxHeartbeats 4000000
namespace K78
open PySem PySem.Spec PyProof.Rows L2 Zd
local macro_rules | `(tactic| walk_at "z") => `(tactic| with_reducible first
  | refine w_seq ?_ | refine w_set ?_ | refine w_c ?_ | refine w_op ?_ | refine w_cons ?_ | refine w_nil ?_ | refine w_ret ?_ | refine w_call ?_ | refine w_tdin ?_ | refine w_test ?_ | refine w_blR ?_ | refine w_ntt ?_ | refine w_nff ?_
  | refine w_ifS ?_ | refine w_and ?_ | refine w_or ?_ | refine w_not ?_ | refine w_tup ?_ | refine w_lst ?_ | refine w_B ?_ | refine w_drop ?_ | refine w_asg ?_ | refine w_if ?_ | refine w_lstN ?_
  | refine w_add_ii ?_ | refine w_sub_ii ?_ | refine w_lt_ii ?_ | refine w_le_ii ?_ | refine w_gt_ii ?_ | refine w_ge_ii ?_ | refine w_eq_ii ?_ | refine w_ne_ii ?_ | refine w_isN ?_ | refine w_notN ?_
  | refine w_add_ll ?_ | refine w_add_tt ?_ | refine w_ix_l ?_ | refine w_ix_t ?_ | refine w_ix_f ?_ | refine w_mod_ii ?_ | refine w_div_ii ?_ | refine w_mul_ii ?_ | refine w_pow_ii ?_
  | refine w_andV ?_ | refine w_orV ?_ | refine w_notV ?_ | refine w_yes ?_ | refine w_tt ?_ | refine w_ff ?_
  | refine w_for ?_ | refine w_it1 ?_ | refine w_it2 ?_ | refine w_itS ?_ | refine w_lc ?_ | refine w_lcN ?_ | refine w_par ?_ | refine w_next ?_ | refine w_gd ?_ | refine w_iteT ?_ | refine w_iteF ?_ | refine w_gdC ?_ | refine w_gdN ?_
  | refine w_neg ?_ | refine w_negR ?_ | refine w_chain ?_ | refine w_cont ?_ | refine w_brk ?_ | refine w_retN ?_ | refine w_asgT ?_ | refine w_dget ?_ | refine w_dput ?_ | refine w_din ?_ | refine w_app ?_ | refine w_pop ?_ | refine w_cut ?_ | refine w_rev ?_ | refine w_while ?_ | refine w_dict ?_ | refine w_itE ?_ | refine w_fld ?_ | refine w_rg1 ?_ | refine w_rg2 ?_ | refine w_popAt ?_ | refine w_partN ?_ | refine w_partS ?_ | refine w_disp ?_ | refine w_pcons ?_ | refine w_pnil ?_ | refine w_fldS ?_ | refine w_par3 ?_ | refine w_sortSet ?_ | refine w_lenSet ?_ | refine w_gdDput ?_ | refine w_i0 ?_)
local macro_rules | `(tactic| walk_at "v") => `(tactic| ((with_reducible refine w_var (d := ?dv) ?hv ?_); (case hv => exact rfl)))
local macro_rules | `(tactic| walk_at "t") => `(tactic| ((with_reducible refine w_gdT ?hv ?_); (case hv => exact rfl)))
local macro_rules | `(tactic| walk_at "a") => `(tactic| ((with_reducible refine w_aug (x := ?xv) ?hv ?_); (case hv => exact rfl)))
local macro_rules | `(tactic| walk_at "l") => `(tactic| refine And.intro (Nat.le_of_ble_eq_true rfl) ?_)
local macro_rules | `(tactic| walk_at "zz") => `(tactic| ((try (with_reducible conv => whnf)); repeat (first | walk_at "z" | walk_at "v" | walk_at "l" | walk_at "t" | walk_at "a")))

theorem up_nodup {ts : List (Int × Int)} (h : ts.Pairwise prL) : ts.Nodup := h.imp fun {p q} h e => by
  subst e
  unfold prL at h
  omega
theorem up_few {n : Nat} (hn : n ≤ 24) {ts : List (Int × Int)} (h : ts.Pairwise prL) (hv : VT n ts) : ts.length ≤ 276 :=
  Nat.le_trans (List.Nodup.length_le_of_subset (up_nodup h) (l₂ := allP n) fun p hp => mem_allP.mpr (hv p hp)) (allP_few hn)
theorem perm_ints {n : Nat} {out : List D} (h : out.Perm (rngD 0 n)) : ∃ l : List Int, out = l.map D.int ∧ l.Nodup ∧ (∀ v ∈ l, 0 ≤ v ∧ v < n) ∧ l.length = n := by
  rw [rngD_rngI] at h
  have key : ∀ l : List D, (∀ d ∈ l, ∃ v : Int, d = .int v) → ∃ m : List Int, l = m.map D.int := by
    intro l
    induction l with
    | nil => exact fun _ => ⟨[], rfl⟩
    | cons d l ih =>
      intro hd
      obtain ⟨v, e⟩ := hd d List.mem_cons_self
      obtain ⟨m, em⟩ := ih fun e he => hd e (List.mem_cons_of_mem _ he)
      exact ⟨v :: m, by rw [List.map_cons, e, em]⟩
  obtain ⟨l, rfl⟩ := key out fun d hd => by
    obtain ⟨v, _, e⟩ := List.mem_map.mp (h.mem_iff.mp hd)
    exact ⟨v, e.symm⟩
  have inj : ∀ a b : Int, D.int a = D.int b → a = b := fun a b e => D.int.inj e
  have nr : ((rngI n).map D.int).Nodup := by
    refine List.pairwise_map.mpr ?_
    unfold rngI
    refine List.pairwise_map.mpr (List.nodup_range.imp fun {a b} hne e => hne (by have := D.int.inj e; omega))
  have nd : l.Nodup := by
    have := h.nodup_iff.mpr nr
    exact (List.pairwise_map.mp this).imp fun {a b} hne e => hne (by rw [e])
  refine ⟨l, rfl, nd, fun v hv => ?_, ?_⟩
  · obtain ⟨u, hu, e⟩ := List.mem_map.mp (h.mem_iff.mp (List.mem_map.mpr ⟨v, hv, rfl⟩))
    rw [← D.int.inj e]
    exact mem_rngI.mp hu
  · have := h.length_eq
    rw [List.length_map, List.length_map, rngI_len] at this
    exact this
/-- where the barred ties' loop stands -/
def barI (p : Addr) (n b : Nat) (μ : Mu) (l bar : List Int) (x3 : Option D) (f : Nat) (ρ : EnvD) (m : Mu) : Prop :=
  ∃ (lf : List Int) (ts : List (Int × Int)) (a : Addr) (x7 x8 x9 x10 x11 : Option D), ρ = [some (.adr p), some (.int n), some (.lst (l.map .int)), x3, some (.lst (bar.map .int)), some (.lst (lf.map .int)), some (.adr a), x7, x8, x9, x10, x11] ∧
    lf.Nodup ∧ (∀ v ∈ lf, v ∉ bar) ∧ (∀ v ∈ lf, 0 ≤ v ∧ v < n) ∧ lf.length ≤ 24 ∧ Kp p μ m ∧ Pn m p (b + 10 + 200 * lf.length) ∧ μ a = none ∧ m a = some (.lst (ts.map prI)) ∧ VT n ts ∧ ts.length + 250 * lf.length ≤ 10000 ∧ lf.length = f
section
variable {P : Program} {w : World} {K : PySem.W.Frag} {mg : Str → Option Value} {base : Heap} {C : Addr}
theorem ok_law_barred_ties (T : Txt K mg C) (F : Std K mg "_law_barred_ties" s_law_barred_ties ["pen", "size"]) (h_law_draw : Def P w K mg base "_law_draw" 1 ["pen", "many"] spDraw) (h_law_pick : Def P w K mg base "_law_pick" 2 ["pen", "some"] spPick) (h_law_shuffled : Def P w K mg base "_law_shuffled" 2 ["pen", "some"] spShuf)
    (h_law_flower_ties : Def P w K mg base "_law_flower_ties" 3 ["pen", "places"] spFlower) :
    Def P w K mg base "_law_barred_ties" 4 ["pen", "size"] spGen := by
  refine F.def sc_law_barred_ties (fun ds μ Q h => ?_) fun cdv A outer s H E f hr => ⟨_, ((pssd_cons (psd_set (i := 2) sc_law_barred_ties.nd rfl (Or.inl rfl) (pd_callF h_law_shuffled hr (by decide) (by rfl) (pad_cons (pd_var 0) (pad_cons (pd_listRg1 false rfl (by rfl) T.list (by rfl) T.range (pd_var 1)) pad_nil))))
  (pssd_cons (psd_set (i := 3) sc_law_barred_ties.nd rfl (Or.inl rfl) (pd_callF h_law_draw hr (by decide) (by rfl) (pad_cons (pd_var 0) (pad_cons (pd_add (pd_div (pd_var 1) pd_i) pd_i) pad_nil))))
  (pssd_cons (psd_par3 (i := 4) (j := 5) (l := 6) rfl sc_law_barred_ties.nd rfl rfl rfl (by decide) (by decide) (by decide) rfl rfl rfl (pad_cons (pd_cut false (pd_var 2) pod_none (pod_some (pd_var 3))) (pad_cons (pd_cut false (pd_var 2) (pod_some (pd_var 3)) pod_none) (pad_cons (pd_lstN pad_nil) pad_nil))) (by rfl))
  (pssd_cons (psd_while PassesOwn.never (ptd_ne (pd_var 5) (pd_lst pad_nil) (hr.units)) (pssd_cons (psd_set (i := 7) sc_law_barred_ties.nd rfl (Or.inl rfl) (pd_min2 rfl (by rfl) T.min (pad_cons (pd_callF h_law_pick hr (by decide) (by rfl) (pad_cons (pd_var 0) (pad_cons (pd_lst (pad_cons pd_i (pad_cons pd_i (pad_cons pd_i (pad_cons pd_i (pad_cons pd_i pad_nil)))))) pad_nil))) (pad_cons (pd_add (pd_sub (pd_len (by rfl) T.len (pad_cons (pd_var 5) pad_nil)) pd_i) (pd_mod (pd_int (by rfl) T.int (pad_cons (pd_len (by rfl) T.len (pad_cons (pd_var 5) pad_nil)) pad_nil)) pd_i)) pad_nil))))
  (pssd_cons (psd_par (i := 8) (j := 5) rfl sc_law_barred_ties.nd rfl rfl (by decide) rfl rfl (pad_cons (pd_cut false (pd_var 5) pod_none (pod_some (pd_var 7))) (pad_cons (pd_cut false (pd_var 5) (pod_some (pd_var 7)) pod_none) pad_nil)) (by rfl))
  (pssd_cons (psd_set (i := 6) sc_law_barred_ties.nd rfl (Or.inl rfl) (pd_addN (pd_var 6) (pd_callF h_law_flower_ties hr (by decide) (by rfl) (pad_cons (pd_var 0) (pad_cons (pd_var 8) pad_nil)))))
  (pssd_cons (psd_for PassesOwn.never rfl (pid_seq (pd_var 4)) (pgd_name (i := 9) sc_law_barred_ties.nd rfl (Or.inl rfl)) (pssd_cons (psd_set (i := 10) sc_law_barred_ties.nd rfl (Or.inl rfl) (pd_callF h_law_pick hr (by decide) (by rfl) (pad_cons (pd_var 0) (pad_cons (pd_var 8) pad_nil))))
  (pssd_one (psd_if (ptd_gt (pd_callF h_law_draw hr (by decide) (by rfl) (pad_cons (pd_var 0) (pad_cons pd_i pad_nil))) pd_i) (pssd_one (psd_expr (pd_append (pd_var 6) (pd_tup (pad_cons (pd_min2 rfl (by rfl) T.min (pad_cons (pd_var 9) (pad_cons (pd_var 10) pad_nil))) (pad_cons (pd_max2 rfl (by rfl) T.max (pad_cons (pd_var 9) (pad_cons (pd_var 10) pad_nil))) pad_nil)))))) pssd_nil))))
  (pssd_one (psd_if (PWD.pt (pwd_and (ptd_eq (pd_len (by rfl) T.len (pad_cons (pd_var 5) pad_nil)) pd_i (hr.units)) (pwd_and1 (ptd_eq (pd_callF h_law_draw hr (by decide) (by rfl) (pad_cons (pd_var 0) (pad_cons pd_i pad_nil))) pd_i (hr.units))))) (pssd_one (psd_set (i := 5) sc_law_barred_ties.nd rfl (Or.inl rfl) (pd_lst pad_nil))) pssd_nil)))))))
  (pssd_cons (psd_for PassesOwn.never rfl (pid_range1 (by rfl) T.range (pad_cons (pd_callF h_law_draw hr (by decide) (by rfl) (pad_cons (pd_var 0) (pad_cons pd_i pad_nil))) pad_nil)) (pgd_name (i := 11) sc_law_barred_ties.nd rfl (Or.inl rfl)) (pssd_one (psd_if (ptd_gt (pd_len (by rfl) T.len (pad_cons (pd_var 4) pad_nil)) pd_i) (pssd_one (psd_expr (pd_append (pd_var 6) (pd_tup (pad_cons (pd_min2 rfl (by rfl) T.min (pad_cons (pd_ix (pd_var 4) pd_i) (pad_cons (pd_ix (pd_var 4) pd_i) pad_nil))) (pad_cons (pd_max2 rfl (by rfl) T.max (pad_cons (pd_ix (pd_var 4) pd_i) (pad_cons (pd_ix (pd_var 4) pd_i) pad_nil))) pad_nil)))))) pssd_nil)))
  (pssd_one (psd_ret (Zs.pd_sortSet rfl hr.units (by rfl) T.sorted (by rfl) T.set (pd_var 6)))))))))), ?_⟩
  · obtain ⟨p, n, b, rfl, _⟩ := h
    rfl
  · rintro ds μ Q ⟨p, n, b, rfl, n1, n2, hP, q⟩
    walk_at "zz"
    refine ⟨by unfold RgOk; omega, w_ff ?_⟩
    walk_at "zz"
    refine ⟨p, rngD 0 n, b + 9900, rfl, by rw [rngD_len]; omega, hP.less (by rw [rngD_len]; omega), fun out m1 pm hP1 hx1 => ?_⟩
    obtain ⟨l, rfl, nd, bd, ll⟩ := perm_ints pm
    walk_at "zz"
    refine ⟨⟨by decide, by decide⟩, ?_⟩
    walk_at "zz"
    have hd3 : ∃ k : Nat, Int.fdiv (n : Int) 3 + 1 = k ∧ 1 ≤ k ∧ k ≤ 9 := by
      have h0 := Int.fdiv_nonneg (show (0 : Int) ≤ n by omega) (show (0 : Int) ≤ 3 by decide)
      have h1 : Int.fdiv (n : Int) 3 = (n : Int) / 3 := Int.fdiv_eq_ediv_of_nonneg _ (by decide)
      exact ⟨(Int.fdiv (n : Int) 3 + 1).toNat, by omega, by omega, by omega⟩
    obtain ⟨k, ek, k1, k9⟩ := hd3
    rw [ek]
    refine ⟨p, k, b + 9899, rfl, k1, by omega, hP1, fun d m2 hd hP2 hx2 => ?_⟩
    walk_at "zz"
    refine ⟨_, .inl ⟨.inl rfl, w_ff ?_⟩⟩
    rw [cut_to, ← List.map_take]
    walk_at "zz"
    refine ⟨_, .inl ⟨.inl rfl, w_ff ?_⟩⟩
    rw [cut_from, ← List.map_drop]
    walk_at "zz"
    intro a ha
    walk_at "zz"
    refine ⟨_, _, _, rfl, ?_⟩
    have a0 : μ a = none := by
      have e1 : m2 a = m1 a := hx2 a (by intro z; subst z; obtain ⟨o, e⟩ := hP2.some; rw [ha] at e; cases e)
      have e2 : m1 a = μ a := hx1 a (by intro z; subst z; obtain ⟨o, e⟩ := hP2.some; rw [ha] at e; cases e)
      rw [← e2, ← e1]; exact ha
    have pa := hP.ne a0
    have ndall : (l.take d ++ l.drop d).Nodup := by rw [List.take_append_drop]; exact nd
    have bd2 : ∀ v, v ∈ l.take d ∨ v ∈ l.drop d → 0 ≤ v ∧ v < n := fun v h => bd v (h.elim List.mem_of_mem_take List.mem_of_mem_drop)
    have tl : (l.take d).length ≤ 9 := by rw [List.length_take]; omega
    have dl : (l.drop d).length ≤ 24 := by rw [List.length_drop]; omega
    generalize l.take d = bar at ndall bd2 tl ⊢
    generalize l.drop d = left at ndall bd2 dl ⊢
    obtain ⟨ndb, ndl, dis⟩ := List.nodup_append.mp ndall
    walk_at "zz"
    refine ⟨barI p n b μ l bar (some (.int d)), ⟨left.length, left, [], a, _, _, _, _, _, rfl, ndl, fun v hv hb => dis v hb v hv rfl, fun v hv => bd2 v (.inr hv), dl, ((Kp.refl.ex hx1).ex hx2).upd a0 _, (hP2.less (by omega)).upd pa _, a0, updM_same, (fun _ z => nomatch z), by rw [List.length_nil]; omega, rfl⟩, ?_⟩
    rintro f ρ m ⟨lf, ts, a, x7, x8, x9, x10, x11, rfl, ndf, off, bdf, f24, hk, hPn, a0, ha, hv, hl, rfl⟩
    have pa := hP.ne a0
    walk_at "zz"
    refine ⟨_, _, .inl rfl, .inl rfl, (Sm.ints _).dat (by decide), (Sm.ints []).dat (by decide), ?_⟩
    rw [eqD_nil]
    walk_at "zz"
    rcases Classical.em (lf = []) with hw | hw
    · subst hw
      refine w_ff ?_
      walk_at "zz"
      refine ⟨p, 2, b + 9, rfl, by decide, by decide, hPn, fun g m3 hg hP3 hx3 => ?_⟩
      walk_at "zz"
      refine ⟨g, rfl, by omega, by omega, fun j ρ m => ∃ ts x11, ρ = [some (.adr p), some (.int n), some (.lst (l.map .int)), some (.int d), some (.lst (bar.map .int)), some (.lst ([].map .int)), some (.adr a), x7, x8, x9, x10, x11] ∧ Kp p μ m ∧ Pn m p b ∧ m a = some (.lst (ts.map prI)) ∧ VT n ts ∧ ts.length ≤ 10000 + j,
        ⟨ts, _, rfl, hk.ex hx3, hP3.less (by omega), (hx3 a pa).trans ha, hv, by simp at hl; omega⟩, ?_, ?_⟩
      · rintro j x ρ m hx ⟨ts, x11, rfl, hk, hPn, ha, hv, hl⟩
        obtain ⟨hj, rfl⟩ := rngD_get hx
        have hj : j < 2 := by omega
        refine ⟨trivial, ?_⟩
        walk_at "zz"
        refine ⟨_, rfl, .inl ⟨_, .inl (.inl rfl), ?_⟩⟩
        rw [List.length_map]
        walk_at "zz"
        refine w_dec (fun h1 => ?_) fun _ => ?_
        · obtain ⟨u, v, br, rfl⟩ : ∃ u v br, bar = u :: v :: br := by
            match bar, h1 with
            | [], h => simp at h
            | [x], h => simp at h
            | u :: v :: br, _ => exact ⟨u, v, br, rfl⟩
          have uv : u ≠ v := fun e => (List.nodup_cons.mp ndb).1 (e ▸ List.mem_cons_self)
          walk_at "zz"
          refine ⟨a, rfl, ⟨_, ha⟩, ?_⟩
          walk_at "zz"
          refine ⟨_, atI_nat (j := 0) rfl, ?_⟩
          walk_at "zz"
          refine ⟨_, atI_nat (j := 1) rfl, ?_⟩
          walk_at "zz"
          refine ⟨u, v, rfl, ?_⟩
          walk_at "zz"
          refine ⟨_, atI_nat (j := 0) rfl, ?_⟩
          walk_at "zz"
          refine ⟨_, atI_nat (j := 1) rfl, ?_⟩
          walk_at "zz"
          refine ⟨u, v, rfl, ?_⟩
          walk_at "zz"
          refine ⟨_, ha, by rw [List.length_map, sizeLine_eq]; omega, ?_⟩
          refine ⟨ts ++ [(min u v, max u v)], _, rfl, hk.upd a0 _, hPn.upd pa _, by rw [updM_same, List.map_append]; rfl, hv.app (VT.one (bd2 u (.inl List.mem_cons_self)) (bd2 v (.inl (List.mem_cons_of_mem _ List.mem_cons_self))) uv), by rw [List.length_append]; show ts.length + 1 ≤ _; omega⟩
        · exact ⟨ts, _, rfl, hk, hPn, ha, hv, by omega⟩
      · rintro ρ m ⟨ts, x11, rfl, hk, hPn, ha, hv, hl⟩
        refine ⟨trivial, ?_⟩
        walk_at "zz"
        refine ⟨ts, allP n, .inr (.inr ⟨a, rfl, ha⟩), fun p hp => mem_allP.mpr (hv p hp), Nat.le_trans (allP_few n2) (by decide), fun qs hq up => ?_⟩
        have vq : VT n qs := fun p hp => hv p ((hq p).mp hp)
        exact ret_any hk hPn fun μ' c e => q qs μ' vq (Nat.le_trans (up_few n2 up vq) (by decide)) c e
    · have isn : (List.map D.int lf).isEmpty = false := by
        cases lf with
        | nil => exact absurd rfl hw
        | cons x r => rfl
      have f1 : 1 ≤ lf.length := List.length_pos_iff.mpr hw
      rw [isn]
      refine w_tt ?_
      refine ⟨fun ρ m => ∃ f, f < lf.length ∧ barI p n b μ l bar (some (.int d)) f ρ m, fun ρ' μ' h => h, ?_⟩
      walk_at "zz"
      refine ⟨p, _, b + 9 + 200 * lf.length, rfl, by decide, by decide, by rw [show b + 9 + 200 * lf.length + 1 = b + 10 + 200 * lf.length by omega]; exact hPn, fun i e m3 he hP3 hx3 => ?_⟩
      have key : ∃ v : Int, 1 ≤ v ∧ e = .int v := by
        have he : ([1, 1, 3, 1, 5] : List Int)[i]?.map D.int = some e := by rw [← List.getElem?_map]; exact he
        obtain ⟨v, hv, rfl⟩ := Option.map_eq_some_iff.mp he
        have := List.mem_of_getElem? hv
        simp only [List.mem_cons, List.not_mem_nil, or_false] at this
        exact ⟨v, by omega, rfl⟩
      obtain ⟨v, v1, rfl⟩ := key
      walk_at "zz"
      refine ⟨_, rfl, .inl ⟨_, .inl (.inl rfl), ?_⟩⟩
      rw [List.length_map]
      walk_at "zz"
      refine ⟨_, rfl, .inl ⟨_, .inl (.inl rfl), ?_⟩⟩
      rw [List.length_map]
      walk_at "zz"
      refine .inl ⟨_, rfl, ?_⟩
      walk_at "zz"
      refine ⟨by decide, ?_⟩
      walk_at "zz"
      refine ⟨_, _, rfl, ?_⟩
      obtain ⟨cut, ec, c1, c2⟩ : ∃ cut : Nat, min v ((lf.length : Int) - 1 + Int.fmod (lf.length : Int) 2) = cut ∧ 1 ≤ cut ∧ cut ≤ lf.length := by
        rw [Int.fmod_eq_emod_of_nonneg _ (by decide)]
        refine ⟨(min v ((lf.length : Int) - 1 + (lf.length : Int) % 2)).toNat, ?_, ?_, ?_⟩ <;> omega
      rw [ec]
      walk_at "zz"
      refine ⟨_, .inl ⟨.inl rfl, w_ff ?_⟩⟩
      rw [cut_to, ← List.map_take]
      walk_at "zz"
      refine ⟨_, .inl ⟨.inl rfl, w_ff ?_⟩⟩
      rw [cut_from, ← List.map_drop]
      walk_at "zz"
      refine ⟨_, _, rfl, ?_⟩
      have fl : (lf.take cut).length = cut := by rw [List.length_take]; omega
      have fne : lf.take cut ≠ [] := by intro z; rw [z] at fl; simp at fl; omega
      have fsub : ∀ v ∈ lf.take cut, v ∈ lf := fun v h => List.mem_of_mem_take h
      have rsub : ∀ v ∈ lf.drop cut, v ∈ lf := fun v h => List.mem_of_mem_drop h
      have rl : (lf.drop cut).length = lf.length - cut := List.length_drop
      walk_at "zz"
      refine ⟨p, n, b + 200 * lf.length - 91, lf.take cut, rfl, ndf.sublist (List.take_sublist _ _), fun v h => bdf v (fsub v h), by omega, by omega, ?_, fun fts m4 fv fl2 hP4 hx4 => ?_⟩
      · exact hP3.less (by omega)
      have ha4 : m4 a = some (.lst (ts.map prI)) := (hx4 a pa).trans ((hx3 a pa).trans ha)
      refine ⟨_, _, .inr ⟨a, rfl, ha4⟩, .inl rfl, by rw [List.length_map, List.length_map, sizeLine_eq]; omega, fun a' ha' => ?_⟩
      rw [prs_app]
      have pa' : a' ≠ p := by intro z; subst z; obtain ⟨o, e⟩ := hP4.some; rw [ha'] at e; cases e
      have a0' : μ a' = none := ((hk.ex hx3).ex hx4).none pa' ha'
      have hk5 : Kp p μ (updM m4 a' (.lst ((ts ++ fts).map prI))) := ((hk.ex hx3).ex hx4).upd a0' _
      have hP5 : Pn (updM m4 a' (.lst ((ts ++ fts).map prI))) p (b + 100 + 200 * (lf.length - cut)) := (hP4.less (by omega)).upd pa' _
      have ha5 : (updM m4 a' (.lst ((ts ++ fts).map prI))) a' = some (.lst ((ts ++ fts).map prI)) := updM_same
      generalize updM m4 a' (.lst ((ts ++ fts).map prI)) = m5 at hk5 hP5 ha5 ⊢
      walk_at "zz"
      refine itS_forA (fun _ => .inl (.inl rfl)) fun live lv => ⟨fun j ρ m => ∃ ts' x9 x10, ρ = [some (.adr p), some (.int n), some (.lst (l.map .int)), some (.int d), some (.lst (bar.map .int)), some (.lst ((lf.drop cut).map .int)), some (.adr a'), some (.int cut), some (.lst ((lf.take cut).map .int)), x9, x10, x11] ∧ Kp p μ m ∧ Pn m p (b + 100 + 200 * (lf.length - cut) - 2 * j) ∧ m a' = some (.lst (ts'.map prI)) ∧ VT n ts' ∧ ts'.length ≤ (ts ++ fts).length + j,
        ⟨ts ++ fts, _, _, rfl, hk5, hP5, ha5, hv.app fv, Nat.le_refl _⟩, ?_, ?_⟩
      · rintro j x ρ m hx ⟨ts', x9, x10, rfl, hk, hPn, ha, hv', hl'⟩
        have hx : (bar.map D.int)[j]? = some x := hx
        rw [List.getElem?_map] at hx
        obtain ⟨u, hu, rfl⟩ := Option.map_eq_some_iff.mp hx
        have hj := (List.getElem?_eq_some_iff.mp hu).1
        have ub := List.mem_of_getElem? hu
        refine ⟨lv _, ?_⟩
        walk_at "zz"
        refine ⟨p, _, b + 100 + 200 * (lf.length - cut) - (2 * j + 1), rfl, by rw [List.length_map]; omega, by rw [List.length_map]; omega, hPn.less (by omega), fun i e m6 he hP6 hx6 => ?_⟩
        rw [List.getElem?_map] at he
        obtain ⟨o, ho, rfl⟩ := Option.map_eq_some_iff.mp he
        have om := List.mem_of_getElem? ho
        walk_at "zz"
        refine ⟨p, 4, b + 100 + 200 * (lf.length - cut) - 2 * (j + 1), rfl, by decide, by decide, hP6.less (by omega), fun g m7 hg hP7 hx7 => ?_⟩
        have ha7 : m7 a' = some (.lst (ts'.map prI)) := (hx7 a' pa').trans ((hx6 a' pa').trans ha)
        rw [List.length_append] at hl'
        walk_at "zz"
        refine w_dec (fun _ => ?_) fun _ => ?_
        · walk_at "zz"
          refine ⟨a', rfl, ⟨_, ha7⟩, ?_⟩
          walk_at "zz"
          refine ⟨u, o, rfl, ?_⟩
          walk_at "zz"
          refine ⟨u, o, rfl, ?_⟩
          walk_at "zz"
          refine ⟨_, ha7, by rw [List.length_map, sizeLine_eq]; omega, ?_⟩
          refine ⟨ts' ++ [(min u o, max u o)], _, _, rfl, ((hk.ex hx6).ex hx7).upd a0' _, hP7.upd pa' _, by rw [updM_same, List.map_append]; rfl, hv'.app (VT.one (bd2 u (.inl ub)) (bdf o (fsub o om)) fun e => off o (fsub o om) (e ▸ ub)), by rw [List.length_append, List.length_append]; show ts'.length + 1 ≤ _; omega⟩
        · exact ⟨ts', _, _, rfl, (hk.ex hx6).ex hx7, hP7, ha7, hv', by rw [List.length_append]; omega⟩
      · rintro ρ m ⟨ts', x9, x10, rfl, hk, hPn, ha, hv', hl'⟩
        have hl' : ts'.length ≤ (ts ++ fts).length + (bar.map D.int).length := hl'
        have hPn : Pn m p (b + 100 + 200 * (lf.length - cut) - 2 * (bar.map D.int).length) := hPn
        rw [List.length_append, List.length_map] at hl'
        rw [List.length_map] at hPn
        refine ⟨lv _, ?_⟩
        walk_at "zz"
        refine ⟨_, rfl, .inl ⟨_, .inl (.inl rfl), ?_⟩⟩
        rw [List.length_map]
        walk_at "zz"
        have go : ∀ m', Kp p μ m' → Pn m' p (b + 10 + 200 * (lf.length - cut)) → m' a' = some (.lst (ts'.map prI)) → ∃ f, f < lf.length ∧ barI p n b μ l bar (some (.int d)) f [some (.adr p), some (.int n), some (.lst (l.map .int)), some (.int d), some (.lst (bar.map .int)), some (.lst ((lf.drop cut).map .int)), some (.adr a'), some (.int cut), some (.lst ((lf.take cut).map .int)), x9, x10, x11] m' := fun m' h1 h2 h3 =>
          ⟨_, by rw [rl]; omega, lf.drop cut, ts', a', _, _, _, _, _, rfl, ndf.sublist (List.drop_sublist _ _), fun v h => off v (rsub v h), fun v h => bdf v (rsub v h), by omega, h1, by rw [rl]; exact h2, a0', h3, hv', by rw [rl]; omega, rfl⟩
        refine w_dec (fun _ => ?_) fun _ => ?_
        · walk_at "zz"
          refine ⟨p, 2, b + 10 + 200 * (lf.length - cut), rfl, by decide, by decide, hPn.less (by omega), fun g m8 hg hP8 hx8 => ?_⟩
          have ha8 : m8 a' = some (.lst (ts'.map prI)) := (hx8 a' pa').trans ha
          walk_at "zz"
          refine w_dec (fun _ => ?_) fun _ => ?_
          · walk_at "zz"
            exact ⟨0, by omega, [], ts', a', _, _, _, _, _, rfl, List.nodup_nil, (fun _ z => nomatch z), (fun _ z => nomatch z), Nat.zero_le _, hk.ex hx8, hP8.less (by simp), a0', ha8, hv', by simp; omega, rfl⟩
          · exact go m8 (hk.ex hx8) hP8 ha8
        · refine w_ff (go m hk (hPn.less (by omega)) ha)
end
end K78


set_option Elab.async false
set_option linter.all false
set_option maxRecDepth 100000
set_option maxHeartbeats 4000000
namespace K78
open PySem PySem.Spec PyProof.Rows L2 Zd
local macro_rules | `(tactic| walk_at "z") => `(tactic| with_reducible first
  | refine w_seq ?_ | refine w_set ?_ | refine w_c ?_ | refine w_op ?_ | refine w_cons ?_ | refine w_nil ?_ | refine w_ret ?_ | refine w_call ?_ | refine w_tdin ?_ | refine w_test ?_ | refine w_blR ?_ | refine w_ntt ?_ | refine w_nff ?_
  | refine w_ifS ?_ | refine w_and ?_ | refine w_or ?_ | refine w_not ?_ | refine w_tup ?_ | refine w_lst ?_ | refine w_B ?_ | refine w_drop ?_ | refine w_asg ?_ | refine w_if ?_ | refine w_lstN ?_
  | refine w_add_ii ?_ | refine w_sub_ii ?_ | refine w_lt_ii ?_ | refine w_le_ii ?_ | refine w_gt_ii ?_ | refine w_ge_ii ?_ | refine w_eq_ii ?_ | refine w_ne_ii ?_ | refine w_isN ?_ | refine w_notN ?_
  | refine w_add_ll ?_ | refine w_add_tt ?_ | refine w_ix_l ?_ | refine w_ix_t ?_ | refine w_ix_f ?_ | refine w_mod_ii ?_ | refine w_div_ii ?_ | refine w_mul_ii ?_ | refine w_pow_ii ?_
  | refine w_andV ?_ | refine w_orV ?_ | refine w_notV ?_ | refine w_yes ?_ | refine w_tt ?_ | refine w_ff ?_
  | refine w_for ?_ | refine w_it1 ?_ | refine w_it2 ?_ | refine w_itS ?_ | refine w_lc ?_ | refine w_lcN ?_ | refine w_par ?_ | refine w_next ?_ | refine w_gd ?_ | refine w_iteT ?_ | refine w_iteF ?_ | refine w_gdC ?_ | refine w_gdN ?_
  | refine w_neg ?_ | refine w_negR ?_ | refine w_chain ?_ | refine w_cont ?_ | refine w_brk ?_ | refine w_retN ?_ | refine w_asgT ?_ | refine w_dget ?_ | refine w_dput ?_ | refine w_din ?_ | refine w_app ?_ | refine w_pop ?_ | refine w_cut ?_ | refine w_rev ?_ | refine w_while ?_ | refine w_dict ?_ | refine w_itE ?_ | refine w_fld ?_ | refine w_rg1 ?_ | refine w_rg2 ?_ | refine w_popAt ?_ | refine w_partN ?_ | refine w_partS ?_ | refine w_disp ?_ | refine w_pcons ?_ | refine w_pnil ?_ | refine w_fldS ?_ | refine w_par3 ?_ | refine w_sortSet ?_ | refine w_lenSet ?_ | refine w_gdDput ?_ | refine w_i0 ?_)
local macro_rules | `(tactic| walk_at "v") => `(tactic| ((with_reducible refine w_var (d := ?dv) ?hv ?_); (case hv => exact rfl)))
local macro_rules | `(tactic| walk_at "t") => `(tactic| ((with_reducible refine w_gdT ?hv ?_); (case hv => exact rfl)))
local macro_rules | `(tactic| walk_at "a") => `(tactic| ((with_reducible refine w_aug (x := ?xv) ?hv ?_); (case hv => exact rfl)))
local macro_rules | `(tactic| walk_at "l") => `(tactic| refine And.intro (Nat.le_of_ble_eq_true rfl) ?_)
local macro_rules | `(tactic| walk_at "zz") => `(tactic| ((try (with_reducible conv => whnf)); repeat (first | walk_at "z" | walk_at "v" | walk_at "l" | walk_at "t" | walk_at "a")))

theorem draw_dec {d : Nat} {A B : Prop} (k : Int) (h1 : (d : Int) < k → A) (h2 : k ≤ (d : Int) → B) : if decide ((d : Int) < k) = true then A else B := w_dec h1 fun h => h2 (by omega)
section
variable {P : Program} {w : World} {K : PySem.W.Frag} {mg : Str → Option Value} {base : Heap} {C : Addr}
def spTies : SpD := fun ds μ Q => ∃ (p : Addr) (n b : Nat), ds = [.adr p, .int n] ∧ 1 ≤ n ∧ n ≤ 24 ∧ Pn μ p (b + 20000) ∧ ∀ ts μ', OkT n ts → ts.length ≤ 300 → Pn μ' p b → Ex p μ μ' → Q (.tup (ts.map prI)) μ'
theorem ok_law_web_ties (T : Txt K mg C) (F : Std K mg "_law_web_ties" s_law_web_ties ["pen", "size"]) (h_law_draw : Def P w K mg base "_law_draw" 1 ["pen", "many"] spDraw) (h_law_pairs : Def P w K mg base "_law_pairs" 1 ["size"] spPairs)
    (h_law_free_ties : Def P w K mg base "_law_free_ties" 3 ["pen", "size"] spGen) (h_law_tree_ties : Def P w K mg base "_law_tree_ties" 3 ["pen", "size"] spGen) (h_law_barred_ties : Def P w K mg base "_law_barred_ties" 4 ["pen", "size"] spGen) :
    Def P w K mg base "_law_web_ties" 5 ["pen", "size"] spTies := by
  refine F.def sc_law_web_ties (fun ds μ Q h => ?_) fun cdv A outer s H E f hr => ⟨_, ((pssd_cons (psd_set (i := 2) sc_law_web_ties.nd rfl (Or.inl rfl) (pd_callF h_law_draw hr (by decide) (by rfl) (pad_cons (pd_var 0) (pad_cons pd_i pad_nil))))
  (pssd_cons (psd_if (ptd_lt (pd_var 2) pd_i (hr.units0)) (pssd_one (psd_set (i := 3) sc_law_web_ties.nd rfl (Or.inl rfl) (pd_callF h_law_free_ties hr (by decide) (by rfl) (pad_cons (pd_var 0) (pad_cons (pd_var 1) pad_nil))))) (pssd_one (psd_if (ptd_eq (pd_var 2) pd_i (hr.units)) (pssd_one (psd_set (i := 3) sc_law_web_ties.nd rfl (Or.inl rfl) (pd_callF h_law_tree_ties hr (by decide) (by rfl) (pad_cons (pd_var 0) (pad_cons (pd_var 1) pad_nil))))) (pssd_one (psd_if (ptd_eq (pd_var 2) pd_i (hr.units)) (pssd_cons (psd_set (i := 3) sc_law_web_ties.nd rfl (Or.inl rfl) (pd_add (pd_lc (own := [("at", 4)]) rfl sc_law_web_ties.nd (pid_range1 (by rfl) T.range (pad_cons (pd_sub (pd_var 1) pd_i) pad_nil)) (blkOk_by (N := n_law_web_ties) (sc := defScope s_law_web_ties) (own := [("at", 4)]) (by decide +kernel)) (fun _ _ _ _ _ => (pgd_name (i := 4) sc_law_web_ties.nd rfl (Or.inl rfl))) (fun _ _ _ _ _ => ptsd_nil) (fun _ _ _ _ _ => (pd_tup (pad_cons (pd_var 4) (pad_cons (pd_add (pd_var 4) pd_i) pad_nil))))) (pd_lc (own := [("spare", 5)]) rfl sc_law_web_ties.nd (pid_seq (pd_lst (pad_cons pd_i pad_nil))) (blkOk_by (N := n_law_web_ties) (sc := defScope s_law_web_ties) (own := [("spare", 5)]) (by decide +kernel)) (fun _ _ _ _ _ => (pgd_name (i := 5) sc_law_web_ties.nd rfl (Or.inl rfl))) (fun _ _ _ _ _ => (ptsd_one (ptd_gt (pd_var 1) pd_i))) (fun _ _ _ _ _ => (pd_tup (pad_cons pd_i (pad_cons (pd_sub (pd_var 1) pd_i) pad_nil)))))))
  (pssd_one (psd_set (i := 3) sc_law_web_ties.nd rfl (Or.inl rfl) (pd_add (pd_var 3) (pd_lc (own := [("pair", 6)]) rfl sc_law_web_ties.nd (pid_seq (pd_callF h_law_pairs hr (by decide) (by rfl) (pad_cons (pd_var 1) pad_nil))) (blkOk_by (N := n_law_web_ties) (sc := defScope s_law_web_ties) (own := [("pair", 6)]) (by decide +kernel)) (fun _ _ _ _ _ => (pgd_name (i := 6) sc_law_web_ties.nd rfl (Or.inl rfl))) (fun _ _ _ _ _ => (ptsd_one (ptd_eq (pd_callF h_law_draw hr (by decide) (by rfl) (pad_cons (pd_var 0) (pad_cons pd_i pad_nil))) pd_i (hr.units)))) (fun _ _ _ _ _ => (pd_var 6))))))) (pssd_one (psd_if (ptd_eq (pd_var 2) pd_i (hr.units)) (pssd_cons (psd_set (i := 7) sc_law_web_ties.nd rfl (Or.inr rfl) (pd_add pd_i (pd_callF h_law_draw hr (by decide) (by rfl) (pad_cons (pd_var 0) (pad_cons (pd_var 1) pad_nil)))))
  (pssd_one (psd_setLcB false (i := 3) (own := [("pair", 6)]) rfl sc_law_web_ties.nd rfl rfl (sw_true rfl rfl rfl (by decide +kernel)) (pid_seq (pd_callF h_law_pairs hr (by decide) (by rfl) (pad_cons (pd_var 1) pad_nil))) (blkOk_by (N := n_law_web_ties) (sc := defScope s_law_web_ties) (own := [("pair", 6)]) (by decide +kernel)) (fun _ _ _ _ _ => (pgd_name (i := 6) sc_law_web_ties.nd rfl (Or.inl rfl))) (fun _ _ _ _ _ => (ptsd_one (PWD.pt (pwd_and (ptd_chain (op_lt.or (op_ltT hr.units0)) (op_le.or (op_leT hr.units0)) rs_ltU rs_leU (pd_ix (pd_var 6) pd_i) (pd_var 7) (pd_ix (pd_var 6) pd_i)) (pwd_and1 (ptd_gt (pd_callF h_law_draw hr (by decide) (by rfl) (pad_cons (pd_var 0) (pad_cons pd_i pad_nil))) pd_i)))))) (fun _ _ _ _ _ => (pd_var 6))))) (pssd_one (psd_set (i := 3) sc_law_web_ties.nd rfl (Or.inl rfl) (pd_callF h_law_barred_ties hr (by decide) (by rfl) (pad_cons (pd_var 0) (pad_cons (pd_var 1) pad_nil))))))))))))
  (pssd_cons (psd_set (i := 3) sc_law_web_ties.nd rfl (Or.inl rfl) (Zs.pd_sortSet rfl hr.units (by rfl) T.sorted (by rfl) T.set (pd_var 3)))
  (pssd_one (psd_ret (pd_tupleC (by rfl) T.tuple (pad_cons (pd_cut false (pd_var 3) pod_none (pod_some pd_i)) pad_nil)))))))), ?_⟩
  · obtain ⟨p, n, b, rfl, _⟩ := h
    rfl
  · rintro ds μ Q ⟨p, n, b, rfl, n1, n2, hP, q⟩
    have few := allP_few n2
    walk_at "zz"
    refine ⟨p, 7, b + 19999, rfl, by decide, by decide, hP, fun way m1 hway hP1 hx1 => ?_⟩
    with_reducible conv => whnf
    with_reducible refine w_seqI (fun ρ m => ∃ ts x4 x5 x6 x7, ρ = [some (.adr p), some (.int n), some (.int way), some (.lst (ts.map prI)), x4, x5, x6, x7] ∧ VT n ts ∧ ts.length ≤ 100000 ∧ Pn m p b ∧ Ex p μ m) (fun ρ m hI => ?rest) (fun N hN => ?ways)
    case rest =>
      obtain ⟨ts, x4, x5, x6, x7, rfl, hv, hl, hPn, hx⟩ := hI
      walk_at "zz"
      refine ⟨ts, allP n, .inl rfl, fun p hp => mem_allP.mpr (hv p hp), Nat.le_trans few (by decide), fun qs hq up => ?_⟩
      have vq : VT n qs := fun p hp => hv p ((hq p).mp hp)
      walk_at "zz"
      refine ⟨_, .inl ⟨.inl rfl, w_ff ?_⟩⟩
      rw [show Zd.cutD (qs.map prI) none (some (30 : Int)) = (qs.map prI).take 30 from cut_to _ 30, ← List.map_take]
      walk_at "zz"
      refine ⟨_, _, rfl, .inl (.inl rfl), ?_⟩
      refine RT.one (q (qs.take 30) m ⟨fun p hp => vq p (List.mem_of_mem_take hp), up.sublist (List.take_sublist _ _)⟩ (by rw [List.length_take]; omega) hPn hx)
    case ways =>
      walk_at "zz"
      refine w_dec (fun _ => ?_) fun _ => ?_
      · walk_at "zz"
        refine ⟨p, n, b + 9999, rfl, n1, n2, hP1, fun ts m2 hv hl hP2 hx2 => ?_⟩
        exact hN _ _ ⟨ts, _, _, _, _, rfl, hv, hl, hP2.less (by omega), hx1.trans hx2⟩
      · walk_at "zz"
        refine w_dec (fun _ => ?_) fun _ => ?_
        · walk_at "zz"
          refine ⟨p, n, b + 9999, rfl, n1, n2, hP1, fun ts m2 hv hl hP2 hx2 => ?_⟩
          exact hN _ _ ⟨ts, _, _, _, _, rfl, hv, hl, hP2.less (by omega), hx1.trans hx2⟩
        · walk_at "zz"
          refine w_dec (fun _ => ?_) fun _ => ?_
          · walk_at "zz"
            refine ⟨_, rfl, by omega, by omega, ?_⟩
            refine lc_ix ((List.range (n - 1)).map fun (i : Nat) => prI ((i : Int), (i : Int) + 1)) (by rw [List.length_map, List.length_range]; show n - 1 = (rngD 0 _).length; rw [rngD_len]; omega) (rngD_small (by omega)) trivial (fun i x y hx hy N' hN' => ?_) ?_
            · have hx : (rngD 0 _)[i]? = some x := hx
              obtain ⟨hi, rfl⟩ := rngD_get hx
              rw [List.getElem?_map, List.getElem?_range (by omega)] at hy
              cases hy
              rw [Int.zero_add]
              walk_at "zz"
              exact hN'
            · walk_at "zz"
              refine itS_fm (fun _ => if (n : Int) > 2 then some (prI (0, (n : Int) - 1)) else none) (.inl (.inl rfl)) (by decide) (fun i x hx N' hN' => ?_) ?_
              · walk_at "zz"
                refine w_dec (fun c => ?_) fun c => ?_
                · rw [if_pos (by omega)] at hN'
                  walk_at "zz"
                  exact hN'
                · rw [if_neg (by omega)] at hN'
                  exact hN'
              · have e : [D.int 0].filterMap (fun _ => if (n : Int) > 2 then some (prI (0, (n : Int) - 1)) else none) = (if (n : Int) > 2 then [(0, (n : Int) - 1)] else []).map prI := by
                  by_cases c : (n : Int) > 2
                  · simp [c]
                  · simp [c]
                rw [e]
                have e0 : (List.range (n - 1)).map (fun (i : Nat) => prI ((i : Int), (i : Int) + 1)) = ((List.range (n - 1)).map fun (i : Nat) => ((i : Int), (i : Int) + 1)).map prI := by rw [List.map_map]; rfl
                rw [e0]
                have v0 : VT n (((List.range (n - 1)).map fun (i : Nat) => ((i : Int), (i : Int) + 1)) ++ (if (n : Int) > 2 then [(0, (n : Int) - 1)] else [])) := by
                  refine VT.app (fun p hp => ?_) ?_
                  · obtain ⟨i, hi, rfl⟩ := List.mem_map.mp hp
                    have := List.mem_range.mp hi
                    simp only
                    omega
                  · split
                    · intro p hp
                      rw [List.mem_singleton.mp hp]
                      simp only
                      omega
                    · exact fun _ z => nomatch z
                have l0 : (((List.range (n - 1)).map fun (i : Nat) => ((i : Int), (i : Int) + 1)) ++ (if (n : Int) > 2 then [(0, (n : Int) - 1)] else [])).length ≤ 100 := by
                  rw [List.length_append, List.length_map, List.length_range]
                  split
                  · show n - 1 + 1 ≤ _; omega
                  · show n - 1 + 0 ≤ _; omega
                walk_at "zz"
                refine ⟨by rw [List.length_map (f := prI), List.length_map (f := prI), ← List.length_append, sizeLine_eq]; omega, ?_⟩
                rw [prs_app]
                generalize ((List.range (n - 1)).map fun (i : Nat) => ((i : Int), (i : Int) + 1)) ++ (if (n : Int) > 2 then [(0, (n : Int) - 1)] else []) = ts0 at v0 l0 ⊢
                walk_at "zz"
                refine ⟨n, rfl, n2, ?_⟩
                refine itS_lcA (fun _ => .inl (.inl rfl)) fun live lv => ⟨by show (List.map prI (allP n)).length ≤ _; rw [List.length_map, sizeLine_eq]; omega, fun i acc m => ∃ ts, acc = ts.map prI ∧ VT n ts ∧ ts.length ≤ i ∧ Pn m p (b + 19999 - i) ∧ Ex p μ m, ⟨[], rfl, (fun _ z => nomatch z), Nat.le_refl _, hP1, hx1⟩, ?_, ?_⟩
                · rintro i acc m x hxi ⟨ts, rfl, hv, hl, hPn, hx⟩
                  have hxi : ((allP n).map prI)[i]? = some x := hxi
                  rw [List.getElem?_map] at hxi
                  obtain ⟨pr, hpr, rfl⟩ := Option.map_eq_some_iff.mp hxi
                  have hi := (List.getElem?_eq_some_iff.mp hpr).1
                  have hmem := mem_allP.mp (List.mem_of_getElem? hpr)
                  refine ⟨lv _, ?_⟩
                  walk_at "zz"
                  refine ⟨p, 6, b + 19999 - (i + 1), rfl, by decide, by decide, hPn.less (by omega), fun d m' hd hPn' hx' => ?_⟩
                  walk_at "zz"
                  refine w_dec (fun _ => ?_) fun _ => ?_
                  · walk_at "zz"
                    refine ⟨ts ++ [pr], by rw [List.map_append]; rfl, hv.app fun p hp => by rw [List.mem_singleton.mp hp]; exact hmem, by rw [List.length_append]; exact Nat.succ_le_succ hl, hPn', hx.trans hx'⟩
                  · exact ⟨ts, rfl, hv, Nat.le_succ_of_le hl, hPn', hx.trans hx'⟩
                · rintro acc m ⟨ts, rfl, hv, hl, hPn, hx⟩
                  have hl : ts.length ≤ ((allP n).map prI).length := hl
                  have hPn : Pn m p (b + 19999 - ((allP n).map prI).length) := hPn
                  rw [List.length_map] at hl hPn
                  refine ⟨lv _, ?_⟩
                  walk_at "zz"
                  refine ⟨by rw [List.length_map, List.length_map, sizeLine_eq]; omega, ?_⟩
                  rw [prs_app]
                  exact hN _ _ ⟨_, _, _, _, _, rfl, v0.app hv, by rw [List.length_append]; omega, hPn.less (by omega), hx⟩
          · walk_at "zz"
            refine w_dec (fun _ => ?_) fun _ => ?_
            · walk_at "zz"
              refine ⟨p, n, b + 19998, rfl, n1, by omega, hP1, fun d m2 hd hP2 hx2 => ?_⟩
              walk_at "zz"
              refine ⟨n, rfl, n2, ?_⟩
              refine itS_lcA (fun _ => .inl (.inl rfl)) fun live lv => ⟨by show (List.map prI (allP n)).length ≤ _; rw [List.length_map, sizeLine_eq]; omega, fun i acc m => ∃ ts, acc = ts.map prI ∧ VT n ts ∧ ts.length ≤ i ∧ Pn m p (b + 19998 - i) ∧ Ex p μ m, ⟨[], rfl, (fun _ z => nomatch z), Nat.le_refl _, hP2, hx1.trans hx2⟩, ?_, ?_⟩
              · rintro i acc m x hxi ⟨ts, rfl, hv, hl, hPn, hx⟩
                have hxi : ((allP n).map prI)[i]? = some x := hxi
                rw [List.getElem?_map] at hxi
                obtain ⟨pr, hpr, rfl⟩ := Option.map_eq_some_iff.mp hxi
                have hi := (List.getElem?_eq_some_iff.mp hpr).1
                have hmem := mem_allP.mp (List.mem_of_getElem? hpr)
                refine ⟨lv _, ?_⟩
                walk_at "zz"
                refine ⟨0, _, .int pr.1, rfl, .inr rfl, rfl, ?_⟩
                walk_at "zz"
                have skip : ∃ ts', ts.map prI = ts'.map prI ∧ VT n ts' ∧ ts'.length ≤ i + 1 ∧ Pn m p (b + 19998 - (i + 1)) ∧ Ex p μ m := ⟨ts, rfl, hv, Nat.le_succ_of_le hl, hPn.less (by omega), hx⟩
                refine w_dec (fun _ => ?_) fun _ => ?_
                · walk_at "zz"
                  refine ⟨1, _, .int pr.2, rfl, .inr rfl, rfl, ?_⟩
                  walk_at "zz"
                  refine w_dec (fun _ => ?_) fun _ => ?_
                  · walk_at "zz"
                    refine ⟨p, 3, b + 19998 - (i + 1), rfl, by decide, by decide, hPn.less (by omega), fun d m' hd hPn' hx' => ?_⟩
                    walk_at "zz"
                    refine w_dec (fun _ => ?_) fun _ => ?_
                    · walk_at "zz"
                      refine ⟨ts ++ [pr], by rw [List.map_append]; rfl, hv.app fun p hp => by rw [List.mem_singleton.mp hp]; exact hmem, by rw [List.length_append]; exact Nat.succ_le_succ hl, hPn', hx.trans hx'⟩
                    · exact ⟨ts, rfl, hv, Nat.le_succ_of_le hl, hPn', hx.trans hx'⟩
                  · exact skip
                · walk_at "zz"
                  exact skip
              · rintro acc m ⟨ts, rfl, hv, hl, hPn, hx⟩
                have hl : ts.length ≤ ((allP n).map prI).length := hl
                have hPn : Pn m p (b + 19998 - ((allP n).map prI).length) := hPn
                rw [List.length_map] at hl hPn
                refine ⟨lv _, ?_⟩
                exact hN _ _ ⟨ts, _, _, _, _, rfl, hv, by omega, hPn.less (by omega), hx⟩
            · walk_at "zz"
              refine ⟨p, n, b + 9999, rfl, n1, n2, hP1, fun ts m2 hv hl hP2 hx2 => ?_⟩
              exact hN _ _ ⟨ts, _, _, _, _, rfl, hv, hl, hP2.less (by omega), hx1.trans hx2⟩
def spBent : SpD := fun ds μ Q => ∃ (p : Addr) (n b : Nat) (ts : List (Int × Int)), ds = [.adr p, .int n, .tup (ts.map prI)] ∧ 1 ≤ n ∧ n ≤ 24 ∧ OkT n ts ∧ ts.length ≤ 300 ∧ Pn μ p (b + 2) ∧ ∀ ts μ', OkT n ts → ts.length ≤ 301 → Pn μ' p b → Ex p μ μ' → Q (.tup (ts.map prI)) μ'
theorem ok_law_bent_ties (T : Txt K mg C) (F : Std K mg "_law_bent_ties" s_law_bent_ties ["pen", "size", "ties"]) (h_law_draw : Def P w K mg base "_law_draw" 1 ["pen", "many"] spDraw) (h_law_pick : Def P w K mg base "_law_pick" 2 ["pen", "some"] spPick) (h_law_pairs : Def P w K mg base "_law_pairs" 1 ["size"] spPairs) :
    Def P w K mg base "_law_bent_ties" 3 ["pen", "size", "ties"] spBent := by
  refine F.def sc_law_bent_ties (fun ds μ Q h => ?_) fun cdv A outer s H E f hr => ⟨_, ((pssd_cons (psd_if (PWD.pt (pwd_or (ptd_lt (pd_var 1) pd_i (hr.units0)) (pwd_or1 (ptd_eq (pd_callF h_law_draw hr (by decide) (by rfl) (pad_cons (pd_var 0) (pad_cons pd_i pad_nil))) pd_i (hr.units))))) (pssd_one (psd_ret (pd_tupleC (by rfl) T.tuple (pad_cons (pd_var 2) pad_nil)))) pssd_nil)
  (pssd_cons (psd_set (i := 3) sc_law_bent_ties.nd rfl (Or.inr rfl) (pd_callF h_law_pick hr (by decide) (by rfl) (pad_cons (pd_var 0) (pad_cons (pd_callF h_law_pairs hr (by decide) (by rfl) (pad_cons (pd_var 1) pad_nil)) pad_nil))))
  (pssd_one (psd_ret (pd_tupleC (by rfl) T.tuple (pad_cons (pd_sortP (by rfl) T.sorted (pad_cons (pd_add (pd_lc (own := [("tie", 4)]) rfl sc_law_bent_ties.nd (pid_seq (pd_var 2)) (blkOk_by (N := n_law_bent_ties) (sc := defScope s_law_bent_ties) (own := [("tie", 4)]) (by decide +kernel)) (fun _ _ _ _ _ => (pgd_name (i := 4) sc_law_bent_ties.nd rfl (Or.inl rfl))) (fun _ _ _ _ _ => (ptsd_one (ptd_ne (pd_var 4) (pd_var 3) (hr.units)))) (fun _ _ _ _ _ => (pd_var 4))) (pd_if (ptd_in (pd_var 3) (pd_var 2) (hu65 hr)) (pd_lst pad_nil) (pd_lst (pad_cons (pd_var 3) pad_nil)))) pad_nil)) pad_nil))))))), ?_⟩
  · obtain ⟨p, n, b, ts, rfl, _⟩ := h
    rfl
  · rintro ds μ Q ⟨p, n, b, ts, rfl, n1, n2, ok, hl, hP, q⟩
    have few := allP_few n2
    walk_at "zz"
    refine w_dec (fun _ => ?_) fun h2 => ?_
    · walk_at "zz"
      refine ⟨_, _, rfl, .inr rfl, ?_⟩
      exact RT.one (q ts μ ok (by omega) (hP.less (by omega)) Ex.refl)
    walk_at "zz"
    refine ⟨p, 2, b + 1, rfl, by decide, by decide, hP, fun d m1 hd hP1 hx1 => ?_⟩
    walk_at "zz"
    refine w_dec (fun _ => ?_) fun _ => ?_
    · walk_at "zz"
      refine ⟨_, _, rfl, .inr rfl, ?_⟩
      exact RT.one (q ts m1 ok (by omega) (hP1.less (by omega)) hx1)
    · walk_at "zz"
      refine ⟨n, rfl, n2, ?_⟩
      have one : 1 ≤ (allP n).length := List.length_pos_of_mem (mem_allP.mpr (show 0 ≤ ((0, 1) : Int × Int).1 ∧ ((0, 1) : Int × Int).1 < ((0, 1) : Int × Int).2 ∧ ((0, 1) : Int × Int).2 < n from ⟨by decide, by decide, by show (1 : Int) < n; omega⟩))
      walk_at "zz"
      refine ⟨p, _, b, rfl, by rw [List.length_map]; exact one, by rw [List.length_map]; omega, hP1, fun i d m2 hd hP2 hx2 => ?_⟩
      rw [List.getElem?_map] at hd
      obtain ⟨pr, hpr, rfl⟩ := Option.map_eq_some_iff.mp hd
      have hmem := mem_allP.mp (List.mem_of_getElem? hpr)
      walk_at "zz"
      have es : (ts.map prI).filterMap (fun d => if eqD d (prI pr) then none else some d) = (ts.filter fun t => !decide (t = pr)).map prI := by
        clear hl q ok
        induction ts with
        | nil => rfl
        | cons t ts ih =>
          rw [List.map_cons, List.filterMap_cons, eqD_pr, List.filter_cons]
          by_cases c : t = pr
          · simp only [c, decide_true, if_true, Bool.not_true, Bool.false_eq_true, if_false]
            exact ih
          · simp only [c, decide_false, Bool.not_false, Bool.false_eq_true, if_false, if_true]
            rw [ih, List.map_cons]
      refine itS_fm (fun d => if eqD d (prI pr) then none else some d) (.inr rfl) (by rw [List.length_map]; omega) (fun i x hx N hN => ?_) ?_
      · rw [List.getElem?_map] at hx
        obtain ⟨t, ht, rfl⟩ := Option.map_eq_some_iff.mp hx
        walk_at "zz"
        refine ⟨prI t, prI pr, .inl rfl, .inl rfl, (Sm.pr t).dat (by decide), (Sm.pr pr).dat (by decide), ?_⟩
        walk_at "zz"
        have hN : N (if eqD (prI t) (prI pr) then none else some (prI t)) m2 := hN
        generalize eqD (prI t) (prI pr) = e at hN ⊢
        cases e with
        | true => exact w_nff hN
        | false =>
          refine w_ntt ?_
          walk_at "zz"
          exact hN
      · rw [es]
        walk_at "zz"
        refine .inr ⟨prI pr, _, .inl rfl, rfl, (Sm.pr pr).dat (by decide), (Sm.prsT ts).dat (by decide), ?_⟩
        rw [inD_pr]
        walk_at "zz"
        have fin : ∀ add : List (Int × Int), add.length ≤ 1 → VT n add → add.Nodup → (∀ t ∈ add, t = pr) → ∀ qs : List (Int × Int), qs.Perm ((ts.filter fun t => !decide (t = pr)) ++ add) → qs.Pairwise (fun p q => ¬ prL q p) → RT Q (.tup (qs.map prI)) m2 := fun add l1 va na ha qs pm up => by
          have nd : ((ts.filter fun t => !decide (t = pr)) ++ add).Nodup := List.nodup_append.mpr ⟨(up_nodup ok.up).filter _, na, fun x hx y hy e => by
            have := (List.mem_filter.mp hx).2
            rw [e, ha y hy] at this
            simp at this⟩
          have ndq : qs.Nodup := pm.nodup_iff.mpr nd
          have hq : ∀ t ∈ qs, 0 ≤ t.1 ∧ t.1 < t.2 ∧ t.2 < n := fun t ht => by
            rcases List.mem_append.mp (pm.mem_iff.mp ht) with h | h
            · exact ok.bd t (List.mem_filter.mp h).1
            · exact va t h
          refine RT.one (q qs m2 ⟨hq, (up.and ndq).imp fun {x y} h => Zs.prL_total h.1 h.2⟩ ?_ hP2 (hx1.trans hx2))
          rw [pm.length_eq, List.length_append]
          have := List.length_filter_le (fun t => !decide (t = pr)) ts
          omega
        have fl := List.length_filter_le (fun t => !decide (t = pr)) ts
        refine w_dec (fun c => ?_) fun c => ?_
        · walk_at "zz"
          refine ⟨by rw [List.length_map, sizeLine_eq]; show _ + 0 ≤ _; omega, ?_⟩
          refine ⟨_, (ts.filter fun t => !decide (t = pr)) ++ [], rfl, .inl (by rw [List.map_append]; rfl), fun qs pm up => ?_⟩
          walk_at "zz"
          refine ⟨_, _, rfl, .inl (.inl rfl), ?_⟩
          exact fin [] (by decide) (fun _ z => nomatch z) List.nodup_nil (fun _ z => nomatch z) qs pm up
        · walk_at "zz"
          refine ⟨by rw [List.length_map, sizeLine_eq]; show _ + 1 ≤ _; omega, ?_⟩
          refine ⟨_, (ts.filter fun t => !decide (t = pr)) ++ [pr], rfl, .inl (by rw [List.map_append]; rfl), fun qs pm up => ?_⟩
          walk_at "zz"
          refine ⟨_, _, rfl, .inl (.inl rfl), ?_⟩
          exact fin [pr] (by simp) (fun t ht => by rw [List.mem_singleton.mp ht]; exact hmem) (List.nodup_cons.mpr ⟨List.not_mem_nil, List.nodup_nil⟩) (fun t ht => List.mem_singleton.mp ht) qs pm up
end
end K78


set_option Elab.async false
set_option linter.all false
set_option maxRecDepth 100000
set_option maxHeartbeats 2000000
namespace K78
open Zd
/-! the ring of many places -/
def cyc (m : Nat) : List (Int × Int) := (List.range m).map fun (i : Nat) => (min (i : Int) (Int.fmod ((i : Int) + 1) m), max (i : Int) (Int.fmod ((i : Int) + 1) m))
def cycS (m : Nat) : List (Int × Int) := (0, 1) :: (0, (m : Int) - 1) :: (List.range (m - 2)).map fun (i : Nat) => ((i : Int) + 1, (i : Int) + 2)
instance (p q : Int × Int) : Decidable (prL p q) := inferInstanceAs (Decidable (p.1 < q.1 ∨ (p.1 = q.1 ∧ p.2 < q.2)))
def cycOk (m : Nat) : Bool := (cycS m).isPerm (cyc m) && (cycS m).all (fun p => decide (0 ≤ p.1 ∧ p.1 < p.2 ∧ p.2 < m)) && decide ((cycS m).Pairwise prL) && (match bfs m (cycS m) with | (s, some (a, b)) => (ringOf s.ah a b).length == m | _ => false)
theorem cyc_all : ((List.range 11).all fun k => cycOk (3 + 2 * k)) = true := by decide +kernel
theorem upP_uniq : ∀ {l m : List (Int × Int)}, l.Perm m → l.Pairwise prL → m.Pairwise prL → l = m
  | [], m, p, _, _ => (List.Perm.eq_nil p.symm).symm
  | x :: l, [], p, _, _ => absurd p.length_eq (by simp)
  | x :: l, y :: m, p, hl, hm => by
    obtain ⟨a1, a2⟩ := List.pairwise_cons.mp hl
    obtain ⟨b1, b2⟩ := List.pairwise_cons.mp hm
    have e : x = y := by
      rcases List.mem_cons.mp (p.mem_iff.mpr List.mem_cons_self) with e | h
      · exact e.symm
      · rcases List.mem_cons.mp (p.mem_iff.mp List.mem_cons_self) with e | h'
        · exact e
        · have c1 := a1 y h
          have c2 := b1 x h'
          unfold prL at c1 c2
          omega
    subst e
    rw [upP_uniq p.cons_inv a2 b2]
structure CycF (m : Nat) : Prop where
  ok : OkT m (cycS m)
  pm : ∀ qs : List (Int × Int), qs.Perm (cyc m) → qs.Pairwise (fun p q => ¬ prL q p) → qs = cycS m
  ring : ∃ s a b, bfs m (cycS m) = (s, some (a, b)) ∧ (ringOf s.ah a b).length = m
theorem cycF {k : Nat} (hk : k < 11) : CycF (3 + 2 * k) := by
  have h := List.all_eq_true.mp cyc_all k (List.mem_range.mpr hk)
  generalize 3 + 2 * k = m at h
  unfold cycOk at h
  rw [Bool.and_eq_true, Bool.and_eq_true, Bool.and_eq_true] at h
  obtain ⟨⟨⟨h1, h2⟩, h3⟩, h4⟩ := h
  have p1 : (cycS m).Perm (cyc m) := List.isPerm_iff.mp h1
  have up : (cycS m).Pairwise prL := of_decide_eq_true h3
  refine ⟨⟨fun p hp => of_decide_eq_true (List.all_eq_true.mp h2 p hp), up⟩, fun qs pq hq => ?_, ?_⟩
  · have pc : qs.Perm (cycS m) := pq.trans p1.symm
    have nd : qs.Nodup := pc.nodup_iff.mpr (up_nodup up)
    exact upP_uniq pc ((hq.and nd).imp fun {x y} h => Zs.prL_total h.1 h.2) up
  · generalize hb : bfs m (cycS m) = R at h4
    obtain ⟨s, w⟩ := R
    cases w with
    | none => cases h4
    | some p =>
      obtain ⟨a, b⟩ := p
      exact ⟨s, a, b, rfl, beq_iff_eq.mp h4⟩
/-- what the law's own sides and the web's tell together -/
theorem both {n : Nat} {ts : List (Int × Int)} (ok : OkT n ts) :
    ((dfs n ts).2 = true ∧ ∃ s a b, bfs n ts = (s, some (a, b)) ∧ RingOk n ts (ringOf s.ah a b)) ∨
    ((dfs n ts).2 = false ∧ (bfs n ts).2 = none ∧ ∀ c : Int, sdOf (bfs n ts).1.sd n c = (rngI n).filter fun v => (lk (dfs n ts).1.sd v).getD 0 == c) := by
  have d := dfs_law ok
  have b := bfs_law ok
  cases hd : (dfs n ts).2 with
  | true =>
    refine .inl ⟨rfl, ?_⟩
    have no := d.2 hd
    generalize bfs n ts = R at b
    obtain ⟨s, w⟩ := R
    cases w with
    | none =>
      obtain ⟨χ, hχ⟩ := ((b.1 rfl).2.canon ok).proper
      exact absurd hχ (no χ)
    | some p =>
      obtain ⟨x, y⟩ := p
      exact ⟨s, x, y, rfl, (b.2 x y rfl).ring ok⟩
  | false =>
    have can := (d.1 hd).2.canon ok
    have hb : (bfs n ts).2 = none := by
      cases e : (bfs n ts).2 with
      | none => rfl
      | some p =>
        obtain ⟨x, y⟩ := p
        obtain ⟨χ, hχ⟩ := can.proper
        exact absurd hχ ((b.2 x y e).no χ)
    refine .inr ⟨rfl, hb, fun c => ?_⟩
    have can2 := (b.1 hb).2.canon ok
    unfold sdOf
    refine List.filter_congr fun v hv => ?_
    obtain ⟨h0, h1⟩ := mem_rngI.mp hv
    obtain ⟨e, e1, e2⟩ := can2.uniq can h0 h1
    rw [e1, e2]
    rfl
end K78


set_option Elab.async false
set_option linter.all false
set_option maxRecDepth 100000
set_option maxHeartbeats 4000000
namespace K78
open PySem PySem.Spec PyProof.Rows L2 Zd
local macro_rules | `(tactic| walk_at "z") => `(tactic| with_reducible first
  | refine w_seq ?_ | refine w_set ?_ | refine w_c ?_ | refine w_op ?_ | refine w_cons ?_ | refine w_nil ?_ | refine w_ret ?_ | refine w_call ?_ | refine w_tdin ?_ | refine w_test ?_ | refine w_blR ?_ | refine w_ntt ?_ | refine w_nff ?_
  | refine w_ifS ?_ | refine w_and ?_ | refine w_or ?_ | refine w_not ?_ | refine w_tup ?_ | refine w_lst ?_ | refine w_B ?_ | refine w_drop ?_ | refine w_asg ?_ | refine w_if ?_ | refine w_lstN ?_
  | refine w_add_ii ?_ | refine w_sub_ii ?_ | refine w_lt_ii ?_ | refine w_le_ii ?_ | refine w_gt_ii ?_ | refine w_ge_ii ?_ | refine w_eq_ii ?_ | refine w_ne_ii ?_ | refine w_isN ?_ | refine w_notN ?_
  | refine w_add_ll ?_ | refine w_add_tt ?_ | refine w_ix_l ?_ | refine w_ix_t ?_ | refine w_ix_f ?_ | refine w_mod_ii ?_ | refine w_div_ii ?_ | refine w_mul_ii ?_ | refine w_pow_ii ?_
  | refine w_andV ?_ | refine w_orV ?_ | refine w_notV ?_ | refine w_yes ?_ | refine w_tt ?_ | refine w_ff ?_
  | refine w_for ?_ | refine w_it1 ?_ | refine w_it2 ?_ | refine w_itS ?_ | refine w_lc ?_ | refine w_lcN ?_ | refine w_par ?_ | refine w_next ?_ | refine w_gd ?_ | refine w_iteT ?_ | refine w_iteF ?_ | refine w_gdC ?_ | refine w_gdN ?_
  | refine w_neg ?_ | refine w_negR ?_ | refine w_chain ?_ | refine w_cont ?_ | refine w_brk ?_ | refine w_retN ?_ | refine w_asgT ?_ | refine w_dget ?_ | refine w_dput ?_ | refine w_din ?_ | refine w_app ?_ | refine w_pop ?_ | refine w_cut ?_ | refine w_rev ?_ | refine w_while ?_ | refine w_dict ?_ | refine w_itE ?_ | refine w_fld ?_ | refine w_rg1 ?_ | refine w_rg2 ?_ | refine w_popAt ?_ | refine w_partN ?_ | refine w_partS ?_ | refine w_disp ?_ | refine w_pcons ?_ | refine w_pnil ?_ | refine w_fldS ?_ | refine w_par3 ?_ | refine w_sortSet ?_ | refine w_lenSet ?_ | refine w_gdDput ?_ | refine w_i0 ?_)
local macro_rules | `(tactic| walk_at "v") => `(tactic| ((with_reducible refine w_var (d := ?dv) ?hv ?_); (case hv => exact rfl)))
local macro_rules | `(tactic| walk_at "t") => `(tactic| ((with_reducible refine w_gdT ?hv ?_); (case hv => exact rfl)))
local macro_rules | `(tactic| walk_at "a") => `(tactic| ((with_reducible refine w_aug (x := ?xv) ?hv ?_); (case hv => exact rfl)))
local macro_rules | `(tactic| walk_at "l") => `(tactic| refine And.intro (Nat.le_of_ble_eq_true rfl) ?_)
local macro_rules | `(tactic| walk_at "zz") => `(tactic| ((try (with_reducible conv => whnf)); repeat (first | walk_at "z" | walk_at "v" | walk_at "l" | walk_at "t" | walk_at "a")))

section
variable {P : Program} {w : World} {K : PySem.W.Frag} {mg : Str → Option Value} {base : Heap} {C : Addr}
theorem ok_law_two_sided_ties (T : Txt K mg C) (F : Std K mg "_law_two_sided_ties" s_law_two_sided_ties ["pen", "size"]) (h_law_draw : Def P w K mg base "_law_draw" 1 ["pen", "many"] spDraw) (h_law_pick : Def P w K mg base "_law_pick" 2 ["pen", "some"] spPick) (h_law_shuffled : Def P w K mg base "_law_shuffled" 2 ["pen", "some"] spShuf) :
    Def P w K mg base "_law_two_sided_ties" 3 ["pen", "size"] spTies := by
  refine F.def sc_law_two_sided_ties (fun ds μ Q h => ?_) fun cdv A outer s H E f hr => ⟨_, ((pssd_cons (psd_set (i := 2) sc_law_two_sided_ties.nd rfl (Or.inl rfl) (pd_callF h_law_shuffled hr (by decide) (by rfl) (pad_cons (pd_var 0) (pad_cons (pd_listRg1 false rfl (by rfl) T.list (by rfl) T.range (pd_var 1)) pad_nil))))
  (pssd_cons (psd_par3 (i := 3) (j := 4) (l := 5) rfl sc_law_two_sided_ties.nd rfl rfl rfl (by decide) (by decide) (by decide) rfl rfl rfl (pad_cons (pd_div (pd_var 1) pd_i) (pad_cons (pd_lstN pad_nil) (pad_cons (pd_callF h_law_pick hr (by decide) (by rfl) (pad_cons (pd_var 0) (pad_cons (pd_lst (pad_cons pd_i (pad_cons pd_i (pad_cons pd_i (pad_cons pd_i pad_nil))))) pad_nil))) pad_nil))) (by rfl))
  (pssd_cons (psd_set (i := 6) sc_law_two_sided_ties.nd rfl (Or.inl rfl) (pd_if (ptd_gt (pd_callF h_law_draw hr (by decide) (by rfl) (pad_cons (pd_var 0) (pad_cons pd_i pad_nil))) pd_i) (pd_var 3) (pd_callF h_law_draw hr (by decide) (by rfl) (pad_cons (pd_var 0) (pad_cons (pd_add (pd_var 1) pd_i) pad_nil)))))
  (pssd_cons (psd_for PassesOwn.never rfl (pid_range1 (by rfl) T.range (pad_cons (pd_var 6) pad_nil)) (pgd_name (i := 7) sc_law_two_sided_ties.nd rfl (Or.inl rfl)) (pssd_one (psd_for PassesOwn.never rfl (pid_range2 (by rfl) T.range (pad_cons (pd_var 6) (pad_cons (pd_var 1) pad_nil))) (pgd_name (i := 8) sc_law_two_sided_ties.nd rfl (Or.inl rfl)) (pssd_one (psd_if (PWD.pt (pwd_or (ptd_eq (pd_callF h_law_draw hr (by decide) (by rfl) (pad_cons (pd_var 0) (pad_cons (pd_var 5) pad_nil))) pd_i (hr.units)) (pwd_or (ptd_eq (pd_var 8) (pd_add (pd_var 6) (pd_var 7)) (hr.units)) (pwd_or1 (PWD.pt (pwd_and (ptd_eq (pd_var 8) (pd_add (pd_var 6) (pd_mod (pd_int (by rfl) T.int (pad_cons (pd_add (pd_var 7) pd_i) pad_nil)) (pd_max2 rfl (by rfl) T.max (pad_cons (pd_var 3) (pad_cons pd_i pad_nil))))) (hr.units)) (pwd_and1 (ptd_gt (pd_callF h_law_draw hr (by decide) (by rfl) (pad_cons (pd_var 0) (pad_cons pd_i pad_nil))) pd_i)))))))) (pssd_one (psd_expr (pd_append (pd_var 4) (pd_tup (pad_cons (pd_min2 rfl (by rfl) T.min (pad_cons (pd_ix (pd_var 2) (pd_var 7)) (pad_cons (pd_ix (pd_var 2) (pd_var 8)) pad_nil))) (pad_cons (pd_max2 rfl (by rfl) T.max (pad_cons (pd_ix (pd_var 2) (pd_var 7)) (pad_cons (pd_ix (pd_var 2) (pd_var 8)) pad_nil))) pad_nil)))))) pssd_nil)))))
  (pssd_one (psd_ret (pd_tupleC (by rfl) T.tuple (pad_cons (Zs.pd_sortSet rfl hr.units (by rfl) T.sorted (by rfl) T.set (pd_var 4)) pad_nil))))))))), ?_⟩
  · obtain ⟨p, n, b, rfl, _⟩ := h
    rfl
  · rintro ds μ Q ⟨p, n, b, rfl, n1, n2, hP, q⟩
    have few := allP_few n2
    walk_at "zz"
    refine ⟨by unfold RgOk; omega, w_ff ?_⟩
    walk_at "zz"
    refine ⟨p, rngD 0 n, b + 10000, rfl, by rw [rngD_len]; omega, hP.less (by rw [rngD_len]; omega), fun out m1 pm hP1 hx1 => ?_⟩
    obtain ⟨l, rfl, nd, bd, ll⟩ := perm_ints pm
    walk_at "zz"
    refine ⟨⟨by decide, by decide⟩, ?_⟩
    walk_at "zz"
    intro a ha
    have pa : a ≠ p := by intro z; subst z; obtain ⟨o, e⟩ := hP1.some; rw [ha] at e; cases e
    have a0 : μ a = none := by rw [← hx1 a pa]; exact ha
    obtain ⟨half, eh, hh⟩ : ∃ half : Nat, Int.fdiv (n : Int) 2 = half ∧ half ≤ n := by
      have h1 : Int.fdiv (n : Int) 2 = (n : Int) / 2 := Int.fdiv_eq_ediv_of_nonneg _ (by decide)
      exact ⟨n / 2, by rw [h1]; omega, by omega⟩
    rw [eh]
    walk_at "zz"
    refine ⟨p, _, b + 9999, rfl, by decide, by decide, (hP1.less (by omega)).upd pa _, fun i d m2 hd hP2 hx2 => ?_⟩
    have key : ∃ n : Nat, 1 ≤ n ∧ n ≤ 9 ∧ d = .int n := by
      have hd : ([1, 2, 3, 4] : List Int)[i]?.map D.int = some d := by rw [← List.getElem?_map]; exact hd
      obtain ⟨v, hv, rfl⟩ := Option.map_eq_some_iff.mp hd
      have := List.mem_of_getElem? hv
      have hb : 1 ≤ v ∧ v ≤ 9 := by
        simp only [List.mem_cons, List.not_mem_nil, or_false] at this
        omega
      exact ⟨v.toNat, by omega, by omega, by rw [Int.toNat_of_nonneg (by omega)]⟩
    obtain ⟨much, u1, u2, rfl⟩ := key
    have hk2 : Kp p μ m2 := ((Kp.refl.ex hx1).upd a0 _).ex hx2
    have ha2 : m2 a = some (.lst []) := (hx2 a pa).trans updM_same
    walk_at "zz"
    refine ⟨_, _, _, rfl, ?_⟩
    with_reducible conv => whnf
    with_reducible refine w_seqI (fun ρ m => ∃ cut : Nat, ρ = [some (.adr p), some (.int n), some (.lst (l.map .int)), some (.int half), some (.adr a), some (.int much), some (.int cut), none, none] ∧ cut ≤ n ∧ Kp p μ m ∧ Pn m p (b + 9000) ∧ m a = some (.lst [])) (fun ρ m hI => ?rest) (fun N hN => ?cut)
    case cut =>
      walk_at "zz"
      refine ⟨p, 4, b + 9998, rfl, by decide, by decide, hP2, fun d m3 hd hP3 hx3 => ?_⟩
      walk_at "zz"
      refine w_dec (fun _ => ?_) fun _ => ?_
      · walk_at "zz"
        exact hN _ _ ⟨half, rfl, hh, hk2.ex hx3, hP3.less (by omega), (hx3 a pa).trans ha2⟩
      · walk_at "zz"
        refine ⟨p, n + 1, b + 9997, rfl, by omega, by omega, hP3, fun d m4 hd hP4 hx4 => ?_⟩
        exact hN _ _ ⟨d, rfl, by omega, (hk2.ex hx3).ex hx4, hP4.less (by omega), (hx4 a pa).trans ((hx3 a pa).trans ha2)⟩
    case rest =>
      obtain ⟨cut, rfl, hcut, hk, hP3, ha3⟩ := hI
      walk_at "zz"
      refine ⟨cut, rfl, by omega, by omega, fun i ρ m => ∃ ts x7 x8, ρ = [some (.adr p), some (.int n), some (.lst (l.map .int)), some (.int half), some (.adr a), some (.int much), some (.int cut), x7, x8] ∧ Kp p μ m ∧ Pn m p (b + 9000 - 60 * i) ∧ m a = some (.lst (ts.map prI)) ∧ VT n ts ∧ ts.length ≤ 24 * i, ⟨[], _, _, rfl, hk, hP3, ha3, (fun _ z => nomatch z), Nat.le_refl _⟩, ?_, ?_⟩
      · rintro i x ρ m hx ⟨ts, x7, x8, rfl, hk, hPn, ha, hv, hl⟩
        obtain ⟨hi, rfl⟩ := rngD_get hx
        have hi : i < cut := by simpa using hi
        obtain ⟨u, hu⟩ : ∃ u, l[i]? = some u := ⟨_, List.getElem?_eq_getElem (by omega)⟩
        have au : atI (l.map D.int) (i : Int) = some (.int u) := atI_nat (by rw [List.getElem?_map, hu]; rfl)
        rw [Int.zero_add]
        refine ⟨trivial, ?_⟩
        walk_at "zz"
        refine ⟨cut, n, rfl, by omega, fun j ρ m => ∃ ts x8, ρ = [some (.adr p), some (.int n), some (.lst (l.map .int)), some (.int half), some (.adr a), some (.int much), some (.int cut), some (.int i), x8] ∧ Kp p μ m ∧ Pn m p (b + 9000 - 60 * i - 2 * j) ∧ m a = some (.lst (ts.map prI)) ∧ VT n ts ∧ ts.length ≤ 24 * i + j, ⟨ts, _, rfl, hk, hPn, ha, hv, hl⟩, ?_, ?_⟩
        · rintro j x ρ m hx ⟨ts, x8, rfl, hk, hPn, ha, hv, hl⟩
          obtain ⟨hj, rfl⟩ := rngD_get hx
          have hj : cut + j < n := by omega
          obtain ⟨v, hv2⟩ : ∃ v, l[cut + j]? = some v := ⟨_, List.getElem?_eq_getElem (by omega)⟩
          have av : atI (l.map D.int) ((cut : Int) + (j : Int)) = some (.int v) := by
            have e : (cut : Int) + (j : Int) = ((cut + j : Nat) : Int) := by omega
            rw [e]
            exact atI_nat (by rw [List.getElem?_map, hv2]; rfl)
          have uv : u ≠ v := fun e => by
            subst e
            obtain ⟨q1, q2⟩ := List.getElem?_eq_some_iff.mp hu
            obtain ⟨q3, q4⟩ := List.getElem?_eq_some_iff.mp hv2
            exact List.pairwise_iff_getElem.mp nd i (cut + j) q1 q3 (by omega) (q2.trans q4.symm)
          refine ⟨trivial, ?_⟩
          refine w_gd ?_
          refine w_ifAny (fun m => Kp p μ m ∧ Pn m p (b + 9000 - 60 * i - 2 * (j + 1)) ∧ m a = some (.lst (ts.map prI))) (fun Q' hQ' => ?_) (fun m ⟨hk, hPn, ha⟩ => ?_) (fun m ⟨hk, hPn, ha⟩ => ?_)
          · walk_at "zz"
            refine ⟨p, much, b + 9000 - 60 * i - (2 * j + 1), rfl, u1, by omega, hPn.less (by omega), fun d m3 hd hP3 hx3 => ?_⟩
            have ok3 : ∀ b, Q' b m3 := fun b => hQ' b m3 ⟨hk.ex hx3, hP3.less (by omega), (hx3 a pa).trans ha⟩
            walk_at "zz"
            refine w_dec (fun _ => ok3 _) fun _ => ?_
            walk_at "zz"
            refine w_dec (fun _ => ok3 _) fun _ => ?_
            walk_at "zz"
            refine .inl ⟨_, rfl, ?_⟩
            walk_at "zz"
            refine ⟨_, _, rfl, ?_⟩
            walk_at "zz"
            refine ⟨by omega, ?_⟩
            walk_at "zz"
            refine w_dec (fun _ => ?_) fun _ => ok3 _
            walk_at "zz"
            refine ⟨p, 4, b + 9000 - 60 * i - 2 * (j + 1), rfl, by decide, by decide, hP3.less (by omega), fun d m4 hd hP4 hx4 => ?_⟩
            walk_at "zz"
            exact hQ' _ m4 ⟨(hk.ex hx3).ex hx4, hP4, (hx4 a pa).trans ((hx3 a pa).trans ha)⟩
          · walk_at "zz"
            refine ⟨a, rfl, ⟨_, ha⟩, ?_⟩
            walk_at "zz"
            refine ⟨_, au, ?_⟩
            walk_at "zz"
            refine ⟨_, av, ?_⟩
            walk_at "zz"
            refine ⟨u, v, rfl, ?_⟩
            walk_at "zz"
            refine ⟨_, au, ?_⟩
            walk_at "zz"
            refine ⟨_, av, ?_⟩
            walk_at "zz"
            refine ⟨u, v, rfl, ?_⟩
            walk_at "zz"
            refine ⟨_, ha, by rw [List.length_map, sizeLine_eq]; omega, ?_⟩
            exact ⟨ts ++ [(min u v, max u v)], _, rfl, hk.upd a0 _, hPn.upd pa _, by rw [updM_same, List.map_append]; rfl, hv.app (VT.one (bd u (List.mem_of_getElem? hu)) (bd v (List.mem_of_getElem? hv2)) uv), by rw [List.length_append]; show ts.length + 1 ≤ _; omega⟩
          · exact ⟨ts, _, rfl, hk, hPn, ha, hv, by omega⟩
        · rintro ρ m ⟨ts, x8, rfl, hk, hPn, ha, hv, hl⟩
          rw [rngD_len] at hPn hl
          refine ⟨trivial, ?_⟩
          exact ⟨ts, _, _, rfl, hk, hPn.less (by omega), ha, hv, by omega⟩
      · rintro ρ m ⟨ts, x7, x8, rfl, hk, hPn, ha, hv, hl⟩
        rw [rngD_len] at hPn hl
        refine ⟨trivial, ?_⟩
        walk_at "zz"
        refine ⟨ts, allP n, .inr (.inr ⟨a, rfl, ha⟩), fun p hp => mem_allP.mpr (hv p hp), Nat.le_trans few (by decide), fun qs hq up => ?_⟩
        have vq : VT n qs := fun p hp => hv p ((hq p).mp hp)
        walk_at "zz"
        refine ⟨_, _, rfl, .inl (.inl rfl), ?_⟩
        exact ret_any hk (hPn.less (b' := b) (by omega)) fun μ' c e => q qs μ' ⟨vq, up⟩ (Nat.le_trans (up_few n2 up vq) (by decide)) c e
end
end K78


set_option Elab.async false
set_option linter.all false
set_option maxRecDepth 100000
set_option maxHeartbeats 4000000
namespace K78
open PySem PySem.Spec PyProof.Rows L2 Zd
local macro_rules | `(tactic| walk_at "z") => `(tactic| with_reducible first
  | refine w_seq ?_ | refine w_set ?_ | refine w_c ?_ | refine w_op ?_ | refine w_cons ?_ | refine w_nil ?_ | refine w_ret ?_ | refine w_call ?_ | refine w_tdin ?_ | refine w_test ?_ | refine w_blR ?_ | refine w_ntt ?_ | refine w_nff ?_
  | refine w_ifS ?_ | refine w_and ?_ | refine w_or ?_ | refine w_not ?_ | refine w_tup ?_ | refine w_lst ?_ | refine w_B ?_ | refine w_drop ?_ | refine w_asg ?_ | refine w_if ?_ | refine w_lstN ?_
  | refine w_add_ii ?_ | refine w_sub_ii ?_ | refine w_lt_ii ?_ | refine w_le_ii ?_ | refine w_gt_ii ?_ | refine w_ge_ii ?_ | refine w_eq_ii ?_ | refine w_ne_ii ?_ | refine w_isN ?_ | refine w_notN ?_
  | refine w_add_ll ?_ | refine w_add_tt ?_ | refine w_ix_l ?_ | refine w_ix_t ?_ | refine w_ix_f ?_ | refine w_mod_ii ?_ | refine w_div_ii ?_ | refine w_mul_ii ?_ | refine w_pow_ii ?_
  | refine w_andV ?_ | refine w_orV ?_ | refine w_notV ?_ | refine w_yes ?_ | refine w_tt ?_ | refine w_ff ?_
  | refine w_for ?_ | refine w_it1 ?_ | refine w_it2 ?_ | refine w_itS ?_ | refine w_lc ?_ | refine w_lcN ?_ | refine w_par ?_ | refine w_next ?_ | refine w_gd ?_ | refine w_iteT ?_ | refine w_iteF ?_ | refine w_gdC ?_ | refine w_gdN ?_
  | refine w_neg ?_ | refine w_negR ?_ | refine w_chain ?_ | refine w_cont ?_ | refine w_brk ?_ | refine w_retN ?_ | refine w_asgT ?_ | refine w_dget ?_ | refine w_dput ?_ | refine w_din ?_ | refine w_app ?_ | refine w_pop ?_ | refine w_cut ?_ | refine w_rev ?_ | refine w_while ?_ | refine w_dict ?_ | refine w_itE ?_ | refine w_fld ?_ | refine w_rg1 ?_ | refine w_rg2 ?_ | refine w_popAt ?_ | refine w_partN ?_ | refine w_partS ?_ | refine w_disp ?_ | refine w_pcons ?_ | refine w_pnil ?_ | refine w_fldS ?_ | refine w_par3 ?_ | refine w_sortSet ?_ | refine w_lenSet ?_ | refine w_gdDput ?_ | refine w_i0 ?_)
local macro_rules | `(tactic| walk_at "v") => `(tactic| ((with_reducible refine w_var (d := ?dv) ?hv ?_); (case hv => exact rfl)))
local macro_rules | `(tactic| walk_at "t") => `(tactic| ((with_reducible refine w_gdT ?hv ?_); (case hv => exact rfl)))
local macro_rules | `(tactic| walk_at "a") => `(tactic| ((with_reducible refine w_aug (x := ?xv) ?hv ?_); (case hv => exact rfl)))
local macro_rules | `(tactic| walk_at "l") => `(tactic| refine And.intro (Nat.le_of_ble_eq_true rfl) ?_)
local macro_rules | `(tactic| walk_at "zz") => `(tactic| ((try (with_reducible conv => whnf)); repeat (first | walk_at "z" | walk_at "v" | walk_at "l" | walk_at "t" | walk_at "a")))

def selG (g : Int → Int) (c : Int) : D → Option D
  | .int v => if g v == c then some (.int v) else none
  | _ => none
section
variable {P : Program} {w : World} {K : PySem.W.Frag} {mg : Str → Option Value} {base : Heap} {C : Addr}
theorem mk_web {Q : QD} {μ : Mu} {n : Nat} {d : D} {ts : List (Int × Int)} {f : Int × Int → D} (n1 : 1 ≤ n) (n2 : n ≤ 24) (hd : ∀ μ, Sq μ d (ts.map f)) (hf : ∀ μ p, Sq μ (f p) [.int p.1, .int p.2]) (hl : ts.length ≤ 1000) (ok : OkT n ts) (q : Q (webD C n ts) μ) :
    ∀ x, μ x = none → spInit C [.adr x, .int n, d] (updM μ x (.ins C [])) fun d μ2 => d = .non ∧ ∃ fs, μ2 x = some (.ins C fs) ∧ Q (.ins C (fs.map (·.1)) (fs.map (·.2))) (eraM μ2 x) := fun x hx => by
  refine ⟨x, n, d, ts, f, rfl, updM_same, n1, by omega, hd, hf, hl, ok, rfl, _, updM_same, ?_⟩
  rw [updM_updM, eraM_upd hx]
  exact q
theorem w_makeQ {C : Addr} {sp : SpD} {t : TAD} {ρ : EnvD} {μ : Mu} {Q : QD} (h : ∀ Q' : QD, (∀ d μ, Q d μ → Q' d μ) → t ρ μ fun ds μ1 => ∀ x, μ1 x = none → sp (.adr x :: ds) (updM μ1 x (.ins C [])) fun d μ2 => d = .non ∧ ∃ fs, μ2 x = some (.ins C fs) ∧ Q' (.ins C (fs.map (·.1)) (fs.map (·.2))) (eraM μ2 x)) : dMake C sp t ρ μ Q := h Q fun _ _ h => h
theorem prLi_sq (μ : Mu) (p : Int × Int) : Sq μ (prLi p) [.int p.1, .int p.2] := .lst
theorem prI_sq (μ : Mu) (p : Int × Int) : Sq μ (prI p) [.int p.1, .int p.2] := .tup
def spLaw : SpD := fun ds μ Q => ∃ ns : List Int, ds = [.frz (ns.map .int)] ∧ ns.length ≤ 63 ∧ ∀ μ', Q (.bl true) μ'
theorem ok_law {f : Addr} {fd : FuncData} (T : Txt K mg C) (F : L2.Fun K "law" "law" s_law f fd) (h_Web : DefC P w K mg base "Web" C 4 ["self", "size", "ties"] (spInit C)) (h_sides_of : Def P w K mg base "sides_of" 3 ["web"] (spSides C)) (h_odd_round : Def P w K mg base "odd_round" 3 ["web"] (spOdd C))
    (h_law_pen : Def P w K mg base "_law_pen" 1 ["script"] spPen) (h_law_size : Def P w K mg base "_law_size" 3 ["pen"] spSize) (h_law_draw : Def P w K mg base "_law_draw" 1 ["pen", "many"] spDraw)
    (h_law_two_sided_ties : Def P w K mg base "_law_two_sided_ties" 3 ["pen", "size"] spTies) (h_law_web_ties : Def P w K mg base "_law_web_ties" 5 ["pen", "size"] spTies) (h_law_bent_ties : Def P w K mg base "_law_bent_ties" 3 ["pen", "size", "ties"] spBent)
    (h_law_sides : Def P w K mg base "_law_sides" 2 ["size", "ties"] spLSides) (h_law_round_right : Def P w K mg base "_law_round_right" 2 ["size", "ties", "value"] spRR) :
    FnD P w K mg base 6 f fd ["script"] spLaw := by
  refine fnD F sc_law (fun ds μ Q h => ?_) fun cdv A outer s H E hr => ⟨_, ((pssd_cons (psd_set (i := 1) sc_law.nd rfl (Or.inl rfl) (pd_callF h_law_pen hr (by decide) (by rfl) (pad_cons (pd_var 0) pad_nil)))
  (pssd_cons (psd_for PassesOwn.never rfl (pid_range1 (by rfl) T.range (pad_cons pd_i pad_nil)) (pgd_name (i := 2) sc_law.nd rfl (Or.inl rfl)) (pssd_cons (psd_set (i := 3) sc_law.nd rfl (Or.inl rfl) (pd_if (ptd_lt (pd_var 2) pd_i (hr.units0)) (pd_callF h_law_size hr (by decide) (by rfl) (pad_cons (pd_var 1) pad_nil)) (pd_add pd_i (pd_callF h_law_draw hr (by decide) (by rfl) (pad_cons (pd_var 1) (pad_cons pd_i pad_nil))))))
  (pssd_cons (psd_set (i := 4) sc_law.nd rfl (Or.inl rfl) (pd_if (ptd_eq (pd_callF h_law_draw hr (by decide) (by rfl) (pad_cons (pd_var 1) (pad_cons pd_i pad_nil))) pd_i (hr.units)) (pd_callF h_law_two_sided_ties hr (by decide) (by rfl) (pad_cons (pd_var 1) (pad_cons (pd_var 3) pad_nil))) (pd_callF h_law_web_ties hr (by decide) (by rfl) (pad_cons (pd_var 1) (pad_cons (pd_var 3) pad_nil)))))
  (pssd_cons (psd_set (i := 4) sc_law.nd rfl (Or.inl rfl) (pd_callF h_law_bent_ties hr (by decide) (by rfl) (pad_cons (pd_var 1) (pad_cons (pd_var 3) (pad_cons (pd_var 4) pad_nil)))))
  (pssd_cons (psd_asg (pd_tup (pad_cons (pd_callF h_law_sides hr (by decide) (by rfl) (pad_cons (pd_var 3) (pad_cons (pd_var 4) pad_nil))) (pad_cons (pd_makeF h_Web hr (by decide) (by rfl) (pad_cons (pd_var 3) (pad_cons (pd_lc (own := [("tie", 7)]) rfl sc_law.nd (pid_seq (pd_var 4)) (blkOk_by (N := n_law) (sc := defScope s_law) (own := [("tie", 7)]) (by decide +kernel)) (fun _ _ _ _ _ => (pgd_name (i := 7) sc_law.nd rfl (Or.inl rfl))) (fun _ _ _ _ _ => ptsd_nil) (fun _ _ _ _ _ => (pd_listC false (by rfl) T.list (pad_cons (pd_var 7) pad_nil)))) pad_nil))) pad_nil))) (pgd_tup rfl (pgsd_cons (pgd_name (i := 5) sc_law.nd rfl (Or.inr rfl)) (pgsd_cons (pgd_name (i := 6) sc_law.nd rfl (Or.inl rfl)) pgsd_nil))))
  (pssd_cons (psd_par (i := 8) (j := 9) rfl sc_law.nd rfl rfl (by decide) rfl rfl (pad_cons (pd_callF h_sides_of hr (by decide) (by rfl) (pad_cons (pd_var 6) pad_nil)) (pad_cons (pd_callF h_odd_round hr (by decide) (by rfl) (pad_cons (pd_var 6) pad_nil)) pad_nil)) (by rfl))
  (pssd_cons (psd_if (ptd_isN (pd_var 5) pd_n) (pssd_cons (psd_if (PWD.pt (pwd_or (ptd_notN (pd_var 8) pd_n) (pwd_or (ptd_not (ptd_val (pd_callF h_law_round_right hr (by decide) (by rfl) (pad_cons (pd_var 3) (pad_cons (pd_var 4) (pad_cons (pd_var 9) pad_nil)))))) (pwd_or1 (ptd_ne (pd_var 9) (pd_callF h_odd_round hr (by decide) (by rfl) (pad_cons (pd_makeF h_Web hr (by decide) (by rfl) (pad_cons (pd_var 3) (pad_cons (pd_var 4) pad_nil))) pad_nil)) (hr.units)))))) (pssd_one (psd_ret pd_b)) pssd_nil)
  (pssd_one psd_continue)) pssd_nil)
  (pssd_cons (psd_if (PWD.pt (pwd_or (ptd_notN (pd_var 9) pd_n) (pwd_or (ptd_not (ptd_val (pd_isi (by rfl) T.isinstance (pad_cons (pd_var 8) (pad_cons (pd_c (pe_bltn (v := .ty "tuple") (by rfl) T.tuple (by decide +kernel) rfl) fun _ _ => .ty _) pad_nil))))) (pwd_or1 (ptd_not (ptd_val (pd_all rfl (by rfl) T.all (pad_cons (pd_lc (own := [("lot", 10)]) rfl sc_law.nd (pid_seq (pd_var 8)) (blkOk_by (N := n_law) (sc := defScope s_law) (own := [("lot", 10)]) (by decide +kernel)) (fun _ _ _ _ _ => (pgd_name (i := 10) sc_law.nd rfl (Or.inl rfl))) (fun _ _ _ _ _ => ptsd_nil) (fun _ _ _ _ _ => (pd_isi (by rfl) T.isinstance (pad_cons (pd_var 10) (pad_cons (pd_c (pe_bltn (v := .ty "tuple") (by rfl) T.tuple (by decide +kernel) rfl) fun _ _ => .ty _) pad_nil))))) pad_nil)))))))) (pssd_one (psd_ret pd_b)) pssd_nil)
  (pssd_one (psd_if (ptd_ne (pd_var 8) (pd_tup (pad_cons (pd_tupleC (by rfl) T.tuple (pad_cons (pd_lc (own := [("i", 11)]) rfl sc_law.nd (pid_range1 (by rfl) T.range (pad_cons (pd_var 3) pad_nil)) (blkOk_by (N := n_law) (sc := defScope s_law) (own := [("i", 11)]) (by decide +kernel)) (fun _ _ _ _ _ => (pgd_name (i := 11) sc_law.nd rfl (Or.inl rfl))) (fun _ _ _ _ _ => (ptsd_one (ptd_eq (pd_ix (pd_var 5) (pd_var 11)) pd_i (hr.units)))) (fun _ _ _ _ _ => (pd_var 11))) pad_nil)) (pad_cons (pd_tupleC (by rfl) T.tuple (pad_cons (pd_lc (own := [("i", 11)]) rfl sc_law.nd (pid_range1 (by rfl) T.range (pad_cons (pd_var 3) pad_nil)) (blkOk_by (N := n_law) (sc := defScope s_law) (own := [("i", 11)]) (by decide +kernel)) (fun _ _ _ _ _ => (pgd_name (i := 11) sc_law.nd rfl (Or.inl rfl))) (fun _ _ _ _ _ => (ptsd_one (ptd_eq (pd_ix (pd_var 5) (pd_var 11)) pd_i (hr.units)))) (fun _ _ _ _ _ => (pd_var 11))) pad_nil)) pad_nil))) (hr.units)) (pssd_one (psd_ret pd_b)) pssd_nil))))))))))
  (pssd_cons (psd_set (i := 12) sc_law.nd rfl (Or.inr rfl) (pd_add pd_i (pd_mul pd_i (pd_callF h_law_draw hr (by decide) (by rfl) (pad_cons (pd_var 1) (pad_cons pd_i pad_nil))))))
  (pssd_cons (psd_set (i := 9) sc_law.nd rfl (Or.inl rfl) (pd_tupleC (by rfl) T.tuple (pad_cons (pd_sortP (by rfl) T.sorted (pad_cons (pd_lc (own := [("at", 13)]) rfl sc_law.nd (pid_range1 (by rfl) T.range (pad_cons (pd_var 12) pad_nil)) (blkOk_by (N := n_law) (sc := defScope s_law) (own := [("at", 13)]) (by decide +kernel)) (fun _ _ _ _ _ => (pgd_name (i := 13) sc_law.nd rfl (Or.inl rfl))) (fun _ _ _ _ _ => ptsd_nil) (fun _ _ _ _ _ => (pd_tup (pad_cons (pd_min2 rfl (by rfl) T.min (pad_cons (pd_var 13) (pad_cons (pd_mod (pd_int (by rfl) T.int (pad_cons (pd_add (pd_var 13) pd_i) pad_nil)) (pd_var 12)) pad_nil))) (pad_cons (pd_max2 rfl (by rfl) T.max (pad_cons (pd_var 13) (pad_cons (pd_mod (pd_int (by rfl) T.int (pad_cons (pd_add (pd_var 13) pd_i) pad_nil)) (pd_var 12)) pad_nil))) pad_nil))))) pad_nil)) pad_nil)))
  (pssd_one (psd_ret (pd_and (pd_isN (pd_callF h_sides_of hr (by decide) (by rfl) (pad_cons (pd_makeF h_Web hr (by decide) (by rfl) (pad_cons (pd_var 12) (pad_cons (pd_var 9) pad_nil))) pad_nil)) pd_n) (pd_and (pd_callF h_law_round_right hr (by decide) (by rfl) (pad_cons (pd_var 12) (pad_cons (pd_var 9) (pad_cons (pd_callF h_odd_round hr (by decide) (by rfl) (pad_cons (pd_makeF h_Web hr (by decide) (by rfl) (pad_cons (pd_var 12) (pad_cons (pd_var 9) pad_nil))) pad_nil)) pad_nil)))) (pd_one (pd_eq (pd_len (by rfl) T.len (pad_cons (pd_callF h_odd_round hr (by decide) (by rfl) (pad_cons (pd_makeF h_Web hr (by decide) (by rfl) (pad_cons (pd_var 12) (pad_cons (pd_var 9) pad_nil))) pad_nil)) pad_nil)) (pd_var 12) (hr.units)))))))))))), ?_⟩
  · obtain ⟨ns, rfl, _⟩ := h
    rfl
  · rintro ds μ Q ⟨ns, rfl, hn, q⟩
    walk_at "zz"
    refine ⟨ns, rfl, hn, fun p m0 hp hP0 hx0 => ?_⟩
    walk_at "zz"
    refine ⟨4, rfl, by decide, by decide, fun i ρ m => ∃ x2 x3 x4 x5 x6 x7 x8 x9 x10 x11 x12 x13, ρ = [some (.frz (ns.map .int)), some (.adr p), x2, x3, x4, x5, x6, x7, x8, x9, x10, x11, x12, x13] ∧ Pn m p (1000000 - 50000 * i), ⟨_, _, _, _, _, _, _, _, _, _, _, _, rfl, hP0⟩, ?_, ?_⟩
    · rintro i x ρ m hx ⟨x2, x3, x4, x5, x6, x7, x8, x9, x10, x11, x12, x13, rfl, hP⟩
      obtain ⟨hi, rfl⟩ := rngD_get hx
      have hi : i < 4 := by simpa using hi
      obtain ⟨b, hb⟩ : ∃ b, 1000000 - 50000 * (i + 1) = b := ⟨_, rfl⟩
      have hP : Pn m p (b + 50000) := hP.less (by omega)
      refine ⟨trivial, ?_⟩
      refine w_gd ?_
      with_reducible refine w_seqI (fun ρ m => ∃ n : Nat, ρ = [some (.frz (ns.map .int)), some (.adr p), some (.int (0 + (i : Int))), some (.int n), x4, x5, x6, x7, x8, x9, x10, x11, x12, x13] ∧ 1 ≤ n ∧ n ≤ 24 ∧ Pn m p (b + 49000)) (fun ρ m hI => ?rest) (fun N hN => ?size)
      case size =>
        walk_at "zz"
        refine w_dec (fun _ => ?_) fun _ => ?_
        · walk_at "zz"
          refine ⟨p, b + 49999, rfl, hP, fun n m1 n1 n2 hP1 _ => ?_⟩
          exact hN _ _ ⟨n, rfl, n1, by omega, hP1.less (by omega)⟩
        · walk_at "zz"
          refine ⟨p, 13, b + 49999, rfl, by decide, by decide, hP, fun d m1 hd hP1 _ => ?_⟩
          walk_at "zz"
          exact hN _ _ ⟨12 + d, by rw [Int.natCast_add]; rfl, by omega, by omega, hP1.less (by omega)⟩
      case rest =>
      obtain ⟨n, rfl, n1, n2, hP⟩ := hI
      with_reducible refine w_seqI (fun ρ m => ∃ ts, ρ = [some (.frz (ns.map .int)), some (.adr p), some (.int (0 + (i : Int))), some (.int n), some (.tup (List.map prI ts)), x5, x6, x7, x8, x9, x10, x11, x12, x13] ∧ OkT n ts ∧ ts.length ≤ 300 ∧ Pn m p (b + 2)) (fun ρ m hI => ?rest2) (fun N hN => ?ties)
      case ties =>
        walk_at "zz"
        refine ⟨p, 2, b + 48999, rfl, by decide, by decide, hP, fun d m1 hd hP1 _ => ?_⟩
        walk_at "zz"
        refine w_dec (fun _ => ?_) fun _ => ?_
        · walk_at "zz"
          refine ⟨p, n, b + 2, rfl, n1, n2, hP1.less (by omega), fun ts m2 ok hl hP2 _ => ?_⟩
          exact hN _ _ ⟨ts, rfl, ok, hl, hP2⟩
        · walk_at "zz"
          refine ⟨p, n, b + 2, rfl, n1, n2, hP1.less (by omega), fun ts m2 ok hl hP2 _ => ?_⟩
          exact hN _ _ ⟨ts, rfl, ok, hl, hP2⟩
      case rest2 =>
      obtain ⟨ts0, rfl, ok0, hl0, hP⟩ := hI
      walk_at "zz"
      refine ⟨p, n, b, ts0, rfl, n1, n2, ok0, hl0, hP, fun ts m1 ok hl hP1 _ => ?_⟩
      have fin : ∀ {ρ : EnvD} {x3 x4 x5 x6 x7 x8 x9 x10 x11 x12 x13 : Option D}, ρ = [some (.frz (ns.map .int)), some (.adr p), some (.int (0 + (i : Int))), x3, x4, x5, x6, x7, x8, x9, x10, x11, x12, x13] → ∃ x2 x3 x4 x5 x6 x7 x8 x9 x10 x11 x12 x13, ρ = [some (.frz (ns.map .int)), some (.adr p), x2, x3, x4, x5, x6, x7, x8, x9, x10, x11, x12, x13] ∧ Pn m1 p (1000000 - 50000 * (i + 1)) := fun {ρ x3 x4 x5 x6 x7 x8 x9 x10 x11 x12 x13} e => ⟨_, _, _, _, _, _, _, _, _, _, _, _, e, by rw [hb]; exact hP1⟩
      walk_at "zz"
      refine ⟨n, _, ts, rfl, fun _ => .inr rfl, ok, by omega, by omega, ?_⟩
      walk_at "zz"
      refine w_makeQ fun Q' hQ' => ?_
      walk_at "zz"
      refine itS_ix (ts.map prLi) (.inr rfl) (by rw [List.length_map, List.length_map]) (by rw [List.length_map]; omega) (fun j y z hy hz N hN => ?_) ?_
      · rw [List.getElem?_map] at hy hz
        obtain ⟨t, ht, rfl⟩ := Option.map_eq_some_iff.mp hy
        rw [ht] at hz
        cases hz
        walk_at "zz"
        exact ⟨_, _, rfl, .inr rfl, w_ff hN⟩
      walk_at "zz"
      refine mk_web n1 n2 (fun _ => .lst) prLi_sq (by omega) ok (hQ' _ _ ?_)
      walk_at "zz"
      refine ⟨n, ts, rfl, ok, by omega, by omega, ?_⟩
      walk_at "zz"
      refine ⟨n, ts, rfl, ok, by omega, by omega, ?_⟩
      walk_at "zz"
      refine ⟨_, _, rfl, ?_⟩
      rcases both ok with ⟨hd, s, u, v, hb, R⟩ | ⟨hd, hb, hs⟩
      · have e1 : lsD n ts = .non := by
          unfold lsD
          generalize dfs n ts = R at hd
          obtain ⟨_, _⟩ := R
          cases hd
          rfl
        have e2 : toldD n ts = .non := by unfold toldD; rw [hb]
        have e3 : oddR n ts = .tup ((ringOf s.ah u v).map .int) := by unfold oddR; rw [hb]
        rw [e1, e2, e3]
        walk_at "zz"
        refine w_tt ?_
        walk_at "zz"
        refine w_ff ?_
        walk_at "zz"
        refine ⟨n, ts, _, rfl, ok, by omega, R, ?_⟩
        walk_at "zz"
        refine w_makeQ fun Q' hQ' => ?_
        walk_at "zz"
        refine mk_web n1 n2 (fun _ => .tup) prI_sq (by omega) ok (hQ' _ _ ?_)
        walk_at "zz"
        refine ⟨n, ts, rfl, ok, by omega, by omega, ?_⟩
        rw [e3]
        refine ⟨_, _, .inl rfl, .inl rfl, (Sm.intsT _).dat (by decide), (Sm.intsT _).dat (by decide), ?_⟩
        rw [(Sm.intsT _).eq]
        walk_at "zz"
        exact fin rfl
      · have e1 : lsD n ts = .lst ((rngI n).map fun v => .int ((lk (dfs n ts).1.sd v).getD 0)) := by
          unfold lsD
          generalize dfs n ts = R at hd
          obtain ⟨_, _⟩ := R
          cases hd
          rfl
        have e2 : toldD n ts = sidesD (bfs n ts).1.sd n := by unfold toldD; rw [hb]
        have e3 : oddR n ts = .non := by
          unfold oddR
          generalize bfs n ts = R at hb
          obtain ⟨_, _⟩ := R
          cases hb
          rfl
        rw [e1, e2, e3]
        have hS : Sm 2 (sidesD (bfs n ts).1.sd n) := .tup fun d hd => by
          rcases List.mem_cons.mp hd with rfl | hd
          · exact .intsT _
          · rw [List.mem_singleton.mp hd]
            exact .intsT _
        walk_at "zz"
        refine w_ff ?_
        walk_at "zz"
        refine w_ff ?_
        walk_at "zz"
        refine ⟨_, "tuple", .inl ⟨"tuple", rfl, by decide, rfl, ?_⟩⟩
        walk_at "zz"
        refine w_nff ?_
        walk_at "zz"
        refine itS_map (ds := [.tup ((sdOf (bfs n ts).1.sd n 0).map .int), .tup ((sdOf (bfs n ts).1.sd n 1).map .int)]) (fun _ => D.bl true) (.inr rfl) (Nat.le_of_ble_eq_true rfl) (fun j x hx N hN => ?_) ?_
        · have ht : tyN m1 x = some "tuple" := by
            match j, hx with
            | 0, hx => cases hx; rfl
            | 1, hx => cases hx; rfl
          walk_at "zz"
          refine ⟨x, "tuple", .inl ⟨"tuple", rfl, by decide, ht, ?_⟩⟩
          exact hN
        walk_at "zz"
        refine ⟨_, [true, true], rfl, .inl rfl, ?_⟩
        walk_at "zz"
        refine w_nff ?_
        walk_at "zz"
        have at1 : ∀ v : Int, v ∈ rngI n → atI ((rngI n).map fun v => D.int ((lk (dfs n ts).1.sd v).getD 0)) v = some (.int ((lk (dfs n ts).1.sd v).getD 0)) := fun v hv => by
          obtain ⟨h0, h1⟩ := mem_rngI.mp hv
          obtain ⟨k, rfl⟩ : ∃ k : Nat, v = k := ⟨v.toNat, by omega⟩
          refine atI_nat ?_
          have : (rngI n)[k]? = some (k : Int) := by
            unfold rngI
            rw [List.getElem?_map, List.getElem?_range (by omega)]
            rfl
          rw [List.getElem?_map, this]
          rfl
        have all : ∀ c : Int, (rngD 0 ((n : Int)).toNat).filterMap (selG (fun v => (lk (dfs n ts).1.sd v).getD 0) c) = (sdOf (bfs n ts).1.sd n c).map .int := fun c => by
          rw [hs c, Int.toNat_natCast, rngD_rngI]
          exact filterMap_int _ _ _ fun v _ => rfl
        refine ⟨n, rfl, by omega, by omega, ?_⟩
        refine lc_fm (selG (fun v => (lk (dfs n ts).1.sd v).getD 0) 0) (rngD_small (by omega)) trivial (fun j x hx N hN => ?_) ?_
        · obtain ⟨hj, e⟩ := rngD_get hx
          rw [e] at hN ⊢
          have hN : N (if (lk (dfs n ts).1.sd (0 + (j : Int))).getD 0 == 0 then some (.int (0 + (j : Int))) else none) m1 := hN
          walk_at "zz"
          refine ⟨_, at1 _ (mem_rngI.mpr ⟨by omega, by omega⟩), ?_⟩
          walk_at "zz"
          refine w_dec (fun e => ?_) fun e => ?_
          · rw [e] at hN
            walk_at "zz"
            exact hN
          · rw [if_neg fun z => e (beq_iff_eq.mp z)] at hN
            exact hN
        walk_at "zz"
        rw [all]
        refine ⟨_, _, rfl, .inl (.inl rfl), ?_⟩
        walk_at "zz"
        refine ⟨n, rfl, by omega, by omega, ?_⟩
        refine lc_fm (selG (fun v => (lk (dfs n ts).1.sd v).getD 0) 1) (rngD_small (by omega)) trivial (fun j x hx N hN => ?_) ?_
        · obtain ⟨hj, e⟩ := rngD_get hx
          rw [e] at hN ⊢
          have hN : N (if (lk (dfs n ts).1.sd (0 + (j : Int))).getD 0 == 1 then some (.int (0 + (j : Int))) else none) m1 := hN
          walk_at "zz"
          refine ⟨_, at1 _ (mem_rngI.mpr ⟨by omega, by omega⟩), ?_⟩
          walk_at "zz"
          refine w_dec (fun e => ?_) fun e => ?_
          · rw [e] at hN
            walk_at "zz"
            exact hN
          · rw [if_neg fun z => e (beq_iff_eq.mp z)] at hN
            exact hN
        walk_at "zz"
        rw [all]
        refine ⟨_, _, rfl, .inl (.inl rfl), ?_⟩
        walk_at "zz"
        refine ⟨sidesD (bfs n ts).1.sd n, sidesD (bfs n ts).1.sd n, .inl rfl, .inl rfl, hS.dat (by decide), hS.dat (by decide), ?_⟩
        rw [hS.eq]
        walk_at "zz"
        exact fin rfl
    · rintro ρ m ⟨x2, x3, x4, x5, x6, x7, x8, x9, x10, x11, x12, x13, rfl, hP⟩
      refine ⟨trivial, ?_⟩
      walk_at "zz"
      refine ⟨p, 11, 1, rfl, by decide, by decide, hP.less (by rw [rngD_len]; decide), fun k m1 hk hP1 _ => ?_⟩
      walk_at "zz"
      refine ⟨.inl ⟨by decide, by decide⟩, ?_⟩
      have cf := cycF hk
      have e0 : (3 : Int) + 2 * (k : Int) = ((3 + 2 * k : Nat) : Int) := by omega
      have hM : 3 + 2 * k ≤ 24 := by omega
      have hM1 : 3 ≤ 3 + 2 * k := by omega
      refine w_add_ii ?_
      rw [e0]
      generalize 3 + 2 * k = M at cf hM hM1 ⊢
      obtain ⟨s, u, v, hb, rlen⟩ := cf.ring
      have R := (((bfs_law cf.ok).2 u v (by rw [hb])).ring cf.ok)
      rw [hb] at R
      have R : RingOk M (cycS M) (ringOf s.ah u v) := R
      have e2 : toldD M (cycS M) = .non := by unfold toldD; rw [hb]
      have e3 : oddR M (cycS M) = .tup ((ringOf s.ah u v).map .int) := by unfold oddR; rw [hb]
      have cl : (cycS M).length ≤ 1000 := by
        show ((0, 1) :: (0, (M : Int) - 1) :: List.map _ (List.range (M - 2))).length ≤ 1000
        rw [List.length_cons, List.length_cons, List.length_map, List.length_range]
        omega
      walk_at "zz"
      refine ⟨M, rfl, by omega, by omega, ?_⟩
      refine lc_ix ((cyc M).map prI) (by unfold cyc; rw [List.length_map, List.length_map, List.length_range]; show M = (rngD 0 (Int.toNat M)).length; rw [rngD_len]; omega) (rngD_small (by omega)) trivial (fun i x y hx hy N hN => ?_) ?_
      · have hx : (rngD 0 (Int.toNat M))[i]? = some x := hx
        obtain ⟨hi, rfl⟩ := rngD_get hx
        unfold cyc at hy
        rw [List.map_map, List.getElem?_map, List.getElem?_range (by omega)] at hy
        cases hy
        rw [Int.zero_add]
        walk_at "zz"
        refine .inl ⟨_, rfl, ?_⟩
        walk_at "zz"
        refine ⟨by omega, ?_⟩
        walk_at "zz"
        refine ⟨_, _, rfl, ?_⟩
        walk_at "zz"
        refine .inl ⟨_, rfl, ?_⟩
        walk_at "zz"
        refine ⟨by omega, ?_⟩
        walk_at "zz"
        refine ⟨_, _, rfl, ?_⟩
        walk_at "zz"
        exact hN
      · walk_at "zz"
        refine ⟨_, cyc M, rfl, .inl rfl, fun qs pm up => ?_⟩
        have eq := cf.pm qs pm up
        subst eq
        walk_at "zz"
        refine ⟨_, _, rfl, .inl (.inl rfl), ?_⟩
        walk_at "zz"
        refine w_makeQ fun Q1 hQ1 => ?_
        walk_at "zz"
        refine mk_web (by omega) (by omega) (fun _ => .tup) prI_sq cl cf.ok (hQ1 _ _ ?_)
        walk_at "zz"
        refine ⟨M, _, rfl, cf.ok, by omega, cl, ?_⟩
        rw [e2]
        walk_at "zz"
        refine w_tt ?_
        walk_at "zz"
        refine w_makeQ fun Q1 hQ1 => ?_
        walk_at "zz"
        refine mk_web (by omega) (by omega) (fun _ => .tup) prI_sq cl cf.ok (hQ1 _ _ ?_)
        walk_at "zz"
        refine ⟨M, _, rfl, cf.ok, by omega, cl, ?_⟩
        rw [e3]
        walk_at "zz"
        refine ⟨M, _, _, rfl, cf.ok, by omega, R, ?_⟩
        walk_at "zz"
        refine w_makeQ fun Q1 hQ1 => ?_
        walk_at "zz"
        refine mk_web (by omega) (by omega) (fun _ => .tup) prI_sq cl cf.ok (hQ1 _ _ ?_)
        walk_at "zz"
        refine ⟨M, _, rfl, cf.ok, by omega, cl, ?_⟩
        rw [e3]
        walk_at "zz"
        refine ⟨_, rfl, .inl ⟨_, .inr rfl, ?_⟩⟩
        rw [List.length_map, rlen]
        walk_at "zz"
        rw [decide_eq_true (show (M : Int) = (M : Int) from rfl)]
        exact RT.one (q _)
end
end K78


set_option Elab.async false
set_option linter.all false
set_option maxRecDepth 100000
set_option maxHeartbeats 4000000
namespace K78
open PySem PySem.Spec PyProof.Rows L2 Zd
/-! ### what the top has written -/
theorem only_msk {H : Hp} : msk (fun _ => False) (fun _ => none) H = H := by
  funext b
  exact msk_in (fun z => z) rfl
def spLawK (K : PySem.W.Frag) : Sp := fun vs H Q _ => ∃ (a : Addr) (ns : List Int), vs = [.ref a] ∧ SqL K H a (ns.map V.int) ∧ ns.length ≤ 63 ∧ ∀ H', Q (.bl true) H'
theorem law_lift {k : KW} {vs : List V} {H : Hp} {Q : VK} {E : XK} (h : spLawK k.K vs H Q E) : liftF k spLaw vs H Q E := by
  obtain ⟨a, ns, rfl, hS, hl, q⟩ := h
  refine ⟨fun _ => False, [.frz (ns.map .int)], fun _ => none, fun d _ => d = .bl true, ?_, ⟨fun a m e => (nomatch e), fun a z => z.elim, fun a z => z.elim⟩, ⟨ns, rfl, hl, fun _ => rfl⟩, fun d μ' v H' e rl s i => ?_⟩
  · rw [only_msk]
    exact .cons (.frz hS (isAll_ints ns)) .nil
  · subst e
    cases i
    exact q H'
theorem all_mk {P : Program} {w : World} {K : PySem.W.Frag} {h : Heap} {mg : Str → Option Value} {fa C : Addr} {mt : Tok} (X : K.In h) (G : h.Ns mainGlobals mg) (hfa : mg "law" = some (.ref fa))
    {f1 f2 f3 f4 f5 f6 f7 f8 f9 f10 f11 f12 f13 f14 f15 f16 f17 f18 f19 f20 f21 f22 f23 f24 f25 f26 f27 f28 f29 : Addr} {od1 an1 od2 an2 od3 an3 od4 an4 od5 an5 od6 an6 od7 an7 od8 an8 od9 an9 od10 an10 od11 an11 od12 an12 od13 an13 od14 an14 od15 an15 od16 an16 od17 an17 od18 an18 od19 an19 od20 an20 od21 an21 od22 an22 od23 an23 od24 an24 od25 an25 od26 an26 od27 an27 od28 an28 od29 an29 : Option Addr} {sl1 sl2 sl3 sl4 sl5 sl6 sl7 sl8 sl9 sl10 sl11 sl12 sl13 sl14 sl15 sl16 sl17 sl18 sl19 sl20 sl21 sl22 sl23 sl24 sl25 sl26 sl27 sl28 sl29 : Array (Option Value)} {oc1 kV1 dc1 pm1 cd1 ct1 oc2 kV2 dc2 pm2 cd2 ct2 oc3 kV3 dc3 pm3 cd3 ct3 oc4 kV4 dc4 pm4 cd4 ct4 oc5 kV5 dc5 pm5 cd5 ct5 oc6 kV6 dc6 pm6 cd6 ct6 oc7 kV7 dc7 pm7 cd7 ct7 oc8 kV8 dc8 pm8 cd8 ct8 oc9 kV9 dc9 pm9 cd9 ct9 oc10 kV10 dc10 pm10 cd10 ct10 oc11 kV11 dc11 pm11 cd11 ct11 oc12 kV12 dc12 pm12 cd12 ct12 oc13 kV13 dc13 pm13 cd13 ct13 oc14 kV14 dc14 pm14 cd14 ct14 oc15 kV15 dc15 pm15 cd15 ct15 oc16 kV16 dc16 pm16 cd16 ct16 oc17 kV17 dc17 pm17 cd17 ct17 oc18 kV18 dc18 pm18 cd18 ct18 oc19 kV19 dc19 pm19 cd19 ct19 oc20 kV20 dc20 pm20 cd20 ct20 oc21 kV21 dc21 pm21 cd21 ct21 oc22 kV22 dc22 pm22 cd22 ct22 oc23 kV23 dc23 pm23 cd23 ct23 oc24 kV24 dc24 pm24 cd24 ct24 oc25 kV25 dc25 pm25 cd25 ct25 oc26 kV26 dc26 pm26 cd26 ct26 oc27 kV27 dc27 pm27 cd27 ct27 oc28 kV28 dc28 pm28 cd28 ct28 oc29 kV29 dc29 pm29 cd29 ct29 : Value}
    (aC : PySem.W.nsIn K mainGlobals "Web" = some (some (.ref C)))
    (a29 : PySem.W.findIn K (.ref C) "__init__" = some (some (.ref f29))) (i29 : PySem.W.isFn K (.ref f29) = true) (l29 : K.lookup f29 = some ⟨oc29, od29, .func (PySem.W.fnOf "__init__" "Web.__init__" (defArgs s_Web___init__) (defBody s_Web___init__) (defScope s_Web___init__) .none kV29 dc29 pm29 an29 cd29 ct29), sl29⟩) (c29 : PySem.W.codeIn K cd29 "Web.__init__" = true) (k29 : PySem.W.keepIn K (.ref f29) = true)
    (a1 : PySem.W.nsIn K mainGlobals "is_whole" = some (some (.ref f1))) (l1 : K.lookup f1 = some ⟨oc1, od1, .func (PySem.W.fnOf "is_whole" "is_whole" (defArgs s_is_whole) (defBody s_is_whole) (defScope s_is_whole) .none kV1 dc1 pm1 an1 cd1 ct1), sl1⟩) (c1 : PySem.W.codeIn K cd1 "is_whole" = true) (k1 : PySem.W.keepIn K (.ref f1) = true)
    (a2 : PySem.W.nsIn K mainGlobals "is_list" = some (some (.ref f2))) (l2 : K.lookup f2 = some ⟨oc2, od2, .func (PySem.W.fnOf "is_list" "is_list" (defArgs s_is_list) (defBody s_is_list) (defScope s_is_list) .none kV2 dc2 pm2 an2 cd2 ct2), sl2⟩) (c2 : PySem.W.codeIn K cd2 "is_list" = true) (k2 : PySem.W.keepIn K (.ref f2) = true)
    (a3 : PySem.W.nsIn K mainGlobals "is_index" = some (some (.ref f3))) (l3 : K.lookup f3 = some ⟨oc3, od3, .func (PySem.W.fnOf "is_index" "is_index" (defArgs s_is_index) (defBody s_is_index) (defScope s_is_index) .none kV3 dc3 pm3 an3 cd3 ct3), sl3⟩) (c3 : PySem.W.codeIn K cd3 "is_index" = true) (k3 : PySem.W.keepIn K (.ref f3) = true)
    (a4 : PySem.W.nsIn K mainGlobals "is_pairs" = some (some (.ref f4))) (l4 : K.lookup f4 = some ⟨oc4, od4, .func (PySem.W.fnOf "is_pairs" "is_pairs" (defArgs s_is_pairs) (defBody s_is_pairs) (defScope s_is_pairs) .none kV4 dc4 pm4 an4 cd4 ct4), sl4⟩) (c4 : PySem.W.codeIn K cd4 "is_pairs" = true) (k4 : PySem.W.keepIn K (.ref f4) = true)
    (a5 : PySem.W.nsIn K mainGlobals "near_of" = some (some (.ref f5))) (l5 : K.lookup f5 = some ⟨oc5, od5, .func (PySem.W.fnOf "near_of" "near_of" (defArgs s_near_of) (defBody s_near_of) (defScope s_near_of) .none kV5 dc5 pm5 an5 cd5 ct5), sl5⟩) (c5 : PySem.W.codeIn K cd5 "near_of" = true) (k5 : PySem.W.keepIn K (.ref f5) = true)
    (a6 : PySem.W.nsIn K mainGlobals "colours_of" = some (some (.ref f6))) (l6 : K.lookup f6 = some ⟨oc6, od6, .func (PySem.W.fnOf "colours_of" "colours_of" (defArgs s_colours_of) (defBody s_colours_of) (defScope s_colours_of) .none kV6 dc6 pm6 an6 cd6 ct6), sl6⟩) (c6 : PySem.W.codeIn K cd6 "colours_of" = true) (k6 : PySem.W.keepIn K (.ref f6) = true)
    (a7 : PySem.W.nsIn K mainGlobals "sides_of" = some (some (.ref f7))) (l7 : K.lookup f7 = some ⟨oc7, od7, .func (PySem.W.fnOf "sides_of" "sides_of" (defArgs s_sides_of) (defBody s_sides_of) (defScope s_sides_of) .none kV7 dc7 pm7 an7 cd7 ct7), sl7⟩) (c7 : PySem.W.codeIn K cd7 "sides_of" = true) (k7 : PySem.W.keepIn K (.ref f7) = true)
    (a8 : PySem.W.nsIn K mainGlobals "way_home" = some (some (.ref f8))) (l8 : K.lookup f8 = some ⟨oc8, od8, .func (PySem.W.fnOf "way_home" "way_home" (defArgs s_way_home) (defBody s_way_home) (defScope s_way_home) .none kV8 dc8 pm8 an8 cd8 ct8), sl8⟩) (c8 : PySem.W.codeIn K cd8 "way_home" = true) (k8 : PySem.W.keepIn K (.ref f8) = true)
    (a9 : PySem.W.nsIn K mainGlobals "odd_round" = some (some (.ref f9))) (l9 : K.lookup f9 = some ⟨oc9, od9, .func (PySem.W.fnOf "odd_round" "odd_round" (defArgs s_odd_round) (defBody s_odd_round) (defScope s_odd_round) .none kV9 dc9 pm9 an9 cd9 ct9), sl9⟩) (c9 : PySem.W.codeIn K cd9 "odd_round" = true) (k9 : PySem.W.keepIn K (.ref f9) = true)
    (a10 : PySem.W.nsIn K mainGlobals "_law_size" = some (some (.ref f10))) (l10 : K.lookup f10 = some ⟨oc10, od10, .func (PySem.W.fnOf "_law_size" "_law_size" (defArgs s_law_size) (defBody s_law_size) (defScope s_law_size) .none kV10 dc10 pm10 an10 cd10 ct10), sl10⟩) (c10 : PySem.W.codeIn K cd10 "_law_size" = true) (k10 : PySem.W.keepIn K (.ref f10) = true)
    (a11 : PySem.W.nsIn K mainGlobals "_law_pairs" = some (some (.ref f11))) (l11 : K.lookup f11 = some ⟨oc11, od11, .func (PySem.W.fnOf "_law_pairs" "_law_pairs" (defArgs s_law_pairs) (defBody s_law_pairs) (defScope s_law_pairs) .none kV11 dc11 pm11 an11 cd11 ct11), sl11⟩) (c11 : PySem.W.codeIn K cd11 "_law_pairs" = true) (k11 : PySem.W.keepIn K (.ref f11) = true)
    (a12 : PySem.W.nsIn K mainGlobals "_law_free_ties" = some (some (.ref f12))) (l12 : K.lookup f12 = some ⟨oc12, od12, .func (PySem.W.fnOf "_law_free_ties" "_law_free_ties" (defArgs s_law_free_ties) (defBody s_law_free_ties) (defScope s_law_free_ties) .none kV12 dc12 pm12 an12 cd12 ct12), sl12⟩) (c12 : PySem.W.codeIn K cd12 "_law_free_ties" = true) (k12 : PySem.W.keepIn K (.ref f12) = true)
    (a13 : PySem.W.nsIn K mainGlobals "_law_tree_ties" = some (some (.ref f13))) (l13 : K.lookup f13 = some ⟨oc13, od13, .func (PySem.W.fnOf "_law_tree_ties" "_law_tree_ties" (defArgs s_law_tree_ties) (defBody s_law_tree_ties) (defScope s_law_tree_ties) .none kV13 dc13 pm13 an13 cd13 ct13), sl13⟩) (c13 : PySem.W.codeIn K cd13 "_law_tree_ties" = true) (k13 : PySem.W.keepIn K (.ref f13) = true)
    (a14 : PySem.W.nsIn K mainGlobals "_law_flower_ties" = some (some (.ref f14))) (l14 : K.lookup f14 = some ⟨oc14, od14, .func (PySem.W.fnOf "_law_flower_ties" "_law_flower_ties" (defArgs s_law_flower_ties) (defBody s_law_flower_ties) (defScope s_law_flower_ties) .none kV14 dc14 pm14 an14 cd14 ct14), sl14⟩) (c14 : PySem.W.codeIn K cd14 "_law_flower_ties" = true) (k14 : PySem.W.keepIn K (.ref f14) = true)
    (a15 : PySem.W.nsIn K mainGlobals "_law_barred_ties" = some (some (.ref f15))) (l15 : K.lookup f15 = some ⟨oc15, od15, .func (PySem.W.fnOf "_law_barred_ties" "_law_barred_ties" (defArgs s_law_barred_ties) (defBody s_law_barred_ties) (defScope s_law_barred_ties) .none kV15 dc15 pm15 an15 cd15 ct15), sl15⟩) (c15 : PySem.W.codeIn K cd15 "_law_barred_ties" = true) (k15 : PySem.W.keepIn K (.ref f15) = true)
    (a16 : PySem.W.nsIn K mainGlobals "_law_web_ties" = some (some (.ref f16))) (l16 : K.lookup f16 = some ⟨oc16, od16, .func (PySem.W.fnOf "_law_web_ties" "_law_web_ties" (defArgs s_law_web_ties) (defBody s_law_web_ties) (defScope s_law_web_ties) .none kV16 dc16 pm16 an16 cd16 ct16), sl16⟩) (c16 : PySem.W.codeIn K cd16 "_law_web_ties" = true) (k16 : PySem.W.keepIn K (.ref f16) = true)
    (a17 : PySem.W.nsIn K mainGlobals "_law_near" = some (some (.ref f17))) (l17 : K.lookup f17 = some ⟨oc17, od17, .func (PySem.W.fnOf "_law_near" "_law_near" (defArgs s_law_near) (defBody s_law_near) (defScope s_law_near) .none kV17 dc17 pm17 an17 cd17 ct17), sl17⟩) (c17 : PySem.W.codeIn K cd17 "_law_near" = true) (k17 : PySem.W.keepIn K (.ref f17) = true)
    (a18 : PySem.W.nsIn K mainGlobals "_law_pen" = some (some (.ref f18))) (l18 : K.lookup f18 = some ⟨oc18, od18, .func (PySem.W.fnOf "_law_pen" "_law_pen" (defArgs s_law_pen) (defBody s_law_pen) (defScope s_law_pen) .none kV18 dc18 pm18 an18 cd18 ct18), sl18⟩) (c18 : PySem.W.codeIn K cd18 "_law_pen" = true) (k18 : PySem.W.keepIn K (.ref f18) = true)
    (a19 : PySem.W.nsIn K mainGlobals "_law_draw" = some (some (.ref f19))) (l19 : K.lookup f19 = some ⟨oc19, od19, .func (PySem.W.fnOf "_law_draw" "_law_draw" (defArgs s_law_draw) (defBody s_law_draw) (defScope s_law_draw) .none kV19 dc19 pm19 an19 cd19 ct19), sl19⟩) (c19 : PySem.W.codeIn K cd19 "_law_draw" = true) (k19 : PySem.W.keepIn K (.ref f19) = true)
    (a20 : PySem.W.nsIn K mainGlobals "_law_pick" = some (some (.ref f20))) (l20 : K.lookup f20 = some ⟨oc20, od20, .func (PySem.W.fnOf "_law_pick" "_law_pick" (defArgs s_law_pick) (defBody s_law_pick) (defScope s_law_pick) .none kV20 dc20 pm20 an20 cd20 ct20), sl20⟩) (c20 : PySem.W.codeIn K cd20 "_law_pick" = true) (k20 : PySem.W.keepIn K (.ref f20) = true)
    (a21 : PySem.W.nsIn K mainGlobals "_law_shuffled" = some (some (.ref f21))) (l21 : K.lookup f21 = some ⟨oc21, od21, .func (PySem.W.fnOf "_law_shuffled" "_law_shuffled" (defArgs s_law_shuffled) (defBody s_law_shuffled) (defScope s_law_shuffled) .none kV21 dc21 pm21 an21 cd21 ct21), sl21⟩) (c21 : PySem.W.codeIn K cd21 "_law_shuffled" = true) (k21 : PySem.W.keepIn K (.ref f21) = true)
    (a22 : PySem.W.nsIn K mainGlobals "_law_is_int" = some (some (.ref f22))) (l22 : K.lookup f22 = some ⟨oc22, od22, .func (PySem.W.fnOf "_law_is_int" "_law_is_int" (defArgs s_law_is_int) (defBody s_law_is_int) (defScope s_law_is_int) .none kV22 dc22 pm22 an22 cd22 ct22), sl22⟩) (c22 : PySem.W.codeIn K cd22 "_law_is_int" = true) (k22 : PySem.W.keepIn K (.ref f22) = true)
    (a23 : PySem.W.nsIn K mainGlobals "_law_tied" = some (some (.ref f23))) (l23 : K.lookup f23 = some ⟨oc23, od23, .func (PySem.W.fnOf "_law_tied" "_law_tied" (defArgs s_law_tied) (defBody s_law_tied) (defScope s_law_tied) .none kV23 dc23 pm23 an23 cd23 ct23), sl23⟩) (c23 : PySem.W.codeIn K cd23 "_law_tied" = true) (k23 : PySem.W.keepIn K (.ref f23) = true)
    (a24 : PySem.W.nsIn K mainGlobals "_law_bent_ties" = some (some (.ref f24))) (l24 : K.lookup f24 = some ⟨oc24, od24, .func (PySem.W.fnOf "_law_bent_ties" "_law_bent_ties" (defArgs s_law_bent_ties) (defBody s_law_bent_ties) (defScope s_law_bent_ties) .none kV24 dc24 pm24 an24 cd24 ct24), sl24⟩) (c24 : PySem.W.codeIn K cd24 "_law_bent_ties" = true) (k24 : PySem.W.keepIn K (.ref f24) = true)
    (a25 : PySem.W.nsIn K mainGlobals "_law_sides" = some (some (.ref f25))) (l25 : K.lookup f25 = some ⟨oc25, od25, .func (PySem.W.fnOf "_law_sides" "_law_sides" (defArgs s_law_sides) (defBody s_law_sides) (defScope s_law_sides) .none kV25 dc25 pm25 an25 cd25 ct25), sl25⟩) (c25 : PySem.W.codeIn K cd25 "_law_sides" = true) (k25 : PySem.W.keepIn K (.ref f25) = true)
    (a26 : PySem.W.nsIn K mainGlobals "_law_two_sided_ties" = some (some (.ref f26))) (l26 : K.lookup f26 = some ⟨oc26, od26, .func (PySem.W.fnOf "_law_two_sided_ties" "_law_two_sided_ties" (defArgs s_law_two_sided_ties) (defBody s_law_two_sided_ties) (defScope s_law_two_sided_ties) .none kV26 dc26 pm26 an26 cd26 ct26), sl26⟩) (c26 : PySem.W.codeIn K cd26 "_law_two_sided_ties" = true) (k26 : PySem.W.keepIn K (.ref f26) = true)
    (a27 : PySem.W.nsIn K mainGlobals "_law_round_right" = some (some (.ref f27))) (l27 : K.lookup f27 = some ⟨oc27, od27, .func (PySem.W.fnOf "_law_round_right" "_law_round_right" (defArgs s_law_round_right) (defBody s_law_round_right) (defScope s_law_round_right) .none kV27 dc27 pm27 an27 cd27 ct27), sl27⟩) (c27 : PySem.W.codeIn K cd27 "_law_round_right" = true) (k27 : PySem.W.keepIn K (.ref f27) = true)
    (a28 : PySem.W.nsIn K mainGlobals "law" = some (some (.ref f28))) (l28 : K.lookup f28 = some ⟨oc28, od28, .func (PySem.W.fnOf "law" "law" (defArgs s_law) (defBody s_law) (defScope s_law) .none kV28 dc28 pm28 an28 cd28 ct28), sl28⟩) (c28 : PySem.W.codeIn K cd28 "law" = true) (k28 : PySem.W.keepIn K (.ref f28) = true)
    (pg : PySem.W.plainGet K C Str.empty = true) (hd : PySem.W.hasDictIn K C = true) (po : PySem.W.plainOver K C = true) (sa : PySem.W.findIn K (.ref C) "__setattr__" = some (some (.builtin "object.__setattr__"))) (mk : PySem.W.makesIn K C = true) (kc : PySem.W.keepIn K (.ref C) = true)
    (nS : PySem.W.findIn K (.ref C) "size" = some none) (nT : PySem.W.findIn K (.ref C) "ties" = some none) (mr : PySem.W.nsIn K mainGlobals "MOST_READ" = some (some (.int 9999 mt)))
    (z1 : PySem.W.nsIn K mainGlobals "len" = some none) (z2 : PySem.W.nsIn K mainGlobals "range" = some none) (z3 : PySem.W.nsIn K mainGlobals "min" = some none) (z4 : PySem.W.nsIn K mainGlobals "max" = some none) (z5 : PySem.W.nsIn K mainGlobals "int" = some none) (z6 : PySem.W.nsIn K mainGlobals "list" = some none) (z7 : PySem.W.nsIn K mainGlobals "tuple" = some none) (z8 : PySem.W.nsIn K mainGlobals "sorted" = some none) (z9 : PySem.W.nsIn K mainGlobals "set" = some none) (z10 : PySem.W.nsIn K mainGlobals "all" = some none) (z11 : PySem.W.nsIn K mainGlobals "any" = some none) (z12 : PySem.W.nsIn K mainGlobals "isinstance" = some none) (z13 : PySem.W.nsIn K mainGlobals "bool" = some none) (z14 : PySem.W.nsIn K mainGlobals "enumerate" = some none) :
    ∃ fd : FuncData, (∀ (s : Shared) (v : Value), BindsTo s fd ⟨[v], []⟩ [("script", v)]) ∧ ∀ base : Heap, K.In base → base.Ns mainGlobals mg → FnOk P w K mg base CX0 6 fa fd ["script"] (spLawK K) := by
  have e := hfa.symm.trans (PySem.W.mg_of X G a28)
  cases e
  have T : Txt K mg C := ⟨PySem.W.mg_none_of X G z1, PySem.W.mg_none_of X G z2, PySem.W.mg_none_of X G z3, PySem.W.mg_none_of X G z4, PySem.W.mg_none_of X G z5, PySem.W.mg_none_of X G z6, PySem.W.mg_none_of X G z7, PySem.W.mg_none_of X G z8, PySem.W.mg_none_of X G z9, PySem.W.mg_none_of X G z10, PySem.W.mg_none_of X G z11, PySem.W.mg_none_of X G z12, PySem.W.mg_none_of X G z13, PySem.W.mg_none_of X G z14, ⟨mt, PySem.W.mg_of X G mr⟩, ⟨pg, hd, po, sa⟩, nS, nT⟩
  have F1 := fun_mk (st := s_is_whole) l1 c1 k1
  have b1 := F1.binds (ps := ["value"]) fun _ _ _ _ _ _ us hl => match us, hl with | [_], _ => rfl
  have S1 : Std K mg "is_whole" s_is_whole ["value"] := ⟨_, _, F1, PySem.W.mg_of X G a1, b1⟩
  have F2 := fun_mk (st := s_is_list) l2 c2 k2
  have b2 := F2.binds (ps := ["value"]) fun _ _ _ _ _ _ us hl => match us, hl with | [_], _ => rfl
  have S2 : Std K mg "is_list" s_is_list ["value"] := ⟨_, _, F2, PySem.W.mg_of X G a2, b2⟩
  have F3 := fun_mk (st := s_is_index) l3 c3 k3
  have b3 := F3.binds (ps := ["many", "value"]) fun _ _ _ _ _ _ us hl => match us, hl with | [_, _], _ => rfl
  have S3 : Std K mg "is_index" s_is_index ["many", "value"] := ⟨_, _, F3, PySem.W.mg_of X G a3, b3⟩
  have F4 := fun_mk (st := s_is_pairs) l4 c4 k4
  have b4 := F4.binds (ps := ["many", "value"]) fun _ _ _ _ _ _ us hl => match us, hl with | [_, _], _ => rfl
  have S4 : Std K mg "is_pairs" s_is_pairs ["many", "value"] := ⟨_, _, F4, PySem.W.mg_of X G a4, b4⟩
  have F5 := fun_mk (st := s_near_of) l5 c5 k5
  have b5 := F5.binds (ps := ["size", "ties"]) fun _ _ _ _ _ _ us hl => match us, hl with | [_, _], _ => rfl
  have S5 : Std K mg "near_of" s_near_of ["size", "ties"] := ⟨_, _, F5, PySem.W.mg_of X G a5, b5⟩
  have F6 := fun_mk (st := s_colours_of) l6 c6 k6
  have b6 := F6.binds (ps := ["web"]) fun _ _ _ _ _ _ us hl => match us, hl with | [_], _ => rfl
  have S6 : Std K mg "colours_of" s_colours_of ["web"] := ⟨_, _, F6, PySem.W.mg_of X G a6, b6⟩
  have F7 := fun_mk (st := s_sides_of) l7 c7 k7
  have b7 := F7.binds (ps := ["web"]) fun _ _ _ _ _ _ us hl => match us, hl with | [_], _ => rfl
  have S7 : Std K mg "sides_of" s_sides_of ["web"] := ⟨_, _, F7, PySem.W.mg_of X G a7, b7⟩
  have F8 := fun_mk (st := s_way_home) l8 c8 k8
  have b8 := F8.binds (ps := ["ahead", "place"]) fun _ _ _ _ _ _ us hl => match us, hl with | [_, _], _ => rfl
  have S8 : Std K mg "way_home" s_way_home ["ahead", "place"] := ⟨_, _, F8, PySem.W.mg_of X G a8, b8⟩
  have F9 := fun_mk (st := s_odd_round) l9 c9 k9
  have b9 := F9.binds (ps := ["web"]) fun _ _ _ _ _ _ us hl => match us, hl with | [_], _ => rfl
  have S9 : Std K mg "odd_round" s_odd_round ["web"] := ⟨_, _, F9, PySem.W.mg_of X G a9, b9⟩
  have F10 := fun_mk (st := s_law_size) l10 c10 k10
  have b10 := F10.binds (ps := ["pen"]) fun _ _ _ _ _ _ us hl => match us, hl with | [_], _ => rfl
  have S10 : Std K mg "_law_size" s_law_size ["pen"] := ⟨_, _, F10, PySem.W.mg_of X G a10, b10⟩
  have F11 := fun_mk (st := s_law_pairs) l11 c11 k11
  have b11 := F11.binds (ps := ["size"]) fun _ _ _ _ _ _ us hl => match us, hl with | [_], _ => rfl
  have S11 : Std K mg "_law_pairs" s_law_pairs ["size"] := ⟨_, _, F11, PySem.W.mg_of X G a11, b11⟩
  have F12 := fun_mk (st := s_law_free_ties) l12 c12 k12
  have b12 := F12.binds (ps := ["pen", "size"]) fun _ _ _ _ _ _ us hl => match us, hl with | [_, _], _ => rfl
  have S12 : Std K mg "_law_free_ties" s_law_free_ties ["pen", "size"] := ⟨_, _, F12, PySem.W.mg_of X G a12, b12⟩
  have F13 := fun_mk (st := s_law_tree_ties) l13 c13 k13
  have b13 := F13.binds (ps := ["pen", "size"]) fun _ _ _ _ _ _ us hl => match us, hl with | [_, _], _ => rfl
  have S13 : Std K mg "_law_tree_ties" s_law_tree_ties ["pen", "size"] := ⟨_, _, F13, PySem.W.mg_of X G a13, b13⟩
  have F14 := fun_mk (st := s_law_flower_ties) l14 c14 k14
  have b14 := F14.binds (ps := ["pen", "places"]) fun _ _ _ _ _ _ us hl => match us, hl with | [_, _], _ => rfl
  have S14 : Std K mg "_law_flower_ties" s_law_flower_ties ["pen", "places"] := ⟨_, _, F14, PySem.W.mg_of X G a14, b14⟩
  have F15 := fun_mk (st := s_law_barred_ties) l15 c15 k15
  have b15 := F15.binds (ps := ["pen", "size"]) fun _ _ _ _ _ _ us hl => match us, hl with | [_, _], _ => rfl
  have S15 : Std K mg "_law_barred_ties" s_law_barred_ties ["pen", "size"] := ⟨_, _, F15, PySem.W.mg_of X G a15, b15⟩
  have F16 := fun_mk (st := s_law_web_ties) l16 c16 k16
  have b16 := F16.binds (ps := ["pen", "size"]) fun _ _ _ _ _ _ us hl => match us, hl with | [_, _], _ => rfl
  have S16 : Std K mg "_law_web_ties" s_law_web_ties ["pen", "size"] := ⟨_, _, F16, PySem.W.mg_of X G a16, b16⟩
  have F17 := fun_mk (st := s_law_near) l17 c17 k17
  have b17 := F17.binds (ps := ["size", "ties"]) fun _ _ _ _ _ _ us hl => match us, hl with | [_, _], _ => rfl
  have S17 : Std K mg "_law_near" s_law_near ["size", "ties"] := ⟨_, _, F17, PySem.W.mg_of X G a17, b17⟩
  have F18 := fun_mk (st := s_law_pen) l18 c18 k18
  have b18 := F18.binds (ps := ["script"]) fun _ _ _ _ _ _ us hl => match us, hl with | [_], _ => rfl
  have S18 : Std K mg "_law_pen" s_law_pen ["script"] := ⟨_, _, F18, PySem.W.mg_of X G a18, b18⟩
  have F19 := fun_mk (st := s_law_draw) l19 c19 k19
  have b19 := F19.binds (ps := ["pen", "many"]) fun _ _ _ _ _ _ us hl => match us, hl with | [_, _], _ => rfl
  have S19 : Std K mg "_law_draw" s_law_draw ["pen", "many"] := ⟨_, _, F19, PySem.W.mg_of X G a19, b19⟩
  have F20 := fun_mk (st := s_law_pick) l20 c20 k20
  have b20 := F20.binds (ps := ["pen", "some"]) fun _ _ _ _ _ _ us hl => match us, hl with | [_, _], _ => rfl
  have S20 : Std K mg "_law_pick" s_law_pick ["pen", "some"] := ⟨_, _, F20, PySem.W.mg_of X G a20, b20⟩
  have F21 := fun_mk (st := s_law_shuffled) l21 c21 k21
  have b21 := F21.binds (ps := ["pen", "some"]) fun _ _ _ _ _ _ us hl => match us, hl with | [_, _], _ => rfl
  have S21 : Std K mg "_law_shuffled" s_law_shuffled ["pen", "some"] := ⟨_, _, F21, PySem.W.mg_of X G a21, b21⟩
  have F22 := fun_mk (st := s_law_is_int) l22 c22 k22
  have b22 := F22.binds (ps := ["thing"]) fun _ _ _ _ _ _ us hl => match us, hl with | [_], _ => rfl
  have S22 : Std K mg "_law_is_int" s_law_is_int ["thing"] := ⟨_, _, F22, PySem.W.mg_of X G a22, b22⟩
  have F23 := fun_mk (st := s_law_tied) l23 c23 k23
  have b23 := F23.binds (ps := ["ties", "i", "j"]) fun _ _ _ _ _ _ us hl => match us, hl with | [_, _, _], _ => rfl
  have S23 : Std K mg "_law_tied" s_law_tied ["ties", "i", "j"] := ⟨_, _, F23, PySem.W.mg_of X G a23, b23⟩
  have F24 := fun_mk (st := s_law_bent_ties) l24 c24 k24
  have b24 := F24.binds (ps := ["pen", "size", "ties"]) fun _ _ _ _ _ _ us hl => match us, hl with | [_, _, _], _ => rfl
  have S24 : Std K mg "_law_bent_ties" s_law_bent_ties ["pen", "size", "ties"] := ⟨_, _, F24, PySem.W.mg_of X G a24, b24⟩
  have F25 := fun_mk (st := s_law_sides) l25 c25 k25
  have b25 := F25.binds (ps := ["size", "ties"]) fun _ _ _ _ _ _ us hl => match us, hl with | [_, _], _ => rfl
  have S25 : Std K mg "_law_sides" s_law_sides ["size", "ties"] := ⟨_, _, F25, PySem.W.mg_of X G a25, b25⟩
  have F26 := fun_mk (st := s_law_two_sided_ties) l26 c26 k26
  have b26 := F26.binds (ps := ["pen", "size"]) fun _ _ _ _ _ _ us hl => match us, hl with | [_, _], _ => rfl
  have S26 : Std K mg "_law_two_sided_ties" s_law_two_sided_ties ["pen", "size"] := ⟨_, _, F26, PySem.W.mg_of X G a26, b26⟩
  have F27 := fun_mk (st := s_law_round_right) l27 c27 k27
  have b27 := F27.binds (ps := ["size", "ties", "value"]) fun _ _ _ _ _ _ us hl => match us, hl with | [_, _, _], _ => rfl
  have S27 : Std K mg "_law_round_right" s_law_round_right ["size", "ties", "value"] := ⟨_, _, F27, PySem.W.mg_of X G a27, b27⟩
  have F28 := fun_mk (st := s_law) l28 c28 k28
  have b28 := F28.binds (ps := ["script"]) fun _ _ _ _ _ _ us hl => match us, hl with | [_], _ => rfl
  have S28 : Std K mg "law" s_law ["script"] := ⟨_, _, F28, PySem.W.mg_of X G a28, b28⟩
  have F29 := fun_mk (st := s_Web___init__) l29 c29 k29
  have b29 := F29.binds (ps := ["self", "size", "ties"]) fun _ _ _ _ _ _ us hl => match us, hl with | [_, _, _], _ => rfl
  have S29 : StdC K mg "Web" C "__init__" "Web.__init__" s_Web___init__ ["self", "size", "ties"] := ⟨_, _, F29, ⟨mk, a29, i29, kc⟩, PySem.W.mg_of X G aC, b29⟩
  refine ⟨PySem.W.fnOf "law" "law" (defArgs s_law) (defBody s_law) (defScope s_law) .none kV28 dc28 pm28 an28 cd28 ct28, fun s v => .of_eq rfl, fun base _ _ => ?_⟩
  have h_is_whole := ok_is_whole (P := P) (w := w) (base := base) T S1 
  have h_is_list := ok_is_list (P := P) (w := w) (base := base) T S2 
  have h_is_index := ok_is_index (P := P) (w := w) (base := base) T S3 h_is_whole
  have h_is_pairs := ok_is_pairs (P := P) (w := w) (base := base) T S4 h_is_list h_is_index
  have h_Web := ok_init (P := P) (w := w) (base := base) T S29 h_is_whole h_is_pairs
  have h_near_of := ok_near_of (P := P) (w := w) (base := base) T S5 
  have h_colours_of := ok_colours_of (P := P) (w := w) (base := base) T S6 h_near_of
  have h_sides_of := ok_sides_of (P := P) (w := w) (base := base) T S7 h_colours_of
  have h_way_home := ok_way_home (P := P) (w := w) (base := base) T S8 
  have h_odd_round := ok_odd_round (P := P) (w := w) (base := base) T S9 h_colours_of h_way_home
  have h_law_near := ok_law_near (P := P) (w := w) (base := base) T S17 
  have h_law_sides := ok_law_sides (P := P) (w := w) (base := base) T S25 h_law_near
  have h_law_is_int := ok_law_is_int (P := P) (w := w) (base := base) T S22 
  have h_law_tied := ok_law_tied (P := P) (w := w) (base := base) T S23 
  have h_law_round_right := ok_law_round_right (P := P) (w := w) (base := base) T S27 h_law_is_int h_law_tied
  have h_law_pen := ok_law_pen (P := P) (w := w) (base := base) T S18 
  have h_law_draw := ok_law_draw (P := P) (w := w) (base := base) T S19 
  have h_law_pick := ok_law_pick (P := P) (w := w) (base := base) T S20 h_law_draw
  have h_law_size := ok_law_size (P := P) (w := w) (base := base) T S10 h_law_pick
  have h_law_pairs := ok_law_pairs (P := P) (w := w) (base := base) T S11 
  have h_law_shuffled := ok_law_shuffled (P := P) (w := w) (base := base) T S21 h_law_draw
  have h_law_free_ties := ok_law_free_ties (P := P) (w := w) (base := base) T S12 h_law_draw h_law_pick h_law_pairs
  have h_law_tree_ties := ok_law_tree_ties (P := P) (w := w) (base := base) T S13 h_law_draw h_law_pick
  have h_law_flower_ties := ok_law_flower_ties (P := P) (w := w) (base := base) T S14 h_law_pick
  have h_law_barred_ties := ok_law_barred_ties (P := P) (w := w) (base := base) T S15 h_law_draw h_law_pick h_law_shuffled h_law_flower_ties
  have h_law_web_ties := ok_law_web_ties (P := P) (w := w) (base := base) T S16 h_law_draw h_law_pairs h_law_free_ties h_law_tree_ties h_law_barred_ties
  have h_law_bent_ties := ok_law_bent_ties (P := P) (w := w) (base := base) T S24 h_law_draw h_law_pick h_law_pairs
  have h_law_two_sided_ties := ok_law_two_sided_ties (P := P) (w := w) (base := base) T S26 h_law_draw h_law_pick h_law_shuffled
  have h_law := ok_law (P := P) (w := w) (base := base) T F28 h_Web h_sides_of h_odd_round h_law_pen h_law_size h_law_draw h_law_two_sided_ties h_law_web_ties h_law_bent_ties h_law_sides h_law_round_right
  exact FnOk.imp h_law fun vs H Q E h => law_lift (k := ⟨P, w, K⟩) h
end K78


open PySem PySem.W PyProof.Rows
set_option maxRecDepth 100000 in
set_option maxHeartbeats 0 in
theorem PySem.Challenge.cw_oddbarriers_k78_sides_and_odd_rounds_holds : PySem.Challenge.rw_oddbarriers_k78_sides_and_odd_rounds.Holds := by
  w_on; o_law; k_head; (case hw => w_witness2)
  k_fill
  refine L2.walk_of (l := PySem.Challenge.rw_oddbarriers_k78_sides_and_odd_rounds) (n := 63) (k := 6) (x := "script") (CX := fun _ => L2.CX0) (sp := fun w => K78.spLawK _) rfl (by decide) rfl ⟨rfl, by decide, by decide⟩ (fun w h Y => PySem.W.kIn_of Y) ?F (fun _ _ a ns hl _ hS => ⟨a, ns, rfl, hS, hl, fun _ => rfl⟩) (fun _ _ _ _ _ h => h)
  case F =>
    intro w mg fa h KX G hmg
    refine' K78.all_mk KX G hmg ?aC ?a29 ?i29 ?l29 ?c29 ?k29 ?a1 ?l1 ?c1 ?k1 ?a2 ?l2 ?c2 ?k2 ?a3 ?l3 ?c3 ?k3 ?a4 ?l4 ?c4 ?k4 ?a5 ?l5 ?c5 ?k5 ?a6 ?l6 ?c6 ?k6 ?a7 ?l7 ?c7 ?k7 ?a8 ?l8 ?c8 ?k8 ?a9 ?l9 ?c9 ?k9 ?a10 ?l10 ?c10 ?k10 ?a11 ?l11 ?c11 ?k11 ?a12 ?l12 ?c12 ?k12 ?a13 ?l13 ?c13 ?k13 ?a14 ?l14 ?c14 ?k14 ?a15 ?l15 ?c15 ?k15 ?a16 ?l16 ?c16 ?k16 ?a17 ?l17 ?c17 ?k17 ?a18 ?l18 ?c18 ?k18 ?a19 ?l19 ?c19 ?k19 ?a20 ?l20 ?c20 ?k20 ?a21 ?l21 ?c21 ?k21 ?a22 ?l22 ?c22 ?k22 ?a23 ?l23 ?c23 ?k23 ?a24 ?l24 ?c24 ?k24 ?a25 ?l25 ?c25 ?k25 ?a26 ?l26 ?c26 ?k26 ?a27 ?l27 ?c27 ?k27 ?a28 ?l28 ?c28 ?k28 ?pg ?hd ?po ?sa ?mk ?kc ?nS ?nT ?mr ?z1 ?z2 ?z3 ?z4 ?z5 ?z6 ?z7 ?z8 ?z9 ?z10 ?z11 ?z12 ?z13 ?z14
    (case aC => k_is)
    (case a29 => k_is)
    (case i29 => k_is)
    (case l29 => k_is)
    (case c29 => k_is)
    (case k29 => k_is)
    (case a1 => k_is)
    (case l1 => k_is)
    (case c1 => k_is)
    (case k1 => k_is)
    (case a2 => k_is)
    (case l2 => k_is)
    (case c2 => k_is)
    (case k2 => k_is)
    (case a3 => k_is)
    (case l3 => k_is)
    (case c3 => k_is)
    (case k3 => k_is)
    (case a4 => k_is)
    (case l4 => k_is)
    (case c4 => k_is)
    (case k4 => k_is)
    (case a5 => k_is)
    (case l5 => k_is)
    (case c5 => k_is)
    (case k5 => k_is)
    (case a6 => k_is)
    (case l6 => k_is)
    (case c6 => k_is)
    (case k6 => k_is)
    (case a7 => k_is)
    (case l7 => k_is)
    (case c7 => k_is)
    (case k7 => k_is)
    (case a8 => k_is)
    (case l8 => k_is)
    (case c8 => k_is)
    (case k8 => k_is)
    (case a9 => k_is)
    (case l9 => k_is)
    (case c9 => k_is)
    (case k9 => k_is)
    (case a10 => k_is)
    (case l10 => k_is)
    (case c10 => k_is)
    (case k10 => k_is)
    (case a11 => k_is)
    (case l11 => k_is)
    (case c11 => k_is)
    (case k11 => k_is)
    (case a12 => k_is)
    (case l12 => k_is)
    (case c12 => k_is)
    (case k12 => k_is)
    (case a13 => k_is)
    (case l13 => k_is)
    (case c13 => k_is)
    (case k13 => k_is)
    (case a14 => k_is)
    (case l14 => k_is)
    (case c14 => k_is)
    (case k14 => k_is)
    (case a15 => k_is)
    (case l15 => k_is)
    (case c15 => k_is)
    (case k15 => k_is)
    (case a16 => k_is)
    (case l16 => k_is)
    (case c16 => k_is)
    (case k16 => k_is)
    (case a17 => k_is)
    (case l17 => k_is)
    (case c17 => k_is)
    (case k17 => k_is)
    (case a18 => k_is)
    (case l18 => k_is)
    (case c18 => k_is)
    (case k18 => k_is)
    (case a19 => k_is)
    (case l19 => k_is)
    (case c19 => k_is)
    (case k19 => k_is)
    (case a20 => k_is)
    (case l20 => k_is)
    (case c20 => k_is)
    (case k20 => k_is)
    (case a21 => k_is)
    (case l21 => k_is)
    (case c21 => k_is)
    (case k21 => k_is)
    (case a22 => k_is)
    (case l22 => k_is)
    (case c22 => k_is)
    (case k22 => k_is)
    (case a23 => k_is)
    (case l23 => k_is)
    (case c23 => k_is)
    (case k23 => k_is)
    (case a24 => k_is)
    (case l24 => k_is)
    (case c24 => k_is)
    (case k24 => k_is)
    (case a25 => k_is)
    (case l25 => k_is)
    (case c25 => k_is)
    (case k25 => k_is)
    (case a26 => k_is)
    (case l26 => k_is)
    (case c26 => k_is)
    (case k26 => k_is)
    (case a27 => k_is)
    (case l27 => k_is)
    (case c27 => k_is)
    (case k27 => k_is)
    (case a28 => k_is)
    (case l28 => k_is)
    (case c28 => k_is)
    (case k28 => k_is)
    (case pg => k_is)
    (case hd => k_is)
    (case po => k_is)
    (case sa => k_is)
    (case mk => k_is)
    (case kc => k_is)
    (case nS => k_is)
    (case nT => k_is)
    (case mr => k_is)
    (case z1 => k_is)
    (case z2 => k_is)
    (case z3 => k_is)
    (case z4 => k_is)
    (case z5 => k_is)
    (case z6 => k_is)
    (case z7 => k_is)
    (case z8 => k_is)
    (case z9 => k_is)
    (case z10 => k_is)
    (case z11 => k_is)
    (case z12 => k_is)
    (case z13 => k_is)
    (case z14 => k_is)
#print axioms PySem.Challenge.cw_oddbarriers_k78_sides_and_odd_rounds_holds
