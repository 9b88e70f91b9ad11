import PyProof.Rows.All
import Wide.All
import OpenK.AllK
import Wide.FinOn
import HandS.ForMost
import HandS.IsInst
import HandS.CallLocal
import HandS.Conv
import HandS.Flow
import HandS.Wide
import HandS.TupAny
import KE.GoesNew
import HandS.Walk
import HandS.Style
import PySem.Challenge.RW_clockcards_k18_whole_weeks_without_limit
set_option Elab.async false
set_option linter.all false
set_option maxRecDepth 1000000
set_option maxHeartbeats 4000000
/-! A functional reading over the hand layer: plain data (D), what a value bears of it in a heap (Rp), expressions that evaluate to data (DE), statements that lead from slots to slots (DS). -/
namespace PD
open PySem PySem.Spec PyProof.Rows L2

/-- plain data that never changes; an address of a thing of one's own -/
inductive D where
  | non | bl (b : Bool) | int (i : Int) | str (x : Str)
  | tup (l : List D) | lst (l : List D) | dct (ks : List Key) (l : List D)
  | adr (a : Addr)

def solid : HO → Bool
  | .tup _ => true
  | .frz _ _ => true
  | _ => false
def Sl (H H' : Hp) : Prop := ∀ a u, H a = some u → solid u = true → H' a = some u
theorem Sl.refl (H : Hp) : Sl H H := fun _ _ h _ => h
theorem Sl.trans {H H1 H2 : Hp} (a : Sl H H1) (b : Sl H1 H2) : Sl H H2 := fun x u h s => b x u (a x u h s) s
/-- all but what stands at the places of A is as it was -/
def SmB (A : List Addr) (H H' : Hp) : Prop := ∀ a u, a ∉ A → H a = some u → H' a = some u
theorem SmB.refl (A : List Addr) (H : Hp) : SmB A H H := fun _ _ _ h => h
theorem SmB.trans {A : List Addr} {H H1 H2 : Hp} (a : SmB A H H1) (b : SmB A H1 H2) : SmB A H H2 := fun x u n h => b x u n (a x u n h)
theorem SmB.new {A : List Addr} {H : Hp} {p : Addr} {o : HO} (h : H p = none) : SmB A H (upd H p o) := fun a u _ e => by
  rw [upd_ne (ne_of_none e h)]
  exact e
theorem SmB.at {A : List Addr} {H : Hp} {p : Addr} {o : HO} (h : p ∈ A) : SmB A H (upd H p o) := fun a u n e => by
  rw [upd_ne (fun z => n (by rw [z]; exact h))]
  exact e
theorem SmB.same {A : List Addr} {H H' : Hp} (h : Same H H') : SmB A H H' := fun a u _ e => h a u e
theorem SmB.mono {A B : List Addr} {H H' : Hp} (h : SmB A H H') (s : ∀ a ∈ A, a ∈ B) : SmB B H H' := fun a u n e => h a u (fun z => n (s a z)) e
theorem SmB.nil {H H' : Hp} (h : SmB [] H H') : Same H H' := fun a u e => h a u (by simp) e
theorem rd_sl {H H' : Hp} {a : Addr} {xs : List V} (s : Sl H H') (h : Rd H a (.tup xs)) : Rd H' a (.tup xs) := by
  rcases h with h | ⟨o, h⟩
  · exact .inl (s a _ h rfl)
  · exact .inr ⟨o, s a _ h rfl⟩
theorem sqt_sl {K : PySem.W.Frag} {H H' : Hp} {a : Addr} {xs : List V} (s : Sl H H') (h : SqT K H a xs) : SqT K H' a xs := by
  rcases h with h | h
  · exact .inl (rd_sl s h)
  · exact .inr h

/-- a list that changes no more: locked, or one of the module's -/
def FzL (K : PySem.W.Frag) (H : Hp) (a : Addr) (o : Obj) (vs : List V) : Prop :=
  H a = some (.frz o (.lst vs)) ∨ (K.lookup a = some o ∧ o.cls = .type "list" ∧ o.dict = none ∧ ∃ (its : Array Value) (n : Nat), o.data = .seq its n ∧ its.size ≤ sizeLine ∧ Vals vs its.toList)
theorem FzL.sl {K : PySem.W.Frag} {H H' : Hp} {a : Addr} {o : Obj} {vs : List V} (s : Sl H H') (h : FzL K H a o vs) : FzL K H' a o vs := by
  rcases h with h | h
  · exact .inl (s a _ h rfl)
  · exact .inr h
theorem FzL.sq {K : PySem.W.Frag} {H : Hp} {a : Addr} {o : Obj} {vs : List V} (h : FzL K H a o vs) : SqL K H a vs := by
  rcases h with h | ⟨h1, h2, h3, its, n, h4, h5, h6⟩
  · exact .inl (.inr ⟨o, h⟩)
  · exact .inr ⟨o, its, n, h1, h2, h3, h4, h5, h6⟩
mutual
/-- v is the datum d in the heap H -/
def Rp (K : PySem.W.Frag) (H : Hp) : D → V → Prop
  | .non, v => v = .non
  | .bl b, v => v = .bl b
  | .int i, v => v = .int i
  | .str x, v => v = .str x
  | .adr a, v => v = .ref a
  | .tup l, v => ∃ a vs, v = .ref a ∧ SqT K H a vs ∧ Rps K H l vs
  | .lst l, v => ∃ a o vs, v = .ref a ∧ FzL K H a o vs ∧ Rps K H l vs
  | .dct ks l, v => ∃ a o kvs, v = .ref a ∧ H a = some (.frz o (.dK kvs)) ∧ kvs.map (·.1) = ks ∧ Rps K H l (kvs.map (·.2))
def Rps (K : PySem.W.Frag) (H : Hp) : List D → List V → Prop
  | [], vs => vs = []
  | d :: ds, vs => ∃ v r, vs = v :: r ∧ Rp K H d v ∧ Rps K H ds r
end
section
variable {K : PySem.W.Frag} {H H' : Hp}
mutual
theorem Rp.sl (s : Sl H H') : ∀ (d : D) (v : V), Rp K H d v → Rp K H' d v
  | .non, v, h => by unfold Rp at h ⊢; exact h
  | .bl b, v, h => by unfold Rp at h ⊢; exact h
  | .int i, v, h => by unfold Rp at h ⊢; exact h
  | .str x, v, h => by unfold Rp at h ⊢; exact h
  | .adr a, v, h => by unfold Rp at h ⊢; exact h
  | .tup l, v, h => by
    unfold Rp at h ⊢
    obtain ⟨a, vs, e, q, r⟩ := h
    exact ⟨a, vs, e, sqt_sl s q, Rps.sl s l vs r⟩
  | .lst l, v, h => by
    unfold Rp at h ⊢
    obtain ⟨a, o, vs, e, q, r⟩ := h
    exact ⟨a, o, vs, e, q.sl s, Rps.sl s l vs r⟩
  | .dct ks l, v, h => by
    unfold Rp at h ⊢
    obtain ⟨a, o, kvs, e, q, k, r⟩ := h
    exact ⟨a, o, kvs, e, s a _ q rfl, k, Rps.sl s l _ r⟩
theorem Rps.sl (s : Sl H H') : ∀ (ds : List D) (vs : List V), Rps K H ds vs → Rps K H' ds vs
  | [], vs, h => by unfold Rps at h ⊢; exact h
  | d :: ds, vs, h => by
    unfold Rps at h ⊢
    obtain ⟨v, r, e, h1, h2⟩ := h
    exact ⟨v, r, e, Rp.sl s d v h1, Rps.sl s ds r h2⟩
end
theorem rp_non {v : V} : Rp K H .non v ↔ v = .non := by unfold Rp; exact Iff.rfl
theorem rp_bl {b : Bool} {v : V} : Rp K H (.bl b) v ↔ v = .bl b := by unfold Rp; exact Iff.rfl
theorem rp_int {i : Int} {v : V} : Rp K H (.int i) v ↔ v = .int i := by unfold Rp; exact Iff.rfl
theorem rp_str {x : Str} {v : V} : Rp K H (.str x) v ↔ v = .str x := by unfold Rp; exact Iff.rfl
theorem rp_adr {a : Addr} {v : V} : Rp K H (.adr a) v ↔ v = .ref a := by unfold Rp; exact Iff.rfl
theorem rp_tup {l : List D} {v : V} : Rp K H (.tup l) v ↔ ∃ a vs, v = .ref a ∧ SqT K H a vs ∧ Rps K H l vs := by conv => lhs; unfold Rp
theorem rp_lst {l : List D} {v : V} : Rp K H (.lst l) v ↔ ∃ a o vs, v = .ref a ∧ FzL K H a o vs ∧ Rps K H l vs := by conv => lhs; unfold Rp
theorem rp_dct {ks : List Key} {l : List D} {v : V} : Rp K H (.dct ks l) v ↔ ∃ a o kvs, v = .ref a ∧ H a = some (.frz o (.dK kvs)) ∧ kvs.map (·.1) = ks ∧ Rps K H l (kvs.map (·.2)) := by conv => lhs; unfold Rp
theorem rps_nil {vs : List V} : Rps K H [] vs ↔ vs = [] := by conv => lhs; unfold Rps
theorem rps_cons {d : D} {ds : List D} {vs : List V} : Rps K H (d :: ds) vs ↔ ∃ v r, vs = v :: r ∧ Rp K H d v ∧ Rps K H ds r := by conv => lhs; unfold Rps
theorem Rps.nl : Rps K H [] [] := rps_nil.mpr rfl
theorem Rps.cn {d : D} {ds : List D} {v : V} {vs : List V} (h : Rp K H d v) (t : Rps K H ds vs) : Rps K H (d :: ds) (v :: vs) := rps_cons.mpr ⟨v, vs, rfl, h, t⟩
theorem Rps.length : ∀ {ds : List D} {vs : List V}, Rps K H ds vs → ds.length = vs.length
  | [], vs, h => by rw [rps_nil.mp h]; rfl
  | d :: ds, vs, h => by
    obtain ⟨v, r, rfl, _, h2⟩ := rps_cons.mp h
    rw [List.length_cons, List.length_cons, Rps.length h2]
theorem Rps.get : ∀ {ds : List D} {vs : List V} {i : Nat} {d : D}, Rps K H ds vs → ds[i]? = some d → ∃ v, vs[i]? = some v ∧ Rp K H d v
  | [], _, _, _, _, e => by simp at e
  | x :: ds, vs, 0, d, h, e => by
    obtain ⟨v, r, rfl, h1, _⟩ := rps_cons.mp h
    have : x = d := by simpa using e
    subst this
    exact ⟨v, rfl, h1⟩
  | x :: ds, vs, i + 1, d, h, e => by
    obtain ⟨v, r, rfl, _, h2⟩ := rps_cons.mp h
    obtain ⟨u, q1, q2⟩ := Rps.get (i := i) h2 (by simpa using e)
    exact ⟨u, by simpa using q1, q2⟩
theorem Rps.of_get : ∀ {ds : List D} {vs : List V}, ds.length = vs.length → (∀ (i : Nat) (d : D) (v : V), ds[i]? = some d → vs[i]? = some v → Rp K H d v) → Rps K H ds vs
  | [], [], _, _ => Rps.nl
  | [], _ :: _, e, _ => by simp at e
  | _ :: _, [], e, _ => by simp at e
  | d :: ds, v :: vs, e, h => Rps.cn (h 0 d v rfl rfl) (Rps.of_get (by simpa using e) fun i d' v' e1 e2 => h (i + 1) d' v' (by simpa using e1) (by simpa using e2))
theorem Rps.append : ∀ {ds es : List D} {vs us : List V}, Rps K H ds vs → Rps K H es us → Rps K H (ds ++ es) (vs ++ us)
  | [], _, vs, _, h, t => by rw [rps_nil.mp h]; exact t
  | d :: ds, es, vs, us, h, t => by
    obtain ⟨v, r, rfl, h1, h2⟩ := rps_cons.mp h
    exact Rps.cn h1 (Rps.append h2 t)
theorem Rps.take : ∀ {ds : List D} {vs : List V} (n : Nat), Rps K H ds vs → Rps K H (ds.take n) (vs.take n)
  | _, _, 0, _ => by simp only [List.take_zero]; exact Rps.nl
  | [], vs, n + 1, h => by rw [rps_nil.mp h]; exact Rps.nl
  | d :: ds, vs, n + 1, h => by
    obtain ⟨v, r, rfl, h1, h2⟩ := rps_cons.mp h
    exact Rps.cn h1 (Rps.take n h2)
theorem Rps.drop : ∀ {ds : List D} {vs : List V} (n : Nat), Rps K H ds vs → Rps K H (ds.drop n) (vs.drop n)
  | _, _, 0, h => h
  | [], vs, n + 1, h => by rw [rps_nil.mp h]; exact Rps.nl
  | d :: ds, vs, n + 1, h => by
    obtain ⟨v, r, rfl, _, h2⟩ := rps_cons.mp h
    exact Rps.drop n h2
theorem Rps.set : ∀ {ds : List D} {vs : List V} {d : D} {v : V} (i : Nat), Rps K H ds vs → Rp K H d v → Rps K H (ds.set i d) (vs.set i v)
  | [], vs, _, _, _, h, _ => by rw [rps_nil.mp h]; exact Rps.nl
  | x :: ds, vs, d, v, 0, h, q => by
    obtain ⟨u, r, rfl, _, h2⟩ := rps_cons.mp h
    exact Rps.cn q h2
  | x :: ds, vs, d, v, i + 1, h, q => by
    obtain ⟨u, r, rfl, h1, h2⟩ := rps_cons.mp h
    exact Rps.cn h1 (Rps.set i h2 q)
theorem rps_ints {ns : List Int} : Rps K H (ns.map D.int) (ns.map V.int) := by
  induction ns with
  | nil => exact Rps.nl
  | cons n ns ih => exact Rps.cn (rp_int.mpr rfl) ih
theorem rps_ints_eq : ∀ {ns : List Int} {vs : List V}, Rps K H (ns.map D.int) vs → vs = ns.map V.int
  | [], vs, h => rps_nil.mp h
  | n :: ns, vs, h => by
    obtain ⟨v, r, rfl, h1, h2⟩ := rps_cons.mp h
    rw [rp_int.mp h1, rps_ints_eq h2]
    rfl
theorem rps_bls_eq : ∀ {bs : List Bool} {vs : List V}, Rps K H (bs.map D.bl) vs → vs = bs.map V.bl
  | [], vs, h => rps_nil.mp h
  | n :: ns, vs, h => by
    obtain ⟨v, r, rfl, h1, h2⟩ := rps_cons.mp h
    rw [rp_bl.mp h1, rps_bls_eq h2]
    rfl
end

/-! ### things that change: a list, a dict, at a place of their own -/
inductive MO where
  | l (ds : List D) | d (ks : List Key) (ds : List D)
abbrev Mus := List (Addr × MO)
abbrev Ad (μ : Mus) : List Addr := μ.map (·.1)
def MoAt (K : PySem.W.Frag) (H : Hp) (a : Addr) : MO → Prop
  | .l ds => ∃ vs, H a = some (.lst vs) ∧ Rps K H ds vs
  | .d ks ds => ∃ kvs, H a = some (.dK kvs) ∧ kvs.map (·.1) = ks ∧ Rps K H ds (kvs.map (·.2))
def Mu (K : PySem.W.Frag) (H : Hp) (μ : Mus) : Prop := ∀ p ∈ μ, MoAt K H p.1 p.2
section
variable {K : PySem.W.Frag} {H H' : Hp} {μ μ' : Mus} {ρ : List (Option D)} {σ : L2.St}
theorem MoAt.weak {a : Addr} {m : MO} (h : MoAt K H a m) : ∃ u, H a = some u ∧ solid u = false ∧ Mut (some u) := by
  cases m with
  | l ds => obtain ⟨vs, e, _⟩ := h; exact ⟨_, e, rfl, trivial⟩
  | d ks ds => obtain ⟨kvs, e, _⟩ := h; exact ⟨_, e, rfl, trivial⟩
theorem SmB.sl (m : Mu K H μ) (h : SmB (Ad μ) H H') : Sl H H' := fun a u e s => by
  refine h a u (fun z => ?_) e
  obtain ⟨p, hp, rfl⟩ := List.mem_map.mp z
  obtain ⟨u', e', n, _⟩ := (m p hp).weak
  rw [e] at e'
  cases e'
  rw [s] at n
  cases n
theorem Mu.nl : Mu K H [] := fun _ h => nomatch h
theorem Mu.cn {p : Addr × MO} (h : MoAt K H p.1 p.2) (t : Mu K H μ) : Mu K H (p :: μ) := fun q hq => by
  rcases List.mem_cons.mp hq with rfl | hq
  · exact h
  · exact t q hq
theorem Mu.sub (h : Mu K H μ) (s : ∀ p ∈ μ', p ∈ μ) : Mu K H μ' := fun p hp => h p (s p hp)
theorem Mu.hd {p : Addr × MO} (h : Mu K H (p :: μ)) : MoAt K H p.1 p.2 := h p List.mem_cons_self
theorem Mu.tl {p : Addr × MO} (h : Mu K H (p :: μ)) : Mu K H μ := h.sub fun _ z => List.mem_cons_of_mem _ z
/-- what changes is kept where its place is kept -/
theorem MoAt.keep {a : Addr} {m : MO} (h : MoAt K H a m) (s : Sl H H') (k : ∀ u, H a = some u → H' a = some u) : MoAt K H' a m := by
  cases m with
  | l ds => obtain ⟨vs, e, r⟩ := h; exact ⟨vs, k _ e, Rps.sl s _ _ r⟩
  | d ks ds => obtain ⟨kvs, e, q, r⟩ := h; exact ⟨kvs, k _ e, q, Rps.sl s _ _ r⟩
theorem Mu.same (h : Mu K H μ) (s : Same H H') : Mu K H' μ := fun p hp => (h p hp).keep (fun a u e _ => s a u e) fun u e => s _ u e

/-! ### slots -/
abbrev Rho := List (Option D)
def Sg (K : PySem.W.Frag) (H : Hp) (ρ : Rho) (σ : L2.St) : Prop := ρ.length = σ.length ∧ ∀ (i : Nat) (d : D), ρ[i]? = some (some d) → ∃ v, σ[i]? = some (some v) ∧ Rp K H d v
theorem Sg.sl (s : Sl H H') (h : Sg K H ρ σ) : Sg K H' ρ σ := ⟨h.1, fun i d e => let ⟨v, e1, r⟩ := h.2 i d e; ⟨v, e1, Rp.sl s d v r⟩⟩
theorem Sg.set {i : Nat} {d : D} {v : V} (h : Sg K H ρ σ) (r : Rp K H d v) : Sg K H (ρ.set i (some d)) (σ.set i (some v)) := by
  refine ⟨by rw [List.length_set, List.length_set]; exact h.1, fun j d' e => ?_⟩
  by_cases hj : i = j
  · subst hj
    by_cases hi : i < ρ.length
    · rw [List.getElem?_set_self hi] at e
      cases e
      exact ⟨v, List.getElem?_set_self (by rw [← h.1]; exact hi), r⟩
    · rw [List.getElem?_eq_none (by rw [List.length_set]; omega)] at e
      cases e
  · rw [List.getElem?_set_ne hj] at e
    rw [List.getElem?_set_ne hj]
    exact h.2 j d' e
theorem Sg.forget {i : Nat} (h : Sg K H ρ σ) : Sg K H (ρ.set i none) σ := by
  refine ⟨by rw [List.length_set]; exact h.1, fun j d' e => ?_⟩
  by_cases hj : i = j
  · subst hj
    by_cases hi : i < ρ.length
    · rw [List.getElem?_set_self hi] at e
      cases e
    · rw [List.getElem?_eq_none (by rw [List.length_set]; omega)] at e
      cases e
  · rw [List.getElem?_set_ne hj] at e
    exact h.2 j d' e
def wipeD (ρ : Rho) : List Nat → Rho
  | [] => ρ
  | v :: vs => (wipeD ρ vs).set v none
theorem Sg.setNone {i : Nat} (h : Sg K H ρ σ) : Sg K H (ρ.set i none) (σ.set i none) := by
  refine ⟨by rw [List.length_set, List.length_set]; exact h.1, fun j d' e => ?_⟩
  by_cases hj : i = j
  · subst hj
    by_cases hi : i < ρ.length
    · rw [List.getElem?_set_self hi] at e
      cases e
    · rw [List.getElem?_eq_none (by rw [List.length_set]; omega)] at e
      cases e
  · rw [List.getElem?_set_ne hj] at e
    rw [List.getElem?_set_ne hj]
    exact h.2 j d' e
theorem Sg.wipe (h : Sg K H ρ σ) : ∀ vs : List Nat, Sg K H (wipeD ρ vs) (L2.wipe σ vs)
  | [] => h
  | v :: vs => (Sg.wipe h vs).setNone
def startD (N : List Str) (ds : List D) : Rho := ds.map some ++ List.replicate (N.length - ds.length) none
theorem Sg.start {N : List Str} {ds : List D} {vs : List V} (h : Rps K H ds vs) : Sg K H (startD N ds) (L2.start N vs) := by
  have e := h.length
  refine ⟨by unfold startD L2.start; simp [e], fun i d hd => ?_⟩
  unfold startD at hd
  unfold L2.start
  by_cases hi : i < ds.length
  · rw [List.getElem?_append_left (by simpa using hi)] at hd
    rw [List.getElem?_append_left (by rw [List.length_map, ← e]; exact hi)]
    rw [List.getElem?_map] at hd
    cases q : ds[i]? with
    | none => rw [q] at hd; cases hd
    | some d' =>
      rw [q] at hd
      have : d' = d := by simpa using hd
      subst this
      obtain ⟨v, e1, r⟩ := h.get q
      exact ⟨v, by rw [List.getElem?_map, e1]; rfl, r⟩
  · rw [List.getElem?_append_right (by simpa using hi)] at hd
    have := List.mem_of_getElem? hd
    have := (List.mem_replicate.mp this).2
    cases this
end

/-! ### readings -/
section
variable (K : PySem.W.Frag)
def tE (ρ : Rho) (μ : Mus) (d : D) (μ' : Mus) : TE := fun σ H Q => (Sg K H ρ σ ∧ Mu K H μ) ∧ ∀ v H', SmB (Ad μ) H H' → Mu K H' μ' → Rp K H' d v → Q v H'
def tT (ρ : Rho) (μ : Mus) (b : Bool) (μ' : Mus) : TT := fun σ H Q => (Sg K H ρ σ ∧ Mu K H μ) ∧ ∀ H', SmB (Ad μ) H H' → Mu K H' μ' → Q b H'
def tA (ρ : Rho) (μ : Mus) (ds : List D) (μ' : Mus) : TA := fun σ H Q => (Sg K H ρ σ ∧ Mu K H μ) ∧ ∀ vs H', SmB (Ad μ) H H' → Mu K H' μ' → Rps K H' ds vs → Q vs H'
end
section
variable {X : Cx}
theorem PEw {e : Expr} {t t' : TE} (h : PE X e t) (w : ∀ σ H Q, t' σ H Q → t σ H Q) : PE X e t' := ⟨fun pins s σ H Q I q => h.run pins s σ H Q I (w σ H Q q)⟩
theorem PTw {e : Expr} {t t' : TT} (h : PT X e t) (w : ∀ σ H Q, t' σ H Q → t σ H Q) : PT X e t' := ⟨fun pins s σ H Q I q => h.run pins s σ H Q I (w σ H Q q)⟩
theorem PWw {e : Expr} {t t' : TT} (h : PW X e t) (w : ∀ σ H Q, t' σ H Q → t σ H Q) : PW X e t' := ⟨fun wh pins s σ H Q I q => h.run wh pins s σ H Q I (w σ H Q q)⟩
theorem PAw {es : List Expr} {t t' : TA} (h : PA X es t) (w : ∀ σ H Q, t' σ H Q → t σ H Q) : PA X es t' := ⟨fun pos pins s σ H Q I q => h.run pos pins s σ H Q I (w σ H Q q)⟩
theorem PSw {st : Stmt} {t t' : TS} (h : PS X st t) (w : ∀ D σ H, t' D σ H → t D σ H) : PS X st t' := ⟨fun pins s σ H D I q => h.run pins s σ H D I (w D σ H q)⟩
theorem PSsw {st : List Stmt} {t t' : TS} (h : PSs X st t) (w : ∀ D σ H, t' D σ H → t D σ H) : PSs X st t' := ⟨fun pins s σ H D I q => h.run pins s σ H D I (w D σ H q)⟩
theorem PIw {tg it : Expr} {t t' : TI} (h : PI X tg it t) (w : ∀ σ H R, t' σ H R → t σ H R) : PI X tg it t' := ⟨fun pins s σ H R I q => h.run pins s σ H R I (w σ H R q)⟩
/-- a value that is about to be handed on may be locked -/
theorem pe_frz {e : Expr} {t : TE} (h : PE X e t) : PE X e (fun σ H Q => t σ H fun v H1 => Q v H1 ∨ ∃ p u, H1 p = some u ∧ Mut (some u) ∧ ∀ o, Q v (upd H1 p (.frz o u))) := by
  refine ⟨fun pins s σ H Q I q => thn (h.run pins s σ H _ I q) fun u s1 ⟨v, H1, I1, r, z⟩ => ?_⟩
  rcases z with z | ⟨p, w, hp, mu, z⟩
  · exact ⟨v, H1, I1, r, z⟩
  · obtain ⟨o, I2⟩ := I1.lock hp mu
    exact ⟨v, _, I2, r, z o⟩
theorem pa_frz {es : List Expr} {t : TA} (h : PA X es t) : PA X es (fun σ H Q => t σ H fun v H1 => Q v H1 ∨ ∃ p u, H1 p = some u ∧ Mut (some u) ∧ ∀ o, Q v (upd H1 p (.frz o u))) := by
  refine ⟨fun pos pins s σ H Q I q => thn (h.run pos pins s σ H _ I q) fun u s1 ⟨v, H1, I1, r, z⟩ => ?_⟩
  rcases z with z | ⟨p, w, hp, mu, z⟩
  · exact ⟨v, H1, I1, r, z⟩
  · obtain ⟨o, I2⟩ := I1.lock hp mu
    exact ⟨v, _, I2, r, z o⟩
/-- .. ahead of a block -/
theorem pss_frz {sts : List Stmt} {t : TS} (h : PSs X sts t) : PSs X sts (fun D σ H => ∃ p u, H p = some u ∧ Mut (some u) ∧ ∀ o, t D σ (upd H p (.frz o u))) := by
  refine ⟨fun pins s σ H D I q => ?_⟩
  obtain ⟨p, u, hp, mu, z⟩ := q
  obtain ⟨o, I2⟩ := I.lock hp mu
  exact h.run pins s σ _ D I2 (z o)
end
/-- e is worth d, from the slots ρ and what changes, μ, which it leaves as μ' -/
structure DE (X : Cx) (ρ : Rho) (μ : Mus) (e : Expr) (d : D) (μ' : Mus) : Prop where
  pe : PE X e (tE X.K ρ μ d μ')
  ad : Ad μ' = Ad μ
structure DT (X : Cx) (ρ : Rho) (μ : Mus) (e : Expr) (b : Bool) (μ' : Mus) : Prop where
  pt : PT X e (tT X.K ρ μ b μ')
  ad : Ad μ' = Ad μ
structure DW (X : Cx) (ρ : Rho) (μ : Mus) (e : Expr) (b : Bool) (μ' : Mus) : Prop where
  pw : PW X e (tT X.K ρ μ b μ')
  ad : Ad μ' = Ad μ
structure DA (X : Cx) (ρ : Rho) (μ : Mus) (es : List Expr) (ds : List D) (μ' : Mus) : Prop where
  pa : PA X es (tA X.K ρ μ ds μ')
  ad : Ad μ' = Ad μ

section
variable {X : Cx} {ρ : Rho} {μ μ1 μ2 μ3 μ' : Mus} {a b c e : Expr} {es : List Expr} {d d1 d2 d3 : D} {ds : List D} {pos : Pos}
/-! ### names, constants -/
theorem de_var (i : Nat) {x : Str} {p : Pos} (h : ρ[i]? = some (some d)) (hN : X.N[i]? = some x := by rfl) (hv : Vis X.env.scope x := by first | exact Or.inl rfl | exact Or.inr (Or.inl rfl) | exact Or.inr (Or.inr rfl))
    (hd : (x == ("__debug__" : Str)) = false := by decide) (hcd : (x == ("__classdict__" : Str)) = false := by decide) : DE X ρ μ (.Name x p) d μ :=
  ⟨PEw (pe_var hN hv hd hcd) fun σ H Q ⟨⟨g, m⟩, q⟩ => let ⟨v, e, r⟩ := g.2 i d h; ⟨v, e, q v H (SmB.refl _ _) m r⟩, rfl⟩
theorem de_int {i : Int} {j} : DE X ρ μ (.Constant (.int i) j pos) (.int i) μ := ⟨PEw pe_int fun σ H Q ⟨⟨_, m⟩, q⟩ => q _ H (SmB.refl _ _) m (rp_int.mpr rfl), rfl⟩
theorem de_bl {i : Bool} {j} : DE X ρ μ (.Constant (.bool i) j pos) (.bl i) μ := ⟨PEw pe_bl fun σ H Q ⟨⟨_, m⟩, q⟩ => q _ H (SmB.refl _ _) m (rp_bl.mpr rfl), rfl⟩
theorem de_non {j} : DE X ρ μ (.Constant .none j pos) .non μ := ⟨PEw pe_non fun σ H Q ⟨⟨_, m⟩, q⟩ => q _ H (SmB.refl _ _) m (rp_non.mpr rfl), rfl⟩
theorem de_str {i : Str} {j} : DE X ρ μ (.Constant (.str i) j pos) (.str i) μ := ⟨PEw pe_str fun σ H Q ⟨⟨_, m⟩, q⟩ => q _ H (SmB.refl _ _) m (rp_str.mpr rfl), rfl⟩
/-- a module's constant -/
theorem de_glob {x : Str} {v : V} {u : Value} {p : Pos} (hg : Gl X x) (hm : X.mg x = some u) (r : RelV v u) (hd : ∀ H, Rp X.K H d v) (hdb : (x == ("__debug__" : Str)) = false := by decide) : DE X ρ μ (.Name x p) d μ :=
  ⟨PEw (pe_glob hg hm r hdb) fun σ H Q ⟨⟨_, m⟩, q⟩ => q v H (SmB.refl _ _) m (hd H), rfl⟩
theorem DE.cast (h : DE X ρ μ e d μ') (q : d = d1) : DE X ρ μ e d1 μ' := q ▸ h
theorem DT.cast {k k1 : Bool} (h : DT X ρ μ e k μ') (q : k = k1) : DT X ρ μ e k1 μ' := q ▸ h

/-! ### two in a row -/
theorem seq2 {σ : L2.St} {H : Hp} {Q : V → V → Hp → Prop} (ha : Ad μ1 = Ad μ) (g : Sg X.K H ρ σ) (m : Mu X.K H μ)
    (k : ∀ v1 v2 H', SmB (Ad μ) H H' → Mu X.K H' μ2 → Rp X.K H' d1 v1 → Rp X.K H' d2 v2 → Q v1 v2 H') :
    tE X.K ρ μ d1 μ1 σ H fun v1 H1 => tE X.K ρ μ1 d2 μ2 σ H1 fun v2 H2 => Q v1 v2 H2 :=
  ⟨⟨g, m⟩, fun v1 H1 s1 m1 r1 => ⟨⟨g.sl (s1.sl m), m1⟩, fun v2 H2 s2 m2 r2 => by
    have s2' : SmB (Ad μ) H1 H2 := by rw [← ha]; exact s2
    exact k v1 v2 H2 (s1.trans s2') m2 (Rp.sl (s2.sl m1) _ _ r1) r2⟩⟩
/-- an operation on values whose answer needs no new object -/
def RP (K : PySem.W.Frag) (r : R2) (d1 d2 d : D) : Prop := ∀ (v1 v2 : V) (H : Hp) (Q : VK), Rp K H d1 v1 → Rp K H d2 v2 → (∀ v, Rp K H d v → Q v H) → r v1 v2 H Q
theorem de_op {op : Operator} {r : R2} (ho : OpR X (binaryOp op) r) (hr : RP X.K r d1 d2 d) (ha : DE X ρ μ a d1 μ1) (hb : DE X ρ μ1 b d2 μ2) : DE X ρ μ (.BinOp a op b pos) d μ2 :=
  ⟨PEw (pe_op ho ha.pe hb.pe) fun σ H Q ⟨⟨g, m⟩, q⟩ => seq2 ha.ad g m fun v1 v2 H' s' m' r1 r2 => hr v1 v2 H' Q r1 r2 fun v rv => q v H' s' m' rv, hb.ad.trans ha.ad⟩
theorem de_cmp {op : CmpOp} {r : R2} (ho : OpR X (compareOp op) r) (hr : RP X.K r d1 d2 d) (hm : behindInMarks op b = false) (ha : DE X ρ μ a d1 μ1) (hb : DE X ρ μ1 b d2 μ2) : DE X ρ μ (.Compare a [op] [b] pos) d μ2 :=
  ⟨PEw (pe_cmpR ho ha.pe hb.pe hm) fun σ H Q ⟨⟨g, m⟩, q⟩ => seq2 ha.ad g m fun v1 v2 H' s' m' r1 r2 => hr v1 v2 H' Q r1 r2 fun v rv => q v H' s' m' rv, hb.ad.trans ha.ad⟩
theorem dt_cmp {op : CmpOp} {r : R2} {k : Bool} (ho : OpR X (compareOp op) r) (hr : RP X.K r d1 d2 (.bl k)) (hm : behindInMarks op b = false) (ha : DE X ρ μ a d1 μ1) (hb : DE X ρ μ1 b d2 μ2) : DT X ρ μ (.Compare a [op] [b] pos) k μ2 :=
  ⟨PTw (pt_cmpR ho ha.pe hb.pe hm) fun σ H Q ⟨⟨g, m⟩, q⟩ => seq2 ha.ad g m fun v1 v2 H' s' m' r1 r2 => hr v1 v2 H' _ r1 r2 fun v rv => ⟨k, rp_bl.mp rv, q H' s' m'⟩, hb.ad.trans ha.ad⟩
section
variable {K : PySem.W.Frag} {i j : Int}
theorem rpI0 {g : Int → Int → V} {d : D} (h : ∀ H, Rp K H d (g i j)) : RP K (rI0 g) (.int i) (.int j) d := fun v1 v2 H Q r1 r2 k => ⟨i, j, rp_int.mp r1, rp_int.mp r2, k _ (h H)⟩
theorem rpI {C : Int → Int → Prop} {g : Int → Int → V} {d : D} (hc : C i j) (h : ∀ H, Rp K H d (g i j)) : RP K (rI C g) (.int i) (.int j) d := fun v1 v2 H Q r1 r2 k => ⟨i, j, rp_int.mp r1, rp_int.mp r2, hc, k _ (h H)⟩
end
variable {i j : Int}
theorem de_add (ha : DE X ρ μ a (.int i) μ1) (hb : DE X ρ μ1 b (.int j) μ2) : DE X ρ μ (.BinOp a .Add b pos) (.int (i + j)) μ2 := de_op op_add (rpI0 fun _ => rp_int.mpr rfl) ha hb
theorem de_sub (ha : DE X ρ μ a (.int i) μ1) (hb : DE X ρ μ1 b (.int j) μ2) : DE X ρ μ (.BinOp a .Sub b pos) (.int (i - j)) μ2 := de_op op_sub (rpI0 fun _ => rp_int.mpr rfl) ha hb
theorem de_mul (ha : DE X ρ μ a (.int i) μ1) (hb : DE X ρ μ1 b (.int j) μ2) (hc : CMul i j) : DE X ρ μ (.BinOp a .Mult b pos) (.int (i * j)) μ2 := de_op op_mul (rpI hc fun _ => rp_int.mpr rfl) ha hb
theorem de_mod (ha : DE X ρ μ a (.int i) μ1) (hb : DE X ρ μ1 b (.int j) μ2) (hc : 0 < j) : DE X ρ μ (.BinOp a .Mod b pos) (.int (i % j)) μ2 := de_op op_mod (rpI hc fun _ => rp_int.mpr rfl) ha hb
theorem de_fdiv (ha : DE X ρ μ a (.int i) μ1) (hb : DE X ρ μ1 b (.int j) μ2) (hc : 0 < j ∧ j < 1073741824) : DE X ρ μ (.BinOp a .FloorDiv b pos) (.int (i / j)) μ2 := de_op op_fdiv (rpI hc fun _ => rp_int.mpr rfl) ha hb
theorem de_pow (ha : DE X ρ μ a (.int i) μ1) (hb : DE X ρ μ1 b (.int j) μ2) (hc : CPow i j) : DE X ρ μ (.BinOp a .Pow b pos) (.int (i ^ j.toNat)) μ2 := de_op op_pow (rpI hc fun _ => rp_int.mpr rfl) ha hb
/-! ### comparisons of ints, as a value and as a test -/
theorem de_lt (ha : DE X ρ μ a (.int i) μ1) (hb : DE X ρ μ1 b (.int j) μ2) : DE X ρ μ (.Compare a [.Lt] [b] pos) (.bl (decide (i < j))) μ2 := de_cmp op_lt (rpI0 fun _ => rp_bl.mpr rfl) (nomark _) ha hb
theorem de_le (ha : DE X ρ μ a (.int i) μ1) (hb : DE X ρ μ1 b (.int j) μ2) : DE X ρ μ (.Compare a [.LtE] [b] pos) (.bl (decide (i ≤ j))) μ2 := de_cmp op_le (rpI0 fun _ => rp_bl.mpr rfl) (nomark _) ha hb
theorem de_gt (ha : DE X ρ μ a (.int i) μ1) (hb : DE X ρ μ1 b (.int j) μ2) : DE X ρ μ (.Compare a [.Gt] [b] pos) (.bl (decide (j < i))) μ2 := de_cmp op_gt (rpI0 fun _ => rp_bl.mpr rfl) (nomark _) ha hb
theorem de_ge (ha : DE X ρ μ a (.int i) μ1) (hb : DE X ρ μ1 b (.int j) μ2) : DE X ρ μ (.Compare a [.GtE] [b] pos) (.bl (decide (j ≤ i))) μ2 := de_cmp op_ge (rpI0 fun _ => rp_bl.mpr rfl) (nomark _) ha hb
theorem dt_lt (ha : DE X ρ μ a (.int i) μ1) (hb : DE X ρ μ1 b (.int j) μ2) : DT X ρ μ (.Compare a [.Lt] [b] pos) (decide (i < j)) μ2 := dt_cmp op_lt (rpI0 fun _ => rp_bl.mpr rfl) (nomark _) ha hb
theorem dt_le (ha : DE X ρ μ a (.int i) μ1) (hb : DE X ρ μ1 b (.int j) μ2) : DT X ρ μ (.Compare a [.LtE] [b] pos) (decide (i ≤ j)) μ2 := dt_cmp op_le (rpI0 fun _ => rp_bl.mpr rfl) (nomark _) ha hb
theorem dt_gt (ha : DE X ρ μ a (.int i) μ1) (hb : DE X ρ μ1 b (.int j) μ2) : DT X ρ μ (.Compare a [.Gt] [b] pos) (decide (j < i)) μ2 := dt_cmp op_gt (rpI0 fun _ => rp_bl.mpr rfl) (nomark _) ha hb
theorem dt_ge (ha : DE X ρ μ a (.int i) μ1) (hb : DE X ρ μ1 b (.int j) μ2) : DT X ρ μ (.Compare a [.GtE] [b] pos) (decide (j ≤ i)) μ2 := dt_cmp op_ge (rpI0 fun _ => rp_bl.mpr rfl) (nomark _) ha hb
/-- == and != of flat things -/
def scalD : D → D → Bool
  | .int _, .int _ => true
  | .bl _, .bl _ => true
  | .str _, .str _ => true
  | .non, .non => true
  | _, _ => false
def flatEq : D → D → Bool
  | .int i, .int j => i == j
  | .bl i, .bl j => i == j
  | .str i, .str j => i == j
  | .non, .non => true
  | _, _ => false
end
end PD

/-! The functional reading, further: comparisons of data, and | or | not, displays, subscripts, slices, calls of built-ins. -/
namespace PD
open PySem PySem.Spec PyProof.Rows L2

/-! ### data as the model's == reads it -/
mutual
def D.py : D → PyData
  | .non => .none
  | .bl b => .bool b
  | .int i => .int i
  | .str x => .str x
  | .tup l => .tuple (D.pys l)
  | .lst l => .list (D.pys l)
  | .dct _ _ => .none
  | .adr _ => .none
def D.pys : List D → List PyData
  | [] => []
  | d :: ds => D.py d :: D.pys ds
end
mutual
def D.plain : D → Bool
  | .tup l => D.plains l
  | .lst l => D.plains l
  | .dct _ _ => false
  | .adr _ => false
  | .non => true
  | .bl _ => true
  | .int _ => true
  | .str _ => true
def D.plains : List D → Bool
  | [] => true
  | d :: ds => D.plain d && D.plains ds
end
section
variable {K : PySem.W.Frag} {H : Hp}
mutual
theorem rp_dp : ∀ (d : D) (v : V), d.plain = true → Rp K H d v → Dp K H v d.py
  | .non, v, _, h => by rw [rp_non.mp h]; exact .non
  | .bl b, v, _, h => by rw [rp_bl.mp h]; exact .bl b
  | .int i, v, _, h => by rw [rp_int.mp h]; exact .int i
  | .str x, v, _, h => by rw [rp_str.mp h]; exact .str x
  | .tup l, v, p, h => by
    obtain ⟨a, vs, rfl, q, r⟩ := rp_tup.mp h
    exact .tup q (rps_dp l vs (by simpa [D.plain] using p) r)
  | .lst l, v, p, h => by
    obtain ⟨a, o, vs, rfl, q, r⟩ := rp_lst.mp h
    exact .lst q.sq (rps_dp l vs (by simpa [D.plain] using p) r)
  | .dct _ _, v, p, h => by simp [D.plain] at p
  | .adr _, v, p, h => by simp [D.plain] at p
theorem rps_dp : ∀ (ds : List D) (vs : List V), D.plains ds = true → Rps K H ds vs → DpAll K H vs (D.pys ds)
  | [], vs, _, h => by rw [rps_nil.mp h]; exact .nil
  | d :: ds, vs, p, h => by
    obtain ⟨v, r, rfl, h1, h2⟩ := rps_cons.mp h
    simp only [D.plains, Bool.and_eq_true] at p
    exact .cons (rp_dp d v p.1 h1) (rps_dp ds r p.2 h2)
end
end
/-- == of data -/
def D.eqv (a b : D) : Bool := PyData.eqv a.py b.py
def D.cmpOk (d : D) : Bool := d.plain && SeqAt.shaped d.py

/-- flat things -/
def D.flat : D → Bool
  | .non => true | .bl _ => true | .int _ => true | .str _ => true | _ => false
def D.fl : D → V
  | .non => .non | .bl b => .bl b | .int i => .int i | .str x => .str x | _ => .non
theorem rp_flat {K : PySem.W.Frag} {H : Hp} {d : D} {v : V} (f : d.flat = true) (h : Rp K H d v) : v = d.fl ∧ flatV v = true := by
  cases d with
  | non => rw [rp_non.mp h]; exact ⟨rfl, rfl⟩
  | bl b => rw [rp_bl.mp h]; exact ⟨rfl, rfl⟩
  | int i => rw [rp_int.mp h]; exact ⟨rfl, rfl⟩
  | str x => rw [rp_str.mp h]; exact ⟨rfl, rfl⟩
  | _ => cases f
theorem rps_flat {K : PySem.W.Frag} {H : Hp} : ∀ {ds : List D} {vs : List V}, ds.all D.flat = true → Rps K H ds vs → vs = ds.map D.fl ∧ vs.all flatV = true
  | [], vs, _, h => by rw [rps_nil.mp h]; exact ⟨rfl, rfl⟩
  | d :: ds, vs, f, h => by
    obtain ⟨v, r, rfl, h1, h2⟩ := rps_cons.mp h
    rw [List.all_cons, Bool.and_eq_true] at f
    obtain ⟨e1, f1⟩ := rp_flat f.1 h1
    obtain ⟨e2, f2⟩ := rps_flat f.2 h2
    exact ⟨by rw [List.map_cons, ← e1, ← e2], by rw [List.all_cons, f1, f2]; rfl⟩
/-- d in ds, flat things all -/
def D.isIn (d : D) (ds : List D) : Bool := inV d.fl (ds.map D.fl)

section
variable {X : Cx} {ρ : Rho} {μ μ1 μ2 μ3 μ' : Mus} {a b c e : Expr} {es : List Expr} {d d1 d2 d3 : D} {ds l : List D} {pos : Pos} {i j : Int} {k k1 k2 : Bool}
/-! ### == and != -/
theorem rpEqI {K : PySem.W.Frag} : RP K rEq (.int i) (.int j) (.bl (decide (i = j))) := fun v1 v2 H Q r1 r2 k => by
  rw [rp_int.mp r1, rp_int.mp r2]
  refine ⟨rfl, ?_⟩
  rw [dec_int, Bool.beq_eq_decide_eq]
  exact k _ (rp_bl.mpr rfl)
theorem rpNeI {K : PySem.W.Frag} : RP K rNe (.int i) (.int j) (.bl (!decide (i = j))) := fun v1 v2 H Q r1 r2 k => by
  rw [rp_int.mp r1, rp_int.mp r2]
  refine ⟨rfl, ?_⟩
  rw [dec_int, Bool.beq_eq_decide_eq]
  exact k _ (rp_bl.mpr rfl)
theorem rpEqS {K : PySem.W.Frag} {x y : Str} : RP K rEq (.str x) (.str y) (.bl (decide (x = y))) := fun v1 v2 H Q r1 r2 k => by
  rw [rp_str.mp r1, rp_str.mp r2]
  refine ⟨rfl, ?_⟩
  rw [dec_str, Bool.beq_eq_decide_eq]
  exact k _ (rp_bl.mpr rfl)
theorem rpNeS {K : PySem.W.Frag} {x y : Str} : RP K rNe (.str x) (.str y) (.bl (!decide (x = y))) := fun v1 v2 H Q r1 r2 k => by
  rw [rp_str.mp r1, rp_str.mp r2]
  refine ⟨rfl, ?_⟩
  rw [dec_str, Bool.beq_eq_decide_eq]
  exact k _ (rp_bl.mpr rfl)
theorem de_eqI (ha : DE X ρ μ a (.int i) μ1) (hb : DE X ρ μ1 b (.int j) μ2) : DE X ρ μ (.Compare a [.Eq] [b] pos) (.bl (decide (i = j))) μ2 := de_cmp op_eq rpEqI (nomark _) ha hb
theorem dt_eqI (ha : DE X ρ μ a (.int i) μ1) (hb : DE X ρ μ1 b (.int j) μ2) : DT X ρ μ (.Compare a [.Eq] [b] pos) (decide (i = j)) μ2 := dt_cmp op_eq rpEqI (nomark _) ha hb
theorem de_neI (ha : DE X ρ μ a (.int i) μ1) (hb : DE X ρ μ1 b (.int j) μ2) : DE X ρ μ (.Compare a [.NotEq] [b] pos) (.bl (!decide (i = j))) μ2 := de_cmp op_ne rpNeI (nomark _) ha hb
theorem dt_neI (ha : DE X ρ μ a (.int i) μ1) (hb : DE X ρ μ1 b (.int j) μ2) : DT X ρ μ (.Compare a [.NotEq] [b] pos) (!decide (i = j)) μ2 := dt_cmp op_ne rpNeI (nomark _) ha hb
theorem dt_eqS {x y : Str} (ha : DE X ρ μ a (.str x) μ1) (hb : DE X ρ μ1 b (.str y) μ2) : DT X ρ μ (.Compare a [.Eq] [b] pos) (decide (x = y)) μ2 := dt_cmp op_eq rpEqS (nomark _) ha hb
theorem dt_neS {x y : Str} (ha : DE X ρ μ a (.str x) μ1) (hb : DE X ρ μ1 b (.str y) μ2) : DT X ρ μ (.Compare a [.NotEq] [b] pos) (!decide (x = y)) μ2 := dt_cmp op_ne rpNeS (nomark _) ha hb
theorem rpEqD {K : PySem.W.Frag} (h1 : d1.cmpOk = true) (h2 : d2.cmpOk = true) : RP K (rEqD K) d1 d2 (.bl (d1.eqv d2)) := fun v1 v2 H Q r1 r2 k => by
  simp only [D.cmpOk, Bool.and_eq_true] at h1 h2
  exact ⟨_, _, rp_dp _ _ h1.1 r1, rp_dp _ _ h2.1 r2, h1.2, h2.2, k _ (rp_bl.mpr rfl)⟩
theorem rpNeD {K : PySem.W.Frag} (h1 : d1.cmpOk = true) (h2 : d2.cmpOk = true) : RP K (rNeD K) d1 d2 (.bl (!d1.eqv d2)) := fun v1 v2 H Q r1 r2 k => by
  simp only [D.cmpOk, Bool.and_eq_true] at h1 h2
  exact ⟨_, _, rp_dp _ _ h1.1 r1, rp_dp _ _ h2.1 r2, h1.2, h2.2, k _ (rp_bl.mpr rfl)⟩
theorem de_eqD (hu : X.A.units + 64 < cLine) (ha : DE X ρ μ a d1 μ1) (hb : DE X ρ μ1 b d2 μ2) (h1 : d1.cmpOk = true) (h2 : d2.cmpOk = true) : DE X ρ μ (.Compare a [.Eq] [b] pos) (.bl (d1.eqv d2)) μ2 := de_cmp (op_eqD hu) (rpEqD h1 h2) (nomark _) ha hb
theorem dt_eqD (hu : X.A.units + 64 < cLine) (ha : DE X ρ μ a d1 μ1) (hb : DE X ρ μ1 b d2 μ2) (h1 : d1.cmpOk = true) (h2 : d2.cmpOk = true) : DT X ρ μ (.Compare a [.Eq] [b] pos) (d1.eqv d2) μ2 := dt_cmp (op_eqD hu) (rpEqD h1 h2) (nomark _) ha hb
theorem de_neD (hu : X.A.units + 64 < cLine) (ha : DE X ρ μ a d1 μ1) (hb : DE X ρ μ1 b d2 μ2) (h1 : d1.cmpOk = true) (h2 : d2.cmpOk = true) : DE X ρ μ (.Compare a [.NotEq] [b] pos) (.bl (!d1.eqv d2)) μ2 := de_cmp (op_neD hu) (rpNeD h1 h2) (nomark _) ha hb
theorem dt_neD (hu : X.A.units + 64 < cLine) (ha : DE X ρ μ a d1 μ1) (hb : DE X ρ μ1 b d2 μ2) (h1 : d1.cmpOk = true) (h2 : d2.cmpOk = true) : DT X ρ μ (.Compare a [.NotEq] [b] pos) (!d1.eqv d2) μ2 := dt_cmp (op_neD hu) (rpNeD h1 h2) (nomark _) ha hb
/-! ### is None -/
def D.isNon : D → Bool
  | .non => true
  | _ => false
theorem rp_isNon {K : PySem.W.Frag} {H : Hp} {v : V} (h : Rp K H d v) : decide (v = .non) = d.isNon := by
  cases d with
  | non => rw [rp_non.mp h]; rfl
  | bl b => rw [rp_bl.mp h]; rfl
  | int i => rw [rp_int.mp h]; rfl
  | str x => rw [rp_str.mp h]; rfl
  | adr a => rw [rp_adr.mp h]; rfl
  | tup l => obtain ⟨_, _, rfl, _⟩ := rp_tup.mp h; rfl
  | lst l => obtain ⟨_, _, _, rfl, _⟩ := rp_lst.mp h; rfl
  | dct ks l => obtain ⟨_, _, _, rfl, _⟩ := rp_dct.mp h; rfl
theorem rpIsN {K : PySem.W.Frag} : RP K (fun x y H Q => y = .non ∧ Q (.bl (decide (x = .non))) H) d .non (.bl d.isNon) := fun v1 v2 H Q r1 r2 k => ⟨rp_non.mp r2, k _ (rp_bl.mpr (by rw [rp_isNon r1]))⟩
theorem rpNotN {K : PySem.W.Frag} : RP K (fun x y H Q => y = .non ∧ Q (.bl (!decide (x = .non))) H) d .non (.bl (!d.isNon)) := fun v1 v2 H Q r1 r2 k => ⟨rp_non.mp r2, k _ (rp_bl.mpr (by rw [rp_isNon r1]))⟩
theorem dt_isN {q p} (ha : DE X ρ μ a d μ1) : DT X ρ μ (.Compare a [.Is] [.Constant .none q p] pos) d.isNon μ1 := dt_cmp op_isN rpIsN (nomark _) ha de_non
theorem dt_notN {q p} (ha : DE X ρ μ a d μ1) : DT X ρ μ (.Compare a [.IsNot] [.Constant .none q p] pos) (!d.isNon) μ1 := dt_cmp op_notN rpNotN (nomark _) ha de_non
theorem de_isN {q p} (ha : DE X ρ μ a d μ1) : DE X ρ μ (.Compare a [.Is] [.Constant .none q p] pos) (.bl d.isNon) μ1 := de_cmp op_isN rpIsN (nomark _) ha de_non
theorem de_notN {q p} (ha : DE X ρ μ a d μ1) : DE X ρ μ (.Compare a [.IsNot] [.Constant .none q p] pos) (.bl (!d.isNon)) μ1 := de_cmp op_notN rpNotN (nomark _) ha de_non
/-! ### in, not in: flat things -/
theorem rpIn {K : PySem.W.Frag} (neg : Bool) (f : d.flat = true) (fs : l.all D.flat = true) : RP K (rIn K neg) d (.tup l) (.bl (if neg then !d.isIn l else d.isIn l)) := fun v1 v2 H Q r1 r2 k => by
  obtain ⟨p, xs, rfl, q, r⟩ := rp_tup.mp r2
  obtain ⟨e1, f1⟩ := rp_flat f r1
  obtain ⟨e2, f2⟩ := rps_flat fs r
  refine ⟨p, xs, rfl, .inr q, f1, f2, k _ (rp_bl.mpr ?_)⟩
  unfold D.isIn
  rw [e1, e2]
theorem dt_in (ha : DE X ρ μ a d μ1) (hb : DE X ρ μ1 b (.tup l) μ2) (f : d.flat = true) (fs : l.all D.flat = true) (hm : behindInMarks .In b = false) : DT X ρ μ (.Compare a [.In] [b] pos) (d.isIn l) μ2 := dt_cmp op_in_seq (rpIn false f fs) hm ha hb
theorem dt_notIn (ha : DE X ρ μ a d μ1) (hb : DE X ρ μ1 b (.tup l) μ2) (f : d.flat = true) (fs : l.all D.flat = true) (hm : behindInMarks .NotIn b = false) : DT X ρ μ (.Compare a [.NotIn] [b] pos) (!d.isIn l) μ2 := dt_cmp op_notIn_seq (rpIn true f fs) hm ha hb

/-! ### and, or, not, if: tests -/
theorem pw_none {e : Expr} : PW X e (fun _ _ _ => False) := ⟨fun _ _ _ _ _ _ _ h => h.elim⟩
theorem pe_none {e : Expr} : PE X e (fun _ _ _ => False) := ⟨fun _ _ _ _ _ _ h => h.elim⟩
theorem pss_none {e : List Stmt} : PSs X e (fun _ _ _ => False) := ⟨fun _ _ _ _ _ _ h => h.elim⟩
theorem DW.dt (h : DW X ρ μ e k μ') : DT X ρ μ e k μ' := ⟨h.pw.pt, h.ad⟩
theorem dw_and1 (h : DT X ρ μ a k μ1) : DW X ρ μ (.BoolOp .And [a] pos) k μ1 := ⟨pw_and1 h.pt, h.ad⟩
theorem dw_or1 (h : DT X ρ μ a k μ1) : DW X ρ μ (.BoolOp .Or [a] pos) k μ1 := ⟨pw_or1 h.pt, h.ad⟩
theorem dw_and (ha : DT X ρ μ a k1 μ1) (hb : k1 = true → DW X ρ μ1 (.BoolOp .And (b :: es) pos) k2 μ1) : DW X ρ μ (.BoolOp .And (a :: b :: es) pos) (k1 && k2) μ1 := by
  refine ⟨?_, ha.ad⟩
  cases k1 with
  | true => exact PWw (pw_and ha.pt (hb rfl).pw) fun σ H Q ⟨⟨g, m⟩, q⟩ => ⟨⟨g, m⟩, fun H1 s1 m1 => iteT ⟨⟨g.sl (s1.sl m), m1⟩, fun H2 s2 m2 => q H2 (s1.trans (by rw [← ha.ad]; exact s2)) m2⟩⟩
  | false => exact PWw (pw_and ha.pt pw_none) fun σ H Q ⟨⟨g, m⟩, q⟩ => ⟨⟨g, m⟩, fun H1 s1 m1 => iteF (q H1 s1 m1)⟩
theorem dw_or (ha : DT X ρ μ a k1 μ1) (hb : k1 = false → DW X ρ μ1 (.BoolOp .Or (b :: es) pos) k2 μ1) : DW X ρ μ (.BoolOp .Or (a :: b :: es) pos) (k1 || k2) μ1 := by
  refine ⟨?_, ha.ad⟩
  cases k1 with
  | false => exact PWw (pw_or ha.pt (hb rfl).pw) fun σ H Q ⟨⟨g, m⟩, q⟩ => ⟨⟨g, m⟩, fun H1 s1 m1 => iteF ⟨⟨g.sl (s1.sl m), m1⟩, fun H2 s2 m2 => q H2 (s1.trans (by rw [← ha.ad]; exact s2)) m2⟩⟩
  | true => exact PWw (pw_or ha.pt pw_none) fun σ H Q ⟨⟨g, m⟩, q⟩ => ⟨⟨g, m⟩, fun H1 s1 m1 => iteT (q H1 s1 m1)⟩
theorem dt_not (ha : DT X ρ μ a k μ1) : DT X ρ μ (.UnaryOp .Not a pos) (!k) μ1 := ⟨PTw (pt_not ha.pt) fun σ H Q ⟨⟨g, m⟩, q⟩ => ⟨⟨g, m⟩, q⟩, ha.ad⟩
/-- a value that is a bool, as a test -/
theorem dt_val (h : DE X ρ μ e (.bl k) μ1) (he : ∀ whole, isTrue e X.env whole = (do let v ← whole; standAt e.pos; holding [v] (truthy v)) := by intro _; rfl) : DT X ρ μ e k μ1 :=
  ⟨PTw (pt_val h.pe he) fun σ H Q ⟨⟨g, m⟩, q⟩ => ⟨⟨g, m⟩, fun v H1 s1 m1 r => ⟨k, rp_bl.mp r, q H1 s1 m1⟩⟩, h.ad⟩
/-! .. as values -/
theorem de_one {op} (h : DE X ρ μ a d μ1) : DE X ρ μ (.BoolOp op [a] pos) d μ1 := ⟨PEw (pe_one h.pe) fun σ H Q q => q, h.ad⟩
theorem de_and (ha : DE X ρ μ a (.bl k1) μ1) (hb : k1 = true → DE X ρ μ1 (.BoolOp .And (b :: es) pos) (.bl k2) μ1) : DE X ρ μ (.BoolOp .And (a :: b :: es) pos) (.bl (k1 && k2)) μ1 := by
  refine ⟨?_, ha.ad⟩
  cases k1 with
  | true => exact PEw (pe_and ha.pe (hb rfl).pe) fun σ H Q ⟨⟨g, m⟩, q⟩ => ⟨⟨g, m⟩, fun v H1 s1 m1 r => ⟨true, rp_bl.mp r, iteT ⟨⟨g.sl (s1.sl m), m1⟩, fun v2 H2 s2 m2 r2 => q v2 H2 (s1.trans (by rw [← ha.ad]; exact s2)) m2 r2⟩⟩⟩
  | false => exact PEw (pe_and ha.pe pe_none) fun σ H Q ⟨⟨g, m⟩, q⟩ => ⟨⟨g, m⟩, fun v H1 s1 m1 r => ⟨false, rp_bl.mp r, iteF (q _ H1 s1 m1 (rp_bl.mpr rfl))⟩⟩
theorem de_or (ha : DE X ρ μ a (.bl k1) μ1) (hb : k1 = false → DE X ρ μ1 (.BoolOp .Or (b :: es) pos) (.bl k2) μ1) : DE X ρ μ (.BoolOp .Or (a :: b :: es) pos) (.bl (k1 || k2)) μ1 := by
  refine ⟨?_, ha.ad⟩
  cases k1 with
  | false => exact PEw (pe_or ha.pe (hb rfl).pe) fun σ H Q ⟨⟨g, m⟩, q⟩ => ⟨⟨g, m⟩, fun v H1 s1 m1 r => ⟨false, rp_bl.mp r, iteF ⟨⟨g.sl (s1.sl m), m1⟩, fun v2 H2 s2 m2 r2 => q v2 H2 (s1.trans (by rw [← ha.ad]; exact s2)) m2 r2⟩⟩⟩
  | true => exact PEw (pe_or ha.pe pe_none) fun σ H Q ⟨⟨g, m⟩, q⟩ => ⟨⟨g, m⟩, fun v H1 s1 m1 r => ⟨true, rp_bl.mp r, iteT (q _ H1 s1 m1 (rp_bl.mpr rfl))⟩⟩
theorem de_not (ha : DE X ρ μ a (.bl k) μ1) : DE X ρ μ (.UnaryOp .Not a pos) (.bl (!k)) μ1 := ⟨PEw (pe_not ha.pe) fun σ H Q ⟨⟨g, m⟩, q⟩ => ⟨⟨g, m⟩, fun v H1 s1 m1 r => ⟨k, rp_bl.mp r, q _ H1 s1 m1 (rp_bl.mpr rfl)⟩⟩, ha.ad⟩
theorem de_if (hc : DT X ρ μ c k μ1) (ht : k = true → DE X ρ μ1 a d μ2) (hf : k = false → DE X ρ μ1 b d μ2) : DE X ρ μ (.IfExp c a b pos) d μ2 := by
  cases k with
  | true =>
    have h := ht rfl
    exact ⟨PEw (pe_ifExp hc.pt h.pe pe_none) fun σ H Q ⟨⟨g, m⟩, q⟩ => ⟨⟨g, m⟩, fun H1 s1 m1 => iteT ⟨⟨g.sl (s1.sl m), m1⟩, fun v2 H2 s2 m2 r2 => q v2 H2 (s1.trans (by rw [← hc.ad]; exact s2)) m2 r2⟩⟩, h.ad.trans hc.ad⟩
  | false =>
    have h := hf rfl
    exact ⟨PEw (pe_ifExp hc.pt pe_none h.pe) fun σ H Q ⟨⟨g, m⟩, q⟩ => ⟨⟨g, m⟩, fun H1 s1 m1 => iteF ⟨⟨g.sl (s1.sl m), m1⟩, fun v2 H2 s2 m2 r2 => q v2 H2 (s1.trans (by rw [← hc.ad]; exact s2)) m2 r2⟩⟩, h.ad.trans hc.ad⟩
/-- a op1 b op2 c, ints -/
theorem seq3 {σ : L2.St} {H : Hp} {r r' : R2} {Q : VK} (had : Ad μ1 = Ad μ) (hbd : Ad μ2 = Ad μ1) (g : Sg X.K H ρ σ) (m : Mu X.K H μ) (hr : RP X.K r d1 d2 (.bl k1)) (hr' : k1 = true → RP X.K r' d2 d3 (.bl k2))
    (q : ∀ H', SmB (Ad μ) H H' → Mu X.K H' μ2 → Q (.bl (k1 && k2)) H') : tChain r r' (tE X.K ρ μ d1 μ1) (tE X.K ρ μ1 d2 μ2) (tE X.K ρ μ2 d3 μ2) σ H Q := by
  refine ⟨⟨g, m⟩, fun v1 H1 s1 m1 r1 => ⟨⟨g.sl (s1.sl m), m1⟩, fun v2 H2 s2 m2 r2 => ?_⟩⟩
  have s2' : SmB (Ad μ) H1 H2 := by rw [← had]; exact s2
  refine hr v1 v2 H2 _ (Rp.sl (s2.sl m1) _ _ r1) r2 fun v rv => ⟨k1, rp_bl.mp rv, ?_⟩
  cases k1 with
  | false => exact iteF (q H2 (s1.trans s2') m2)
  | true =>
    refine iteT ⟨⟨(g.sl (s1.sl m)).sl (s2.sl m1), m2⟩, fun v3 H3 s3 m3 r3 => ?_⟩
    have s3' : SmB (Ad μ) H2 H3 := by rw [← had, ← hbd]; exact s3
    exact hr' rfl v2 v3 H3 _ (Rp.sl (s3.sl m2) _ _ r2) r3 fun v rv => by
      rw [rp_bl.mp rv]
      exact q H3 ((s1.trans s2').trans s3') m3
theorem de_leLe {i j n : Int} (ha : DE X ρ μ a (.int i) μ1) (hb : DE X ρ μ1 b (.int j) μ2) (hc : DE X ρ μ2 c (.int n) μ2) (hm : lastMarks [.LtE, .LtE] [b, c] = false := by with_unfolding_all rfl) :
    DE X ρ μ (.Compare a [.LtE, .LtE] [b, c] pos) (.bl (decide (i ≤ j) && decide (j ≤ n))) μ2 :=
  ⟨PEw (pe_chain op_le op_le ha.pe hb.pe hc.pe hm) fun σ H Q ⟨⟨g, m⟩, q⟩ => seq3 ha.ad hb.ad g m (rpI0 fun _ => rp_bl.mpr rfl) (fun _ => rpI0 fun _ => rp_bl.mpr rfl) fun H' s' m' => q _ H' s' m' (rp_bl.mpr rfl), hb.ad.trans ha.ad⟩
theorem dt_leLe {i j n : Int} (ha : DE X ρ μ a (.int i) μ1) (hb : DE X ρ μ1 b (.int j) μ2) (hc : DE X ρ μ2 c (.int n) μ2) (hm : lastMarks [.LtE, .LtE] [b, c] = false := by with_unfolding_all rfl) :
    DT X ρ μ (.Compare a [.LtE, .LtE] [b, c] pos) (decide (i ≤ j) && decide (j ≤ n)) μ2 :=
  ⟨PTw (pt_chain op_le op_le ha.pe hb.pe hc.pe hm) fun σ H Q ⟨⟨g, m⟩, q⟩ => seq3 ha.ad hb.ad g m (rpI0 fun _ => rp_bl.mpr rfl) (fun _ => rpI0 fun _ => rp_bl.mpr rfl) fun H' s' m' => ⟨_, rfl, q H' s' m'⟩, hb.ad.trans ha.ad⟩
theorem dt_ltLe {i j n : Int} (ha : DE X ρ μ a (.int i) μ1) (hb : DE X ρ μ1 b (.int j) μ2) (hc : DE X ρ μ2 c (.int n) μ2) (hm : lastMarks [.Lt, .LtE] [b, c] = false := by with_unfolding_all rfl) :
    DT X ρ μ (.Compare a [.Lt, .LtE] [b, c] pos) (decide (i < j) && decide (j ≤ n)) μ2 :=
  ⟨PTw (pt_chain op_lt op_le ha.pe hb.pe hc.pe hm) fun σ H Q ⟨⟨g, m⟩, q⟩ => seq3 ha.ad hb.ad g m (rpI0 fun _ => rp_bl.mpr rfl) (fun _ => rpI0 fun _ => rp_bl.mpr rfl) fun H' s' m' => ⟨_, rfl, q H' s' m'⟩, hb.ad.trans ha.ad⟩

/-! ### arguments, displays -/
theorem da_nil : DA X ρ μ [] [] μ := ⟨PAw pa_nil fun σ H Q ⟨⟨g, m⟩, q⟩ => q [] H (SmB.refl _ _) m Rps.nl, rfl⟩
theorem da_cons (ha : DE X ρ μ a d μ1) (hr : DA X ρ μ1 es ds μ2) (hs : starEach (a :: es) X.env = (false, eval a X.env) :: starEach es X.env := by rfl) : DA X ρ μ (a :: es) (d :: ds) μ2 :=
  ⟨PAw (pa_cons ha.pe hr.pa hs) fun σ H Q ⟨⟨g, m⟩, q⟩ => ⟨⟨g, m⟩, fun v H1 s1 m1 r1 => ⟨⟨g.sl (s1.sl m), m1⟩, fun vs H2 s2 m2 r2 => q (v :: vs) H2 (s1.trans (by rw [← ha.ad]; exact s2)) m2 (Rps.cn (Rp.sl (s2.sl m1) _ _ r1) r2)⟩⟩, hr.ad.trans ha.ad⟩
theorem sz_of {n : Nat} (h : n ≤ 100000) : n ≤ sizeLine := Nat.le_trans h (by decide)
theorem sz_lt {n : Nat} (h : n < 100000) : n < sizeLine := Nat.lt_of_lt_of_le h (by decide)
theorem fr_tup {K : PySem.W.Frag} {H : Hp} {p : Addr} {vs : List V} (hp : H p = none) (r : Rps K H ds vs) : Rp K (upd H p (.tup vs)) (.tup ds) (.ref p) :=
  rp_tup.mpr ⟨p, vs, rfl, .inl (.inl upd_same), Rps.sl (fun a u e _ => by rw [upd_ne (ne_of_none e hp)]; exact e) _ _ r⟩
theorem fr_lst {K : PySem.W.Frag} {H : Hp} {p : Addr} {o : Obj} {vs : List V} (hp : H p = none) (r : Rps K H ds vs) : Rp K (upd H p (.frz o (.lst vs))) (.lst ds) (.ref p) :=
  rp_lst.mpr ⟨p, o, vs, rfl, .inl upd_same, Rps.sl (fun a u e _ => by rw [upd_ne (ne_of_none e hp)]; exact e) _ _ r⟩
theorem same_new {H : Hp} {p : Addr} {o : HO} (h : H p = none) : Same H (upd H p o) := fun a u e => by rw [upd_ne (ne_of_none e h)]; exact e
theorem de_tup {n : Nat} (h : DA X ρ μ es ds μ1) (hl : ds.length ≤ 100000 := by simp) : DE X ρ μ (.Tuple es n pos) (.tup ds) μ1 :=
  ⟨PEw (pe_tup h.pa) fun σ H Q ⟨⟨g, m⟩, q⟩ => ⟨⟨g, m⟩, fun vs H1 s1 m1 r1 => ⟨by rw [← r1.length]; exact sz_of hl, fun p hp => q _ _ (s1.trans (SmB.new hp)) (m1.same (same_new hp)) (fr_tup hp r1)⟩⟩, h.ad⟩
theorem de_lst (h : DA X ρ μ es ds μ1) (hl : ds.length ≤ 100000 := by simp) : DE X ρ μ (.List es pos) (.lst ds) μ1 :=
  ⟨PEw (pe_frz (pe_lst h.pa)) fun σ H Q ⟨⟨g, m⟩, q⟩ => ⟨⟨g, m⟩, fun vs H1 s1 m1 r1 => ⟨by rw [← r1.length]; exact sz_of hl, fun p hp => .inr ⟨p, _, upd_same, trivial, fun o => by
    rw [upd_upd]
    exact q _ _ (s1.trans (SmB.new hp)) (m1.same (same_new hp)) (fr_lst hp r1)⟩⟩⟩, h.ad⟩

/-! ### subscripts, slices -/
theorem atI_rps {K : PySem.W.Frag} {H : Hp} {vs : List V} (r : Rps K H l vs) (h : atI l i = some d) : ∃ v, atI vs i = some v ∧ Rp K H d v := by
  unfold atI at h ⊢
  rw [← r.length]
  cases q : ixN l.length i with
  | none => rw [q] at h; cases h
  | some j =>
    rw [q] at h
    obtain ⟨v, e, rv⟩ := r.get (show l[j]? = some d from h)
    exact ⟨v, e, rv⟩
theorem de_ixR {r : R2} (hr : IxR X r) (hp : RP X.K r d1 d2 d) (ha : DE X ρ μ a d1 μ1) (hb : DE X ρ μ1 b d2 μ2) (hs : PlainIx b) : DE X ρ μ (.Subscript a b pos) d μ2 :=
  ⟨PEw (pe_ix hr ha.pe hb.pe hs) fun σ H Q ⟨⟨g, m⟩, q⟩ => seq2 ha.ad g m fun v1 v2 H' s' m' r1 r2 => hp v1 v2 H' Q r1 r2 fun v rv => q v H' s' m' rv, hb.ad.trans ha.ad⟩
theorem rpIxT {K : PySem.W.Frag} (h : atI l i = some d) : RP K (rIxT K) (.tup l) (.int i) d := fun v1 v2 H Q r1 r2 k => by
  obtain ⟨a, vs, rfl, q, r⟩ := rp_tup.mp r1
  obtain ⟨v, e, rv⟩ := atI_rps r h
  exact ⟨a, vs, i, v, rfl, rp_int.mp r2, q, e, k v rv⟩
theorem rpIxL {K : PySem.W.Frag} (h : atI l i = some d) : RP K (rIxL K) (.lst l) (.int i) d := fun v1 v2 H Q r1 r2 k => by
  obtain ⟨a, o, vs, rfl, q, r⟩ := rp_lst.mp r1
  obtain ⟨v, e, rv⟩ := atI_rps r h
  exact ⟨a, vs, i, v, rfl, rp_int.mp r2, q.sq, e, k v rv⟩
theorem de_ixT (ha : DE X ρ μ a (.tup l) μ1) (hb : DE X ρ μ1 b (.int i) μ2) (h : atI l i = some d) (hs : PlainIx b := by exact fun _ _ => rfl) : DE X ρ μ (.Subscript a b pos) d μ2 := de_ixR ix_tup (rpIxT h) ha hb hs
theorem de_ixL (ha : DE X ρ μ a (.lst l) μ1) (hb : DE X ρ μ1 b (.int i) μ2) (h : atI l i = some d) (hs : PlainIx b := by exact fun _ _ => rfl) : DE X ρ μ (.Subscript a b pos) d μ2 := de_ixR ix_list (rpIxL h) ha hb hs
/-- a part of a slice -/
def tOo (K : PySem.W.Frag) (ρ : Rho) (μ : Mus) (o : Option Int) (μ' : Mus) : TO := fun σ H Q => (Sg K H ρ σ ∧ Mu K H μ) ∧ ∀ H', SmB (Ad μ) H H' → Mu K H' μ' → Q o H'
structure DO (X : Cx) (ρ : Rho) (μ : Mus) (e : Option Expr) (o : Option Int) (μ' : Mus) : Prop where
  po : PO X e (tOo X.K ρ μ o μ')
  ad : Ad μ' = Ad μ
theorem POw {e : Option Expr} {t t' : TO} (h : PO X e t) (w : ∀ σ H Q, t' σ H Q → t σ H Q) : PO X e t' := ⟨fun pins s σ H Q I q => h.run pins s σ H Q I (w σ H Q q)⟩
theorem do_none : DO X ρ μ none none μ := ⟨POw po_none fun σ H Q ⟨⟨g, m⟩, q⟩ => q H (SmB.refl _ _) m, rfl⟩
theorem do_some (h : DE X ρ μ e (.int i) μ1) : DO X ρ μ (some e) (some i) μ1 := ⟨POw (po_some h.pe) fun σ H Q ⟨⟨g, m⟩, q⟩ => ⟨⟨g, m⟩, fun v H1 s1 m1 r => ⟨i, rp_int.mp r, q H1 s1 m1⟩⟩, h.ad⟩
/-- l[lo:hi] -/
def cut (l : List D) (lo hi : Option Int) : List D := (l.drop (HT.sIx l.length 0 lo)).take (HT.sIx l.length l.length hi - HT.sIx l.length 0 lo)
theorem rps_cut {K : PySem.W.Frag} {H : Hp} {vs : List V} {lo hi : Option Int} (r : Rps K H l vs) : Rps K H (cut l lo hi) (cutV vs lo hi) := by
  unfold cut cutV
  rw [← r.length]
  exact Rps.take _ (Rps.drop _ r)
theorem de_slT {lo hi : Option Expr} {x y : Option Int} {p2 : Pos} (ha : DE X ρ μ a (.tup l) μ1) (hl : DO X ρ μ1 lo x μ2) (hh : DO X ρ μ2 hi y μ3) : DE X ρ μ (.Subscript a (.Slice lo hi none p2) pos) (.tup (cut l x y)) μ3 := by
  refine ⟨PEw (pe_slice sl_tupA ha.pe hl.po hh.po) fun σ H Q ⟨⟨g, m⟩, q⟩ => ⟨⟨g, m⟩, fun v1 H1 s1 m1 r1 => ⟨⟨g.sl (s1.sl m), m1⟩, fun H2 s2 m2 => ⟨⟨(g.sl (s1.sl m)).sl (s2.sl m1), m2⟩, fun H3 s3 m3 => ?_⟩⟩⟩, hh.ad.trans (hl.ad.trans ha.ad)⟩
  have s2' : SmB (Ad μ) H1 H2 := by rw [← ha.ad]; exact s2
  have s3' : SmB (Ad μ) H2 H3 := by rw [← ha.ad, ← hl.ad]; exact s3
  have r3 := Rp.sl (s3.sl m2) _ _ (Rp.sl (s2.sl m1) _ _ r1)
  obtain ⟨p, vs, rfl, hq, rv⟩ := rp_tup.mp r3
  refine ⟨p, vs, rfl, hq, fun hw => ?_, fun _ b hb => ?_⟩
  · refine q _ _ ((s1.trans s2').trans s3') m3 (rp_tup.mpr ⟨p, vs, rfl, hq, ?_⟩)
    have e : cut l x y = l := by
      rw [← rv.length] at hw
      unfold cut
      rw [hw.1, hw.2]
      simp
    rw [e]
    exact rv
  · exact q _ _ (((s1.trans s2').trans s3').trans (SmB.new hb)) (m3.same (same_new hb)) (fr_tup hb (rps_cut rv))
theorem de_slL {lo hi : Option Expr} {x y : Option Int} {p2 : Pos} (ha : DE X ρ μ a (.lst l) μ1) (hl : DO X ρ μ1 lo x μ2) (hh : DO X ρ μ2 hi y μ3) : DE X ρ μ (.Subscript a (.Slice lo hi none p2) pos) (.lst (cut l x y)) μ3 := by
  refine ⟨PEw (pe_frz (pe_slice sl_list ha.pe hl.po hh.po)) fun σ H Q ⟨⟨g, m⟩, q⟩ => ⟨⟨g, m⟩, fun v1 H1 s1 m1 r1 => ⟨⟨g.sl (s1.sl m), m1⟩, fun H2 s2 m2 => ⟨⟨(g.sl (s1.sl m)).sl (s2.sl m1), m2⟩, fun H3 s3 m3 => ?_⟩⟩⟩, hh.ad.trans (hl.ad.trans ha.ad)⟩
  have s2' : SmB (Ad μ) H1 H2 := by rw [← ha.ad]; exact s2
  have s3' : SmB (Ad μ) H2 H3 := by rw [← ha.ad, ← hl.ad]; exact s3
  have r3 := Rp.sl (s3.sl m2) _ _ (Rp.sl (s2.sl m1) _ _ r1)
  obtain ⟨p, o, vs, rfl, hq, rv⟩ := rp_lst.mp r3
  refine ⟨p, vs, rfl, hq.sq, fun b hb => .inr ⟨b, _, upd_same, trivial, fun o2 => ?_⟩⟩
  rw [upd_upd]
  exact q _ _ (((s1.trans s2').trans s3').trans (SmB.new hb)) (m3.same (same_new hb)) (fr_lst hb (rps_cut rv))

/-! ### t + u -/
theorem de_catT {l1 l2 : List D} (ha : DE X ρ μ a (.tup l1) μ1) (hb : DE X ρ μ1 b (.tup l2) μ2) (hz : l1.length + l2.length ≤ 100000) : DE X ρ μ (.BinOp a .Add b pos) (.tup (l1 ++ l2)) μ2 := by
  refine ⟨PEw (pe_op op_catA ha.pe hb.pe) fun σ H Q ⟨⟨g, m⟩, q⟩ => seq2 ha.ad g m fun v1 v2 H' s' m' r1 r2 => ?_, hb.ad.trans ha.ad⟩
  obtain ⟨p1, vs1, rfl, q1, w1⟩ := rp_tup.mp r1
  obtain ⟨p2, vs2, rfl, q2, w2⟩ := rp_tup.mp r2
  refine ⟨p1, p2, vs1, vs2, rfl, rfl, q1, q2, by rw [← w1.length, ← w2.length]; exact sz_of hz, fun e => ?_, fun _ e => ?_, fun _ _ p hp => ?_⟩
  · have : l1 = [] := List.length_eq_zero_iff.mp (by rw [w1.length, e]; rfl)
    subst this
    exact q _ H' s' m' (by rw [List.nil_append]; exact r2)
  · have : l2 = [] := List.length_eq_zero_iff.mp (by rw [w2.length, e]; rfl)
    subst this
    exact q _ H' s' m' (by rw [List.append_nil]; exact r1)
  · exact q _ _ (s'.trans (SmB.new hp)) (m'.same (same_new hp)) (fr_tup hp (w1.append w2))
/-- lists, whatever reads as one -/
def rCatQ (K : PySem.W.Frag) : R2 := fun x y H Q => ∃ l b xs zs, x = .ref l ∧ y = .ref b ∧ SqL K H l xs ∧ SqL K H b zs ∧ xs.length + zs.length ≤ sizeLine ∧ ∀ p, H p = none → Q (.ref p) (upd H p (.lst (xs ++ zs)))
end
end PD

/-! The functional reading, further: calls of built-ins, of defs; statements; a def by its body. -/
namespace PD
open PySem PySem.Spec PyProof.Rows L2

/-! ### built-ins by values -/
def RC (K : PySem.W.Frag) (r : List V → Hp → VK → Prop) (ds : List D) (d : D) : Prop := ∀ (vs : List V) (H : Hp) (Q : VK), Rps K H ds vs → (∀ v, Rp K H d v → Q v H) → r vs H Q
/-- .. that lay a new object, which is locked -/
def RN (K : PySem.W.Frag) (r : List V → Hp → VK → Prop) (ds : List D) (d : D) : Prop := ∀ (vs : List V) (H : Hp) (Q : VK), Rps K H ds vs →
  (∀ p u, H p = none → Mut (some u) → (∀ o, Rp K (upd H p (.frz o u)) d (.ref p)) → Q (.ref p) (upd H p u)) → r vs H Q
section
variable {X : Cx} {ρ : Rho} {μ μ1 μ2 μ3 μ' : Mus} {a b c e : Expr} {es : List Expr} {d d1 d2 d3 : D} {ds l : List D} {p pos : Pos} {i j : Int} {k k1 k2 : Bool} {x : Str}
theorem de_callB {id : String} {r : List V → Hp → VK → Prop} (hc : CallR X (.builtin id) r) (hr : RC X.K r ds d) (hm : X.mg x = none) (hv : bootBuiltins x = some (.builtin id)) (ha : DA X ρ μ (e :: es) ds μ1) (hg : Gl X x := by rfl) (hn : x ≠ "__name__" := by decide) (hdb : (x == ("__debug__" : Str)) = false := by decide)
    (he : starEach (e :: es) X.env = (false, eval e X.env) :: starEach es X.env := by rfl) (hpl : (backTo pos (starEach es X.env)).any (·.1) = false := by rfl) : DE X ρ μ (.Call (.Name x p) (e :: es) [] pos) d μ1 :=
  ⟨PEw (pe_callB hc hg hm hv ha.pa hn hdb he hpl) fun σ H Q ⟨⟨g, m⟩, q⟩ => ⟨⟨g, m⟩, fun vs H1 s1 m1 r1 => hr vs H1 Q r1 fun v rv => q v H1 s1 m1 rv⟩, ha.ad⟩
theorem de_callT {T : String} {r : List V → Hp → VK → Prop} (hc : CallR X (.type T) r) (hr : RC X.K r ds d) (hm : X.mg x = none) (hv : bootBuiltins x = some (.type T)) (ha : DA X ρ μ (e :: es) ds μ1) (hg : Gl X x := by rfl) (hn : x ≠ "__name__" := by decide) (hdb : (x == ("__debug__" : Str)) = false := by decide)
    (he : starEach (e :: es) X.env = (false, eval e X.env) :: starEach es X.env := by rfl) (hpl : (backTo pos (starEach es X.env)).any (·.1) = false := by rfl) : DE X ρ μ (.Call (.Name x p) (e :: es) [] pos) d μ1 :=
  ⟨PEw (pe_callTy hc hg hm hv ha.pa hn hdb he hpl) fun σ H Q ⟨⟨g, m⟩, q⟩ => ⟨⟨g, m⟩, fun vs H1 s1 m1 r1 => hr vs H1 Q r1 fun v rv => q v H1 s1 m1 rv⟩, ha.ad⟩
theorem rn_end {H H1 : Hp} {Q : VK} (m1 : Mu X.K H1 μ1) (s1 : SmB (Ad μ) H H1) (q : ∀ v H', SmB (Ad μ) H H' → Mu X.K H' μ1 → Rp X.K H' d v → Q v H') {p : Addr} {u : HO} (hp : H1 p = none) (mu : Mut (some u)) (hr : ∀ o, Rp X.K (upd H1 p (.frz o u)) d (.ref p)) :
    Q (.ref p) (upd H1 p u) ∨ ∃ p' u', (upd H1 p u) p' = some u' ∧ Mut (some u') ∧ ∀ o, Q (.ref p) (upd (upd H1 p u) p' (.frz o u')) :=
  .inr ⟨p, u, upd_same, mu, fun o => by
    rw [upd_upd]
    exact q _ _ (s1.trans (SmB.new hp)) (m1.same (same_new hp)) (hr o)⟩
theorem de_callBN {id : String} {r : List V → Hp → VK → Prop} (hc : CallR X (.builtin id) r) (hr : RN X.K r ds d) (hm : X.mg x = none) (hv : bootBuiltins x = some (.builtin id)) (ha : DA X ρ μ (e :: es) ds μ1) (hg : Gl X x := by rfl) (hn : x ≠ "__name__" := by decide) (hdb : (x == ("__debug__" : Str)) = false := by decide)
    (he : starEach (e :: es) X.env = (false, eval e X.env) :: starEach es X.env := by rfl) (hpl : (backTo pos (starEach es X.env)).any (·.1) = false := by rfl) : DE X ρ μ (.Call (.Name x p) (e :: es) [] pos) d μ1 :=
  ⟨PEw (pe_frz (pe_callB hc hg hm hv ha.pa hn hdb he hpl)) fun σ H Q ⟨⟨g, m⟩, q⟩ => ⟨⟨g, m⟩, fun vs H1 s1 m1 r1 => hr vs H1 _ r1 fun p u hp mu hr' => rn_end m1 s1 q hp mu hr'⟩, ha.ad⟩
theorem de_callTN {T : String} {r : List V → Hp → VK → Prop} (hc : CallR X (.type T) r) (hr : RN X.K r ds d) (hm : X.mg x = none) (hv : bootBuiltins x = some (.type T)) (ha : DA X ρ μ (e :: es) ds μ1) (hg : Gl X x := by rfl) (hn : x ≠ "__name__" := by decide) (hdb : (x == ("__debug__" : Str)) = false := by decide)
    (he : starEach (e :: es) X.env = (false, eval e X.env) :: starEach es X.env := by rfl) (hpl : (backTo pos (starEach es X.env)).any (·.1) = false := by rfl) : DE X ρ μ (.Call (.Name x p) (e :: es) [] pos) d μ1 :=
  ⟨PEw (pe_frz (pe_callTy hc hg hm hv ha.pa hn hdb he hpl)) fun σ H Q ⟨⟨g, m⟩, q⟩ => ⟨⟨g, m⟩, fun vs H1 s1 m1 r1 => hr vs H1 _ r1 fun p u hp mu hr' => rn_end m1 s1 q hp mu hr'⟩, ha.ad⟩
/-! max, min of two ints -/
theorem int_max (i j : Int) : (if j > i then j else i) = max i j := by
  by_cases h : j > i
  · rw [if_pos h]; omega
  · rw [if_neg h]; omega
theorem int_min (i j : Int) : (if j < i then j else i) = min i j := by
  by_cases h : j < i
  · rw [if_pos h]; omega
  · rw [if_neg h]; omega
theorem one2 {K : PySem.W.Frag} {H : Hp} {vs : List V} (r : Rps K H [.int i, .int j] vs) : vs = [.int i, .int j] := by
  obtain ⟨v, t, rfl, h1, h2⟩ := rps_cons.mp r
  obtain ⟨w, t2, rfl, h3, h4⟩ := rps_cons.mp h2
  rw [rp_int.mp h1, rp_int.mp h3, rps_nil.mp h4]
theorem one1 {K : PySem.W.Frag} {H : Hp} {vs : List V} (r : Rps K H [d] vs) : ∃ v, vs = [v] ∧ Rp K H d v := by
  obtain ⟨v, t, rfl, h1, h2⟩ := rps_cons.mp r
  rw [rps_nil.mp h2]
  exact ⟨v, rfl, h1⟩
theorem de_max2 (hm : X.mg "max" = none) (ha : DA X ρ μ [a, b] [.int i, .int j] μ1) (hc : X.calm = true := by rfl) (hg : Gl X "max" := by rfl) (he : starEach [a, b] X.env = (false, eval a X.env) :: starEach [b] X.env := by rfl) (hpl : (backTo pos (starEach [b] X.env)).any (·.1) = false := by rfl) :
    DE X ρ μ (.Call (.Name "max" p) [a, b] [] pos) (.int (max i j)) μ1 :=
  de_callB (call_max2 hc) (fun vs H Q r q => ⟨i, j, one2 r, by rw [int_max]; exact q _ (rp_int.mpr rfl)⟩) hm (by decide +kernel) ha hg (by decide) (by decide) he hpl
theorem de_min2 (hm : X.mg "min" = none) (ha : DA X ρ μ [a, b] [.int i, .int j] μ1) (hc : X.calm = true := by rfl) (hg : Gl X "min" := by rfl) (he : starEach [a, b] X.env = (false, eval a X.env) :: starEach [b] X.env := by rfl) (hpl : (backTo pos (starEach [b] X.env)).any (·.1) = false := by rfl) :
    DE X ρ μ (.Call (.Name "min" p) [a, b] [] pos) (.int (min i j)) μ1 :=
  de_callB (call_min2 hc) (fun vs H Q r q => ⟨i, j, one2 r, by rw [int_min]; exact q _ (rp_int.mpr rfl)⟩) hm (by decide +kernel) ha hg (by decide) (by decide) he hpl
/-! max, min, sum of a list of ints; all, any of a list of bools -/
def mxI : List Int → Int
  | [] => 0
  | [x] => x
  | x :: y :: r => max x (mxI (y :: r))
def mnI : List Int → Int
  | [] => 0
  | [x] => x
  | x :: y :: r => min x (mnI (y :: r))
theorem mxI_mem : ∀ {l : List Int}, l ≠ [] → mxI l ∈ l
  | [], h => absurd rfl h
  | [x], _ => by simp [mxI]
  | x :: y :: r, _ => by
    have ih := mxI_mem (l := y :: r) (by simp)
    unfold mxI
    rcases Int.le_total x (mxI (y :: r)) with h | h
    · rw [Int.max_eq_right h]; exact List.mem_cons_of_mem _ ih
    · rw [Int.max_eq_left h]; exact List.mem_cons_self
theorem mxI_ge : ∀ {l : List Int} {z : Int}, z ∈ l → z ≤ mxI l
  | [x], z, h => by have : z = x := by simpa using h
                    subst this; exact Int.le_refl _
  | x :: y :: r, z, h => by
    unfold mxI
    rcases List.mem_cons.mp h with rfl | h
    · omega
    · have := mxI_ge h; omega
theorem mxI_eq {l : List Int} {z : Int} (h : z ∈ l) (g : ∀ y ∈ l, y ≤ z) : z = mxI l := Int.le_antisymm (mxI_ge h) (g _ (mxI_mem (by rintro rfl; cases h)))
theorem mnI_mem : ∀ {l : List Int}, l ≠ [] → mnI l ∈ l
  | [], h => absurd rfl h
  | [x], _ => by simp [mnI]
  | x :: y :: r, _ => by
    have ih := mnI_mem (l := y :: r) (by simp)
    unfold mnI
    rcases Int.le_total x (mnI (y :: r)) with h | h
    · rw [Int.min_eq_left h]; exact List.mem_cons_self
    · rw [Int.min_eq_right h]; exact List.mem_cons_of_mem _ ih
theorem mnI_le : ∀ {l : List Int} {z : Int}, z ∈ l → mnI l ≤ z
  | [x], z, h => by have : z = x := by simpa using h
                    subst this; exact Int.le_refl _
  | x :: y :: r, z, h => by
    unfold mnI
    rcases List.mem_cons.mp h with rfl | h
    · omega
    · have := mnI_le h; omega
theorem mnI_eq {l : List Int} {z : Int} (h : z ∈ l) (g : ∀ y ∈ l, z ≤ y) : z = mnI l := Int.le_antisymm (g _ (mnI_mem (by rintro rfl; cases h))) (mnI_le h)
theorem lstI {K : PySem.W.Frag} {H : Hp} {vs : List V} {ns : List Int} (r : Rps K H [.lst (ns.map D.int)] vs) : ∃ a, vs = [.ref a] ∧ SqL K H a (ns.map V.int) := by
  obtain ⟨v, rfl, h⟩ := one1 r
  obtain ⟨a, o, ws, rfl, e, rr⟩ := rp_lst.mp h
  rw [rps_ints_eq rr] at e
  exact ⟨a, rfl, e.sq⟩
theorem lstB {K : PySem.W.Frag} {H : Hp} {vs : List V} {ns : List Bool} (r : Rps K H [.lst (ns.map D.bl)] vs) : ∃ a, vs = [.ref a] ∧ SqL K H a (ns.map V.bl) := by
  obtain ⟨v, rfl, h⟩ := one1 r
  obtain ⟨a, o, ws, rfl, e, rr⟩ := rp_lst.mp h
  rw [rps_bls_eq rr] at e
  exact ⟨a, rfl, e.sq⟩
variable {ns : List Int} {bs : List Bool}
theorem de_maxL (hm : X.mg "max" = none) (ha : DE X ρ μ a (.lst (ns.map D.int)) μ1) (hne : ns ≠ []) (hc : X.calm = true := by rfl) (hg : Gl X "max" := by rfl) (he : starEach [a] X.env = (false, eval a X.env) :: starEach [] X.env := by rfl) :
    DE X ρ μ (.Call (.Name "max" p) [a] [] pos) (.int (mxI ns)) μ1 :=
  de_callB (cr_max hc) (fun vs H Q r q => let ⟨a', e, s⟩ := lstI r; ⟨a', ns, e, s, List.length_pos_iff.mpr hne, fun m h1 h2 => by rw [mxI_eq h1 h2]; exact q _ (rp_int.mpr rfl)⟩) hm (by decide +kernel) (da_cons ha da_nil he) hg (by decide) (by decide) he rfl
theorem de_minL (hm : X.mg "min" = none) (ha : DE X ρ μ a (.lst (ns.map D.int)) μ1) (hne : ns ≠ []) (hc : X.calm = true := by rfl) (hg : Gl X "min" := by rfl) (he : starEach [a] X.env = (false, eval a X.env) :: starEach [] X.env := by rfl) :
    DE X ρ μ (.Call (.Name "min" p) [a] [] pos) (.int (mnI ns)) μ1 :=
  de_callB (cr_min hc) (fun vs H Q r q => let ⟨a', e, s⟩ := lstI r; ⟨a', ns, e, s, List.length_pos_iff.mpr hne, fun m h1 h2 => by rw [mnI_eq h1 h2]; exact q _ (rp_int.mpr rfl)⟩) hm (by decide +kernel) (da_cons ha da_nil he) hg (by decide) (by decide) he rfl
theorem de_sumL (hm : X.mg "sum" = none) (ha : DE X ρ μ a (.lst (ns.map D.int)) μ1) (hc : X.calm = true := by rfl) (hg : Gl X "sum" := by rfl) (he : starEach [a] X.env = (false, eval a X.env) :: starEach [] X.env := by rfl) :
    DE X ρ μ (.Call (.Name "sum" p) [a] [] pos) (.int ns.sum) μ1 :=
  de_callB (cr_sum hc) (fun vs H Q r q => let ⟨a', e, s⟩ := lstI r; ⟨a', ns, e, s, q _ (rp_int.mpr rfl)⟩) hm (by decide +kernel) (da_cons ha da_nil he) hg (by decide) (by decide) he rfl
theorem de_allL (hm : X.mg "all" = none) (ha : DE X ρ μ a (.lst (bs.map D.bl)) μ1) (hc : X.calm = true := by rfl) (hg : Gl X "all" := by rfl) (he : starEach [a] X.env = (false, eval a X.env) :: starEach [] X.env := by rfl) :
    DE X ρ μ (.Call (.Name "all" p) [a] [] pos) (.bl (bs.all id)) μ1 :=
  de_callB (cr_all hc) (fun vs H Q r q => let ⟨a', e, s⟩ := lstB r; ⟨a', bs, e, s, q _ (rp_bl.mpr rfl)⟩) hm (by decide +kernel) (da_cons ha da_nil he) hg (by decide) (by decide) he rfl
theorem de_anyL (hm : X.mg "any" = none) (ha : DE X ρ μ a (.lst (bs.map D.bl)) μ1) (hc : X.calm = true := by rfl) (hg : Gl X "any" := by rfl) (he : starEach [a] X.env = (false, eval a X.env) :: starEach [] X.env := by rfl) :
    DE X ρ μ (.Call (.Name "any" p) [a] [] pos) (.bl (bs.any id)) μ1 :=
  de_callB (cr_any hc) (fun vs H Q r q => let ⟨a', e, s⟩ := lstB r; ⟨a', bs, e, s, q _ (rp_bl.mpr rfl)⟩) hm (by decide +kernel) (da_cons ha da_nil he) hg (by decide) (by decide) he rfl
/-! len, int(n), isinstance -/
theorem de_lenL (hm : X.mg "len" = none) (ha : DE X ρ μ a (.lst l) μ1) (hg : Gl X "len" := by rfl) (he : starEach [a] X.env = (false, eval a X.env) :: starEach [] X.env := by rfl) :
    DE X ρ μ (.Call (.Name "len" p) [a] [] pos) (.int l.length) μ1 :=
  de_callB call_len_seq (fun vs H Q r q => by
    obtain ⟨v, rfl, h⟩ := one1 r
    obtain ⟨a', o, ws, rfl, e, rr⟩ := rp_lst.mp h
    exact ⟨a', ws, rfl, .inl e.sq, q _ (rp_int.mpr (by rw [rr.length]))⟩) hm boot_len (da_cons ha da_nil he) hg (by decide) (by decide) he rfl
theorem de_lenT (hm : X.mg "len" = none) (ha : DE X ρ μ a (.tup l) μ1) (hg : Gl X "len" := by rfl) (he : starEach [a] X.env = (false, eval a X.env) :: starEach [] X.env := by rfl) :
    DE X ρ μ (.Call (.Name "len" p) [a] [] pos) (.int l.length) μ1 :=
  de_callB call_len_seq (fun vs H Q r q => by
    obtain ⟨v, rfl, h⟩ := one1 r
    obtain ⟨a', ws, rfl, e, rr⟩ := rp_tup.mp h
    exact ⟨a', ws, rfl, .inr e, q _ (rp_int.mpr (by rw [rr.length]))⟩) hm boot_len (da_cons ha da_nil he) hg (by decide) (by decide) he rfl
theorem de_intI (hm : X.mg "int" = none) (ha : DE X ρ μ a (.int i) μ1) (hg : Gl X "int" := by rfl) (he : starEach [a] X.env = (false, eval a X.env) :: starEach [] X.env := by rfl) :
    DE X ρ μ (.Call (.Name "int" p) [a] [] pos) (.int i) μ1 :=
  de_callT call_int1 (fun vs H Q r q => by
    obtain ⟨v, rfl, h⟩ := one1 r
    rw [rp_int.mp h]
    exact .inl ⟨i, rfl, q _ (rp_int.mpr rfl)⟩) hm (by decide +kernel) (da_cons ha da_nil he) hg (by decide) (by decide) he rfl
/-- a datum's own built-in type -/
def D.ty : D → Option String
  | .non => some "NoneType" | .bl _ => some "bool" | .int _ => some "int" | .str _ => some "str" | .tup _ => some "tuple" | .lst _ => some "list" | .dct _ _ => some "dict" | .adr _ => none
theorem tyx_of {K : PySem.W.Frag} {H : Hp} {v : V} {t : String} (h : d.ty = some t) (r : Rp K H d v) : TyX K H v (.type t) := by
  cases d with
  | non => cases h; rw [rp_non.mp r]; exact .base .non
  | bl b => cases h; rw [rp_bl.mp r]; exact .base (.bl b)
  | int b => cases h; rw [rp_int.mp r]; exact .base (.int b)
  | str b => cases h; rw [rp_str.mp r]; exact .base (.str b)
  | tup l =>
    cases h
    obtain ⟨a, vs, rfl, q, _⟩ := rp_tup.mp r
    rcases q with (q | ⟨o, q⟩) | ⟨o, its, n, q, c, _⟩
    · exact .base (.tup q)
    · exact .fTuple q
    · exact .kTuple q c
  | lst l =>
    cases h
    obtain ⟨a, o, vs, rfl, q, _⟩ := rp_lst.mp r
    rcases q with q | ⟨q, c, _⟩
    · exact .base (.frz q)
    · exact .kList q c
  | dct ks l => cases h; obtain ⟨a, o, vs, rfl, q, _⟩ := rp_dct.mp r; exact .fDict q
  | adr a => cases h
/-- whether a datum is of a built-in type -/
def D.isA (d : D) (T : String) : Bool := match d.ty with
  | some t => (kitB t T).getD false
  | none => false
theorem de_isi {T y : Str} {Tn t : String} {p2 : Pos} (hm : X.mg "isinstance" = none) (hmT : X.mg T = none) (hvT : bootBuiltins T = some (.type Tn)) (ha : DE X ρ μ a d μ1) (ht : d.ty = some t) (hk : kitB t Tn = some k)
    (hg : Gl X "isinstance" := by rfl) (hgT : Gl X T := by rfl) (hnT : T ≠ "__name__" := by decide) (hdT : (T == ("__debug__" : Str)) = false := by decide)
    (he : starEach [a, .Name T p2] X.env = (false, eval a X.env) :: starEach [.Name T p2] X.env := by rfl) (he2 : starEach [.Name T p2] X.env = (false, eval (.Name T p2) X.env) :: starEach [] X.env := by rfl) (hpl : (backTo pos (starEach [.Name T p2] X.env)).any (·.1) = false := by rfl) :
    DE X ρ μ (.Call (.Name "isinstance" p) [a, .Name T p2] [] pos) (.bl k) μ1 := by
  refine ⟨PEw (pe_callB call_isi hg hm (by decide +kernel) (pa_cons ha.pe (pa_cons (pe_bltn (v := .ty Tn) hgT hmT hvT rfl hnT hdT) pa_nil he2) he) (by decide) (by decide) he hpl) fun σ H Q ⟨⟨g, m⟩, q⟩ => ⟨⟨g, m⟩, fun v1 H1 s1 m1 r1 => ?_⟩, ha.ad⟩
  exact ⟨v1, .ty Tn, _, _, k, rfl, .ty Tn, tyx_of ht r1, kit_ty hk, q _ H1 s1 m1 (rp_bl.mpr rfl)⟩
/-! list(range(n)), tuple(list), dict(dict) -/
theorem de_listRg {p2 : Pos} {n : Int} (hm : X.mg "list" = none) (hm2 : X.mg "range" = none) (ha : DE X ρ μ a (.int n) μ1) (hn : 0 ≤ n ∧ n ≤ 100000) (hc : X.calm = true := by rfl) (hg : Gl X "list" := by rfl) (hg2 : Gl X "range" := by rfl)
    (na : starEach [a] X.env = (false, eval a X.env) :: starEach [] X.env := by rfl) (nb : starEach [.Call (.Name "range" p2) [a] [] c2] X.env = (false, eval (.Call (.Name "range" p2) [a] [] c2) X.env) :: starEach [] X.env := by rfl) :
    DE X ρ μ (.Call (.Name "list" p) [.Call (.Name "range" p2) [a] [] c2] [] pos) (.lst ((List.range n.toNat).map fun i => D.int (i : Nat))) μ1 := by
  refine ⟨PEw (pe_frz (pe_listRg hc hg hm (prg_1 hg2 hm2 ha.pe na) nb)) fun σ H Q ⟨⟨g, m⟩, q⟩ => ⟨⟨g, m⟩, fun v1 H1 s1 m1 r1 => ⟨n, rp_int.mp r1, RgOk.of_le (by omega) (by omega) (by omega) (by omega), fun b hb => rn_end m1 s1 q hb trivial fun o => ?_⟩⟩, ha.ad⟩
  refine fr_lst hb ?_
  unfold rgV
  rw [show n - 0 = n by omega]
  have key : ∀ l : List Nat, Rps X.K H1 (l.map fun i => D.int (i : Nat)) (l.map fun i => V.int (0 + (i : Nat))) := fun l => by
    induction l with
    | nil => exact Rps.nl
    | cons z r ih => exact Rps.cn (rp_int.mpr (by simp)) ih
  exact key _
theorem de_tupL (hm : X.mg "tuple" = none) (ha : DE X ρ μ a (.lst l) μ1) (hg : Gl X "tuple" := by rfl) (he : starEach [a] X.env = (false, eval a X.env) :: starEach [] X.env := by rfl) (hz : l.length ≤ 100000) :
    DE X ρ μ (.Call (.Name "tuple" p) [a] [] pos) (.tup l) μ1 :=
  ⟨PEw (pe_callTy call_tuple_of hg hm (by decide +kernel) (da_cons ha da_nil he).pa (by decide) (by decide) he rfl) fun σ H Q ⟨⟨g, m⟩, q⟩ => ⟨⟨g, m⟩, fun vs H1 s1 m1 r1 => by
    obtain ⟨v, rfl, h⟩ := one1 r1
    obtain ⟨a', o, ws, rfl, e, rr⟩ := rp_lst.mp h
    exact ⟨a', ws, rfl, .inl ⟨e.sq, fun b hb => q _ _ (s1.trans (SmB.new hb)) (m1.same (same_new hb)) (fr_tup hb rr)⟩⟩⟩, ha.ad⟩
end

/-! ### defs: what is promised of data -/
/-- R: the arguments, what changes; the answer, what is left of it -/
abbrev Rel := List D → Mus → D → Mus → Prop
def spM (K : PySem.W.Frag) (R : Rel) : Sp := fun vs H Q _ => ∃ ds μ d μ', Rps K H ds vs ∧ Mu K H μ ∧ R ds μ d μ' ∧ ∀ v H', SmB (Ad μ) H H' → Mu K H' μ' → Rp K H' d v → Q v H'
/-- nothing changes -/
def Pure (R : List D → D → Prop) : Rel := fun ds μ d μ' => μ = [] ∧ μ' = [] ∧ R ds d
/-- one thing changes -/
def One (R : List D → Addr → MO → D → MO → Prop) : Rel := fun ds μ d μ' => ∃ a m m', μ = [(a, m)] ∧ μ' = [(a, m')] ∧ R ds a m d m'
structure Cal (P : Program) (w : World) (K : PySem.W.Frag) (mg : Str → Option Value) (base : Heap) (x : Str) (k : Nat) (R : Rel) : Prop where
  ex : ∃ (f : Addr) (fd : FuncData) (ps : List Str), FnOk P w K mg base CX0 k f fd ps (spM K R) ∧ mg x = some (.ref f) ∧ PySem.W.keepIn K (.ref f) = true ∧ Binds K fd ps []
section
variable {X : Cx} {ρ : Rho} {μ μ1 μ2 μ3 μ' : Mus} {a b c e : Expr} {es : List Expr} {d d1 d2 d3 : D} {ds l : List D} {p pos : Pos} {x : Str} {n : Nat}
theorem de_call {R : List D → D → Prop} (C : Cal X.prog X.w X.K X.mg X.base x n (Pure R)) (hr : Room n X.A) (ha : DA X ρ μ (e :: es) ds μ1) (h : R ds d) (hg : Gl X x := by rfl) (hdb : (x == ("__debug__" : Str)) = false := by decide)
    (he : starEach (e :: es) X.env = (false, eval e X.env) :: starEach es X.env := by rfl) (hpl : (backTo pos (starEach es X.env)).any (·.1) = false := by rfl) : DE X ρ μ (.Call (.Name x p) (e :: es) [] pos) d μ1 := by
  obtain ⟨f, fd, ps, F, hm, hk, hb⟩ := C.ex
  refine ⟨PEw (pe_call F hr hg hm hk hb .nil (pass0 (X := X)) ha.pa hdb he hpl) fun σ H Q ⟨⟨g, m⟩, q⟩ => ⟨⟨g, m⟩, fun vs H1 s1 m1 r1 => ?_⟩, ha.ad⟩
  show spM X.K (Pure R) (vs ++ []) H1 Q E0
  rw [List.append_nil]
  exact ⟨ds, [], d, [], r1, Mu.nl, ⟨rfl, rfl, h⟩, fun v H' s' _ rv => q v H' (s1.trans (SmB.same (SmB.nil s'))) (m1.same (SmB.nil s')) rv⟩
theorem de_call0 {R : List D → D → Prop} (C : Cal X.prog X.w X.K X.mg X.base x n (Pure R)) (hr : Room n X.A) (h : R [] d) (hg : Gl X x := by rfl) (hdb : (x == ("__debug__" : Str)) = false := by decide) : DE X ρ μ (.Call (.Name x p) [] [] pos) d μ := by
  obtain ⟨f, fd, ps, F, hm, hk, hb⟩ := C.ex
  refine ⟨PEw (pe_call0 F hr hg hm hk hb .nil (pass0 (X := X)) hdb) fun σ H Q ⟨⟨g, m⟩, q⟩ => ?_, rfl⟩
  exact ⟨[], [], d, [], Rps.nl, Mu.nl, ⟨rfl, rfl, h⟩, fun v H' s' _ rv => q v H' (SmB.same (SmB.nil s')) (m.same (SmB.nil s')) rv⟩
/-- what changes stands first in μ -/
theorem de_call1 {R : List D → Addr → MO → D → MO → Prop} {A : Addr} {m0 m0' : MO} (C : Cal X.prog X.w X.K X.mg X.base x n (One R)) (hr : Room n X.A) (ha : DA X ρ μ (e :: es) ds ((A, m0) :: μ1)) (h : R ds A m0 d m0') (hA : A ∉ Ad μ1) (hg : Gl X x := by rfl) (hdb : (x == ("__debug__" : Str)) = false := by decide)
    (he : starEach (e :: es) X.env = (false, eval e X.env) :: starEach es X.env := by rfl) (hpl : (backTo pos (starEach es X.env)).any (·.1) = false := by rfl) : DE X ρ μ (.Call (.Name x p) (e :: es) [] pos) d ((A, m0') :: μ1) := by
  obtain ⟨f, fd, ps, F, hm, hk, hb⟩ := C.ex
  refine ⟨PEw (pe_call F hr hg hm hk hb .nil (pass0 (X := X)) ha.pa hdb he hpl) fun σ H Q ⟨⟨g, m⟩, q⟩ => ⟨⟨g, m⟩, fun vs H1 s1 m1 r1 => ?_⟩, ha.ad⟩
  show spM X.K (One R) (vs ++ []) H1 Q E0
  rw [List.append_nil]
  refine ⟨ds, [(A, m0)], d, [(A, m0')], r1, Mu.cn m1.hd Mu.nl, ⟨A, m0, m0', rfl, rfl, h⟩, fun v H' s' m' rv => q v H' (s1.trans (s'.mono fun b hb => ?_)) (Mu.cn m'.hd fun p hp => ?_) rv⟩
  · have e1 : b = A := by simpa using hb
    rw [e1, ← ha.ad]
    exact List.mem_cons_self
  · have sl := SmB.sl (Mu.cn m1.hd Mu.nl) s'
    refine (m1.tl p hp).keep sl fun u eu => s' _ u (fun z => ?_) eu
    have e1 : p.1 = A := by simpa using z
    exact hA (e1 ▸ List.mem_map_of_mem hp)
end

/-! ### statements -/
/-- what a def's body is held to: H0 its entry, M what it may change -/
structure Bs where
  M : Addr → Prop
  H0 : Hp
def Bs.ok (b : Bs) (H : Hp) : Prop := ∀ a u, ¬ b.M a → b.H0 a = some u → H a = some u
def Bs.may (b : Bs) (a : Addr) : Prop := b.M a ∨ b.H0 a = none
inductive O where
  | nx (ρ : Rho) (μ : Mus) | ret (d : D) (μ : Mus) | bk (ρ : Rho) (μ : Mus) | ct (ρ : Rho) (μ : Mus)
structure Sta (K : PySem.W.Frag) (b : Bs) (G : Hp) (ρ : Rho) (μ : Mus) (σ : L2.St) (H : Hp) : Prop where
  sg : Sg K H ρ σ
  mu : Mu K H μ
  ok : b.ok H
  sl : Sl G H
  may : ∀ a ∈ Ad μ, b.may a
def fin (K : PySem.W.Frag) (b : Bs) (G : Hp) : O → Ends → Prop
  | .nx ρ μ, D => ∀ σ H, Sta K b G ρ μ σ H → D.nx σ H
  | .ret d μ, D => ∀ v H, b.ok H → Sl G H → Mu K H μ → Rp K H d v → D.rt v H
  | .bk ρ μ, D => ∀ σ H, Sta K b G ρ μ σ H → D.bk σ H
  | .ct ρ μ, D => ∀ σ H, Sta K b G ρ μ σ H → D.ct σ H
def tO (K : PySem.W.Frag) (b : Bs) (G : Hp) (ρ : Rho) (μ : Mus) (o : O) : TS := fun D σ H => Sta K b G ρ μ σ H ∧ fin K b G o D
def DS (X : Cx) (b : Bs) (ρ : Rho) (μ : Mus) (st : Stmt) (o : O) : Prop := ∀ G, PS X st (tO X.K b G ρ μ o)
def DSs (X : Cx) (b : Bs) (ρ : Rho) (μ : Mus) (st : List Stmt) (o : O) : Prop := ∀ G, PSs X st (tO X.K b G ρ μ o)
section
variable {K : PySem.W.Frag} {b : Bs} {G : Hp} {ρ : Rho} {μ μ' : Mus} {σ : L2.St} {H H' : Hp}
theorem Sta.step (S : Sta K b G ρ μ σ H) (s : SmB (Ad μ) H H') (m : Mu K H' μ') (ha : Ad μ' = Ad μ) : Sta K b G ρ μ' σ H' := by
  refine ⟨S.sg.sl (s.sl S.mu), m, fun a u n e => ?_, S.sl.trans (s.sl S.mu), fun a h => S.may a (ha ▸ h)⟩
  refine s a u (fun h => ?_) (S.ok a u n e)
  rcases S.may a h with z | z
  · exact n z
  · rw [z] at e; cases e
end
/-- an outcome that is no next -/
def O.end_ : O → Bool
  | .nx _ _ => false
  | _ => true
theorem fin_end {K : PySem.W.Frag} {b : Bs} {G : Hp} {o : O} (h : o.end_ = true) {D D' : Ends} (r : D'.rt = D.rt) (k : D'.bk = D.bk) (c : D'.ct = D.ct) (f : fin K b G o D) : fin K b G o D' := by
  cases o with
  | nx _ _ => cases h
  | ret d μ => intro v H a g m q; rw [r]; exact f v H a g m q
  | bk ρ μ => intro σ H s; rw [k]; exact f σ H s
  | ct ρ μ => intro σ H s; rw [c]; exact f σ H s
section
variable {X : Cx} {b : Bs} {ρ ρ1 ρ' : Rho} {μ μ1 μ2 μ' : Mus} {e c : Expr} {st : Stmt} {rest A B : List Stmt} {o : O} {d : D} {pos : Pos} {k : Bool}
theorem dss_nil : DSs X b ρ μ [] (.nx ρ μ) := fun G => PSsw pss_nil fun D σ H ⟨S, f⟩ => f σ H S
theorem dss_cons (h : DS X b ρ μ st (.nx ρ1 μ1)) (r : DSs X b ρ1 μ1 rest o) : DSs X b ρ μ (st :: rest) o :=
  fun G => PSsw (pss_cons (h G) (r G)) fun D σ H ⟨S, f⟩ => ⟨S, fun σ' H' S' => ⟨S', f⟩⟩
theorem dss_stop (h : DS X b ρ μ st o) (ho : o.end_ = true := by rfl) : DSs X b ρ μ (st :: rest) o :=
  fun G => PSsw (pss_cons (h G) pss_none) fun D σ H ⟨S, f⟩ => ⟨S, fin_end (D := D) ho rfl rfl rfl f⟩
theorem dss_one (h : DS X b ρ μ st o) : DSs X b ρ μ [st] o := fun G => PSsw (pss_one (h G)) fun D σ H q => q
/-- a branch, then the rest -/
inductive Br (X : Cx) (b : Bs) (ρ : Rho) (μ : Mus) (A rest : List Stmt) (o : O) : Prop where
  | stop (h : DSs X b ρ μ A o) (t : o.end_ = true)
  | go {ρ1 : Rho} {μ1 : Mus} (h : DSs X b ρ μ A (.nx ρ1 μ1)) (r : DSs X b ρ1 μ1 rest o)
theorem dss_if (hc : DT X ρ μ c k μ1) (ht : k = true → Br X b ρ μ1 A rest o) (hf : k = false → Br X b ρ μ1 B rest o) : DSs X b ρ μ (.If c A B pos :: rest) o := by
  cases k with
  | true =>
    cases ht rfl with
    | stop h t =>
      exact fun G => PSsw (pss_cons (ps_if hc.pt (h G) pss_none) pss_none) fun D σ H ⟨S, f⟩ => ⟨⟨S.sg, S.mu⟩, fun H1 s1 m1 => iteT ⟨S.step s1 m1 hc.ad, fin_end (D := D) t rfl rfl rfl f⟩⟩
    | go h r =>
      exact fun G => PSsw (pss_cons (ps_if hc.pt (h G) pss_none) (r G)) fun D σ H ⟨S, f⟩ => ⟨⟨S.sg, S.mu⟩, fun H1 s1 m1 => iteT ⟨S.step s1 m1 hc.ad, fun σ' H' S' => ⟨S', f⟩⟩⟩
  | false =>
    cases hf rfl with
    | stop h t =>
      exact fun G => PSsw (pss_cons (ps_if hc.pt pss_none (h G)) pss_none) fun D σ H ⟨S, f⟩ => ⟨⟨S.sg, S.mu⟩, fun H1 s1 m1 => iteF ⟨S.step s1 m1 hc.ad, fin_end (D := D) t rfl rfl rfl f⟩⟩
    | go h r =>
      exact fun G => PSsw (pss_cons (ps_if hc.pt pss_none (h G)) (r G)) fun D σ H ⟨S, f⟩ => ⟨⟨S.sg, S.mu⟩, fun H1 s1 m1 => iteF ⟨S.step s1 m1 hc.ad, fun σ' H' S' => ⟨S', f⟩⟩⟩
theorem ds_ret (h : DE X ρ μ e d μ1) : DS X b ρ μ (.Return (some e) pos) (.ret d μ1) :=
  fun G => PSw (ps_ret h.pe) fun D σ H ⟨S, f⟩ => ⟨⟨S.sg, S.mu⟩, fun v H1 s1 m1 r => f v H1 (S.step s1 m1 h.ad).ok (S.step s1 m1 h.ad).sl m1 r⟩
theorem dss_ret {d' : D} {μ2 : Mus} (h : DE X ρ μ e d' μ1) (hd : d' = d) (hm : ∀ p ∈ μ2, p ∈ μ1) : DSs X b ρ μ (.Return (some e) pos :: rest) (.ret d μ2) := by
  subst hd
  refine dss_stop (fun G => PSw (ps_ret h.pe) fun D σ H ⟨S, f⟩ => ⟨⟨S.sg, S.mu⟩, fun v H1 s1 m1 r => f v H1 (S.step s1 m1 h.ad).ok (S.step s1 m1 h.ad).sl (m1.sub hm) r⟩)
theorem ds_set {i : Nat} {x : Str} {pos' : Pos} (h : DE X ρ μ e d μ1) (hN : X.N.Nodup) (hi : X.N[i]? = some x := by rfl) (hx : Loc X.env.scope x := by first | exact .inl rfl | exact .inr rfl)
    (hs : swapsWith e (some (.Name x pos')) pos.line X.env = pure false := by rfl) (hf : X.fn x = true ∨ X.env.scope.names.lookup x = some .local := by first | exact .inl rfl | exact .inr rfl) : DS X b ρ μ (.Assign [.Name x pos'] e pos) (.nx (ρ.set i (some d)) μ1) :=
  fun G => PSw (ps_set hN hi hx h.pe hs hf) fun D σ H ⟨S, f⟩ => ⟨⟨S.sg, S.mu⟩, fun v H1 s1 m1 r => f _ H1 (let T := S.step s1 m1 h.ad; ⟨T.sg.set r, T.mu, T.ok, T.sl, T.may⟩)⟩
theorem ds_drop (h : DE X ρ μ e d μ1) (hs : swapsWith e none pos.line X.env = pure false := by rfl) : DS X b ρ μ (.Expr e pos) (.nx ρ μ1) :=
  fun G => PSw (ps_expr h.pe hs) fun D σ H ⟨S, f⟩ => ⟨⟨S.sg, S.mu⟩, fun v H1 s1 m1 r => f _ H1 (S.step s1 m1 h.ad)⟩
theorem ds_pass : DS X b ρ μ (.Pass pos) (.nx ρ μ) := fun G => PSw ps_pass fun D σ H ⟨S, f⟩ => f σ H S
theorem ds_brk : DS X b ρ μ (.Break pos) (.bk ρ μ) := fun G => PSw ps_break fun D σ H ⟨S, f⟩ => f σ H S
/-- two, three names at once -/
theorem ds_par {i j : Nat} {x y : Str} {ea eb : Expr} {d1 d2 : D} {px py pt : Pos} {kt k2 pt2} (ha : DA X ρ μ [ea, eb] [d1, d2] μ1) (hN : X.N.Nodup) (hi : X.N[i]? = some x := by rfl) (hj : X.N[j]? = some y := by rfl) (hij : i ≠ j := by decide)
    (hx : X.env.scope.names.lookup x = some .local := by rfl) (hy : X.env.scope.names.lookup y = some .local := by rfl)
    (hw : swappedStores [.Tuple [.Name x px, .Name y py] kt pt] (.Tuple [ea, eb] k2 pt2) X.env = pure (some [x, y]) := by rfl)
    (hs : swapsWithSole [.Tuple [.Name x px, .Name y py] kt pt] (.Tuple [ea, eb] k2 pt2) pos.line X.env = pure false := by rfl) (hc : X.calm = true := by rfl) :
    DS X b ρ μ (.Assign [.Tuple [.Name x px, .Name y py] kt pt] (.Tuple [ea, eb] k2 pt2) pos) (.nx ((ρ.set i (some d1)).set j (some d2)) μ1) :=
  fun G => PSw (ps_par hc hN hi hj hij hx hy ha.pa hw hs) fun D σ H ⟨S, f⟩ => ⟨⟨S.sg, S.mu⟩, fun vs H1 s1 m1 r => by
    obtain ⟨v, t, rfl, h1, h2⟩ := rps_cons.mp r
    obtain ⟨w, t2, rfl, h3, h4⟩ := rps_cons.mp h2
    rw [rps_nil.mp h4]
    have T := S.step s1 m1 ha.ad
    exact ⟨v, w, rfl, f _ H1 ⟨(T.sg.set h1).set h3, T.mu, T.ok, T.sl, T.may⟩⟩⟩
/-- forget some of what is known -/
theorem dss_weak (h : DSs X b ρ' μ' rest o) (hl : ρ'.length = ρ.length) (hρ : ∀ (i : Nat) (d : D), ρ'[i]? = some (some d) → ρ[i]? = some (some d)) (hm : ∀ p ∈ μ', p ∈ μ) : DSs X b ρ μ rest o :=
  fun G => PSsw (h G) fun D σ H ⟨S, f⟩ => ⟨⟨⟨by rw [hl]; exact S.sg.1, fun i d hd => S.sg.2 i d (hρ i d hd)⟩, S.mu.sub hm, S.ok, S.sl, fun a ha => S.may a (by
    obtain ⟨p, hp, rfl⟩ := List.mem_map.mp ha
    exact List.mem_map_of_mem (hm p hp))⟩, f⟩
end

/-! ### a def by its body -/
section
variable {P : Program} {w : World} {K : PySem.W.Frag} {mg : Str → Option Value} {base : Heap}
/-- .. that hands back -/
theorem fn_ret {x qual : Str} {st : Stmt} {f : Addr} {fd : FuncData} {N ps : List Str} {k : Nat} {R : Rel} (F : Fun K x qual st f fd) (S : FnScope N ps (defScope st)) (hl : ∀ ds μ d μ', R ds μ d μ' → ds.length = ps.length)
    (body : ∀ (cdv : Value) (A : Around) (outer : List Env) (s : Shared) (H : Hp) (E : XK) (b : Bs) (ds : List D) (μ : Mus) (d : D) (μ' : Mus), Room k (A.deeper (envOfC qual (defScope st) s.heap.objs.size f cdv)) → R ds μ d μ' → (∀ a, b.M a ↔ a ∈ Ad μ) →
      DSs (cxOf CX0 P w K mg base N qual (defScope st) f cdv A outer s H E).nox b (startD N ds) μ (defBody st) (.ret d μ')) : FnOk P w K mg base CX0 (k + 1) f fd ps (spM K R) := by
  refine F.ok S (fun vs H Q E h => ?_) (fun cdv A outer s H vs Q E hr h => ?_)
  · obtain ⟨ds, μ, d, μ', r, _, hR, _⟩ := h
    rw [← r.length]
    exact hl _ _ _ _ hR
  · obtain ⟨ds, μ, d, μ', r, m, hR, q⟩ := h
    refine ⟨_, body cdv A outer s H E ⟨fun a => a ∈ Ad μ, H⟩ ds μ d μ' hr hR (fun _ => Iff.rfl) (fun _ => none), ⟨Sg.start r, m, fun a u _ e => e, fun _ _ e _ => (nomatch e), fun a ha => .inl ha⟩, fun v H' ok _ m' rv => q v H' (fun a u n e => ok a u n e) m' rv⟩
/-- .. that comes to its end -/
theorem fn_non {x qual : Str} {st : Stmt} {f : Addr} {fd : FuncData} {N ps : List Str} {k : Nat} {R : Rel} (F : Fun K x qual st f fd) (S : FnScope N ps (defScope st)) (hl : ∀ ds μ d μ', R ds μ d μ' → ds.length = ps.length) (hd : ∀ ds μ d μ', R ds μ d μ' → d = .non)
    (body : ∀ (cdv : Value) (A : Around) (outer : List Env) (s : Shared) (H : Hp) (E : XK) (b : Bs) (ds : List D) (μ : Mus) (d : D) (μ' : Mus), Room k (A.deeper (envOfC qual (defScope st) s.heap.objs.size f cdv)) → R ds μ d μ' → (∀ a, b.M a ↔ a ∈ Ad μ) →
      ∃ ρ', DSs (cxOf CX0 P w K mg base N qual (defScope st) f cdv A outer s H E).nox b (startD N ds) μ (defBody st) (.nx ρ' μ')) : FnOk P w K mg base CX0 (k + 1) f fd ps (spM K R) := by
  refine F.ok S (fun vs H Q E h => ?_) (fun cdv A outer s H vs Q E hr h => ?_)
  · obtain ⟨ds, μ, d, μ', r, _, hR, _⟩ := h
    rw [← r.length]
    exact hl _ _ _ _ hR
  · obtain ⟨ds, μ, d, μ', r, m, hR, q⟩ := h
    obtain ⟨ρ', hb⟩ := body cdv A outer s H E ⟨fun a => a ∈ Ad μ, H⟩ ds μ d μ' hr hR fun _ => Iff.rfl
    have e := hd _ _ _ _ hR
    subst e
    exact ⟨_, hb (fun _ => none), ⟨Sg.start r, m, fun a u _ e => e, fun _ _ e _ => (nomatch e), fun a ha => .inl ha⟩, fun σ' H' S' => q .non H' (fun a u n e => S'.ok a u n e) S'.mu (rp_non.mpr rfl)⟩
end
end PD

/-! The functional reading, further: targets, what is walked, for, list comprehensions; zip of three lists. -/
namespace PD
open PySem PySem.Spec PyProof.Rows L2

/-! ### zip of three lists -/
def Itz3 (K : PySem.W.Frag) (a b c : Addr) : It :=
  ⟨fun i H => ∃ (xs ys zs : List V) (x y z : V), SqL K H a xs ∧ SqL K H b ys ∧ SqL K H c zs ∧ xs[i]? = some x ∧ ys[i]? = some y ∧ zs[i]? = some z,
    fun i H v H' => ∃ T x y z, v = .ref T ∧ H T = none ∧ H' = upd H T (.tup [x, y, z]) ∧ (∀ xs, SqL K H a xs → xs[i]? = some x) ∧ (∀ ys, SqL K H b ys → ys[i]? = some y) ∧ ∀ zs, SqL K H c zs → zs[i]? = some z,
    fun i H => ∃ xs ys zs : List V, SqL K H a xs ∧ SqL K H b ys ∧ SqL K H c zs ∧ i = min (min xs.length ys.length) zs.length⟩
def tn3 (z TI TO i1 i2 i3 a b c : Addr) (i : Nat) (h : Heap) : Prop := IsZip h z TI TO .none ∧ IsTupOf3 h TI (.ref i1) (.ref i2) (.ref i3) ∧ (∃ a1 a2 a3, IsTupOf3 h TO a1 a2 a3) ∧ h.IsListIter i1 a i ∧ h.IsListIter i2 b i ∧ h.IsListIter i3 c i
theorem turn_zip3 {P : Program} {w : World} {K : PySem.W.Frag} {elts : List Expr} {kk : Nat} {tpos : Pos} {a b c z TI TO i1 i2 i3 : Addr} (S : ZipSep3 z TI TO i1 i2 i3 [i1, a] [i2, b] [i3, c]) (h1 : a ≠ i1) (h2 : b ≠ i2) (h3 : c ≠ i3)
    (na : ∀ x ∈ [z, TI, TO, i1, i2, i3], x ≠ a ∧ x ≠ b ∧ x ≠ c) : Turn P w K (.Tuple elts kk tpos) (Itz3 K a b c) [z, TI, TO, i1, i2, i3] z (tn3 z TI TO i1 i2 i3 a b c) where
  mem := by simp
  obj := fun i h st x hx => by
    obtain ⟨hz, hTI, ⟨x1, y1, z1, hTO⟩, ⟨o1, e1, _, d1⟩, ⟨o2, e2, _, d2⟩, ⟨o3, e3, _, d3⟩⟩ := st
    have e' : x = z ∨ x = TI ∨ x = TO ∨ x = i1 ∨ x = i2 ∨ x = i3 := by simpa using hx
    rcases e' with q | q | q | q | q | q
    · rw [q]; exact ⟨_, hz, fun v q => nomatch q⟩
    · rw [q]; exact ⟨_, hTI, fun v q => nomatch q⟩
    · rw [q]; exact ⟨_, hTO, fun v q => nomatch q⟩
    · rw [q]; exact ⟨o1, e1, fun v q => by rw [d1] at q; cases q⟩
    · rw [q]; exact ⟨o2, e2, fun v q => by rw [d2] at q; cases q⟩
    · rw [q]; exact ⟨o3, e3, fun v q => by rw [d3] at q; cases q⟩
  keep := fun i h h' st k => by
    obtain ⟨hz, hTI, ⟨x1, y1, z1, hTO⟩, q1, q2, q3⟩ := st
    exact ⟨k z (by simp) _ hz, k TI (by simp) _ hTI, ⟨x1, y1, z1, k TO (by simp) _ hTO⟩, q1.at fun o q => k i1 (by simp) o q, q2.at fun o q => k i2 (by simp) o q, q3.at fun o q => k i3 (by simp) o q⟩
  item := by
    intro X hP hw hK hc i pins s σ H E I hf st hg
    subst hP hw hK
    obtain ⟨hz, hTI, hTO, q1, q2, q3⟩ := id st
    obtain ⟨xs, ys, zs, x, y, u, hqx, hqy, hqz, hx, hy, hu⟩ := hg
    obtain ⟨its1, rv1, p1, _⟩ := I.list hqx
    obtain ⟨its2, rv2, p2, _⟩ := I.list hqy
    obtain ⟨its3, rv3, p3, _⟩ := I.list hqz
    have hh : X.A.in1.handled = none := I.ok.hd hc
    have W := GoesN.zip3 (prog := X.prog) (w := X.w) (A := X.A) (elts := elts) (x1 := kk) (pos := tpos) S (Draws.list (A := X.A.in1) hh i1 a h1 its1.toArray) (Draws.list (A := X.A.in1) hh i2 b h2 its2.toArray) (Draws.list (A := X.A.in1) hh i3 c h3 its3.toArray)
    have lx : i < xs.length := (List.getElem?_eq_some_iff.mp hx).1
    have ly : i < ys.length := (List.getElem?_eq_some_iff.mp hy).1
    have lz : i < zs.length := (List.getElem?_eq_some_iff.mp hu).1
    have l1 := rv1.length
    have l2 := rv2.length
    have l3 := rv3.length
    refine W.goes i s (fun v s2 => ∃ x H', Inv X pins σ H' s2 ∧ RelV x v ∧ (Itz3 X.K a b c).yld i H x H' ∧ tn3 z TI TO i1 i2 i3 a b c (i + 1) s2.heap ∧ ∀ b ∈ [z, TI, TO, i1, i2, i3], H' b = none) E (by simp only [List.size_toArray]; omega) ⟨hz, hTI, hTO, ⟨q1, p1.isList⟩, ⟨q2, p2.isList⟩, ⟨q3, p3.isList⟩⟩ fun v h' tk hY st' hk _ => ?_
    obtain ⟨T, v1, v2, v3, rfl, hT, g1, g2, g3, hTup⟩ := hY
    obtain ⟨hz', hTI', hTO', ⟨q1', _⟩, ⟨q2', _⟩, ⟨q3', _⟩⟩ := st'
    obtain ⟨w1, hw1, r1⟩ := rv1.get hx
    obtain ⟨w2, hw2, r2⟩ := rv2.get hy
    obtain ⟨w3, hw3, r3⟩ := rv3.get hu
    have e1 : v1 = w1 := Option.some.inj ((show its1[i]? = some v1 by simpa using g1).symm.trans hw1)
    have e2 : v2 = w2 := Option.some.inj ((show its2[i]? = some v2 by simpa using g2).symm.trans hw2)
    have e3 : v3 = w3 := Option.some.inj ((show its3[i]? = some v3 by simpa using g3).symm.trans hw3)
    subst e1 e2 e3
    have new : ObjOk X.prog X.w (upd H T (.tup [x, y, u])) h' T (.tup [x, y, u]) := ⟨by show 3 ≤ sizeLine; decide, [v1, v2, v3], .cons r1 (.cons r2 (.cons r3 .nil)), hTup⟩
    have fpl : ∀ e ∈ [z, TI, TO, i1, i2, i3], e < s.heap.objs.size := fun e he => by
      obtain ⟨_, _, ⟨x1, y1, z1, hTO0⟩, ⟨o1, e1, _, d1⟩, ⟨o2, e2, _, d2⟩, ⟨o3, e3, _, d3⟩⟩ := st
      have e' : e = z ∨ e = TI ∨ e = TO ∨ e = i1 ∨ e = i2 ∨ e = i3 := by simpa using he
      rcases e' with q | q | q | q | q | q
      · rw [q]; exact Heap.lt_size hz
      · rw [q]; exact Heap.lt_size hTI
      · rw [q]; exact Heap.lt_size hTO0
      · rw [q]; exact Heap.lt_size e1
      · rw [q]; exact Heap.lt_size e2
      · rw [q]; exact Heap.lt_size e3
    have I1 : Inv X pins σ (upd H T (.tup [x, y, u])) { s with heap := h', toks := tk } :=
      I.turnedNew (t' := tk) (ch := [z, TI, TO, i1, i2, i3]) (fun e o hb q => hk e o (fun q' => hb (by
        have e' : e = z ∨ e = TO ∨ e = i1 ∨ e = i2 ∨ e = i3 := by simpa using q'
        simp only [List.mem_cons, List.not_mem_nil, or_false]
        rcases e' with q | q | q | q | q <;> simp [q])) q) hf hT new
    refine ⟨.ref T, _, I1, rfl, ⟨T, x, y, u, rfl, I.hok.fresh hT, rfl, fun l hl => by rw [I.list_inj hl hqx]; exact hx, fun l hl => by rw [I.list_inj hl hqy]; exact hy, fun l hl => by rw [I.list_inj hl hqz]; exact hu⟩, ⟨hz', hTI', hTO', q1', q2', q3'⟩, fun e he => ?_⟩
    rw [upd_ne (Nat.ne_of_lt (Nat.lt_of_lt_of_le (fpl e he) hT))]
    exact (hf e he).1
  done := by
    intro X hP hw hK hc i pins s σ H E I hf st hg
    subst hP hw hK
    obtain ⟨hz, hTI, hTO, q1, q2, q3⟩ := st
    obtain ⟨xs, ys, zs, hqx, hqy, hqz, hend⟩ := hg
    obtain ⟨its1, rv1, p1, _⟩ := I.list hqx
    obtain ⟨its2, rv2, p2, _⟩ := I.list hqy
    obtain ⟨its3, rv3, p3, _⟩ := I.list hqz
    have hh : X.A.in1.handled = none := I.ok.hd hc
    have W := GoesN.zip3 (prog := X.prog) (w := X.w) (A := X.A) (elts := elts) (x1 := kk) (pos := tpos) S (Draws.list (A := X.A.in1) hh i1 a h1 its1.toArray) (Draws.list (A := X.A.in1) hh i2 b h2 its2.toArray) (Draws.list (A := X.A.in1) hh i3 c h3 its3.toArray)
    have ee : i = min (min its1.toArray.size its2.toArray.size) its3.toArray.size := by
      simp only [List.size_toArray]
      rw [← rv1.length, ← rv2.length, ← rv3.length]
      exact hend
    subst ee
    refine W.stops s (fun s1 => Inv X pins σ H s1) E ⟨hz, hTI, hTO, ⟨q1, p1.isList⟩, ⟨q2, p2.isList⟩, ⟨q3, p3.isList⟩⟩ fun h' tk hk _ => ?_
    exact I.turnedL (t' := tk) (ch := [z, TI, TO, i1, i2, i3]) (fun e o hb q => hk e o (fun q' => hb (by
        have e' : e = z ∨ e = TO ∨ e = i1 ∨ e = i2 ∨ e = i3 := by simpa using q'
        simp only [List.mem_cons, List.not_mem_nil, or_false]
        rcases e' with q | q | q | q | q <;> simp [q])) q) hf
  self := fun A i s Q E st h => wpAny_pyIter_zip st.1 h
def iZip3 (K : PySem.W.Frag) (ta : TA) : TI := fun σ H R => ta σ H fun vs H1 => ∃ a b c xs ys zs, vs = [.ref a, .ref b, .ref c] ∧ SqL K H1 a xs ∧ SqL K H1 b ys ∧ SqL K H1 c zs ∧ R (Itz3 K a b c) H1
theorem pi_zip3 {X : Cx} {e e2 e3 : Expr} {ta : TA} {p pos tpos : Pos} {elts : List Expr} {kk : Nat} (hg : Gl X "zip") (hm : X.mg "zip" = none) (ha : PA X [e, e2, e3] ta)
    (hs : starEach [e, e2, e3] X.env = (false, eval e X.env) :: starEach [e2, e3] X.env := by rfl) (hpl : (backTo pos (starEach [e2, e3] X.env)).any (·.1) = false := by rfl) :
    PI X (.Tuple elts kk tpos) (.Call (.Name "zip" p) [e, e2, e3] [] pos) (iZip3 X.K ta) := by
  refine ⟨fun pins s σ H R I h => ?_⟩
  refine Call_ (ld_blt I hg hm PyProof.Rows.boot_zip (PyProof.Rows.callWith_type1 (thn (ha.run pos pins s σ H _ I h) fun us s1 ⟨vs, H1, I1, r1, q1⟩ => ?_) hs hpl))
  obtain ⟨a, b, c, xs, ys, zs, ex, hqx, hqy, hqz, q⟩ := q1
  subst ex
  cases r1 with
  | cons r rr =>
    cases rr with
    | cons r' rr =>
      cases rr with
      | cons r'' rr =>
        cases rr
        cases r
        cases r'
        cases r''
        obtain ⟨its1, rv1, p1, _⟩ := I1.list hqx
        obtain ⟨its2, rv2, p2, _⟩ := I1.list hqy
        obtain ⟨its3, rv3, p3, _⟩ := I1.list hqz
        have la : a < s1.heap.objs.size := p1.lt
        have lb : b < s1.heap.objs.size := p2.lt
        have lc : c < s1.heap.objs.size := p3.lt
        refine zip_begins3 (begins_list a its1.toArray) (begins_list b its2.toArray) (begins_list c its3.toArray) p1.isList p2.isList p3.isList fun h' hz hTI hTO g1 g2 g3 hsz hk => wpAny_pyIter_zip hz ?_
        have I2 : Inv X pins σ H1 { s1 with heap := h' } := I1.kept (t' := s1.toks) hk
        have hle : ∀ e, e ∈ [s1.heap.objs.size + 5, s1.heap.objs.size + 3, s1.heap.objs.size + 4, s1.heap.objs.size, s1.heap.objs.size + 1, s1.heap.objs.size + 2] → s1.heap.objs.size ≤ e := fun e he => by
          simp only [List.mem_cons, List.not_mem_nil, or_false] at he
          rcases he with z | z | z | z | z | z <;> (rw [z]; first | exact Nat.le_refl _ | exact Nat.le_add_right _ _)
        have sep := zip_sep3 (N := s1.heap.objs.size) (fp1 := [a]) (fp2 := [b]) (fp3 := [c]) (fun x hx => by rw [List.mem_singleton.mp hx]; exact la) (fun x hx => by rw [List.mem_singleton.mp hx]; exact lb) (fun x hx => by rw [List.mem_singleton.mp hx]; exact lc)
        refine ⟨s1.heap.objs.size + 5, [s1.heap.objs.size + 5, s1.heap.objs.size + 3, s1.heap.objs.size + 4, s1.heap.objs.size, s1.heap.objs.size + 1, s1.heap.objs.size + 2], _, _, H1, rfl, I2,
          turn_zip3 sep (Nat.ne_of_lt la) (Nat.ne_of_lt (Nat.lt_of_lt_of_le lb (Nat.le_add_right _ _))) (Nat.ne_of_lt (Nat.lt_of_lt_of_le lc (Nat.le_add_right _ _))) (fun x hx => ⟨Nat.ne_of_gt (Nat.lt_of_lt_of_le la (hle x hx)), Nat.ne_of_gt (Nat.lt_of_lt_of_le lb (hle x hx)), Nat.ne_of_gt (Nat.lt_of_lt_of_le lc (hle x hx))⟩), ⟨hz, hTI, ⟨_, _, _, hTO⟩, ⟨_, g1, rfl, rfl⟩, ⟨_, g2, rfl, rfl⟩, ⟨_, g3, rfl, rfl⟩⟩, fun e he => ?_, q⟩
        exact I1.fpOk (hle e he) (I1.hok.fresh (hle e he))
end PD

/-! The functional reading, further: targets, what is walked, for, list comprehensions. -/
namespace PD
open PySem PySem.Spec PyProof.Rows L2

/-! ### targets -/
/-- behind a store: the slots of J alone have changed -/
def tG (K : PySem.W.Frag) (ρ : Rho) (d : D) (ρ' : Rho) (J : List Nat) : TG := fun v σ H Q => Sg K H ρ σ ∧ Rp K H d v ∧ ∀ σ', Sg K H ρ' σ' → σ'.length = σ.length → (∀ i, i ∉ J → σ'[i]? = σ[i]?) → Q σ' H
def DG (X : Cx) (ρ : Rho) (tg : Expr) (d : D) (ρ' : Rho) (J : List Nat) : Prop := PG X tg (tG X.K ρ d ρ' J)
def tGs (K : PySem.W.Frag) (ρ : Rho) (ds : List D) (ρ' : Rho) (J : List Nat) : TGs := fun vs σ H Q => Sg K H ρ σ ∧ Rps K H ds vs ∧ ∀ σ', Sg K H ρ' σ' → σ'.length = σ.length → (∀ i, i ∉ J → σ'[i]? = σ[i]?) → Q σ' H
def DGs (X : Cx) (ρ : Rho) (tgs : List Expr) (ds : List D) (ρ' : Rho) (J : List Nat) : Prop := PGs X tgs (tGs X.K ρ ds ρ' J)
theorem PGw {X : Cx} {tg : Expr} {t t' : TG} (h : PG X tg t) (w : ∀ v σ H Q, t' v σ H Q → t v σ H Q) : PG X tg t' := ⟨fun pins s σ H v u Q I r q => h.run pins s σ H v u Q I r (w v σ H Q q)⟩
theorem PGsw {X : Cx} {tg : List Expr} {t t' : TGs} (h : PGs X tg t) (w : ∀ v σ H Q, t' v σ H Q → t v σ H Q) : PGs X tg t' := ⟨fun pins s σ H v u Q I r q => h.run pins s σ H v u Q I r (w v σ H Q q)⟩
section
variable {X : Cx} {ρ ρ1 ρ2 ρ' : Rho} {d : D} {ds : List D} {J J1 J2 : List Nat} {e : Expr} {es : List Expr} {pos : Pos}
theorem dg_name {i : Nat} {x : Str} (hN : X.N.Nodup) (hi : X.N[i]? = some x := by rfl) (hx : Loc X.env.scope x := by first | exact .inl rfl | exact .inr rfl) (hf : X.fn x = true ∨ X.env.scope.names.lookup x = some .local := by first | exact .inl rfl | exact .inr rfl) :
    DG X ρ (.Name x pos) d (ρ.set i (some d)) [i] :=
  PGw (pg_name hN hi hx hf) fun v σ H Q ⟨g, r, q⟩ => q _ (g.set r) (List.length_set ..) fun j hj => List.getElem?_set_ne (by simpa using fun z => hj (by simp [z]))
theorem dgs_nil : DGs X ρ [] [] ρ [] := PGsw pgs_nil fun vs σ H Q ⟨g, r, q⟩ => ⟨rps_nil.mp r, q σ g rfl fun _ _ => rfl⟩
theorem dgs_cons (h : DG X ρ e d ρ1 J1) (t : DGs X ρ1 es ds ρ2 J2) (hs : (assignEach (e :: es) X.env).map (·.2) = assign e X.env :: (assignEach es X.env).map (·.2) := by rfl) : DGs X ρ (e :: es) (d :: ds) ρ2 (J1 ++ J2) :=
  PGsw (pgs_cons h t hs) fun vs σ H Q ⟨g, r, q⟩ => by
    obtain ⟨v, r', rfl, h1, h2⟩ := rps_cons.mp r
    exact ⟨v, r', rfl, g, h1, fun σ1 g1 l1 k1 => ⟨g1, h2, fun σ2 g2 l2 k2 => q σ2 g2 (l2.trans l1) fun i hi => (k2 i fun z => hi (List.mem_append_right _ z)).trans (k1 i fun z => hi (List.mem_append_left _ z))⟩⟩
theorem dg_tup {k : Nat} {n : Nat} (h : DGs X ρ es ds ρ' J) (hl : ds.length = n) (hc : X.calm = true := by rfl) (hn : (assignEach es X.env).length = n := by rfl) (hst : (assignEach es X.env).findIdx? (·.1) = none := by rfl) : DG X ρ (.Tuple es k pos) (.tup ds) ρ' J :=
  PGw (pg_tup hc h hn hst) fun v σ H Q ⟨g, r, q⟩ => by
    obtain ⟨a, vs, rfl, hq, rr⟩ := rp_tup.mp r
    exact ⟨a, vs, rfl, hq, by rw [← rr.length]; exact hl, g, rr, q⟩
end

/-! ### what is walked -/
structure WalkD (K : PySem.W.Frag) (J : It) (xs : List D) (H0 : Hp) : Prop where
  goes : ∀ i H, i < xs.length → Sl H0 H → J.go i H
  stops : ∀ H, Sl H0 H → J.stop xs.length H
  yields : ∀ i H v H', i < xs.length → Sl H0 H → J.yld i H v H' → Same H H' ∧ ∃ d, xs[i]? = some d ∧ Rp K H' d v
theorem Same.sl {H H' : Hp} (h : Same H H') : Sl H H' := fun a u e _ => h a u e
def tI (K : PySem.W.Frag) (ρ : Rho) (μ : Mus) (xs : List D) (μ1 : Mus) : TI := fun σ H R => (Sg K H ρ σ ∧ Mu K H μ) ∧ ∀ J H', SmB (Ad μ) H H' → Mu K H' μ1 → WalkD K J xs H' → R J H'
structure DI (X : Cx) (ρ : Rho) (μ : Mus) (tg it : Expr) (xs : List D) (μ1 : Mus) : Prop where
  pi : PI X tg it (tI X.K ρ μ xs μ1)
  ad : Ad μ1 = Ad μ
def kD : Key → D
  | .inl k => .int k
  | .inr x => .str x
theorem rp_key {K : PySem.W.Frag} {H : Hp} (k : Key) : Rp K H (kD k) (kV k) := by
  cases k with
  | inl k => exact rp_int.mpr rfl
  | inr k => exact rp_str.mpr rfl
section
variable {X : Cx} {ρ ρ1 ρ2 ρ' : Rho} {μ μ1 μ2 : Mus} {d : D} {ds l xs : List D} {e tg a b : Expr} {es : List Expr} {p pos : Pos} {i j : Int}
theorem rps_at {K : PySem.W.Frag} {H : Hp} {vs : List V} {i : Nat} (r : Rps K H l vs) (h : i < l.length) : ∃ v, vs[i]? = some v ∧ Rp K H l[i] v := r.get (List.getElem?_eq_getElem h)
theorem sq_frz {K : PySem.W.Frag} {H : Hp} {a : Addr} {o : Obj} {vs : List V} (h : FzL K H a o vs) : SqL K H a vs := h.sq
theorem di_lst (h : DE X ρ μ e (.lst l) μ1) : DI X ρ μ tg e l μ1 :=
  ⟨PIw (pi_list h.pe) fun σ H R ⟨⟨g, m⟩, q⟩ => ⟨⟨g, m⟩, fun v H1 s1 m1 r => by
    obtain ⟨a, o, vs, rfl, hq, rr⟩ := rp_lst.mp r
    have hl := rr.length
    refine ⟨a, rfl, ⟨vs, sq_frz hq⟩, q _ _ s1 m1 ⟨fun i H' hi s => ?_, fun H' s => ⟨vs, sq_frz (hq.sl s), by omega⟩, fun i H' v H'' hi s y => ?_⟩⟩
    · obtain ⟨v, e, _⟩ := rps_at rr hi
      exact ⟨vs, v, sq_frz (hq.sl s), e⟩
    · obtain ⟨rfl, y⟩ := y
      obtain ⟨v', e, rv⟩ := rps_at rr hi
      have : v' = v := Option.some.inj (e.symm.trans (y vs (sq_frz (hq.sl s))))
      subst this
      exact ⟨Same.refl _, _, List.getElem?_eq_getElem hi, Rp.sl s _ _ rv⟩⟩, h.ad⟩
theorem di_tup (h : DE X ρ μ e (.tup l) μ1) : DI X ρ μ tg e l μ1 :=
  ⟨PIw (pi_tup h.pe) fun σ H R ⟨⟨g, m⟩, q⟩ => ⟨⟨g, m⟩, fun v H1 s1 m1 r => by
    obtain ⟨a, vs, rfl, hq, rr⟩ := rp_tup.mp r
    have hl := rr.length
    refine ⟨a, rfl, ⟨vs, hq⟩, q _ _ s1 m1 ⟨fun i H' hi s => ?_, fun H' s => ⟨vs, sqt_sl s hq, by omega⟩, fun i H' v H'' hi s y => ?_⟩⟩
    · obtain ⟨v, e, _⟩ := rps_at rr hi
      exact ⟨vs, v, sqt_sl s hq, e⟩
    · obtain ⟨rfl, y⟩ := y
      obtain ⟨v', e, rv⟩ := rps_at rr hi
      have : v' = v := Option.some.inj (e.symm.trans (y vs (sqt_sl s hq)))
      subst this
      exact ⟨Same.refl _, _, List.getElem?_eq_getElem hi, Rp.sl s _ _ rv⟩⟩, h.ad⟩
def rgD (lo : Int) (n : Nat) : List D := (List.range n).map fun i => .int (lo + (i : Nat))
theorem rgD_len (lo : Int) (n : Nat) : (rgD lo n).length = n := by unfold rgD; rw [List.length_map, List.length_range]
theorem rgD_get {lo : Int} {n i : Nat} (h : i < n) : (rgD lo n)[i]? = some (.int (lo + (i : Nat))) := by
  unfold rgD
  rw [List.getElem?_map, List.getElem?_range h]
  rfl
theorem walk_rg {K : PySem.W.Frag} {lo : Int} {n : Nat} {H : Hp} : WalkD K (Itr lo n) (rgD lo n) H :=
  ⟨fun i H' hi _ => by rw [rgD_len] at hi; exact hi, fun H' _ => by rw [rgD_len]; exact Nat.le_refl _, fun i H' v H'' hi _ y => by
    obtain ⟨rfl, y⟩ := y
    subst y
    rw [rgD_len] at hi
    exact ⟨Same.refl _, _, rgD_get hi, rp_int.mpr rfl⟩⟩
theorem di_rg1 (hm : X.mg "range" = none) (ha : DE X ρ μ a (.int i) μ1) (hi : -(2 ^ 62) ≤ i ∧ i < 2 ^ 62) (hg : Gl X "range" := by rfl) (hs : starEach [a] X.env = [(false, eval a X.env)] := by rfl) (he : starEach [a] X.env = (false, eval a X.env) :: starEach [] X.env := by rfl) :
    DI X ρ μ tg (.Call (.Name "range" p) [a] [] pos) (rgD 0 i.toNat) μ1 :=
  ⟨PIw (pi_range1 hg hm (da_cons ha da_nil he).pa hs) fun σ H R ⟨⟨g, m⟩, q⟩ => ⟨⟨g, m⟩, fun vs H1 s1 m1 r => by
    obtain ⟨v, rfl, h⟩ := one1 r
    exact ⟨i, by rw [rp_int.mp h], hi.1, hi.2, q _ _ s1 m1 walk_rg⟩⟩, ha.ad⟩
theorem di_rg2 (hm : X.mg "range" = none) (ha : DA X ρ μ [a, b] [.int i, .int j] μ1) (hi : -(2 ^ 62) ≤ i ∧ i < 2 ^ 62 ∧ -(2 ^ 62) ≤ j ∧ j < 2 ^ 62) (hg : Gl X "range" := by rfl) (hs : starEach [a, b] X.env = [(false, eval a X.env), (false, eval b X.env)] := by rfl) (hs2 : starEach [b] X.env = [(false, eval b X.env)] := by rfl) :
    DI X ρ μ tg (.Call (.Name "range" p) [a, b] [] pos) (rgD i (j - i).toNat) μ1 :=
  ⟨PIw (pi_range2 hg hm ha.pa hs hs2) fun σ H R ⟨⟨g, m⟩, q⟩ => ⟨⟨g, m⟩, fun vs H1 s1 m1 r => ⟨i, j, one2 r, hi, q _ _ s1 m1 walk_rg⟩⟩, ha.ad⟩
/-- pairs, triples of items -/
def zipD (l1 l2 : List D) : List D := List.zipWith (fun a b => .tup [a, b]) l1 l2
def zipD3 (l1 l2 l3 : List D) : List D := List.zipWith (fun (a : D) (bc : D × D) => .tup [a, bc.1, bc.2]) l1 (l2.zip l3)
theorem fr_tup2 {K : PySem.W.Frag} {H : Hp} {T : Addr} {x y : V} {d1 d2 : D} (hT : H T = none) (r1 : Rp K H d1 x) (r2 : Rp K H d2 y) : Rp K (upd H T (.tup [x, y])) (.tup [d1, d2]) (.ref T) := fr_tup hT (Rps.cn r1 (Rps.cn r2 Rps.nl))
theorem di_items {elts : List Expr} {kk : Nat} {tpos apos : Pos} {ks : List Key} (h : DE X ρ μ e (.dct ks l) μ1) (hbase : attributeBase e "items" X.env (eval e X.env) = eval e X.env := by rfl) (hline : (apos.endLine == pos.line) = true := by rfl) :
    DI X ρ μ (.Tuple elts kk tpos) (.Call (.Attribute e "items" apos) [] [] pos) (zipD (ks.map kD) l) μ1 :=
  ⟨PIw (pi_items h.pe hbase hline) fun σ H R ⟨⟨g, m⟩, q⟩ => ⟨⟨g, m⟩, fun v H1 s1 m1 r => by
    obtain ⟨a, o, kvs, rfl, hq, hk, rr⟩ := rp_dct.mp r
    have hl := rr.length
    rw [List.length_map] at hl
    have hkl : ks.length = kvs.length := by rw [← hk, List.length_map]
    have zl : (zipD (ks.map kD) l).length = kvs.length := by unfold zipD; rw [List.length_zipWith, List.length_map]; omega
    refine ⟨a, o, kvs, rfl, hq, q _ _ s1 m1 ⟨fun i H' hi s => ⟨s a _ hq rfl, by omega⟩, fun H' s => ⟨s a _ hq rfl, by omega⟩, fun i H' v H'' hi s y => ?_⟩⟩
    obtain ⟨T, k, v', hi', rfl, hT, rfl⟩ := y
    have e1 : ks[i]? = some k := by rw [← hk, List.getElem?_map, hi']; rfl
    have e2 : (kvs.map (·.2))[i]? = some v' := by rw [List.getElem?_map, hi']; rfl
    have hi2 : i < l.length := by omega
    obtain ⟨w, e3, rw'⟩ := rps_at rr hi2
    have : w = v' := Option.some.inj (e3.symm.trans e2)
    subst this
    refine ⟨same_new hT, .tup [kD k, l[i]], ?_, fr_tup2 hT (rp_key k) (Rp.sl s _ _ rw')⟩
    unfold zipD
    rw [List.getElem?_zipWith, List.getElem?_map, e1, List.getElem?_eq_getElem hi2]
    rfl⟩, h.ad⟩
theorem lst2 {K : PySem.W.Frag} {H : Hp} {vs : List V} {l1 l2 : List D} (r : Rps K H [.lst l1, .lst l2] vs) : ∃ a b o1 o2 v1 v2, vs = [.ref a, .ref b] ∧ FzL K H a o1 v1 ∧ FzL K H b o2 v2 ∧ Rps K H l1 v1 ∧ Rps K H l2 v2 := by
  obtain ⟨v, t, rfl, h1, h2⟩ := rps_cons.mp r
  obtain ⟨w, t2, rfl, h3, h4⟩ := rps_cons.mp h2
  obtain ⟨a, o1, v1, rfl, e1, r1⟩ := rp_lst.mp h1
  obtain ⟨b, o2, v2, rfl, e2, r2⟩ := rp_lst.mp h3
  rw [rps_nil.mp h4]
  exact ⟨a, b, o1, o2, v1, v2, rfl, e1, e2, r1, r2⟩
theorem di_zip {elts : List Expr} {kk : Nat} {tpos : Pos} {l1 l2 : List D} (hm : X.mg "zip" = none) (ha : DA X ρ μ [a, b] [.lst l1, .lst l2] μ1) (hl : l1.length = l2.length) (hg : Gl X "zip" := by rfl)
    (hs : starEach [a, b] X.env = (false, eval a X.env) :: starEach [b] X.env := by rfl) (hpl : (backTo pos (starEach [b] X.env)).any (·.1) = false := by rfl) :
    DI X ρ μ (.Tuple elts kk tpos) (.Call (.Name "zip" p) [a, b] [] pos) (zipD l1 l2) μ1 :=
  ⟨PIw (pi_zip hg hm ha.pa hs hpl) fun σ H R ⟨⟨g, m⟩, q⟩ => ⟨⟨g, m⟩, fun vs H1 s1 m1 r => by
    obtain ⟨a, b, o1, o2, v1, v2, rfl, e1, e2, r1, r2⟩ := lst2 r
    have n1 := r1.length
    have n2 := r2.length
    have zl : (zipD l1 l2).length = l1.length := by unfold zipD; rw [List.length_zipWith]; omega
    refine ⟨a, b, v1, v2, rfl, sq_frz e1, sq_frz e2, q _ _ s1 m1 ⟨fun i H' hi s => ?_, fun H' s => ⟨v1, v2, sq_frz (e1.sl s), sq_frz (e2.sl s), by omega⟩, fun i H' v H'' hi s y => ?_⟩⟩
    · obtain ⟨x, ex, _⟩ := rps_at r1 (show i < l1.length by omega)
      obtain ⟨y, ey, _⟩ := rps_at r2 (show i < l2.length by omega)
      exact ⟨v1, v2, x, y, sq_frz (e1.sl s), sq_frz (e2.sl s), ex, ey⟩
    · obtain ⟨T, x, y, rfl, hT, rfl, f1, f2⟩ := y
      have i1 : i < l1.length := by omega
      have i2 : i < l2.length := by omega
      obtain ⟨x', ex, rx⟩ := rps_at r1 i1
      obtain ⟨y', ey, ry⟩ := rps_at r2 i2
      have q1 : x' = x := Option.some.inj (ex.symm.trans (f1 v1 (sq_frz (e1.sl s))))
      have q2 : y' = y := Option.some.inj (ey.symm.trans (f2 v2 (sq_frz (e2.sl s))))
      subst q1 q2
      refine ⟨same_new hT, .tup [l1[i], l2[i]], ?_, fr_tup2 hT (Rp.sl s _ _ rx) (Rp.sl s _ _ ry)⟩
      unfold zipD
      rw [List.getElem?_zipWith, List.getElem?_eq_getElem i1, List.getElem?_eq_getElem i2]⟩, ha.ad⟩
theorem di_zip3 {c : Expr} {elts : List Expr} {kk : Nat} {tpos : Pos} {l1 l2 l3 : List D} (hm : X.mg "zip" = none) (ha : DA X ρ μ [a, b, c] [.lst l1, .lst l2, .lst l3] μ1) (hl : l1.length = l2.length) (hl3 : l1.length = l3.length) (hg : Gl X "zip" := by rfl)
    (hs : starEach [a, b, c] X.env = (false, eval a X.env) :: starEach [b, c] X.env := by rfl) (hpl : (backTo pos (starEach [b, c] X.env)).any (·.1) = false := by rfl) :
    DI X ρ μ (.Tuple elts kk tpos) (.Call (.Name "zip" p) [a, b, c] [] pos) (zipD3 l1 l2 l3) μ1 :=
  ⟨PIw (pi_zip3 hg hm ha.pa hs hpl) fun σ H R ⟨⟨g, m⟩, q⟩ => ⟨⟨g, m⟩, fun vs H1 s1 m1 r => by
    obtain ⟨v, t, rfl, h1, h2⟩ := rps_cons.mp r
    obtain ⟨b, c, o2, o3, v2, v3, rfl, e2, e3, r2, r3⟩ := lst2 h2
    obtain ⟨a, o1, v1, rfl, e1, r1⟩ := rp_lst.mp h1
    have n1 := r1.length
    have n2 := r2.length
    have n3 := r3.length
    have zl : (zipD3 l1 l2 l3).length = l1.length := by unfold zipD3; rw [List.length_zipWith, List.length_zip]; omega
    refine ⟨a, b, c, v1, v2, v3, rfl, sq_frz e1, sq_frz e2, sq_frz e3, q _ _ s1 m1 ⟨fun i H' hi s => ?_, fun H' s => ⟨v1, v2, v3, sq_frz (e1.sl s), sq_frz (e2.sl s), sq_frz (e3.sl s), by omega⟩, fun i H' v H'' hi s y => ?_⟩⟩
    · obtain ⟨x, ex, _⟩ := rps_at r1 (show i < l1.length by omega)
      obtain ⟨y, ey, _⟩ := rps_at r2 (show i < l2.length by omega)
      obtain ⟨z, ez, _⟩ := rps_at r3 (show i < l3.length by omega)
      exact ⟨v1, v2, v3, x, y, z, sq_frz (e1.sl s), sq_frz (e2.sl s), sq_frz (e3.sl s), ex, ey, ez⟩
    · obtain ⟨T, x, y, z, rfl, hT, rfl, f1, f2, f3⟩ := y
      have i1 : i < l1.length := by omega
      have i2 : i < l2.length := by omega
      have i3 : i < l3.length := by omega
      obtain ⟨x', ex, rx⟩ := rps_at r1 i1
      obtain ⟨y', ey, ry⟩ := rps_at r2 i2
      obtain ⟨z', ez, rz⟩ := rps_at r3 i3
      have q1 : x' = x := Option.some.inj (ex.symm.trans (f1 v1 (sq_frz (e1.sl s))))
      have q2 : y' = y := Option.some.inj (ey.symm.trans (f2 v2 (sq_frz (e2.sl s))))
      have q3 : z' = z := Option.some.inj (ez.symm.trans (f3 v3 (sq_frz (e3.sl s))))
      subst q1 q2 q3
      refine ⟨same_new hT, .tup [l1[i], l2[i], l3[i]], ?_, fr_tup hT (Rps.cn (Rp.sl s _ _ rx) (Rps.cn (Rp.sl s _ _ ry) (Rps.cn (Rp.sl s _ _ rz) Rps.nl)))⟩
      unfold zipD3
      rw [List.getElem?_zipWith, List.getElem?_eq_getElem i1, List.getElem?_eq_getElem (show i < (l2.zip l3).length by rw [List.length_zip]; omega)]
      simp⟩, ha.ad⟩
theorem di_enumL {elts : List Expr} {kk : Nat} {tpos : Pos} (hm : X.mg "enumerate" = none) (ha : DE X ρ μ a (.lst l) μ1) (hg : Gl X "enumerate" := by rfl) (hs : starEach [a] X.env = [(false, eval a X.env)] := by rfl) (he : starEach [a] X.env = (false, eval a X.env) :: starEach [] X.env := by rfl) :
    DI X ρ μ (.Tuple elts kk tpos) (.Call (.Name "enumerate" p) [a] [] pos) (zipD (rgD 0 l.length) l) μ1 :=
  ⟨PIw (pi_enum hg hm (da_cons ha da_nil he).pa hs) fun σ H R ⟨⟨g, m⟩, q⟩ => ⟨⟨g, m⟩, fun vs H1 s1 m1 r => by
    obtain ⟨v, rfl, h⟩ := one1 r
    obtain ⟨a, o1, v1, rfl, e1, r1⟩ := rp_lst.mp h
    have n1 := r1.length
    have zl : (zipD (rgD 0 l.length) l).length = l.length := by unfold zipD; rw [List.length_zipWith, rgD_len]; omega
    have W := L2.walk_enum (K := X.K) (a := a) (xs := v1)
    refine ⟨a, v1, rfl, sq_frz e1, q _ _ s1 m1 ⟨fun i H' hi s => W.goes i H' (by omega) (sq_frz (e1.sl s)), fun H' s => by rw [zl, n1]; exact W.stops H' (sq_frz (e1.sl s)), fun i H' v H'' hi s y => ?_⟩⟩
    obtain ⟨T, x, z, rfl, hT, rfl, f1, f2⟩ := W.yields i H' v H'' (by omega) (sq_frz (e1.sl s)) y
    have i1 : i < l.length := by omega
    obtain ⟨x', ex, rx⟩ := rps_at r1 i1
    have q2 : x' = z := Option.some.inj (ex.symm.trans f2)
    have q1 : x = .int (i : Nat) := (Option.some.inj f1).symm
    subst q1 q2
    refine ⟨same_new hT, .tup [.int (i : Nat), l[i]], ?_, fr_tup2 hT (rp_int.mpr rfl) (Rp.sl s _ _ rx)⟩
    unfold zipD
    rw [List.getElem?_zipWith, rgD_get i1, List.getElem?_eq_getElem i1]
    simp⟩, ha.ad⟩
end

/-! ### for -/
/-- the turns of a loop, item by item -/
inductive Loop (X : Cx) (b : Bs) (tg : Expr) (body : List Stmt) : List D → Rho → Mus → O → Prop
  | nil {ρ : Rho} {μ : Mus} : Loop X b tg body [] ρ μ (.nx ρ μ)
  | next {x : D} {xs : List D} {ρ ρ' ρ1 : Rho} {μ μ1 : Mus} {J : List Nat} {o : O} (g : DG X ρ tg x ρ' J) (h : DSs X b ρ' μ body (.nx ρ1 μ1)) (r : Loop X b tg body xs ρ1 μ1 o) : Loop X b tg body (x :: xs) ρ μ o
  | cont {x : D} {xs : List D} {ρ ρ' ρ1 : Rho} {μ μ1 : Mus} {J : List Nat} {o : O} (g : DG X ρ tg x ρ' J) (h : DSs X b ρ' μ body (.ct ρ1 μ1)) (r : Loop X b tg body xs ρ1 μ1 o) : Loop X b tg body (x :: xs) ρ μ o
  | brk {x : D} {xs : List D} {ρ ρ' ρ1 : Rho} {μ μ1 : Mus} {J : List Nat} (g : DG X ρ tg x ρ' J) (h : DSs X b ρ' μ body (.bk ρ1 μ1)) : Loop X b tg body (x :: xs) ρ μ (.nx ρ1 μ1)
  | ret {x d : D} {xs : List D} {ρ ρ' : Rho} {μ μ1 : Mus} {J : List Nat} (g : DG X ρ tg x ρ' J) (h : DSs X b ρ' μ body (.ret d μ1)) : Loop X b tg body (x :: xs) ρ μ (.ret d μ1)
def O.loop : O → Bool
  | .nx _ _ => true
  | .ret _ _ => true
  | _ => false
theorem Loop.o {X : Cx} {b : Bs} {tg : Expr} {body : List Stmt} {xs : List D} {ρ : Rho} {μ : Mus} {o : O} (h : Loop X b tg body xs ρ μ o) : o.loop = true := by
  induction h with
  | nil => rfl
  | next _ _ _ ih => exact ih
  | cont _ _ _ ih => exact ih
  | brk _ _ => rfl
  | ret _ _ => rfl
theorem PS.ex {X : Cx} {st : List Stmt} {ι : Type} {P : ι → Prop} {t : ι → TS} (h : ∀ i, P i → PSs X st (t i)) : PSs X st (fun D σ H => ∃ i, P i ∧ t i D σ H) := ⟨fun pins s σ H D I q => let ⟨i, p, z⟩ := q; (h i p).run pins s σ H D I z⟩
theorem PG.ex {X : Cx} {tg : Expr} {ι : Type} {P : ι → Prop} {t : ι → TG} (h : ∀ i, P i → PG X tg (t i)) : PG X tg (fun v σ H Q => ∃ i, P i ∧ t i v σ H Q) := ⟨fun pins s σ H v u Q I r q => let ⟨i, p, z⟩ := q; (h i p).run pins s σ H v u Q I r z⟩
theorem PE.ex {X : Cx} {e : Expr} {ι : Type} {P : ι → Prop} {t : ι → TE} (h : ∀ i, P i → PE X e (t i)) : PE X e (fun σ H Q => ∃ i, P i ∧ t i σ H Q) := ⟨fun pins s σ H Q I q => let ⟨i, p, z⟩ := q; (h i p).run pins s σ H Q I z⟩
theorem PTs.ex {X : Cx} {e : List Expr} {ι : Type} {P : ι → Prop} {t : ι → TT} (h : ∀ i, P i → PTs X e (t i)) : PTs X e (fun σ H Q => ∃ i, P i ∧ t i σ H Q) := ⟨fun pins s σ H Q I q => let ⟨i, p, z⟩ := q; (h i p).run pins s σ H Q I z⟩
theorem PI.ex {X : Cx} {tg e : Expr} {ι : Type} {P : ι → Prop} {t : ι → TI} (h : ∀ i, P i → PI X tg e (t i)) : PI X tg e (fun σ H Q => ∃ i, P i ∧ t i σ H Q) := ⟨fun pins s σ H Q I q => let ⟨i, p, z⟩ := q; (h i p).run pins s σ H Q I z⟩
section
variable {X : Cx} {b : Bs} {ρ : Rho} {μ μ1 : Mus} {tg it : Expr} {body : List Stmt} {xs : List D} {o : O} {pos : Pos}
/-- any store, any body of which something is known -/
def anyG (X : Cx) (tg : Expr) : TG := fun v σ H Q => ∃ (i : Rho × D × Rho × List Nat), DG X i.1 tg i.2.1 i.2.2.1 i.2.2.2 ∧ tG X.K i.1 i.2.1 i.2.2.1 i.2.2.2 v σ H Q
def anyS (X : Cx) (b : Bs) (body : List Stmt) : TS := fun D σ H => ∃ (i : Hp × Rho × Mus × O), DSs X b i.2.1 i.2.2.1 body i.2.2.2 ∧ tO X.K b i.1 i.2.1 i.2.2.1 i.2.2.2 D σ H
theorem ds_for (hp : PassesOwn (model X.prog X.w) X.A X.env X.xe) (hi : DI X ρ μ tg it xs μ1) (hl : Loop X b tg body xs ρ μ1 o) (hc : X.calm = true := by rfl) (hs : ∀ x, foldedSetIterable it X.env x = pure x := by intro _; rfl) : DS X b ρ μ (.For tg it body [] pos) o := by
  intro G
  refine PSw (ps_for (wi := tI X.K ρ μ xs μ1) (g := anyG X tg) (tb := anyS X b body) hp hc hi.pi (PG.ex fun i h => h) (PS.ex fun i h => h i.1) hs) fun D σ H ⟨S, f⟩ => ⟨⟨S.sg, S.mu⟩, fun J H1 s1 m1 W => ?_⟩
  have S1 : Sta X.K b H1 ρ μ1 σ H1 := let T := S.step s1 m1 hi.ad; ⟨T.sg, T.mu, T.ok, Sl.refl _, T.may⟩
  have back : ∀ {ρ' : Rho} {μ' : Mus} {σ' : L2.St} {H' : Hp}, Sta X.K b H1 ρ' μ' σ' H' → Sta X.K b G ρ' μ' σ' H' := fun T => ⟨T.sg, T.mu, T.ok, (S.sl.trans (s1.sl S.mu)).trans T.sl, T.may⟩
  have ho := hl.o
  refine ⟨fun i m σ H => m = xs.length - i ∧ i ≤ xs.length ∧ ((∃ ρ μ, Sta X.K b H1 ρ μ σ H ∧ Loop X b tg body (xs.drop i) ρ μ o)), ⟨xs.length, by simp, Nat.zero_le _, ρ, μ1, S1, by simpa using hl⟩, ?_⟩
  rintro i m σ2 H2 ⟨rfl, hi2, ρ2, μ2, S2, lp⟩
  by_cases hlt : i < xs.length
  · rw [List.drop_eq_getElem_cons hlt] at lp
    have turn : ∀ {ρ' : Rho} {J' : List Nat} {o' : O} {N : L2.St → Hp → Prop}, DG X ρ2 tg xs[i] ρ' J' → DSs X b ρ' μ2 body o' → (∀ D', D'.nx = N → D'.ct = N → D'.bk = D.nx → D'.rt = D.rt → fin X.K b H1 o' D') →
        ∀ x H', J.yld i H2 x H' → anyG X tg x σ2 H' fun σ3 H3 => anyS X b body { D with nx := N, ct := N, bk := D.nx } σ3 H3 := fun {ρ' J' o' N} hg hb hf x H' y => by
      obtain ⟨sm, d, hd, rd⟩ := W.yields i H2 x H' hlt S2.sl y
      have : d = xs[i] := Option.some.inj (hd.symm.trans (List.getElem?_eq_getElem hlt))
      subst this
      refine ⟨⟨ρ2, xs[i], ρ', J'⟩, hg, S2.sg.sl (Same.sl sm), rd, fun σ3 g3 _ _ => ⟨⟨H1, ρ', μ2, o'⟩, hb, ⟨g3, S2.mu.same sm, ?_, S2.sl.trans (Same.sl sm), S2.may⟩, hf _ rfl rfl rfl rfl⟩⟩
      exact fun a u n e => sm a u (S2.ok a u n e)
    refine .inr ⟨W.goes i H2 hlt S2.sl, ?_⟩
    cases lp with
    | next hg hb hr =>
      refine ⟨_, fun σ' H' z => z, turn (N := fun σ' H' => ∃ m', m' < xs.length - i ∧ m' = xs.length - (i + 1) ∧ i + 1 ≤ xs.length ∧ ∃ ρ μ, Sta X.K b H1 ρ μ σ' H' ∧ Loop X b tg body (xs.drop (i + 1)) ρ μ o) hg hb fun D' e1 e2 e3 e4 => ?_⟩
      exact fun σ' H' T => cast (congrFun (congrFun e1 σ') H').symm ⟨xs.length - (i + 1), by omega, rfl, hlt, _, _, T, hr⟩
    | cont hg hb hr =>
      refine ⟨_, fun σ' H' z => z, turn (N := fun σ' H' => ∃ m', m' < xs.length - i ∧ m' = xs.length - (i + 1) ∧ i + 1 ≤ xs.length ∧ ∃ ρ μ, Sta X.K b H1 ρ μ σ' H' ∧ Loop X b tg body (xs.drop (i + 1)) ρ μ o) hg hb fun D' e1 e2 e3 e4 => ?_⟩
      exact fun σ' H' T => cast (congrFun (congrFun e2 σ') H').symm ⟨xs.length - (i + 1), by omega, rfl, hlt, _, _, T, hr⟩
    | brk hg hb =>
      refine ⟨fun _ _ => False, fun σ' H' z => z.elim, turn hg hb fun D' e1 e2 e3 e4 => ?_⟩
      intro σ' H' T
      rw [e3]
      exact f σ' H' (back T)
    | ret hg hb =>
      refine ⟨fun _ _ => False, fun σ' H' z => z.elim, turn hg hb fun D' e1 e2 e3 e4 => ?_⟩
      intro v H' a g m r
      rw [e4]
      exact f v H' a ((S.sl.trans (s1.sl S.mu)).trans g) m r
  · have e : i = xs.length := by omega
    subst e
    rw [List.drop_length] at lp
    cases lp
    exact .inl ⟨W.stops H2 S2.sl, f σ2 H2 (back S2)⟩
/-- a loop that keeps a word P of the turn and the slots -/
theorem Loop.inv {P : Nat → Rho → Mus → Prop} (step : ∀ i x ρ μ, xs[i]? = some x → P i ρ μ → ∃ ρ' J ρ1 μ1, DG X ρ tg x ρ' J ∧ DSs X b ρ' μ body (.nx ρ1 μ1) ∧ P (i + 1) ρ1 μ1) (h0 : P 0 ρ μ) : ∃ ρ1 μ1, Loop X b tg body xs ρ μ (.nx ρ1 μ1) ∧ P xs.length ρ1 μ1 := by
  have key : ∀ (k i : Nat) (ρ : Rho) (μ : Mus), k + i = xs.length → P i ρ μ → ∃ ρ1 μ1, Loop X b tg body (xs.drop i) ρ μ (.nx ρ1 μ1) ∧ P xs.length ρ1 μ1 := by
    intro k
    induction k with
    | zero =>
      intro i ρ μ e p
      have e' : i = xs.length := by omega
      subst e'
      rw [List.drop_length]
      exact ⟨ρ, μ, .nil, p⟩
    | succ k ih =>
      intro i ρ μ e p
      have hi : i < xs.length := by omega
      obtain ⟨ρ', J, ρ1, μ1, g, h, p1⟩ := step i xs[i] ρ μ (List.getElem?_eq_getElem hi) p
      obtain ⟨ρ2, μ2, L, p2⟩ := ih (i + 1) ρ1 μ1 (by omega) p1
      rw [List.drop_eq_getElem_cons hi]
      exact ⟨ρ2, μ2, .next g h L, p2⟩
  have := key xs.length 0 ρ μ (by omega) h0
  simpa using this
/-- .. told by functions of the turn -/
theorem Loop.fns (fr : Nat → Rho) (fm : Nat → Mus) (step : ∀ i x, xs[i]? = some x → ∃ ρ' J, DG X (fr i) tg x ρ' J ∧ DSs X b ρ' (fm i) body (.nx (fr (i + 1)) (fm (i + 1)))) : Loop X b tg body xs (fr 0) (fm 0) (.nx (fr xs.length) (fm xs.length)) := by
  obtain ⟨ρ1, μ1, L, e1, e2⟩ := Loop.inv (X := X) (b := b) (tg := tg) (body := body) (xs := xs) (ρ := fr 0) (μ := fm 0) (P := fun i ρ μ => ρ = fr i ∧ μ = fm i) (fun i x ρ μ hx p => by
    obtain ⟨rfl, rfl⟩ := p
    obtain ⟨ρ', J, g, h⟩ := step i x hx
    exact ⟨ρ', J, _, _, g, h, rfl, rfl⟩) ⟨rfl, rfl⟩
  subst e1 e2
  exact L
end
end PD

/-! The functional reading, further: list comprehensions of one clause and of two. -/
namespace PD
open PySem PySem.Spec PyProof.Rows L2

theorem wipe_at {σ : L2.St} {i : Nat} : ∀ {vs : List Nat}, i ∈ vs → i < σ.length → (L2.wipe σ vs)[i]? = some none
  | [], h, _ => by simp at h
  | v :: vs, h, hl => by
    unfold L2.wipe
    by_cases e : v = i
    · subst e
      exact List.getElem?_set_self (by rw [L2.wipe_length]; exact hl)
    · rw [List.getElem?_set_ne e]
      rcases List.mem_cons.mp h with z | z
      · exact absurd z.symm e
      · exact wipe_at z hl
theorem wipe_eq {σ σ' : L2.St} {J vs : List Nat} (hl : σ'.length = (L2.wipe σ vs).length) (h : ∀ i, i ∉ J → σ'[i]? = (L2.wipe σ vs)[i]?) (hJ : ∀ i ∈ J, i ∈ vs) : L2.wipe σ' vs = L2.wipe σ vs := by
  have hl' : σ'.length = σ.length := by rw [hl, L2.wipe_length]
  apply List.ext_getElem?
  intro i
  by_cases hi : i ∈ vs
  · by_cases hb : i < σ.length
    · rw [wipe_at hi (by rw [hl']; exact hb), wipe_at hi hb]
    · rw [List.getElem?_eq_none (by rw [L2.wipe_length]; omega), List.getElem?_eq_none (by rw [L2.wipe_length]; omega)]
  · rw [L2.wipe_out hi, h i fun z => hi (hJ i z)]

structure DTs (X : Cx) (ρ : Rho) (μ : Mus) (ifs : List Expr) (k : Bool) (μ' : Mus) : Prop where
  pts : PTs X ifs (tT X.K ρ μ k μ')
  ad : Ad μ' = Ad μ
theorem PTsw {X : Cx} {e : List Expr} {t t' : TT} (h : PTs X e t) (w : ∀ σ H Q, t' σ H Q → t σ H Q) : PTs X e t' := ⟨fun pins s σ H Q I q => h.run pins s σ H Q I (w σ H Q q)⟩
theorem dts_nil {X : Cx} {ρ : Rho} {μ : Mus} : DTs X ρ μ [] true μ := ⟨PTsw pts_nil fun σ H Q ⟨⟨g, m⟩, q⟩ => q H (SmB.refl _ _) m, rfl⟩
theorem dts_one {X : Cx} {ρ : Rho} {μ μ' : Mus} {c : Expr} {k : Bool} (h : DT X ρ μ c k μ') : DTs X ρ μ [c] k μ' := ⟨pts_one h.pt, h.ad⟩

/-- a block of X's that a comprehension runs -/
abbrev Blk (X : Cx) (scope : Scope) (s : Shared) (H : Hp) (C : Addr) (cl : List (Str × Addr)) (fp : List Addr) : Cx := X.blk s H scope (compEnvC scope cl C X.env) fp
section
variable {X : Cx} {scope : Scope} {vs : List Nat} {tg elt : Expr} {ifs : List Expr} {ρw : Rho}
def BG (X : Cx) (scope : Scope) (tg : Expr) : TG := fun v σ H Q => ∃ (i : Rho × D × Rho × List Nat), (∀ s H C cl fp, DG (Blk X scope s H C cl fp) i.1 tg i.2.1 i.2.2.1 i.2.2.2) ∧ tG X.K i.1 i.2.1 i.2.2.1 i.2.2.2 v σ H Q
def BT (X : Cx) (scope : Scope) (ifs : List Expr) : TT := fun σ H Q => ∃ (i : Rho × Mus × Bool × Mus), (∀ s H C cl fp, DTs (Blk X scope s H C cl fp) i.1 i.2.1 ifs i.2.2.1 i.2.2.2) ∧ tT X.K i.1 i.2.1 i.2.2.1 i.2.2.2 σ H Q
def BE (X : Cx) (scope : Scope) (elt : Expr) : TE := fun σ H Q => ∃ (i : Rho × Mus × D × Mus), (∀ s H C cl fp, DE (Blk X scope s H C cl fp) i.1 i.2.1 elt i.2.2.1 i.2.2.2) ∧ tE X.K i.1 i.2.1 i.2.2.1 i.2.2.2 σ H Q
def BI (X : Cx) (scope : Scope) (tg it : Expr) : TI := fun σ H R => ∃ (i : Rho × Mus × List D × Mus), (∀ s H C cl fp, DI (Blk X scope s H C cl fp) i.1 i.2.1 tg it i.2.2.1 i.2.2.2) ∧ tI X.K i.1 i.2.1 i.2.2.1 i.2.2.2 σ H R
/-- the turns of a clause: items, what changes; what comes out, what is left -/
inductive CLoop (X : Cx) (scope : Scope) (vs : List Nat) (tg : Expr) (ifs : List Expr) (elt : Expr) (ρw : Rho) : List D → Mus → List D → Mus → Prop
  | nil {μ : Mus} : CLoop X scope vs tg ifs elt ρw [] μ [] μ
  | yes {x d : D} {xs out : List D} {ρ' : Rho} {J : List Nat} {μ μ1 μ2 μ3 : Mus} (hg : ∀ s H C cl fp, DG (Blk X scope s H C cl fp) ρw tg x ρ' J) (hJ : ∀ i ∈ J, i ∈ vs) (ht : ∀ s H C cl fp, DTs (Blk X scope s H C cl fp) ρ' μ ifs true μ1)
      (he : ∀ s H C cl fp, DE (Blk X scope s H C cl fp) ρ' μ1 elt d μ2) (r : CLoop X scope vs tg ifs elt ρw xs μ2 out μ3) : CLoop X scope vs tg ifs elt ρw (x :: xs) μ (d :: out) μ3
  | no {x : D} {xs out : List D} {ρ' : Rho} {J : List Nat} {μ μ1 μ3 : Mus} (hg : ∀ s H C cl fp, DG (Blk X scope s H C cl fp) ρw tg x ρ' J) (hJ : ∀ i ∈ J, i ∈ vs) (ht : ∀ s H C cl fp, DTs (Blk X scope s H C cl fp) ρ' μ ifs false μ1)
      (r : CLoop X scope vs tg ifs elt ρw xs μ1 out μ3) : CLoop X scope vs tg ifs elt ρw (x :: xs) μ out μ3
variable {J : It} {xs out : List D} {H0 Hb : Hp} {μ0 μ μ2 : Mus} {Dl : Addr} {A : List D}
/-- where a comprehension stands: H0 ahead of it, its list at Dl -/
structure CS (K : PySem.W.Frag) (H0 : Hp) (A0 : List Addr) (Dl : Addr) (A : List D) (μ : Mus) (H : Hp) : Prop where
  sm : SmB A0 H0 H
  mu : Mu K H μ
  ad : Ad μ = A0
  acc : ∃ acc, H Dl = some (.lst acc) ∧ Rps K H A acc
theorem CS.notin {K : PySem.W.Frag} {A0 : List Addr} {H : Hp} (c : CS K H0 A0 Dl A μ H) (hD : Dl ∉ A0) {p : Addr × MO} (hp : p ∈ μ) : p.1 ≠ Dl := fun z => hD (by rw [← c.ad, ← z]; exact List.mem_map_of_mem hp)
theorem CS.step {K : PySem.W.Frag} {A0 : List Addr} {H H' : Hp} {μ' : Mus} (c : CS K H0 A0 Dl A μ H) (hD : Dl ∉ A0) (s : SmB (Ad μ) H H') (m : Mu K H' μ') (ha : Ad μ' = Ad μ) : CS K H0 A0 Dl A μ' H' := by
  obtain ⟨acc, e, r⟩ := c.acc
  refine ⟨c.sm.trans (by rw [← c.ad]; exact s), m, ha.trans c.ad, acc, s _ _ (by rw [c.ad]; exact hD) e, Rps.sl (s.sl c.mu) _ _ r⟩
theorem CS.app {K : PySem.W.Frag} {A0 : List Addr} {H : Hp} {d : D} {v : V} {acc : List V} (c : CS K H0 A0 Dl A μ H) (hD : Dl ∉ A0) (hD0 : H0 Dl = none) (e : H Dl = some (.lst acc)) (ra : Rps K H A acc) (r : Rp K H d v) : CS K H0 A0 Dl (A ++ [d]) μ (upd H Dl (.lst (acc ++ [v]))) := by
  have sl : Sl H (upd H Dl (.lst (acc ++ [v]))) := fun a u eu su => by
    rw [upd_ne]
    · exact eu
    · rintro rfl; rw [e] at eu; cases eu; cases su
  refine ⟨fun a u n eu => ?_, fun p hp => (c.mu p hp).keep sl fun u eu => ?_, c.ad, acc ++ [v], upd_same, Rps.append (Rps.sl sl _ _ ra) (Rps.cn (Rp.sl sl _ _ r) Rps.nl)⟩
  · rw [upd_ne (ne_of_none eu hD0)]
    exact c.sm a u n eu
  · rw [upd_ne (c.notin hD hp)]
    exact eu
theorem turns {A0 : List Addr} {σ : L2.St} {Qend : Hp → Prop} (W : WalkD X.K J xs Hb) (g : Sg X.K Hb ρw (L2.wipe σ vs)) (hD0 : H0 Dl = none) (hD : Dl ∉ A0)
    (hl : CLoop X scope vs tg ifs elt ρw xs μ out μ2) (c0 : CS X.K H0 A0 Dl A μ Hb) (hz : (A ++ out).length ≤ 100000) (hend : ∀ H', Sl Hb H' → CS X.K H0 A0 Dl (A ++ out) μ2 H' → Qend H') :
    ∃ W' : Nat → Nat → Hp → Prop, (∃ m, W' 0 m Hb) ∧ ∀ i m H, W' i m H → (J.stop i H ∧ Qend H) ∨ (J.go i H ∧ ∃ Nx : Hp → Prop, (∀ H', Nx H' → ∃ m', m' < m ∧ W' (i + 1) m' H') ∧ ∀ x H', J.yld i H x H' →
      BG X scope tg x (L2.wipe σ vs) H' fun σ2 H2 => L2.wipe σ2 vs = L2.wipe σ vs ∧ BT X scope ifs σ2 H2 fun b H3 => if b = true then BE X scope elt σ2 H3 fun y H4 => ∃ acc, H4 Dl = some (.lst acc) ∧ acc.length < sizeLine ∧ Nx (upd H4 Dl (.lst (acc ++ [y]))) else Nx H3) := by
  refine ⟨fun i m H => m = xs.length - i ∧ i ≤ xs.length ∧ Sl Hb H ∧ ∃ μi A' rest, CS X.K H0 A0 Dl A' μi H ∧ CLoop X scope vs tg ifs elt ρw (xs.drop i) μi rest μ2 ∧ A' ++ rest = A ++ out, ⟨xs.length, by simp, Nat.zero_le _, Sl.refl _, μ, A, out, c0, by simpa using hl, rfl⟩, ?_⟩
  rintro i m H ⟨rfl, hi, s, μi, A', rest, c, lp, eo⟩
  by_cases hlt : i < xs.length
  · rw [List.drop_eq_getElem_cons hlt] at lp
    refine .inr ⟨W.goes i H hlt s, fun H' => ∃ m', m' < xs.length - i ∧ m' = xs.length - (i + 1) ∧ i + 1 ≤ xs.length ∧ Sl Hb H' ∧ ∃ μi A' rest, CS X.K H0 A0 Dl A' μi H' ∧ CLoop X scope vs tg ifs elt ρw (xs.drop (i + 1)) μi rest μ2 ∧ A' ++ rest = A ++ out, fun H' z => z, fun x H' y => ?_⟩
    obtain ⟨sm, d, hd, rd⟩ := W.yields i H x H' hlt s y
    have ed : d = xs[i] := Option.some.inj (hd.symm.trans (List.getElem?_eq_getElem hlt))
    subst ed
    have c1 : CS X.K H0 A0 Dl A' μi H' := c.step hD (SmB.same sm) (c.mu.same sm) rfl
    have s1 : Sl Hb H' := s.trans (Same.sl sm)
    have fin : ∀ {ρ' : Rho} {Jt : List Nat} {k : Bool} {μ1 : Mus}, (∀ s H C cl fp, DG (Blk X scope s H C cl fp) ρw tg xs[i] ρ' Jt) → (∀ i ∈ Jt, i ∈ vs) → (∀ s H C cl fp, DTs (Blk X scope s H C cl fp) ρ' μi ifs k μ1) →
        (∀ σ2 H3, Sg X.K H3 ρ' σ2 → Sl Hb H3 → CS X.K H0 A0 Dl A' μ1 H3 → if k = true then BE X scope elt σ2 H3 fun y H4 => ∃ acc, H4 Dl = some (.lst acc) ∧ acc.length < sizeLine ∧ (∃ m', m' < xs.length - i ∧ m' = xs.length - (i + 1) ∧ i + 1 ≤ xs.length ∧ Sl Hb (upd H4 Dl (.lst (acc ++ [y]))) ∧ ∃ μi A' rest, CS X.K H0 A0 Dl A' μi (upd H4 Dl (.lst (acc ++ [y]))) ∧ CLoop X scope vs tg ifs elt ρw (xs.drop (i + 1)) μi rest μ2 ∧ A' ++ rest = A ++ out)
          else (∃ m', m' < xs.length - i ∧ m' = xs.length - (i + 1) ∧ i + 1 ≤ xs.length ∧ Sl Hb H3 ∧ ∃ μi A' rest, CS X.K H0 A0 Dl A' μi H3 ∧ CLoop X scope vs tg ifs elt ρw (xs.drop (i + 1)) μi rest μ2 ∧ A' ++ rest = A ++ out)) →
        BG X scope tg x (L2.wipe σ vs) H' fun σ2 H2 => L2.wipe σ2 vs = L2.wipe σ vs ∧ BT X scope ifs σ2 H2 fun b H3 => if b = true then BE X scope elt σ2 H3 fun y H4 => ∃ acc, H4 Dl = some (.lst acc) ∧ acc.length < sizeLine ∧ (∃ m', m' < xs.length - i ∧ m' = xs.length - (i + 1) ∧ i + 1 ≤ xs.length ∧ Sl Hb (upd H4 Dl (.lst (acc ++ [y]))) ∧ ∃ μi A' rest, CS X.K H0 A0 Dl A' μi (upd H4 Dl (.lst (acc ++ [y]))) ∧ CLoop X scope vs tg ifs elt ρw (xs.drop (i + 1)) μi rest μ2 ∧ A' ++ rest = A ++ out)
          else (∃ m', m' < xs.length - i ∧ m' = xs.length - (i + 1) ∧ i + 1 ≤ xs.length ∧ Sl Hb H3 ∧ ∃ μi A' rest, CS X.K H0 A0 Dl A' μi H3 ∧ CLoop X scope vs tg ifs elt ρw (xs.drop (i + 1)) μi rest μ2 ∧ A' ++ rest = A ++ out) := fun {ρ' Jt k μ1} hg hJ ht go =>
      ⟨⟨ρw, xs[i], ρ', Jt⟩, hg, g.sl s1, rd, fun σ2 g2 l2 k2 => ⟨wipe_eq l2 k2 hJ, ⟨ρ', μi, k, μ1⟩, ht, ⟨g2, c1.mu⟩, fun H3 s3 m3 => go σ2 H3 (g2.sl (s3.sl c1.mu)) (s1.trans (s3.sl c1.mu)) (c1.step hD s3 m3 (ht X.s_0 H' (0 : Nat) [] []).ad)⟩⟩
    cases lp with
    | yes hg hJ ht he hr =>
      refine fin hg hJ ht fun σ2 H3 g3 s3 c3 => iteT ⟨⟨_, _, _, _⟩, he, ⟨g3, c3.mu⟩, fun v H4 s4 m4 r4 => ?_⟩
      have c4 := c3.step hD s4 m4 (he X.s_0 H' (0 : Nat) [] []).ad
      obtain ⟨acc, ea, ra⟩ := c4.acc
      refine ⟨acc, ea, ?_, _, by omega, rfl, hlt, ?_, _, _, _, c4.app hD hD0 ea ra r4, hr, by rw [← eo, List.append_assoc]; rfl⟩
      · have := congrArg List.length eo
        rw [List.length_append, List.length_cons] at this
        rw [← ra.length]
        exact sz_lt (by omega)
      · intro a u eu su
        have e4 := (s3.trans (s4.sl c3.mu)) a u eu su
        rw [upd_ne]
        · exact e4
        · rintro rfl; rw [ea] at e4; cases e4; cases su
    | no hg hJ ht hr =>
      exact fin hg hJ ht fun σ2 H3 g3 s3 c3 => iteF ⟨_, by omega, rfl, hlt, s3, _, _, _, c3, hr, eo⟩
  · have e : i = xs.length := by omega
    subst e
    rw [List.drop_length] at lp
    cases lp
    rw [List.append_nil] at eo
    exact .inl ⟨W.stops H s, hend H s (eo ▸ c)⟩
end

section
variable {X : Cx} {b : Bs} {scope : Scope} {own : List (Str × Nat)} {tg it elt : Expr} {ifs : List Expr} {ρ : Rho} {μ μ1 μ2 : Mus} {xs out : List D} {pos : Pos} {o : O} {rest : List Stmt}
theorem lc_start {K : PySem.W.Frag} {H1 : Hp} {Dl : Addr} (m1 : Mu K H1 μ1) (hD : H1 Dl = none) : CS K H1 (Ad μ1) Dl [] μ1 (upd H1 Dl (.lst [])) ∧ Dl ∉ Ad μ1 := by
  refine ⟨⟨SmB.new hD, m1.same (same_new hD), rfl, [], upd_same, Rps.nl⟩, fun z => ?_⟩
  obtain ⟨p, hp, e⟩ := List.mem_map.mp z
  obtain ⟨u, eu, _⟩ := (m1 p hp).weak
  rw [e, hD] at eu
  cases eu
/-- [elt for tg in it if ..] as read: Q where the list stands -/
theorem lc_read {σ : L2.St} {H : Hp} {Q : VK} (had : Ad μ1 = Ad μ) (g : Sg X.K H ρ σ) (m : Mu X.K H μ) (hl : CLoop X scope (own.map (·.2)) tg ifs elt (wipeD ρ (own.map (·.2))) xs μ1 out μ2) (hz : out.length ≤ 100000)
    (q : ∀ Dl H' acc, SmB (Ad μ) H H' → Mu X.K H' μ2 → Ad μ2 = Ad μ → H Dl = none → Dl ∉ Ad μ → H' Dl = some (.lst acc) → Rps X.K H' out acc → Q (.ref Dl) H') :
    tLc (tI X.K ρ μ xs μ1) (BG X scope tg) (BT X scope ifs) (BE X scope elt) (own.map (·.2)) σ H Q := by
  refine ⟨⟨g, m⟩, fun J H1 s1 m1 W Dl hD => ?_⟩
  obtain ⟨c0, hDA⟩ := lc_start m1 hD
  have n0 : Sl H1 (upd H1 Dl (.lst [])) := Same.sl (same_new hD)
  have W' : WalkD X.K J xs (upd H1 Dl (.lst [])) := ⟨fun i H' hi s => W.goes i H' hi (n0.trans s), fun H' s => W.stops H' (n0.trans s), fun i H' v H'' hi s y => W.yields i H' v H'' hi (n0.trans s) y⟩
  refine turns (Qend := fun H' => Q (.ref Dl) H') W' (((g.sl (s1.sl m)).sl n0).wipe _) hD hDA hl c0 (by simpa using hz) fun H' s' c' => ?_
  obtain ⟨acc, ea, ra⟩ := c'.acc
  have hD0 : H Dl = none := by
    cases e : H Dl with
    | none => rfl
    | some u =>
      by_cases hA : Dl ∈ Ad μ
      · exact absurd (had ▸ hA) hDA
      · rw [s1 Dl u hA e] at hD; cases hD
  have sA : SmB (Ad μ) H1 H' := by rw [← had]; exact c'.sm
  exact q Dl H' acc (s1.trans sA) c'.mu (c'.ad.trans had) hD0 (fun z => hDA (had ▸ z)) ea (by simpa using ra)
theorem de_lc (hi : DI X ρ μ tg it xs μ1) (hl : CLoop X scope (own.map (·.2)) tg ifs elt (wipeD ρ (own.map (·.2))) xs μ1 out μ2) (hz : out.length ≤ 100000) (hN : X.N.Nodup) (ok : BlkOk X.N X.env.scope scope own) (hc : X.calm = true := by rfl)
    (hs : ∀ x, foldedSetIterable it X.env x = pure x := by intro _; rfl) (had : Ad μ2 = Ad μ) : DE X ρ μ (.ListComp elt [⟨tg, it, ifs, 0⟩] scope pos) (.lst out) μ2 :=
  ⟨PEw (pe_frz (pe_lc (wi := tI X.K ρ μ xs μ1) (g := BG X scope tg) (tt := BT X scope ifs) (te := BE X scope elt) hc hN hi.pi ok (fun s H C cl fp => PG.ex fun i h => h s H C cl fp) (fun s H C cl fp => PTs.ex fun i h => (h s H C cl fp).pts) (fun s H C cl fp => PE.ex fun i h => (h s H C cl fp).pe) hs))
    fun σ H Q ⟨⟨g, m⟩, q⟩ => lc_read hi.ad g m hl hz fun Dl H' acc s' m' _ hD0 hDA ea ra => .inr ⟨Dl, _, ea, trivial, fun o => by
      have sl : Sl H' (upd H' Dl (.frz o (.lst acc))) := fun a u eu su => by
        rw [upd_ne]
        · exact eu
        · rintro rfl; rw [ea] at eu; cases eu; cases su
      refine q _ _ (fun a u n eu => ?_) (fun p hp => (m' p hp).keep sl fun u eu => ?_) (rp_lst.mpr ⟨Dl, o, acc, rfl, .inl upd_same, Rps.sl sl _ _ ra⟩)
      · rw [upd_ne (ne_of_none eu hD0)]
        exact s' a u n eu
      · rw [upd_ne]
        · exact eu
        · intro z; exact hDA (had ▸ z ▸ List.mem_map_of_mem hp)⟩, had⟩
/-- y = [..], a statement; its list is read from then on -/
theorem dss_setLc {i : Nat} {y : Str} {py spos : Pos} (hi : DI X ρ μ tg it xs μ1) (hl : CLoop X scope (own.map (·.2)) tg ifs elt (wipeD ρ (own.map (·.2))) xs μ1 out μ2) (hz : out.length ≤ 100000) (had : Ad μ2 = Ad μ) (r : DSs X b (ρ.set i (some (.lst out))) μ2 rest o)
    (hN : X.N.Nodup) (ok : BlkOk X.N X.env.scope scope own) (hsw : swapsWith (.ListComp elt [⟨tg, it, ifs, 0⟩] scope pos) (some (.Name y py)) spos.line X.env = pure true) (hy : X.N[i]? = some y := by rfl) (hyl : X.env.scope.names.lookup y = some .local := by rfl)
    (hc : X.calm = true := by rfl) (hs : ∀ x, foldedSetIterable it X.env x = pure x := by intro _; rfl) : DSs X b ρ μ (.Assign [.Name y py] (.ListComp elt [⟨tg, it, ifs, 0⟩] scope pos) spos :: rest) o := fun G =>
  PSsw (pss_cons (ps_setLc (wi := tI X.K ρ μ xs μ1) (g := BG X scope tg) (tt := BT X scope ifs) (te := BE X scope elt) hc hN hy hyl hsw hi.pi ok (fun s H C cl fp => PG.ex fun i h => h s H C cl fp) (fun s H C cl fp => PTs.ex fun i h => (h s H C cl fp).pts) (fun s H C cl fp => PE.ex fun i h => (h s H C cl fp).pe) hs) (pss_frz (r G)))
    fun D σ H ⟨S, f⟩ => lc_read (Q := fun v H' => gName i v σ H' _) hi.ad S.sg S.mu hl hz fun Dl H' acc s' m' _ hD0 hDA ea ra => ⟨Dl, _, ea, trivial, fun o' => by
      have sl : Sl H' (upd H' Dl (.frz o' (.lst acc))) := fun a u eu su => by
        rw [upd_ne]
        · exact eu
        · rintro rfl; rw [ea] at eu; cases eu; cases su
      have S' := S.step s' m' had
      refine ⟨⟨(S'.sg.sl sl).set (rp_lst.mpr ⟨Dl, o', acc, rfl, .inl upd_same, Rps.sl sl _ _ ra⟩), fun p hp => (m' p hp).keep sl fun u eu => ?_, fun a u n eu => ?_, S'.sl.trans sl, S'.may⟩, f⟩
      · rw [upd_ne]
        · exact eu
        · intro z; exact hDA (had ▸ z ▸ List.mem_map_of_mem hp)
      · have := S'.ok a u n eu
        rw [upd_ne]
        · exact this
        · rintro rfl
          rw [S.ok a u n eu] at hD0; cases hD0⟩
/-! what comes out -/
theorem CLoop.ad {vs : List Nat} {ρw : Rho} (h : CLoop X scope vs tg ifs elt ρw xs μ out μ2) : Ad μ2 = Ad μ := by
  induction h with
  | nil => rfl
  | yes hg hJ ht he r ih => exact ih.trans ((he X.s_0 (fun _ => none) (0 : Nat) [] []).ad.trans (ht X.s_0 (fun _ => none) (0 : Nat) [] []).ad)
  | no hg hJ ht r ih => exact ih.trans (ht X.s_0 (fun _ => none) (0 : Nat) [] []).ad
theorem CLoop.map {vs : List Nat} {ρw : Rho} (f : D → D) (h : ∀ x ∈ xs, ∃ ρ' J, (∀ s H C cl fp, DG (Blk X scope s H C cl fp) ρw tg x ρ' J) ∧ (∀ i ∈ J, i ∈ vs) ∧ ∀ s H C cl fp, DE (Blk X scope s H C cl fp) ρ' μ elt (f x) μ) : CLoop X scope vs tg [] elt ρw xs μ (xs.map f) μ := by
  induction xs with
  | nil => exact .nil
  | cons x xs ih =>
    obtain ⟨ρ', J, hg, hJ, he⟩ := h x List.mem_cons_self
    exact .yes hg hJ (fun _ _ _ _ _ => dts_nil) he (ih fun y hy => h y (List.mem_cons_of_mem _ hy))
/-- with one if -/
theorem CLoop.fmap {vs : List Nat} {ρw : Rho} {c : Expr} (f : D → Option D) (h : ∀ x ∈ xs, ∃ ρ' J, (∀ s H C cl fp, DG (Blk X scope s H C cl fp) ρw tg x ρ' J) ∧ (∀ i ∈ J, i ∈ vs) ∧ (∀ s H C cl fp, DT (Blk X scope s H C cl fp) ρ' μ c (f x).isSome μ) ∧ ∀ d, f x = some d → ∀ s H C cl fp, DE (Blk X scope s H C cl fp) ρ' μ elt d μ) :
    CLoop X scope vs tg [c] elt ρw xs μ (xs.filterMap f) μ := by
  induction xs with
  | nil => exact .nil
  | cons x xs ih =>
    obtain ⟨ρ', J, hg, hJ, ht, he⟩ := h x List.mem_cons_self
    have r := ih fun y hy => h y (List.mem_cons_of_mem _ hy)
    cases e : f x with
    | none =>
      rw [List.filterMap_cons_none e]
      rw [e] at ht
      exact .no hg hJ (fun s H C cl fp => dts_one (ht s H C cl fp)) r
    | some d =>
      rw [List.filterMap_cons_some e]
      rw [e] at ht
      exact .yes hg hJ (fun s H C cl fp => dts_one (ht s H C cl fp)) (he d e) r
end

/-! ### two clauses, nothing changing -/
section
variable {X : Cx} {scope : Scope} {own : List (Str × Nat)} {vs1 : List Nat} {tg it tg1 it1 elt : Expr} {ρ : Rho} {μ μ1 : Mus} {xs : List D} {pos : Pos} {f : D → List D}
theorem de_lc2 (hi : DI X ρ μ tg it xs μ) (f : D → List D)
    (h : ∀ x ∈ xs, ∃ ρ' J ys, (∀ s H C cl fp, DG (Blk X scope s H C cl fp) (wipeD ρ (own.map (·.2))) tg x ρ' J) ∧ (∀ i ∈ J, i ∈ own.map (·.2)) ∧ (∀ s H C cl fp, DI (Blk X scope s H C cl fp) ρ' μ tg1 it1 ys μ) ∧ CLoop X scope vs1 tg1 [] elt (wipeD ρ' vs1) ys μ (f x) μ)
    (hz : (xs.flatMap f).length ≤ 100000) (hN : X.N.Nodup) (ok : BlkOk X.N X.env.scope scope own) (hv : ∀ i ∈ vs1, i ∈ own.map (·.2)) (hc : X.calm = true := by rfl)
    (hs : ∀ x, foldedSetIterable it X.env x = pure x := by intro _; rfl) (hs1 : ∀ env x, foldedSetIterable it1 env x = pure x := by intro _ _; rfl) : DE X ρ μ (.ListComp elt [⟨tg, it, [], 0⟩, ⟨tg1, it1, [], 0⟩] scope pos) (.lst (xs.flatMap f)) μ := by
  refine ⟨PEw (pe_frz (pe_lc2 (wi := tI X.K ρ μ xs μ) (g := BG X scope tg) (tt := BT X scope []) (wi1 := BI X scope tg1 it1) (g1 := BG X scope tg1) (tt1 := BT X scope []) (te := BE X scope elt) (vs1 := vs1) hc hN hi.pi ok hv (fun s H C cl fp => PG.ex fun i h => h s H C cl fp) (fun s H C cl fp => PTs.ex fun i h => (h s H C cl fp).pts)
    (fun s H C cl fp => PI.ex fun i h => (h s H C cl fp).pi) (fun s H C cl fp => PG.ex fun i h => h s H C cl fp) (fun s H C cl fp => PTs.ex fun i h => (h s H C cl fp).pts) (fun s H C cl fp => PE.ex fun i h => (h s H C cl fp).pe) hs hs1)) fun σ H Q ⟨⟨g, m⟩, q⟩ => ?_, rfl⟩
  refine ⟨⟨g, m⟩, fun J H1 s1 m1 W Dl hD => ?_⟩
  obtain ⟨c0, hDA⟩ := lc_start m1 hD
  have n0 : Sl H1 (upd H1 Dl (.lst [])) := Same.sl (same_new hD)
  have hD0 : H Dl = none := by
    cases e : H Dl with
    | none => rfl
    | some u =>
      by_cases hA : Dl ∈ Ad μ
      · exact absurd hA hDA
      · rw [s1 Dl u hA e] at hD; cases hD
  refine ⟨fun i m H' => m = xs.length - i ∧ i ≤ xs.length ∧ Sl H1 H' ∧ CS X.K H1 (Ad μ) Dl ((xs.take i).flatMap f) μ H', ⟨xs.length, by simp, Nat.zero_le _, n0, by simpa using c0⟩, ?_⟩
  rintro i k H2 ⟨rfl, hi2, s2, c2⟩
  by_cases hlt : i < xs.length
  · refine .inr ⟨W.goes i H2 hlt s2, fun H' => ∃ m', m' < xs.length - i ∧ m' = xs.length - (i + 1) ∧ i + 1 ≤ xs.length ∧ Sl H1 H' ∧ CS X.K H1 (Ad μ) Dl ((xs.take (i + 1)).flatMap f) μ H', fun H' z => z, fun x H' y => ?_⟩
    obtain ⟨sm, d, hd, rd⟩ := W.yields i H2 x H' hlt s2 y
    have ed : d = xs[i] := Option.some.inj (hd.symm.trans (List.getElem?_eq_getElem hlt))
    subst ed
    obtain ⟨ρ', Jt, ys, hg, hJ, hI, hL⟩ := h xs[i] (List.getElem_mem hlt)
    have c3 : CS X.K H1 (Ad μ) Dl ((xs.take i).flatMap f) μ H' := c2.step hDA (SmB.same sm) (c2.mu.same sm) rfl
    have s3 : Sl H1 H' := s2.trans (Same.sl sm)
    have gw : Sg X.K H' (wipeD ρ (own.map (·.2))) (L2.wipe σ (own.map (·.2))) := ((g.sl (s1.sl m)).sl s3).wipe _
    refine ⟨⟨_, xs[i], ρ', Jt⟩, hg, gw, rd, fun σ2 g2 l2 k2 => ⟨wipe_eq l2 k2 hJ, ⟨ρ', μ, true, μ⟩, (fun _ _ _ _ _ => dts_nil), ⟨g2, c3.mu⟩, fun H4 s4 m4 => iteT ⟨⟨ρ', μ, ys, μ⟩, hI, ⟨g2.sl (s4.sl c3.mu), m4⟩, fun J1 H5 s5 m5 W1 => ?_⟩⟩⟩
    have c4 := c3.step hDA s4 m4 rfl
    have c5 := c4.step hDA s5 m5 rfl
    have g5 : Sg X.K H5 ρ' σ2 := (g2.sl (s4.sl c3.mu)).sl (s5.sl c4.mu)
    have s05 : Sl H1 H5 := (s3.trans (s4.sl c3.mu)).trans (s5.sl c4.mu)
    have e1 : (xs.take i).flatMap f ++ f xs[i] = (xs.take (i + 1)).flatMap f := by rw [List.take_add_one, List.getElem?_eq_getElem hlt, List.flatMap_append]; simp
    have hle : ((xs.take (i + 1)).flatMap f).length ≤ (xs.flatMap f).length := by
      conv => rhs; rw [← List.take_append_drop (i + 1) xs, List.flatMap_append, List.length_append]
      exact Nat.le_add_right _ _
    refine turns (Qend := fun H' => ∃ m', m' < xs.length - i ∧ m' = xs.length - (i + 1) ∧ i + 1 ≤ xs.length ∧ Sl H1 H' ∧ CS X.K H1 (Ad μ) Dl ((xs.take (i + 1)).flatMap f) μ H') W1 (g5.wipe vs1) hD hDA hL c5 (by rw [e1]; omega) fun H6 s6 c6 => ⟨_, by omega, rfl, hlt, s05.trans s6, by rw [← e1]; exact c6⟩
  · have e : i = xs.length := by omega
    subst e
    rw [List.take_length] at c2
    refine .inl ⟨W.stops H2 s2, .inr ?_⟩
    obtain ⟨acc, ea, ra⟩ := c2.acc
    refine ⟨Dl, _, ea, trivial, fun o => ?_⟩
    have sl : Sl H2 (upd H2 Dl (.frz o (.lst acc))) := fun a u eu su => by
      rw [upd_ne]
      · exact eu
      · rintro rfl; rw [ea] at eu; cases eu; cases su
    refine q _ _ (fun a u n eu => ?_) (fun p hp => (c2.mu p hp).keep sl fun u eu => ?_) (rp_lst.mpr ⟨Dl, o, acc, rfl, .inl upd_same, Rps.sl sl _ _ ra⟩)
    · rw [upd_ne (ne_of_none eu hD0)]
      exact c2.sm a u n (s1 a u n eu)
    · rw [upd_ne (c2.notin hDA hp)]
      exact eu
end
end PD

/-! The functional reading, further: dicts and lists that change. -/
namespace PD
open PySem PySem.Spec PyProof.Rows L2

/-! ### tables by keys -/
section
variable {α : Type}
def lkA (kd : List (Key × α)) (k : Key) : Option α := (kd.find? fun kv => decide (kv.1 = k)).map (·.2)
def putA (kd : List (Key × α)) (k : Key) (v : α) : List (Key × α) :=
  if (kd.any fun kv => decide (kv.1 = k)) = true then kd.map (fun kv => if kv.1 = k then (kv.1, v) else kv) else kd ++ [(k, v)]
end
def dctE {α : Type} (enc : α → D) (kd : List (Key × α)) : D := .dct (kd.map (·.1)) (kd.map fun kv => enc kv.2)
def moE {α : Type} (enc : α → D) (kd : List (Key × α)) : MO := .d (kd.map (·.1)) (kd.map fun kv => enc kv.2)
section
variable {α : Type} {enc : α → D} {K : PySem.W.Frag} {H : Hp}
/-- kvs bears kd -/
def KR (K : PySem.W.Frag) (H : Hp) (enc : α → D) (kd : List (Key × α)) (kvs : List (Key × V)) : Prop := kvs.map (·.1) = kd.map (·.1) ∧ Rps K H (kd.map fun kv => enc kv.2) (kvs.map (·.2))
theorem KR.cons_inv {p : Key × α} {kd : List (Key × α)} {kvs : List (Key × V)} (h : KR K H enc (p :: kd) kvs) : ∃ v r, kvs = (p.1, v) :: r ∧ Rp K H (enc p.2) v ∧ KR K H enc kd r := by
  obtain ⟨h1, h2⟩ := h
  cases kvs with
  | nil => simp at h1
  | cons q r =>
    obtain ⟨k, v⟩ := q
    simp only [List.map_cons, List.cons.injEq] at h1
    simp only [List.map_cons] at h2
    obtain ⟨v', r', e, r1, r2⟩ := rps_cons.mp h2
    simp only [List.cons.injEq] at e
    obtain ⟨rfl, rfl⟩ := e
    exact ⟨v, r, by rw [h1.1], r1, h1.2, r2⟩
theorem KR.nil_inv {kvs : List (Key × V)} (h : KR K H enc [] kvs) : kvs = [] := by
  have := h.1
  simpa using this
theorem KR.cn {p : Key × α} {kd : List (Key × α)} {kvs : List (Key × V)} {v : V} (r : Rp K H (enc p.2) v) (h : KR K H enc kd kvs) : KR K H enc (p :: kd) ((p.1, v) :: kvs) :=
  ⟨by simp [h.1], by simpa using Rps.cn r h.2⟩
theorem KR.nl : KR K H enc [] [] := ⟨rfl, by simpa using Rps.nl⟩
theorem KR.length {kd : List (Key × α)} {kvs : List (Key × V)} (h : KR K H enc kd kvs) : kvs.length = kd.length := by
  have := congrArg List.length h.1
  simpa using this
theorem KR.val {k : Key} : ∀ {kd : List (Key × α)} {kvs : List (Key × V)}, KR K H enc kd kvs → (lkA kd k = none ∧ valV kvs k = none) ∨ ∃ a v, lkA kd k = some a ∧ valV kvs k = some v ∧ Rp K H (enc a) v
  | [], kvs, h => by rw [h.nil_inv]; exact .inl ⟨rfl, rfl⟩
  | p :: kd, kvs, h => by
    obtain ⟨v, r, rfl, r1, h2⟩ := h.cons_inv
    by_cases e : p.1 = k
    · refine .inr ⟨p.2, v, by simp [lkA, List.find?_cons, e], valV_pos e, r1⟩
    · have e1 : lkA (p :: kd) k = lkA kd k := by simp [lkA, List.find?_cons, e]
      rw [e1, valV_neg (p := (p.1, v)) e]
      exact KR.val h2
theorem KR.any {k : Key} {kd : List (Key × α)} {kvs : List (Key × V)} (h : KR K H enc kd kvs) : (kvs.any fun kv => decide (kv.1 = k)) = kd.any fun kv => decide (kv.1 = k) := by
  have e1 : ∀ {β : Type} (l : List (Key × β)), (l.any fun kv => decide (kv.1 = k)) = (l.map (·.1)).any fun x => decide (x = k) := fun l => by rw [List.any_map]; rfl
  rw [e1, e1, h.1]
theorem KR.append {kd ke : List (Key × α)} {kvs kus : List (Key × V)} (h : KR K H enc kd kvs) (t : KR K H enc ke kus) : KR K H enc (kd ++ ke) (kvs ++ kus) :=
  ⟨by rw [List.map_append, List.map_append, h.1, t.1], by rw [List.map_append, List.map_append]; exact h.2.append t.2⟩
theorem KR.repl {k : Key} {a : α} {v : V} (r : Rp K H (enc a) v) : ∀ {kd : List (Key × α)} {kvs : List (Key × V)}, KR K H enc kd kvs → KR K H enc (kd.map fun kv => if kv.1 = k then (kv.1, a) else kv) (kvs.map fun kv => if kv.1 = k then (kv.1, v) else kv)
  | [], kvs, h => by rw [h.nil_inv]; exact KR.nl
  | p :: kd, kvs, h => by
    obtain ⟨w, t, rfl, r1, h2⟩ := h.cons_inv
    have ih := KR.repl (k := k) r h2
    simp only [List.map_cons]
    by_cases e : p.1 = k
    · rw [if_pos e, if_pos e]
      exact KR.cn (p := (p.1, a)) r ih
    · rw [if_neg e, if_neg e]
      exact KR.cn r1 ih
theorem KR.put {k : Key} {a : α} {v : V} {kd : List (Key × α)} {kvs : List (Key × V)} (h : KR K H enc kd kvs) (r : Rp K H (enc a) v) : KR K H enc (putA kd k a) (putK kvs k v) := by
  unfold putA putK
  rw [h.any]
  by_cases e : (kd.any fun kv => decide (kv.1 = k)) = true
  · rw [if_pos e, if_pos e]
    exact KR.repl r h
  · rw [if_neg e, if_neg e]
    exact h.append (KR.cn (p := (k, a)) r KR.nl)
theorem KR.sl {H' : Hp} {kd : List (Key × α)} {kvs : List (Key × V)} (s : Sl H H') (h : KR K H enc kd kvs) : KR K H' enc kd kvs := ⟨h.1, Rps.sl s _ _ h.2⟩
theorem mo_kr {p : Addr} {kd : List (Key × α)} (h : MoAt K H p (moE enc kd)) : ∃ kvs, H p = some (.dK kvs) ∧ KR K H enc kd kvs := let ⟨kvs, e, k, r⟩ := h; ⟨kvs, e, k, r⟩
theorem kr_mo {p : Addr} {kd : List (Key × α)} {kvs : List (Key × V)} (e : H p = some (.dK kvs)) (h : KR K H enc kd kvs) : MoAt K H p (moE enc kd) := ⟨kvs, e, h.1, h.2⟩
theorem rp_dctE {v : V} {kd : List (Key × α)} : Rp K H (dctE enc kd) v ↔ ∃ a o kvs, v = .ref a ∧ H a = some (.frz o (.dK kvs)) ∧ KR K H enc kd kvs := by
  unfold dctE KR
  rw [rp_dct]
end
theorem rp_kD {K : PySem.W.Frag} {H : Hp} {k : Key} {v : V} (h : Rp K H (kD k) v) : v = kV k := by
  cases k with
  | inl k => exact rp_int.mp h
  | inr k => exact rp_str.mp h
/-- the storing of a new thing at p, an old thing's new state at p -/
theorem sl_mut {H : Hp} {p : Addr} {u o : HO} (h : H p = some u) (n : solid u = false) : Sl H (upd H p o) := fun a w e s => by
  rw [upd_ne]
  · exact e
  · rintro rfl; rw [h] at e; cases e; rw [s] at n; cases n
theorem sl_new {H : Hp} {p : Addr} {o : HO} (h : H p = none) : Sl H (upd H p o) := Same.sl (same_new h)

section
variable {X : Cx} {b : Bs} {α : Type} {enc : α → D} {ρ ρ1 ρ' : Rho} {μ μ1 μ2 μ3 μr : Mus} {e o i value : Expr} {d dv : D} {ds l : List D} {pos pos' : Pos} {k : Key} {kd : List (Key × α)} {p : Addr} {a : α} {n : Int} {rest : List Stmt} {O' : O}
/-! ### reading a dict -/
theorem seq2' {σ : L2.St} {H : Hp} {d1 d2 : D} {Q : V → V → Hp → Prop} (ha : Ad μ1 = Ad μ) (g : Sg X.K H ρ σ) (m : Mu X.K H μ)
    (k : ∀ v1 v2 H', SmB (Ad μ) H H' → Mu X.K H' μ2 → Rp X.K H' d1 v1 → Rp X.K H' d2 v2 → Q v1 v2 H') : tE X.K ρ μ d1 μ1 σ H fun v1 H1 => tE X.K ρ μ1 d2 μ2 σ H1 fun v2 H2 => Q v1 v2 H2 := seq2 ha g m k
theorem pd_at {K : PySem.W.Frag} {H : Hp} {v : V} (m : Mu K H μ) (hp : (p, moE enc kd) ∈ μ) (r : Rp K H (.adr p) v) : ∃ kvs, v = .ref p ∧ H p = some (.dK kvs) ∧ KR K H enc kd kvs := let ⟨kvs, e, q⟩ := mo_kr (m _ hp); ⟨kvs, rp_adr.mp r, e, q⟩
theorem dt_dnotin (hu : X.A.units + 1 < cLine) (hi : DE X ρ μ i (kD k) μ1) (ho : DE X ρ μ1 o (.adr p) μ2) (hp : (p, moE enc kd) ∈ μ2) (hm : behindInMarks .NotIn o = false := by rfl) : DT X ρ μ (.Compare i [.NotIn] [o] pos) (!(lkA kd k).isSome) μ2 :=
  ⟨PTw (pt_cmp (pc_dnotin hu hi.pe ho.pe) hm) fun σ H Q ⟨⟨g, m⟩, q⟩ => seq2 hi.ad g m fun v1 v2 H' s' m' r1 r2 => by
    obtain ⟨kvs, rfl, e, kr⟩ := pd_at m' hp r2
    rw [rp_kD r1]
    refine ⟨p, _, rfl, DGet.k e, _, rfl, ?_⟩
    rcases kr.val (k := k) with ⟨e1, e2⟩ | ⟨a, v, e1, e2, _⟩ <;> (rw [e2]; have := q H' s' m'; rw [e1] at this; exact this), ho.ad.trans hi.ad⟩
theorem dt_din (hu : X.A.units + 1 < cLine) (hi : DE X ρ μ i (kD k) μ1) (ho : DE X ρ μ1 o (.adr p) μ2) (hp : (p, moE enc kd) ∈ μ2) (hm : behindInMarks .In o = false := by rfl) : DT X ρ μ (.Compare i [.In] [o] pos) ((lkA kd k).isSome) μ2 :=
  ⟨PTw (pt_cmp (pc_din hu hi.pe ho.pe) hm) fun σ H Q ⟨⟨g, m⟩, q⟩ => seq2 hi.ad g m fun v1 v2 H' s' m' r1 r2 => by
    obtain ⟨kvs, rfl, e, kr⟩ := pd_at m' hp r2
    rw [rp_kD r1]
    refine ⟨p, _, rfl, DGet.k e, _, rfl, ?_⟩
    rcases kr.val (k := k) with ⟨e1, e2⟩ | ⟨a, v, e1, e2, _⟩ <;> (rw [e2]; have := q H' s' m'; rw [e1] at this; exact this), ho.ad.trans hi.ad⟩
theorem de_dget (hu : X.A.units + 1 < cLine) (ho : DE X ρ μ o (.adr p) μ1) (hi : DE X ρ μ1 i (kD k) μ2) (hp : (p, moE enc kd) ∈ μ2) (h : lkA kd k = some a) (hs : NoSl i := by exact fun _ _ => rfl) : DE X ρ μ (.Subscript o i pos) (enc a) μ2 :=
  ⟨PEw (pe_dget hu ho.pe hi.pe hs) fun σ H Q ⟨⟨g, m⟩, q⟩ => seq2 ho.ad g m fun v1 v2 H' s' m' r1 r2 => by
    obtain ⟨kvs, rfl, e, kr⟩ := pd_at m' hp r1
    rw [rp_kD r2]
    rcases kr.val (k := k) with ⟨e1, e2⟩ | ⟨a', v, e1, e2, rv⟩
    · rw [h] at e1; cases e1
    · rw [h] at e1
      cases e1
      exact ⟨p, v, rfl, by rw [← e2]; exact DGet.k e, q v H' s' m' rv⟩, hi.ad.trans ho.ad⟩
/-- of a dict that changes no more -/
theorem de_dgetF (hu : X.A.units + 1 < cLine) (ho : DE X ρ μ o (dctE enc kd) μ1) (hi : DE X ρ μ1 i (kD k) μ2) (h : lkA kd k = some a) (hs : NoSl i := by exact fun _ _ => rfl) : DE X ρ μ (.Subscript o i pos) (enc a) μ2 :=
  ⟨PEw (pe_dget hu ho.pe hi.pe hs) fun σ H Q ⟨⟨g, m⟩, q⟩ => seq2 ho.ad g m fun v1 v2 H' s' m' r1 r2 => by
    obtain ⟨p, ob, kvs, rfl, e, kr⟩ := rp_dctE.mp r1
    rw [rp_kD r2]
    rcases kr.val (k := k) with ⟨e1, e2⟩ | ⟨a', v, e1, e2, rv⟩
    · rw [h] at e1; cases e1
    · rw [h] at e1
      cases e1
      exact ⟨p, v, rfl, .inl ⟨kvs, k, .inr ⟨ob, e⟩, rfl, e2.symm⟩, q v H' s' m' rv⟩, hi.ad.trans ho.ad⟩
/-! ### storing into a dict -/
theorem ds_dput (hu : X.A.units + 1 < cLine) (hv : DE X ρ μ value (enc a) μ1) (ho : DE X ρ μ1 o (.adr p) μ2) (hi : DE X ρ μ2 i (kD k) ((p, moE enc kd) :: μr)) (hp : p ∉ Ad μr) (hz : kd.length < 100000)
    (hs : swapsWith value (some (.Subscript o i pos')) pos.line X.env = pure false := by rfl) : DS X b ρ μ (.Assign [.Subscript o i pos'] value pos) (.nx ρ ((p, moE enc (putA kd k a)) :: μr)) := fun G =>
  PSw (ps_dput hu ho.pe hi.pe hv.pe hs) fun D σ H ⟨S, f⟩ => ⟨⟨S.sg, S.mu⟩, fun v H1 s1 m1 r1 => by
    have S1 := S.step s1 m1 hv.ad
    refine ⟨⟨S1.sg, S1.mu⟩, fun v2 H2 s2 m2 r2 => ?_⟩
    have S2 := S1.step s2 m2 ho.ad
    refine ⟨⟨S2.sg, S2.mu⟩, fun v3 H3 s3 m3 r3 => ?_⟩
    have S3 := S2.step s3 m3 hi.ad
    obtain ⟨kvs, e, kr⟩ := mo_kr m3.hd
    have e2 : v2 = .ref p := rp_adr.mp (Rp.sl (s3.sl m2) _ _ r2)
    rw [e2, rp_kD r3]
    have rv := Rp.sl (s3.sl m2) _ _ (Rp.sl (s2.sl m1) _ _ r1)
    refine ⟨p, _, rfl, DPut.k e (by rw [kr.length]; exact sz_lt hz), f σ _ ?_⟩
    have sl := sl_mut (o := .dK (putK kvs k v)) e rfl
    refine ⟨S3.sg.sl sl, Mu.cn (kr_mo upd_same (KR.sl sl (kr.put rv))) fun q hq => (m3.tl q hq).keep sl fun u eu => ?_, fun c u nm eu => ?_, S3.sl.trans sl, S3.may⟩
    · rw [upd_ne]
      · exact eu
      · intro z; exact hp (z ▸ List.mem_map_of_mem hq)
    · rw [upd_ne]
      · exact S3.ok c u nm eu
      · rintro rfl
        rcases S3.may c List.mem_cons_self with z | z
        · exact nm z
        · rw [z] at eu; cases eu⟩
/-! ### new things that change -/
/-- what a new thing at p gives: the slots i hold it -/
theorem dss_new {te : TE} {x : Str} {j : Nat} {m0 : MO} (he : PE X value te) (hr : ∀ σ H Q, Sg X.K H ρ σ → Mu X.K H μ → (∀ p u H1, Same H H1 → H1 p = none → MoAt X.K (upd H1 p u) p m0 → Q (.ref p) (upd H1 p u)) → te σ H Q)
    (r : ∀ p, p ∉ Ad μ → DSs X b (ρ.set j (some (.adr p))) ((p, m0) :: μ) rest O') (hN : X.N.Nodup) (hi : X.N[j]? = some x := by rfl) (hx : Loc X.env.scope x := by first | exact .inl rfl | exact .inr rfl)
    (hs : swapsWith value (some (.Name x pos')) pos.line X.env = pure false := by rfl) (hf : X.fn x = true ∨ X.env.scope.names.lookup x = some .local := by first | exact .inl rfl | exact .inr rfl) : DSs X b ρ μ (.Assign [.Name x pos'] value pos :: rest) O' := fun G =>
  PSsw (pss_cons (ps_set hN hi hx he hs hf) (PS.ex (P := fun i : Hp × Rho × Mus × O => DSs X b i.2.1 i.2.2.1 rest i.2.2.2) (t := fun i => tO X.K b i.1 i.2.1 i.2.2.1 i.2.2.2) fun i h => h i.1)) fun D σ H ⟨S, f⟩ => hr σ H _ S.sg S.mu fun p u H1 sm hp0 hm => by
    have hp1 : H p = none := by
      cases e : H p with
      | none => rfl
      | some w => rw [sm p w e] at hp0; cases hp0
    have hpA : p ∉ Ad μ := fun z => by
      obtain ⟨q, hq, e⟩ := List.mem_map.mp z
      obtain ⟨w, ew, _⟩ := (S.mu q hq).weak
      rw [e, hp1] at ew; cases ew
    have sm' : Same H (upd H1 p u) := fun c w e => same_new hp0 c w (sm c w e)
    refine ⟨⟨G, _, _, O'⟩, r p hpA, ⟨(S.sg.sl (Same.sl sm')).set (rp_adr.mpr rfl), Mu.cn hm (S.mu.same sm'), fun c w n e => sm' c w (S.ok c w n e), S.sl.trans (Same.sl sm'), fun c hc => ?_⟩, f⟩
    rcases List.mem_cons.mp hc with rfl | hc
    · by_cases hM : b.M c
      · exact .inl hM
      · refine .inr ?_
        cases e : b.H0 c with
        | none => rfl
        | some w => rw [S.ok c w hM e] at hp1; cases hp1
    · exact S.may c hc
/-- x = {} -/
theorem dss_newD {x : Str} {j : Nat} {p2 : Pos} (r : ∀ p, p ∉ Ad μ → DSs X b (ρ.set j (some (.adr p))) ((p, moE enc []) :: μ) rest O') (hN : X.N.Nodup) (hi : X.N[j]? = some x := by rfl) (hx : Loc X.env.scope x := by first | exact .inl rfl | exact .inr rfl)
    (hs : swapsWith (.Dict [] [] p2) (some (.Name x pos')) pos.line X.env = pure false := by rfl) (hf : X.fn x = true ∨ X.env.scope.names.lookup x = some .local := by first | exact .inl rfl | exact .inr rfl) : DSs X b ρ μ (.Assign [.Name x pos'] (.Dict [] [] p2) pos :: rest) O' :=
  dss_new pe_dnewK (fun σ H Q g m k p hp => k p _ H (Same.refl H) hp (kr_mo upd_same KR.nl)) r hN hi hx hs hf
theorem call_dictC : CallR X (.type "dict") (fun xs H Q => ∃ a kvs, xs = [.ref a] ∧ Rd H a (.dK kvs) ∧ ∀ p, H p = none → Q (.ref p) (upd H p (.dK kvs))) := by
  intro pins s σ H xs us Q I r h
  obtain ⟨a, kvs, rfl, e, q⟩ := h
  obtain ⟨u, rfl, ru⟩ := vals1 r
  cases ru
  exact d_copyOf I e fun p s' hp I' => ⟨.ref p, _, I', rfl, q p hp⟩
/-- x = dict(d) -/
theorem dss_newC {x : Str} {j : Nat} {p2 c2 : Pos} {nm : Expr} (hm : X.mg "dict" = none) (hd : DE X ρ [] nm (dctE enc kd) []) (r : ∀ p, p ∉ Ad μ → DSs X b (ρ.set j (some (.adr p))) ((p, moE enc kd) :: μ) rest O') (hN : X.N.Nodup) (hi : X.N[j]? = some x := by rfl) (hx : Loc X.env.scope x := by first | exact .inl rfl | exact .inr rfl)
    (hs : swapsWith (.Call (.Name "dict" p2) [nm] [] c2) (some (.Name x pos')) pos.line X.env = pure false := by rfl) (hf : X.fn x = true ∨ X.env.scope.names.lookup x = some .local := by first | exact .inl rfl | exact .inr rfl) (hg : Gl X "dict" := by rfl) (he : starEach [nm] X.env = (false, eval nm X.env) :: starEach [] X.env := by rfl) :
    DSs X b ρ μ (.Assign [.Name x pos'] (.Call (.Name "dict" p2) [nm] [] c2) pos :: rest) O' :=
  dss_new (pe_callTy call_dictC hg hm (by decide +kernel) (da_cons hd da_nil he).pa (by decide) (by decide) he rfl) (fun σ H Q g m k => ⟨⟨g, Mu.nl⟩, fun vs H1 s1 m1 r1 => by
    obtain ⟨v, rfl, hv⟩ := one1 r1
    obtain ⟨a, ob, kvs, rfl, e, kr⟩ := rp_dctE.mp hv
    exact ⟨a, kvs, rfl, .inr ⟨ob, e⟩, fun p hp => k p _ H1 (SmB.nil s1) hp (kr_mo upd_same (KR.sl (sl_new hp) kr))⟩⟩) r hN hi hx hs hf
/-- x = [..], a list that will change -/
theorem dss_newL {x : Str} {j : Nat} {es : List Expr} {p2 : Pos} (ha : DA X ρ [] es ds []) (r : ∀ p, p ∉ Ad μ → DSs X b (ρ.set j (some (.adr p))) ((p, .l ds) :: μ) rest O') (hN : X.N.Nodup) (hl : ds.length ≤ 100000 := by simp) (hi : X.N[j]? = some x := by rfl) (hx : Loc X.env.scope x := by first | exact .inl rfl | exact .inr rfl)
    (hs : swapsWith (.List es p2) (some (.Name x pos')) pos.line X.env = pure false := by rfl) (hf : X.fn x = true ∨ X.env.scope.names.lookup x = some .local := by first | exact .inl rfl | exact .inr rfl) : DSs X b ρ μ (.Assign [.Name x pos'] (.List es p2) pos :: rest) O' :=
  dss_new (m0 := .l ds) (pe_lst ha.pa) (fun σ H Q g m k => ⟨⟨g, Mu.nl⟩, fun vs H1 s1 m1 r1 => ⟨by rw [← r1.length]; exact sz_of hl, fun p hp => k p _ H1 (SmB.nil s1) hp ⟨vs, upd_same, Rps.sl (sl_new hp) _ _ r1⟩⟩⟩) r hN hi hx hs hf
/-! ### what changed is changed no more, its slot told anew -/
inductive Frz (a : Addr) (new : D) : Rho → Rho → Prop
  | nil : Frz a new [] []
  | keep {x : Option D} {ρ ρ' : Rho} (h : Frz a new ρ ρ') : Frz a new (x :: ρ) (x :: ρ')
  | chg {ρ ρ' : Rho} (h : Frz a new ρ ρ') : Frz a new (some (.adr a) :: ρ) (some new :: ρ')
  | drop {x : Option D} {ρ ρ' : Rho} (h : Frz a new ρ ρ') : Frz a new (x :: ρ) (none :: ρ')
theorem Frz.len {a : Addr} {new : D} {ρ ρ' : Rho} (h : Frz a new ρ ρ') : ρ'.length = ρ.length := by
  induction h with
  | nil => rfl
  | keep _ ih => simp [ih]
  | chg _ ih => simp [ih]
  | drop _ ih => simp [ih]
theorem Frz.get {a : Addr} {new : D} {ρ ρ' : Rho} (h : Frz a new ρ ρ') : ∀ (i : Nat) (d : D), ρ'[i]? = some (some d) → ρ[i]? = some (some d) ∨ (ρ[i]? = some (some (.adr a)) ∧ d = new) := by
  induction h with
  | nil => intro i d e; simp at e
  | keep _ ih =>
    intro i d e
    cases i with
    | zero => exact .inl (by simpa using e)
    | succ i => simpa using ih i d (by simpa using e)
  | chg _ ih =>
    intro i d e
    cases i with
    | zero => exact .inr ⟨rfl, by simpa using e.symm⟩
    | succ i => simpa using ih i d (by simpa using e)
  | drop _ ih =>
    intro i d e
    cases i with
    | zero => simp at e
    | succ i => simpa using ih i d (by simpa using e)
theorem dss_lock {a : Addr} {m : MO} {new : D} (hnew : ∀ (K : PySem.W.Frag) (H : Hp), MoAt K H a m → ∃ u, H a = some u ∧ Mut (some u) ∧ solid u = false ∧ ∀ o, Rp K (upd H a (.frz o u)) new (.ref a)) (hF : Frz a new ρ ρ') (hn : a ∉ Ad μ) (h : DSs X b ρ' μ rest O') : DSs X b ρ ((a, m) :: μ) rest O' := by
  refine fun G => PSsw (pss_frz (h G)) fun D σ H ⟨S, f⟩ => ?_
  obtain ⟨u, e, mt, so, rn⟩ := hnew X.K H S.mu.hd
  refine ⟨a, u, e, mt, fun o' => ?_⟩
  have sl := sl_mut (o := .frz o' u) e so
  refine ⟨⟨⟨by rw [hF.len]; exact S.sg.1, fun i d hd => ?_⟩, fun p hp => (S.mu.tl p hp).keep sl fun u eu => ?_, fun c u n eu => ?_, S.sl.trans sl, fun c hc => S.may c (List.mem_cons_of_mem _ hc)⟩, f⟩
  · rcases hF.get i d hd with z | ⟨z, rfl⟩
    · obtain ⟨v, ev, rv⟩ := S.sg.2 i d z
      exact ⟨v, ev, Rp.sl sl _ _ rv⟩
    · obtain ⟨v, ev, rv⟩ := S.sg.2 i _ z
      exact ⟨v, ev, by rw [rp_adr.mp rv]; exact rn o'⟩
  · rw [upd_ne]
    · exact eu
    · intro z; exact hn (z ▸ List.mem_map_of_mem hp)
  · rw [upd_ne]
    · exact S.ok c u n eu
    · rintro rfl
      rcases S.may c List.mem_cons_self with z | z
      · exact n z
      · rw [z] at eu; cases eu
theorem dss_lockD {a : Addr} {kd : List (Key × α)} (hF : Frz a (dctE enc kd) ρ ρ') (hn : a ∉ Ad μ) (h : DSs X b ρ' μ rest O') : DSs X b ρ ((a, moE enc kd) :: μ) rest O' :=
  dss_lock (fun K H m => by
    obtain ⟨kvs, e, kr⟩ := mo_kr m
    exact ⟨_, e, trivial, rfl, fun o => rp_dctE.mpr ⟨a, o, kvs, rfl, upd_same, KR.sl (sl_mut e rfl) kr⟩⟩) hF hn h
theorem dss_lockL {a : Addr} {l : List D} (hF : Frz a (.lst l) ρ ρ') (hn : a ∉ Ad μ) (h : DSs X b ρ' μ rest O') : DSs X b ρ ((a, .l l) :: μ) rest O' :=
  dss_lock (fun K H m => by
    obtain ⟨vs, e, r⟩ := m
    exact ⟨_, e, trivial, rfl, fun o => rp_lst.mpr ⟨a, o, vs, rfl, .inl upd_same, Rps.sl (sl_mut e rfl) _ _ r⟩⟩) hF hn h
/-- .. forget slots -/
theorem dss_drop {a : Addr} {new : D} (hF : Frz a (.adr a) ρ ρ') (h : DSs X b ρ' μ rest O') : DSs X b ρ μ rest O' := dss_weak h hF.len (fun i d e => by
  rcases hF.get i d e with z | ⟨z, rfl⟩
  · exact z
  · exact z) fun _ z => z
/-- {k: v} -/
theorem de_disp1 {k2 v2 : Expr} (hk : DE X ρ μ k2 (kD k) μ) (hv : DE X ρ μ v2 (enc a) μ) : DE X ρ μ (.Dict [some k2] [v2] pos) (dctE enc [(k, a)]) μ :=
  ⟨PEw (pe_frz (pe_disp (pps_cons hk.pe hv.pe pps_nil) rfl rfl (fun z => by cases z) (by simp))) fun σ H Q ⟨⟨g, m⟩, q⟩ p hp => by
    have hpA : p ∉ Ad μ := fun z => by
      obtain ⟨q, hq, e⟩ := List.mem_map.mp z
      obtain ⟨w, ew, _⟩ := (m q hq).weak
      rw [e, hp] at ew; cases ew
    refine ⟨⟨g.sl (sl_new hp), m.same (same_new hp)⟩, fun v H1 s1 m1 r1 => ⟨⟨(g.sl (sl_new hp)).sl (s1.sl (m.same (same_new hp))), m1⟩, fun v' H2 s2 m2 r2 => ?_⟩⟩
    have e2 : H2 p = some (.dK []) := s2 p _ hpA (s1 p _ hpA upd_same)
    refine ⟨e2, [(k, v')], by rw [rp_kD r1]; rfl, by simp, .inr ⟨p, _, upd_same, trivial, fun o => ?_⟩⟩
    rw [upd_upd]
    have sl := sl_mut (o := .frz o (.dK (mergeK [] [(k, v')]))) e2 rfl
    refine q _ _ (fun c u n eu => ?_) (fun p' hp' => (m2 p' hp').keep sl fun u eu => ?_) (rp_dctE.mpr ⟨p, o, _, rfl, upd_same, KR.sl sl (KR.cn (p := (k, a)) r2 KR.nl)⟩)
    · rw [upd_ne (ne_of_none eu hp)]
      exact s2 c u n (s1 c u n (by rw [upd_ne (ne_of_none eu hp)]; exact eu))
    · rw [upd_ne]
      · exact eu
      · intro z; exact hpA (z ▸ List.mem_map_of_mem hp'), rfl⟩
/-! ### lists that change -/
theorem pl_at {K : PySem.W.Frag} {H : Hp} {v : V} (m : Mu K H μ) (hp : (p, MO.l l) ∈ μ) (r : Rp K H (.adr p) v) : ∃ vs, v = .ref p ∧ H p = some (.lst vs) ∧ Rps K H l vs := let ⟨vs, e, q⟩ := m _ hp; ⟨vs, rp_adr.mp r, e, q⟩
theorem de_ixM (ho : DE X ρ μ o (.adr p) μ1) (hi : DE X ρ μ1 i (.int n) μ2) (hp : (p, MO.l l) ∈ μ2) (h : atI l n = some d) (hs : PlainIx i := by exact fun _ _ => rfl) : DE X ρ μ (.Subscript o i pos) d μ2 :=
  ⟨PEw (pe_ix ix_list ho.pe hi.pe hs) fun σ H Q ⟨⟨g, m⟩, q⟩ => seq2 ho.ad g m fun v1 v2 H' s' m' r1 r2 => by
    obtain ⟨vs, rfl, e, r⟩ := pl_at m' hp r1
    obtain ⟨v, e1, rv⟩ := atI_rps r h
    exact ⟨p, vs, n, v, rfl, rp_int.mp r2, .inl (.inl e), e1, q v H' s' m' rv⟩, hi.ad.trans ho.ad⟩
theorem ds_lput {j : Nat} (hv : DE X ρ μ value dv μ1) (ho : DE X ρ μ1 o (.adr p) μ2) (hi : DE X ρ μ2 i (.int n) ((p, .l l) :: μr)) (hj : ixN l.length n = some j) (hp : p ∉ Ad μr)
    (ha : ∀ v, assign (.Subscript o i pos') X.env v = (do
      let ov ← holding [v] (eval o X.env)
      let iv ← holding [v, ov] (eval i X.env)
      standAt pos'
      holding [v, ov, iv] (setItem ov iv v)
      release [v, ov, iv] []) := by intro _; rfl)
    (hs : swapsWithSole [.Subscript o i pos'] value pos.line X.env = pure false := by rfl) (hw : swappedStores [.Subscript o i pos'] value X.env = pure none := by rfl)
    (h1 : (assignEach [.Subscript o i pos'] X.env).map (·.2) = [assign (.Subscript o i pos') X.env] := by rfl) : DS X b ρ μ (.Assign [.Subscript o i pos'] value pos) (.nx ρ ((p, .l (l.set j dv)) :: μr)) := fun G =>
  PSw (ps_asg hv.pe (pg_sub ho.pe hi.pe set_list ha) hs hw h1) fun D σ H ⟨S, f⟩ => ⟨⟨S.sg, S.mu⟩, fun v H1 s1 m1 r1 => by
    have S1 := S.step s1 m1 hv.ad
    refine ⟨⟨S1.sg, S1.mu⟩, fun v2 H2 s2 m2 r2 => ?_⟩
    have S2 := S1.step s2 m2 ho.ad
    refine ⟨⟨S2.sg, S2.mu⟩, fun v3 H3 s3 m3 r3 => ?_⟩
    have S3 := S2.step s3 m3 hi.ad
    obtain ⟨vs, e, r⟩ := m3.hd
    have e2 : v2 = .ref p := rp_adr.mp (Rp.sl (s3.sl m2) _ _ r2)
    rw [e2, rp_int.mp r3]
    have rv := Rp.sl (s3.sl m2) _ _ (Rp.sl (s2.sl m1) _ _ r1)
    refine ⟨p, vs, n, j, rfl, rfl, e, by rw [← r.length]; exact hj, f σ _ ?_⟩
    have sl := sl_mut (o := .lst (vs.set j v)) e rfl
    refine ⟨S3.sg.sl sl, Mu.cn ⟨_, upd_same, Rps.sl sl _ _ (r.set j rv)⟩ fun q hq => (m3.tl q hq).keep sl fun u eu => ?_, fun c u nm eu => ?_, S3.sl.trans sl, S3.may⟩
    · rw [upd_ne]
      · exact eu
      · intro z; exact hp (z ▸ List.mem_map_of_mem hq)
    · rw [upd_ne]
      · exact S3.ok c u nm eu
      · rintro rfl
        rcases S3.may c List.mem_cons_self with z | z
        · exact nm z
        · rw [z] at eu; cases eu⟩
end
end PD

namespace PD
open PySem PySem.Spec PyProof.Rows L2
section
variable {X : Cx} {b : Bs} {ρ ρ1 ρ' : Rho} {μ μ1 : Mus} {e tg : Expr} {d : D} {J : List Nat} {pos : Pos}
/-- tg = e -/
theorem ds_asg (h : DE X ρ μ e d μ1) (g : DG X ρ tg d ρ' J) (hs : swapsWithSole [tg] e pos.line X.env = pure false := by rfl) (hw : swappedStores [tg] e X.env = pure none := by rfl)
    (h1 : (assignEach [tg] X.env).map (·.2) = [assign tg X.env] := by rfl) : DS X b ρ μ (.Assign [tg] e pos) (.nx ρ' μ1) := fun G =>
  PSw (ps_asg h.pe g hs hw h1) fun D σ H ⟨S, f⟩ => ⟨⟨S.sg, S.mu⟩, fun v H1 s1 m1 r => let T := S.step s1 m1 h.ad; ⟨T.sg, r, fun σ' g' _ _ => f σ' H1 ⟨g', T.mu, T.ok, T.sl, T.may⟩⟩⟩
theorem de_ifP {c a b2 : Expr} {k : Bool} (hc : DT X ρ μ c k μ1) (ht : k = true → DE X ρ μ1 a d μ1) (hf : k = false → DE X ρ μ1 b2 d μ1) : DE X ρ μ (.IfExp c a b2 pos) d μ1 := de_if hc ht hf
/-- a for that comes to its end, by a word P of the turn and the slots -/
theorem dss_forI {it : Expr} {body rest : List Stmt} {xs : List D} {o : O} {P : Nat → Rho → Mus → Prop} (hp : PassesOwn (model X.prog X.w) X.A X.env X.xe) (hi : DI X ρ μ tg it xs μ1) (h0 : P 0 ρ μ1)
    (step : ∀ i x ρ μ, xs[i]? = some x → P i ρ μ → ∃ ρ' J ρ1 μ1, DG X ρ tg x ρ' J ∧ DSs X b ρ' μ body (.nx ρ1 μ1) ∧ P (i + 1) ρ1 μ1) (r : ∀ ρ μ, P xs.length ρ μ → DSs X b ρ μ rest o) (hc : X.calm = true := by rfl) (hs : ∀ x, foldedSetIterable it X.env x = pure x := by intro _; rfl) :
    DSs X b ρ μ (.For tg it body [] pos :: rest) o := by
  obtain ⟨ρ1, μ2, lp, p⟩ := Loop.inv (X := X) (b := b) (tg := tg) (body := body) step h0
  exact dss_cons (ds_for hp hi lp hc hs) (r ρ1 μ2 p)
theorem Loop.upto {body : List Stmt} {xs : List D} {d : D} {μ2 : Mus} {P : Nat → Rho → Mus → Prop} {k : Nat} {x : D} (hx : xs[k]? = some x) (ret : ∀ ρ μ, P k ρ μ → ∃ ρ' J, DG X ρ tg x ρ' J ∧ DSs X b ρ' μ body (.ret d μ2)) :
    ∀ (n i : Nat) (ρ : Rho) (μ : Mus), i + n = k → (∀ j x ρ μ, i ≤ j → j < k → xs[j]? = some x → P j ρ μ → ∃ ρ' J ρ1 μ1, DG X ρ tg x ρ' J ∧ DSs X b ρ' μ body (.nx ρ1 μ1) ∧ P (j + 1) ρ1 μ1) → P i ρ μ → Loop X b tg body (xs.drop i) ρ μ (.ret d μ2) := by
  have hk : k < xs.length := (List.getElem?_eq_some_iff.mp hx).1
  intro n
  induction n with
  | zero =>
    intro i ρ μ e _ p
    have e' : i = k := by omega
    subst e'
    have hx' : xs[i] = x := (List.getElem?_eq_some_iff.mp hx).2
    obtain ⟨ρ', J, g, h⟩ := ret ρ μ p
    rw [List.drop_eq_getElem_cons hk, hx']
    exact .ret g h
  | succ n ih =>
    intro i ρ μ e st p
    have hi : i < xs.length := by omega
    obtain ⟨ρ', J, ρ1, μ1, g, h, p1⟩ := st i xs[i] ρ μ (Nat.le_refl _) (by omega) (List.getElem?_eq_getElem hi) p
    rw [List.drop_eq_getElem_cons hi]
    exact .next g h (ih (i + 1) ρ1 μ1 (by omega) (fun j x ρ μ h1 h2 h3 h4 => st j x ρ μ (by omega) h2 h3 h4) p1)
/-- a for that hands back at its k-th item -/
theorem dss_forR {it : Expr} {body rest : List Stmt} {xs : List D} {d : D} {μ2 : Mus} {P : Nat → Rho → Mus → Prop} (hp : PassesOwn (model X.prog X.w) X.A X.env X.xe) (hi : DI X ρ μ tg it xs μ1) {k : Nat} {x : D} (hx : xs[k]? = some x) (h0 : P 0 ρ μ1)
    (step : ∀ j x ρ μ, j < k → xs[j]? = some x → P j ρ μ → ∃ ρ' J ρ1 μ1, DG X ρ tg x ρ' J ∧ DSs X b ρ' μ body (.nx ρ1 μ1) ∧ P (j + 1) ρ1 μ1) (ret : ∀ ρ μ, P k ρ μ → ∃ ρ' J, DG X ρ tg x ρ' J ∧ DSs X b ρ' μ body (.ret d μ2)) (hc : X.calm = true := by rfl) (hs : ∀ x, foldedSetIterable it X.env x = pure x := by intro _; rfl) :
    DSs X b ρ μ (.For tg it body [] pos :: rest) (.ret d μ2) :=
  dss_stop (ds_for hp hi (by simpa using Loop.upto hx ret k 0 ρ μ1 (by omega) (fun j x ρ μ _ h => step j x ρ μ h) h0) hc hs)
theorem first_false {α : Type} {p : α → Bool} : ∀ {l : List α}, l.all p = false → ∃ (k : Nat) (x : α), l[k]? = some x ∧ p x = false ∧ ∀ j y, j < k → l[j]? = some y → p y = true
  | [], h => by simp at h
  | a :: l, h => by
    cases ha : p a with
    | false => exact ⟨0, a, rfl, ha, fun j y hj => by omega⟩
    | true =>
      rw [List.all_cons, ha, Bool.true_and] at h
      obtain ⟨k, x, h1, h2, h3⟩ := first_false h
      refine ⟨k + 1, x, by simpa using h1, h2, fun j y hj e => ?_⟩
      cases j with
      | zero => have : a = y := by simpa using e
                rw [← this]; exact ha
      | succ j => exact h3 j y (by omega) (by simpa using e)
end
end PD

/-! The functional reading, further: isinstance of built-in types, a def's place and its promise, constants of the module. -/
namespace PD
open PySem PySem.Spec PyProof.Rows L2
/-- no address within -/
def D.noA : D → Bool
  | .adr _ => false
  | _ => true
mutual
def D.real : D → Bool
  | .adr _ => false
  | .tup l => D.reals l
  | .lst l => D.reals l
  | .dct _ l => D.reals l
  | .non => true
  | .bl _ => true
  | .int _ => true
  | .str _ => true
def D.reals : List D → Bool
  | [] => true
  | d :: ds => D.real d && D.reals ds
end
theorem D.real_noA {d : D} (h : d.real = true) : d.noA = true := by
  cases d <;> first | rfl | (simp [D.real] at h)
def D.qInt : D → Bool
  | .int _ => true | .bl _ => true | _ => false
def D.qBool : D → Bool
  | .bl _ => true | _ => false
def D.qTup : D → Bool
  | .tup _ => true | _ => false
def D.qStr : D → Bool
  | .str _ => true | _ => false
section
variable {X : Cx} {ρ : Rho} {μ μ1 : Mus} {a : Expr} {d : D} {p p2 pos : Pos}
theorem de_isInt (hm : X.mg "isinstance" = none) (hmT : X.mg "int" = none) (ha : DE X ρ μ a d μ1) (hd : d.noA = true) (hg : Gl X "isinstance" := by rfl) (hgT : Gl X "int" := by rfl)
    (he : starEach [a, .Name "int" p2] X.env = (false, eval a X.env) :: starEach [.Name "int" p2] X.env := by rfl) (he2 : starEach [.Name "int" p2] X.env = (false, eval (.Name "int" p2) X.env) :: starEach [] X.env := by rfl) (hpl : (backTo pos (starEach [.Name "int" p2] X.env)).any (·.1) = false := by rfl) :
    DE X ρ μ (.Call (.Name "isinstance" p) [a, .Name "int" p2] [] pos) (.bl d.qInt) μ1 := by
  cases d <;> first | (cases hd; done) | exact de_isi (y := "") (Tn := "int") hm hmT (by decide +kernel) ha rfl (by first | decide +kernel | rfl) hg hgT (by decide) (by decide) he he2 hpl
theorem de_isBool (hm : X.mg "isinstance" = none) (hmT : X.mg "bool" = none) (ha : DE X ρ μ a d μ1) (hd : d.noA = true) (hg : Gl X "isinstance" := by rfl) (hgT : Gl X "bool" := by rfl)
    (he : starEach [a, .Name "bool" p2] X.env = (false, eval a X.env) :: starEach [.Name "bool" p2] X.env := by rfl) (he2 : starEach [.Name "bool" p2] X.env = (false, eval (.Name "bool" p2) X.env) :: starEach [] X.env := by rfl) (hpl : (backTo pos (starEach [.Name "bool" p2] X.env)).any (·.1) = false := by rfl) :
    DE X ρ μ (.Call (.Name "isinstance" p) [a, .Name "bool" p2] [] pos) (.bl d.qBool) μ1 := by
  cases d <;> first | (cases hd; done) | exact de_isi (y := "") (Tn := "bool") hm hmT (by decide +kernel) ha rfl (by first | decide +kernel | rfl) hg hgT (by decide) (by decide) he he2 hpl
theorem de_isTup (hm : X.mg "isinstance" = none) (hmT : X.mg "tuple" = none) (ha : DE X ρ μ a d μ1) (hd : d.noA = true) (hg : Gl X "isinstance" := by rfl) (hgT : Gl X "tuple" := by rfl)
    (he : starEach [a, .Name "tuple" p2] X.env = (false, eval a X.env) :: starEach [.Name "tuple" p2] X.env := by rfl) (he2 : starEach [.Name "tuple" p2] X.env = (false, eval (.Name "tuple" p2) X.env) :: starEach [] X.env := by rfl) (hpl : (backTo pos (starEach [.Name "tuple" p2] X.env)).any (·.1) = false := by rfl) :
    DE X ρ μ (.Call (.Name "isinstance" p) [a, .Name "tuple" p2] [] pos) (.bl d.qTup) μ1 := by
  cases d <;> first | (cases hd; done) | exact de_isi (y := "") (Tn := "tuple") hm hmT (by decide +kernel) ha rfl (by first | decide +kernel | rfl) hg hgT (by decide) (by decide) he he2 hpl
theorem de_isStr (hm : X.mg "isinstance" = none) (hmT : X.mg "str" = none) (ha : DE X ρ μ a d μ1) (hd : d.noA = true) (hg : Gl X "isinstance" := by rfl) (hgT : Gl X "str" := by rfl)
    (he : starEach [a, .Name "str" p2] X.env = (false, eval a X.env) :: starEach [.Name "str" p2] X.env := by rfl) (he2 : starEach [.Name "str" p2] X.env = (false, eval (.Name "str" p2) X.env) :: starEach [] X.env := by rfl) (hpl : (backTo pos (starEach [.Name "str" p2] X.env)).any (·.1) = false := by rfl) :
    DE X ρ μ (.Call (.Name "isinstance" p) [a, .Name "str" p2] [] pos) (.bl d.qStr) μ1 := by
  cases d <;> first | (cases hd; done) | exact de_isi (y := "") (Tn := "str") hm hmT (by decide +kernel) ha rfl (by first | decide +kernel | rfl) hg hgT (by decide) (by decide) he he2 hpl
end
/-- the def st stands under its name -/
def Df (K : PySem.W.Frag) (mg : Str → Option Value) (x : Str) (st : Stmt) : Prop := ∃ f fd, Fun K x x st f fd ∧ mg x = some (.ref f)
section
variable {P : Program} {w : World} {K : PySem.W.Frag} {mg : Str → Option Value} {base : Heap}
theorem cal_mk {x : Str} {st : Stmt} {ps : List Str} {k : Nat} {R : Rel} (C : Df K mg x st)
    (h : ∀ (kV doc pm : Value) (an : Option Addr) (cdv ct : Value) (us : List Value), us.length = ps.length → bindArgs (PySem.W.fnOf x x (defArgs st) (defBody st) (defScope st) .none kV doc pm an cdv ct) ⟨us, []⟩ = pure (ps.zip us))
    (F : ∀ f fd, Fun K x x st f fd → FnOk P w K mg base CX0 k f fd ps (spM K R)) : Cal P w K mg base x k R := by
  obtain ⟨f, fd, hf, hm⟩ := C
  exact ⟨f, fd, ps, F f fd hf, hm, hf.kp, hf.binds h⟩
/-- a constant of the module's top: an int, a tuple of flat things -/
def KInt (mg : Str → Option Value) (x : Str) (i : Int) : Prop := ∃ t, mg x = some (.int i t)
def KTup (K : PySem.W.Frag) (mg : Str → Option Value) (x : Str) (ds : List D) : Prop := ∃ a, mg x = some (.ref a) ∧ ∀ H, Rp K H (.tup ds) (.ref a)
theorem ktup_mk {x : Str} {a : Addr} {ds : List D} {o : Obj} {its : List Value} {n : Nat} (hm : mg x = some (.ref a)) (hk : K.lookup a = some o) (hc : o.cls = .type "tuple") (hd : o.data = .seq its.toArray n) (hz : its.length ≤ sizeLine)
    (hr : ds.all D.flat = true) (hv : Vals (ds.map D.fl) its) : KTup K mg x ds := by
  refine ⟨a, hm, fun H => rp_tup.mpr ⟨a, ds.map D.fl, rfl, .inr ⟨o, its.toArray, n, hk, hc, hd, by simpa using hz, by simpa using hv⟩, ?_⟩⟩
  have key : ∀ l : List D, l.all D.flat = true → Rps K H l (l.map D.fl) := fun l => by
    induction l with
    | nil => intro _; exact Rps.nl
    | cons d l ih =>
      intro h
      rw [List.all_cons, Bool.and_eq_true] at h
      refine Rps.cn ?_ (ih h.2)
      cases d with
      | non => exact rp_non.mpr rfl
      | bl b => exact rp_bl.mpr rfl
      | int b => exact rp_int.mpr rfl
      | str b => exact rp_str.mpr rfl
      | _ => cases h.1
  exact key ds hr
end
section
variable {X : Cx} {ρ : Rho} {μ : Mus} {x : Str} {p : Pos} {i : Int} {ds : List D}
theorem de_kint (h : KInt X.mg x i) (hg : Gl X x := by rfl) (hdb : (x == ("__debug__" : Str)) = false := by decide) : DE X ρ μ (.Name x p) (.int i) μ := by
  obtain ⟨t, h⟩ := h
  exact de_glob (v := .int i) hg h ⟨t, rfl⟩ (fun H => rp_int.mpr rfl) hdb
theorem de_ktup (h : KTup X.K X.mg x ds) (hg : Gl X x := by rfl) (hdb : (x == ("__debug__" : Str)) = false := by decide) : DE X ρ μ (.Name x p) (.tup ds) μ := by
  obtain ⟨a, h, q⟩ := h
  exact de_glob hg h (v := .ref a) rfl q hdb
end
end PD

/-! What == says of plain data. -/
namespace PD
open PySem PySem.Spec PyProof.Rows L2
theorem pys_map : ∀ l : List D, D.pys l = l.map D.py
  | [] => rfl
  | d :: l => by
    show D.py d :: D.pys l = _
    rw [pys_map l]
    rfl
theorem plains_all : ∀ l : List D, D.plains l = l.all D.plain
  | [] => rfl
  | d :: l => by
    show (D.plain d && D.plains l) = _
    rw [plains_all l]
    rfl
theorem lay_all : ∀ l : List PyData, PyData.canLayAll0 l = l.all PyData.canLay0
  | [] => rfl
  | d :: l => by
    show (PyData.canLay0 d && PyData.canLayAll0 l) = _
    rw [lay_all l]
    rfl
theorem depth_all {k : Nat} : ∀ {l : List PyData}, (∀ x ∈ l, PyData.depth x ≤ k) → PyData.depthAll l ≤ k
  | [], _ => Nat.zero_le _
  | d :: l, h => by
    show max (PyData.depth d) (PyData.depthAll l) ≤ k
    exact Nat.max_le.mpr ⟨h d List.mem_cons_self, depth_all fun x hx => h x (List.mem_cons_of_mem _ hx)⟩
/-- plain data, at most k deep -/
structure D.cm (k : Nat) (d : D) : Prop where
  pl : d.plain = true
  ly : d.py.canLay0 = true
  dp : d.py.depth ≤ k
theorem cm_int {k : Nat} {i : Int} : D.cm k (.int i) := ⟨rfl, rfl, Nat.zero_le _⟩
theorem cm_non {k : Nat} : D.cm k .non := ⟨rfl, rfl, Nat.zero_le _⟩
theorem cm_bl {k : Nat} {b : Bool} : D.cm k (.bl b) := ⟨rfl, rfl, Nat.zero_le _⟩
theorem cm_tup {k : Nat} {l : List D} (h : ∀ d ∈ l, D.cm k d) : D.cm (k + 1) (.tup l) := by
  refine ⟨?_, ?_, ?_⟩
  · show D.plains l = true
    rw [plains_all, List.all_eq_true]
    exact fun d hd => (h d hd).pl
  · show PyData.canLayAll0 (D.pys l) = true
    rw [lay_all, pys_map, List.all_map, List.all_eq_true]
    exact fun d hd => (h d hd).ly
  · show PyData.depthAll (D.pys l) + 1 ≤ k + 1
    refine Nat.succ_le_succ (depth_all fun x hx => ?_)
    rw [pys_map] at hx
    obtain ⟨d, hd, rfl⟩ := List.mem_map.mp hx
    exact (h d hd).dp
theorem cm_lst {k : Nat} {l : List D} (h : ∀ d ∈ l, D.cm k d) : D.cm (k + 1) (.lst l) := by
  have t := cm_tup h
  exact ⟨t.pl, t.ly, t.dp⟩
theorem D.cm.ok {k : Nat} {d : D} (h : D.cm k d) (hk : k ≤ 64 := by decide) : d.cmpOk = true := by
  show (d.plain && (d.py.canLay0 && decide (d.py.depth ≤ 64))) = true
  rw [h.pl, h.ly, decide_eq_true (Nat.le_trans h.dp hk)]
  rfl
theorem cm_map {α : Type} {k : Nat} {f : α → D} (h : ∀ a, D.cm k (f a)) (l : List α) : ∀ d ∈ l.map f, D.cm k d := fun d hd => by
  obtain ⟨a, _, rfl⟩ := List.mem_map.mp hd
  exact h a
/-- a coding that == tells as = -/
def EqC {α : Type} [DecidableEq α] (f : α → D) : Prop := ∀ x y, D.eqv (f x) (f y) = decide (x = y)
theorem eqC_int : EqC D.int := fun x y => by
  show (x == y) = _
  rw [Bool.beq_eq_decide_eq]
theorem eqvAll_map {α : Type} [DecidableEq α] {f : α → D} (h : EqC f) : ∀ a b : List α, PyData.eqvAll (D.pys (a.map f)) (D.pys (b.map f)) = decide (a = b)
  | [], [] => rfl
  | [], _ :: _ => rfl
  | _ :: _, [] => rfl
  | x :: a, y :: b => by
    show (D.eqv (f x) (f y) && PyData.eqvAll (D.pys (a.map f)) (D.pys (b.map f))) = _
    rw [h x y, eqvAll_map h a b, Bool.eq_iff_iff]
    simp
theorem eqC_lst {α : Type} [DecidableEq α] {f : α → D} (h : EqC f) : EqC fun l : List α => .lst (l.map f) := fun a b => eqvAll_map h a b
theorem eqC_tup {α : Type} [DecidableEq α] {f : α → D} (h : EqC f) : EqC fun l : List α => .tup (l.map f) := fun a b => eqvAll_map h a b
theorem eqC_pair {α β : Type} [DecidableEq α] [DecidableEq β] {f : α → D} {g : β → D} (h : EqC f) (k : EqC g) : EqC fun p : α × β => .tup [f p.1, g p.2] := fun a b => by
  show (D.eqv (f a.1) (f b.1) && (D.eqv (g a.2) (g b.2) && true)) = _
  rw [h, k, Bool.and_true, Bool.eq_iff_iff]
  simp [Prod.ext_iff]
section
variable {X : Cx} {ρ : Rho} {μ μ1 : Mus} {a : Expr} {i : Int} {pos : Pos}
theorem de_neg (ha : DE X ρ μ a (.int i) μ1) : DE X ρ μ (.UnaryOp .USub a pos) (.int (-i)) μ1 :=
  ⟨PEw (pe_un un_neg ha.pe) fun σ H Q ⟨⟨g, m⟩, q⟩ => ⟨⟨g, m⟩, fun v H1 s1 m1 r => ⟨i, rp_int.mp r, q _ H1 s1 m1 (rp_int.mpr rfl)⟩⟩, ha.ad⟩
end
end PD

/-! Tables of the best pairs by ints; a for as a fold. -/
namespace PD
open PySem PySem.Spec PyProof.Rows L2
section
variable {β : Type}
def lkI (t : List (Int × β)) (k : Int) : Option β := (t.find? fun kv => decide (kv.1 = k)).map (·.2)
def putI (t : List (Int × β)) (k : Int) (v : β) : List (Int × β) :=
  if (t.any fun kv => decide (kv.1 = k)) = true then t.map (fun kv => if kv.1 = k then (kv.1, v) else kv) else t ++ [(k, v)]
def inK (t : List (Int × β)) : List (Key × β) := t.map fun kv => (.inl kv.1, kv.2)
theorem inl_dec (a k : Int) : decide ((Sum.inl a : Key) = .inl k) = decide (a = k) := by
  by_cases h : a = k
  · subst h; simp
  · have : ¬ (Sum.inl a : Key) = .inl k := fun z => h (Sum.inl.inj z)
    rw [decide_eq_false h, decide_eq_false this]
theorem lk_inK {k : Int} : ∀ t : List (Int × β), lkA (inK t) (.inl k) = lkI t k
  | [] => rfl
  | kv :: t => by
    have ih := lk_inK (k := k) t
    unfold lkA lkI inK at *
    rw [List.map_cons, List.find?_cons, List.find?_cons, inl_dec]
    cases decide (kv.1 = k) with
    | true => rfl
    | false => exact ih
theorem any_inK {k : Int} (t : List (Int × β)) : ((inK t).any fun kv => decide (kv.1 = .inl k)) = t.any fun kv => decide (kv.1 = k) := by
  unfold inK
  rw [List.any_map]
  congr 1
  funext kv
  exact inl_dec _ _
theorem put_inK {k : Int} {v : β} (t : List (Int × β)) : putA (inK t) (.inl k) v = inK (putI t k v) := by
  unfold putA putI
  rw [any_inK]
  by_cases h : (t.any fun kv => decide (kv.1 = k)) = true
  · rw [if_pos h, if_pos h]
    unfold inK
    rw [List.map_map, List.map_map]
    refine List.map_congr_left fun kv _ => ?_
    show (if (Sum.inl kv.1 : Key) = .inl k then ((.inl kv.1 : Key), v) else (.inl kv.1, kv.2)) = (fun kv : Int × β => ((.inl kv.1 : Key), kv.2)) (if kv.1 = k then (kv.1, v) else kv)
    by_cases e : kv.1 = k
    · rw [if_pos e, if_pos (congrArg Sum.inl e)]
    · rw [if_neg e, if_neg (fun z => e (Sum.inl.inj z))]
  · rw [if_neg h, if_neg h]
    unfold inK
    rw [List.map_append]
    rfl
theorem len_inK (t : List (Int × β)) : (inK t).length = t.length := List.length_map ..
/-- the best pair by a key -/
def better (t : List (Int × (Int × β))) (k g : Int) (x : β) : List (Int × (Int × β)) :=
  if !(lkI t k).isSome || (match lkI t k with | some (h, _) => decide (h < g) | none => true) then putI t k (g, x) else t
def encP (e : β → D) (q : Int × β) : D := .tup [.int q.1, e q.2]
end
section
variable {X : Cx} {b : Bs} {ρ ρ1 ρ' : Rho} {μ μ1 μr : Mus} {e tg : Expr} {d : D} {J : List Nat} {pos : Pos} {rest : List Stmt} {o : O}
/-- a for as a fold over what is walked -/
theorem dss_forF {α σ : Type} {it : Expr} {body : List Stmt} (l : List α) (f : α → D) (step : σ → α → σ) (s0 : σ) (P : σ → Rho → Mus → Prop) (hp : PassesOwn (model X.prog X.w) X.A X.env X.xe) (hi : DI X ρ μ tg it (l.map f) μ1) (h0 : P s0 ρ μ1)
    (st : ∀ a, a ∈ l → ∀ s ρ μ, P s ρ μ → ∃ ρ' J ρ1 μ1, DG X ρ tg (f a) ρ' J ∧ DSs X b ρ' μ body (.nx ρ1 μ1) ∧ P (step s a) ρ1 μ1) (r : ∀ ρ μ, P (l.foldl step s0) ρ μ → DSs X b ρ μ rest o) (hc : X.calm = true := by rfl) (hs : ∀ x, foldedSetIterable it X.env x = pure x := by intro _; rfl) :
    DSs X b ρ μ (.For tg it body [] pos :: rest) o := by
  refine dss_forI (P := fun i ρ μ => P ((l.take i).foldl step s0) ρ μ) hp hi h0 (fun i x ρ μ hx hP => ?_) (fun ρ μ hP => r ρ μ ?_) hc hs
  · rw [List.getElem?_map] at hx
    cases q : l[i]? with
    | none => rw [q] at hx; cases hx
    | some a =>
      rw [q] at hx
      have hx' : f a = x := by simpa using hx
      subst hx'
      obtain ⟨ρ', J, ρ1, μ1, g, h, p⟩ := st a (List.mem_of_getElem? q) _ ρ μ hP
      refine ⟨ρ', J, ρ1, μ1, g, h, ?_⟩
      show P ((l.take (i + 1)).foldl step s0) ρ1 μ1
      rw [List.take_add_one, q, List.foldl_append]
      exact p
  · have hP' : P ((l.take (l.map f).length).foldl step s0) ρ μ := hP
    rw [List.length_map, List.take_length] at hP'
    exact hP'
variable {β : Type} {enc : β → D} {t : List (Int × (Int × β))} {p : Addr} {k g : Int} {x : β} {k1 k2 k3 f1 f2 f3 g1 g2 xe : Expr} {q1 q2 q3 q4 q5 q6 q7 q8 q9 : Pos} {jc n : Nat}
theorem dss_better (hu64 : X.A.units + 64 < cLine)
    (hk1 : DE X ρ ((p, moE (encP enc) (inK t)) :: μr) k1 (.int k) ((p, moE (encP enc) (inK t)) :: μr)) (hk2 : DE X ρ ((p, moE (encP enc) (inK t)) :: μr) k2 (.int k) ((p, moE (encP enc) (inK t)) :: μr)) (hk3 : DE X ρ ((p, moE (encP enc) (inK t)) :: μr) k3 (.int k) ((p, moE (encP enc) (inK t)) :: μr))
    (hf1 : DE X ρ ((p, moE (encP enc) (inK t)) :: μr) f1 (.adr p) ((p, moE (encP enc) (inK t)) :: μr)) (hf2 : DE X ρ ((p, moE (encP enc) (inK t)) :: μr) f2 (.adr p) ((p, moE (encP enc) (inK t)) :: μr)) (hf3 : DE X ρ ((p, moE (encP enc) (inK t)) :: μr) f3 (.adr p) ((p, moE (encP enc) (inK t)) :: μr))
    (hg1 : DE X ρ ((p, moE (encP enc) (inK t)) :: μr) g1 (.int g) ((p, moE (encP enc) (inK t)) :: μr)) (hv : DA X ρ ((p, moE (encP enc) (inK t)) :: μr) [g2, xe] [.int g, enc x] ((p, moE (encP enc) (inK t)) :: μr))
    (hpA : p ∉ Ad μr) (hz : t.length < 100000) (r : DSs X b ρ ((p, moE (encP enc) (inK (better t k g x))) :: μr) rest o)
    (hm : behindInMarks .NotIn f1 = false := by rfl) (hs2 : NoSl k2 := by exact fun _ _ => rfl)
    (hs : swapsWith (.Tuple [g2, xe] n q7) (some (.Subscript f3 k3 q6)) q8.line X.env = pure false := by rfl) :
    DSs X b ρ ((p, moE (encP enc) (inK t)) :: μr) (.If (.BoolOp .Or [.Compare k1 [.NotIn] [f1] q1, .Compare (.Subscript (.Subscript f2 k2 q2) (.Constant (.int 0) jc q9) q3) [.Lt] [g1] q4] q5) [.Assign [.Subscript f3 k3 q6] (.Tuple [g2, xe] n q7) q8] [] pos :: rest) o := by
  have hu : X.A.units + 1 < cLine := Nat.lt_of_le_of_lt (Nat.add_le_add_left (by decide) _) hu64
  have put : DS X b ρ ((p, moE (encP enc) (inK t)) :: μr) (.Assign [.Subscript f3 k3 q6] (.Tuple [g2, xe] n q7) q8) (.nx ρ ((p, moE (encP enc) (inK (putI t k (g, x)))) :: μr)) := by
    rw [← put_inK]
    exact ds_dput hu (a := (g, x)) (de_tup hv) hf3 (k := .inl k) hk3 hpA (by rw [len_inK]; exact hz) hs
  cases hl : lkI t k with
  | none =>
    refine dss_if (dw_or (k2 := true) (dt_dnotin (k := .inl k) (kd := inK t) (enc := encP enc) hu hk1 hf1 List.mem_cons_self hm) fun h => ?_).dt (fun h => .go (dss_one put) ?_) (fun h => ?_)
    · rw [lk_inK, hl] at h; cases h
    · have e : better t k g x = putI t k (g, x) := by unfold better; rw [hl]; rfl
      rw [e] at r
      exact r
    · rw [lk_inK, hl] at h; cases h
  | some hx =>
    obtain ⟨h0, x0⟩ := hx
    refine dss_if (dw_or (k2 := decide (h0 < g)) (dt_dnotin (k := .inl k) (kd := inK t) (enc := encP enc) hu hk1 hf1 List.mem_cons_self hm) fun _ => dw_or1 (dt_lt (de_ixT (de_dget (k := .inl k) (kd := inK t) (enc := encP enc) (a := (h0, x0)) hu hf2 hk2 List.mem_cons_self (by rw [lk_inK, hl]) hs2) de_int rfl) hg1)).dt (fun h => .go (dss_one put) ?_) (fun h => .go dss_nil ?_)
    · have e : better t k g x = putI t k (g, x) := by
        rw [lk_inK, hl] at h
        unfold better
        rw [hl]
        exact if_pos h
      rw [e] at r
      exact r
    · have e : better t k g x = t := by
        rw [lk_inK, hl] at h
        unfold better
        rw [hl]
        exact if_neg (by rw [Bool.not_eq_true]; exact h)
      rw [e] at r
      exact r
end
end PD

/-! list + list whatever reads as one; a def as a thing, its call by a slot. -/
namespace PD
open PySem PySem.Spec PyProof.Rows L2
/-- of any two plain lists -/
theorem add_any (l b : Addr) (o o2 : Obj) (its its2 : Array Value) (n n2 : Nat) (hz : its.size + its2.size ≤ sizeLine) (c1 : o.cls = .type "list") (d1 : o.data = .seq its n) (c2 : o2.cls = .type "list") (d2 : o2.data = .seq its2 n2) :
    Meets (Builtin.«list.__add__» ⟨[.ref l, .ref b], []⟩) (fun _ R s => s.heap.get? l = some o ∧ s.heap.get? b = some o2 ∧ R (.ok (.ret (Value.ref s.heap.objs.size))) { s with heap := s.heap.push { cls := Value.type "list", data := Data.seq (its ++ its2) }, toks := s.toks }) := by
  obtain ⟨oc, od, odt, osl⟩ := o
  obtain ⟨oc2, od2, odt2, osl2⟩ := o2
  cases c1
  cases c2
  cases d1
  cases d2
  refine .of_wp fun prog w A R s h => ?_
  obtain ⟨hp, g, d, tk, os⟩ := s
  obtain ⟨hl, hb, h⟩ := h
  have k1 := PySem.AutoSeq1.idx_int
  have k2 := PySem.AutoSeq1.sub_tuple_tuple
  have k3 := PySem.AutoSeq1.sub_list_list
  have k4 := PySem.AutoSeq1.sub_tuple_list
  have k5 := PySem.AutoSeq1.sub_list_tuple
  wp_walk using PySem.AutoSeq1.wpAny_loadPart' hl, PySem.AutoSeq1.wpAny_loadPart' hb
  exact ⟨_, rfl, h⟩
theorem op_catQ {X : Cx} : OpR X (binaryOp .Add) (rCatQ X.K) := by
  intro pins s σ H x y v u Q I rx ry h
  obtain ⟨l, b, xs, zs, rfl, rfl, hA, hB, hz, q⟩ := h
  cases rx
  cases ry
  obtain ⟨its, r, p, z⟩ := I.list hA
  obtain ⟨its2, r2, p2, z2⟩ := I.list hB
  obtain ⟨o, n, e, c, _, d⟩ := p
  obtain ⟨o2, n2, e2, c2, _, d2⟩ := p2
  have hz' : its.toArray.size + its2.toArray.size ≤ sizeLine := by
    rw [List.size_toArray, List.size_toArray, ← r.length, ← r2.length]
    exact hz
  refine concat_meets ⟨_, e, c⟩ ⟨_, e2, c2⟩ noFill_list_add seq_list_add F.slot_list_add F.entry_list_add (F.args_list_add_2 _ _) (add_any l b o o2 its.toArray its2.toArray n n2 hz' c d c2 d2) ⟨e, e2, ?_⟩
  have ea : its.toArray ++ its2.toArray = (its ++ its2).toArray := by simp
  rw [ea]
  exact ⟨.ref _, _, I.lnew (t' := s.toks) (r.append r2) (by rw [List.length_append]; exact hz), rfl, q _ I.fresh⟩
section
variable {X : Cx} {ρ : Rho} {μ μ1 μ2 : Mus} {a b e : Expr} {es : List Expr} {d : D} {ds : List D} {p pos : Pos} {x : Str} {n i : Nat}
theorem de_catL {l1 l2 : List D} (ha : DE X ρ μ a (.lst l1) μ1) (hb : DE X ρ μ1 b (.lst l2) μ2) (hz : l1.length + l2.length ≤ 100000) : DE X ρ μ (.BinOp a .Add b pos) (.lst (l1 ++ l2)) μ2 := by
  refine ⟨PEw (pe_frz (pe_op op_catQ ha.pe hb.pe)) fun σ H Q ⟨⟨g, m⟩, q⟩ => seq2 ha.ad g m fun v1 v2 H' s' m' r1 r2 => ?_, hb.ad.trans ha.ad⟩
  obtain ⟨p1, o1, vs1, rfl, q1, w1⟩ := rp_lst.mp r1
  obtain ⟨p2, o2, vs2, rfl, q2, w2⟩ := rp_lst.mp r2
  refine ⟨p1, p2, vs1, vs2, rfl, rfl, q1.sq, q2.sq, by rw [← w1.length, ← w2.length]; exact sz_of hz, fun p hp => .inr ⟨p, _, upd_same, trivial, fun o => ?_⟩⟩
  rw [upd_upd]
  exact q _ _ (s'.trans (SmB.new hp)) (m'.same (same_new hp)) (fr_lst hp (w1.append w2))
/-- the def of a promise stands at f -/
structure CalAt (P : Program) (w : World) (K : PySem.W.Frag) (mg : Str → Option Value) (base : Heap) (x : Str) (k : Nat) (R : Rel) (f : Addr) : Prop where
  ex : ∃ (fd : FuncData) (ps : List Str), FnOk P w K mg base CX0 k f fd ps (spM K R) ∧ mg x = some (.ref f) ∧ PySem.W.keepIn K (.ref f) = true ∧ Binds K fd ps []
theorem Cal.at {P : Program} {w : World} {K : PySem.W.Frag} {mg : Str → Option Value} {base : Heap} {k : Nat} {R : Rel} (h : Cal P w K mg base x k R) : ∃ f, CalAt P w K mg base x k R f := by
  obtain ⟨f, fd, ps, q⟩ := h.ex
  exact ⟨f, fd, ps, q⟩
theorem de_defn {f : Addr} {k : Nat} {R : Rel} (C : CalAt X.prog X.w X.K X.mg X.base x k R f) (hg : Gl X x := by rfl) (hdb : (x == ("__debug__" : Str)) = false := by decide) : DE X ρ μ (.Name x p) (.adr f) μ := by
  obtain ⟨fd, ps, _, hm, _⟩ := C.ex
  exact de_glob (v := .ref f) hg hm rfl (fun H => rp_adr.mpr rfl) hdb
/-- y(..), y a slot that holds the def of x -/
theorem de_callS {f : Addr} {y : Str} {k : Nat} {R : List D → D → Prop} (i : Nat) (C : CalAt X.prog X.w X.K X.mg X.base x k (Pure R) f) (hs : ρ[i]? = some (some (.adr f))) (hr : Room k X.A) (ha : DA X ρ μ (e :: es) ds μ1) (h : R ds d) (hN : X.N[i]? = some y := by rfl) (hv : Vis X.env.scope y := by first | exact Or.inl rfl | exact Or.inr (Or.inl rfl) | exact Or.inr (Or.inr rfl))
    (hdb : (y == ("__debug__" : Str)) = false := by decide) (hcd : (y == ("__classdict__" : Str)) = false := by decide) (he : starEach (e :: es) X.env = (false, eval e X.env) :: starEach es X.env := by rfl) (hpl : (backTo pos (starEach es X.env)).any (·.1) = false := by rfl) : DE X ρ μ (.Call (.Name y p) (e :: es) [] pos) d μ1 := by
  obtain ⟨fd, ps, F, hm, hk, hb⟩ := C.ex
  refine ⟨PEw (pe_callL F hr hN hv hk hb .nil (pass0 (X := X)) ha.pa hdb hcd he hpl) fun σ H Q ⟨⟨g, m⟩, q⟩ => ?_, ha.ad⟩
  obtain ⟨v, ev, rv⟩ := g.2 i _ hs
  rw [rp_adr.mp rv] at ev
  refine ⟨ev, ⟨g, m⟩, fun vs H1 s1 m1 r1 => ?_⟩
  show spM X.K (Pure R) (vs ++ []) H1 Q E0
  rw [List.append_nil]
  exact ⟨ds, [], d, [], r1, Mu.nl, ⟨rfl, rfl, h⟩, fun v H' s' _ rv => q v H' (s1.trans (SmB.same (SmB.nil s'))) (m1.same (SmB.nil s')) rv⟩
end
end PD

/-! A def that hands back a new list of one's own. -/
namespace PD
open PySem PySem.Spec PyProof.Rows L2
def tN (K : PySem.W.Frag) (H0 : Hp) (ρ : Rho) (m : MO) : TS := fun D σ H => (Sg K H ρ σ ∧ Same H0 H) ∧ ∀ p u H1, Same H0 H1 → H1 p = none → MoAt K (upd H1 p u) p m → D.rt (.ref p) (upd H1 p u)
def DSn (X : Cx) (H0 : Hp) (ρ : Rho) (st : List Stmt) (m : MO) : Prop := PSs X st (tN X.K H0 ρ m)
theorem Same.trans' {H H1 H2 : Hp} (a : Same H H1) (b : Same H1 H2) : Same H H2 := fun c u e => b c u (a c u e)
section
variable {X : Cx} {H0 : Hp} {ρ : Rho} {c : Expr} {k : Bool} {A rest : List Stmt} {m : MO} {pos p2 : Pos} {es : List Expr} {ds : List D}
theorem dsn_if (hc : DT X ρ [] c k []) (ht : k = true → DSn X H0 ρ A m) (hf : k = false → DSn X H0 ρ rest m) : DSn X H0 ρ (.If c A [] pos :: rest) m := by
  cases k with
  | true => exact PSsw (pss_cons (ps_if hc.pt (ht rfl) pss_none) pss_none) fun D σ H ⟨⟨g, s⟩, f⟩ => ⟨⟨g, Mu.nl⟩, fun H1 s1 _ => iteT ⟨⟨g.sl (Same.sl (SmB.nil s1)), Same.trans' s (SmB.nil s1)⟩, f⟩⟩
  | false => exact PSsw (pss_cons (ps_if hc.pt pss_none pss_nil) (hf rfl)) fun D σ H ⟨⟨g, s⟩, f⟩ => ⟨⟨g, Mu.nl⟩, fun H1 s1 _ => iteF ⟨⟨g.sl (Same.sl (SmB.nil s1)), Same.trans' s (SmB.nil s1)⟩, f⟩⟩
theorem dsn_ret (ha : DA X ρ [] es ds []) (hl : ds.length ≤ 100000 := by simp) : DSn X H0 ρ (.Return (some (.List es p2)) pos :: rest) (.l ds) :=
  PSsw (pss_cons (ps_ret (pe_lst ha.pa)) pss_none) fun D σ H ⟨⟨g, s⟩, f⟩ => ⟨⟨g, Mu.nl⟩, fun vs H1 s1 m1 r1 => ⟨by rw [← r1.length]; exact sz_of hl, fun p hp => f p _ H1 (Same.trans' s (SmB.nil s1)) hp ⟨vs, upd_same, Rps.sl (sl_new hp) _ _ r1⟩⟩⟩
end
def spN (K : PySem.W.Frag) (R : List D → MO → Prop) : Sp := fun vs H Q _ => ∃ ds m, Rps K H ds vs ∧ R ds m ∧ ∀ p u H1, Same H H1 → H1 p = none → MoAt K (upd H1 p u) p m → Q (.ref p) (upd H1 p u)
structure CalN (P : Program) (w : World) (K : PySem.W.Frag) (mg : Str → Option Value) (base : Heap) (x : Str) (k : Nat) (R : List D → MO → Prop) : Prop where
  ex : ∃ (f : Addr) (fd : FuncData) (ps : List Str), FnOk P w K mg base CX0 k f fd ps (spN K R) ∧ mg x = some (.ref f) ∧ PySem.W.keepIn K (.ref f) = true ∧ Binds K fd ps []
section
variable {P : Program} {w : World} {K : PySem.W.Frag} {mg : Str → Option Value} {base : Heap}
theorem fn_new {x qual : Str} {st : Stmt} {f : Addr} {fd : FuncData} {N ps : List Str} {k : Nat} {R : List D → MO → Prop} (F : Fun K x qual st f fd) (S : FnScope N ps (defScope st)) (hl : ∀ ds m, R ds m → ds.length = ps.length)
    (body : ∀ (cdv : Value) (A : Around) (outer : List Env) (s : Shared) (H : Hp) (E : XK) (ds : List D) (m : MO), Room k (A.deeper (envOfC qual (defScope st) s.heap.objs.size f cdv)) → R ds m →
      DSn (cxOf CX0 P w K mg base N qual (defScope st) f cdv A outer s H E).nox H (startD N ds) (defBody st) m) : FnOk P w K mg base CX0 (k + 1) f fd ps (spN K R) := by
  refine F.ok S (fun vs H Q E h => ?_) (fun cdv A outer s H vs Q E hr h => ?_)
  · obtain ⟨ds, m, r, hR, _⟩ := h
    rw [← r.length]
    exact hl _ _ hR
  · obtain ⟨ds, m, r, hR, q⟩ := h
    exact ⟨_, body cdv A outer s H E ds m hr hR, ⟨Sg.start r, Same.refl H⟩, q⟩
theorem calN_mk {x : Str} {st : Stmt} {ps : List Str} {k : Nat} {R : List D → MO → Prop} (C : Df K mg x st)
    (h : ∀ (kV doc pm : Value) (an : Option Addr) (cdv ct : Value) (us : List Value), us.length = ps.length → bindArgs (PySem.W.fnOf x x (defArgs st) (defBody st) (defScope st) .none kV doc pm an cdv ct) ⟨us, []⟩ = pure (ps.zip us))
    (F : ∀ f fd, Fun K x x st f fd → FnOk P w K mg base CX0 k f fd ps (spN K R)) : CalN P w K mg base x k R := by
  obtain ⟨f, fd, hf, hm⟩ := C
  exact ⟨f, fd, ps, F f fd hf, hm, hf.kp, hf.binds h⟩
end
section
variable {X : Cx} {b : Bs} {ρ : Rho} {μ : Mus} {e : Expr} {es : List Expr} {ds : List D} {m0 : MO} {f : Str} {n : Nat} {p cp pos pos' : Pos} {rest : List Stmt} {O' : O}
/-- x = f(..), a new list of one's own -/
theorem dss_newF {x : Str} {j : Nat} {R : List D → MO → Prop} (C : CalN X.prog X.w X.K X.mg X.base f n R) (hr : Room n X.A) (ha : DA X ρ [] (e :: es) ds []) (h : R ds m0) (r : ∀ q, q ∉ Ad μ → DSs X b (ρ.set j (some (.adr q))) ((q, m0) :: μ) rest O') (hN : X.N.Nodup) (hg : Gl X f := by rfl) (hdb : (f == ("__debug__" : Str)) = false := by decide)
    (he : starEach (e :: es) X.env = (false, eval e X.env) :: starEach es X.env := by rfl) (hpl : (backTo cp (starEach es X.env)).any (·.1) = false := by rfl) (hi : X.N[j]? = some x := by rfl) (hx : Loc X.env.scope x := by first | exact .inl rfl | exact .inr rfl)
    (hs : swapsWith (.Call (.Name f p) (e :: es) [] cp) (some (.Name x pos')) pos.line X.env = pure false := by rfl) (hf : X.fn x = true ∨ X.env.scope.names.lookup x = some .local := by first | exact .inl rfl | exact .inr rfl) : DSs X b ρ μ (.Assign [.Name x pos'] (.Call (.Name f p) (e :: es) [] cp) pos :: rest) O' := by
  obtain ⟨fa, fd, ps, F, hm, hk, hb⟩ := C.ex
  refine dss_new (m0 := m0) (pe_call F hr hg hm hk hb .nil (pass0 (X := X)) ha.pa hdb he hpl) (fun σ H Q g m k => ⟨⟨g, Mu.nl⟩, fun vs H1 s1 m1 r1 => ?_⟩) r hN hi hx hs hf
  show spN X.K R (vs ++ []) H1 Q E0
  rw [List.append_nil]
  exact ⟨ds, m0, r1, h, fun q u H2 s2 hq hm => k q u H2 (Same.trans' (SmB.nil s1) s2) hq hm⟩
end
end PD

/-! t[::-1] of a tuple, is of truths, append, a list times an int. -/
namespace PD
open PySem PySem.Spec PyProof.Rows L2 HT
section
variable {prog : Program} {w : World} {A : Around} {E : Value → Shared → Prop} {s : Shared}
theorem applied_rev {sl : Addr} {vs : Value} {n : Nat} {Q : Int × Int × Nat → Shared → Prop} (hs : s.heap.IsSliceOf sl .none .none vs) (ps : IsPart vs (some (-1))) (h : Q ((n : Int) - 1, -1, n) s) : wpAny (model prog w) A (Builtin.Slice.sliceApplied (.ref sl) (pure (n : Int))) Q E s := by
  obtain ⟨o, e, _, d⟩ := hs
  unfold Builtin.Slice.sliceApplied Builtin.Slice.sliceFields
  refine wpAny_bind (wpAny_bind (wpAny_field e d (x := .none) rfl (wpAny_bind (wpAny_field e d (x := .none) rfl (wpAny_bind (wpAny_field e d (x := vs) rfl (wpAny_pure ?_)))))))
  refine wpAny_bind (slicePart_ ps ?_)
  have st : ¬ (((some (-1) : Option Int).getD 1 == 0) = true) := by decide
  rw [if_neg st]
  refine wpAny_bind (slicePart_none (wpAny_bind (slicePart_none (wpAny_bind (wpAny_pure (wpAny_pure ?_))))))
  have e2 : Builtin.Slice.slicePlaces ((n : Int) - 1) (-1) (-1) = n := by
    unfold Builtin.Slice.slicePlaces
    have h1 : ¬ ((-1 : Int) > 0) := by decide
    simp only [h1, if_false]
    by_cases c : (n : Int) - 1 > -1
    · rw [if_pos c, show (-(-1) : Int) = 1 from rfl, Int.ediv_one]; omega
    · rw [if_neg c]; omega
  show Q ((n : Int) - 1, -1, Builtin.Slice.slicePlaces ((n : Int) - 1) (-1) (-1)) s
  rw [e2]
  exact h
theorem fm_congr {α β : Type} {f g : α → Option β} : ∀ {l : List α}, (∀ x ∈ l, f x = g x) → l.filterMap f = l.filterMap g
  | [], _ => rfl
  | x :: l, h => by
    rw [List.filterMap_cons, List.filterMap_cons, h x List.mem_cons_self, fm_congr fun y hy => h y (List.mem_cons_of_mem _ hy)]
theorem pick_rev (xs : Array Value) : ((List.range xs.size).filterMap fun (m : Nat) => xs[(((xs.size : Int) - 1) + (m : Int) * -1).toNat]?).toArray = xs.toList.reverse.toArray := by
  have e : (List.range xs.size).filterMap (fun (m : Nat) => xs[(((xs.size : Int) - 1) + (m : Int) * -1).toNat]?) = ((List.range xs.size).map fun k => xs.size - 1 - k).filterMap (xs[·]?) := by
    rw [List.filterMap_map]
    refine fm_congr fun m hm => ?_
    have := List.mem_range.mp hm
    show xs[(((xs.size : Int) - 1) + (m : Int) * -1).toNat]? = xs[xs.size - 1 - m]?
    congr 1
    omega
  rw [e, PySem.W.krv_range, List.filterMap_reverse, PySem.W.krv_all]
theorem item_rev {t sl : Addr} {items : Array Value} {vs : Value} {Q : Value → Shared → Prop} (ht : IsTup s.heap t items) (hs : s.heap.IsSliceOf sl .none .none vs) (ps : IsPart vs (some (-1))) (h : Q (.ref s.heap.objs.size) { s with heap := s.heap.push { cls := .type "tuple", data := .seq items.toList.reverse.toArray } })
    (hsz : items.size ≤ sizeLine) : wpAny (model prog w) A (getItem (.ref t) (.ref sl)) Q E s := by
  have ok : sizeOk (.seq items.toList.reverse.toArray) := by
    show items.toList.reverse.toArray.size ≤ sizeLine
    rw [List.size_toArray, List.length_reverse, Array.length_toList]
    exact hsz
  have hT : s.TypeIs (.ref sl) "slice" := by
    obtain ⟨o, e, c, _⟩ := hs
    exact ⟨o, e, c⟩
  unfold getItem
  try (with_reducible refine wpAny_holding ?_)
  try (refine wpAny_bind (wpAny_pure ?_))
  refine wpAny_bind (wpAny_sequenceKey ht.typeIs (by decide) (wpAny_bind (wpAny_callSpecial?_slot (name := Str.ofString "__getitem__") ht.typeIs PyProof.Rows.slot_tuple_getitem (wpAny_call_entry PyProof.Rows.slot_tuple_getitem ht.typeIs entry_tuple_getitem ?_ (args_tuple_getitem _ _)))))
  show wpAny (model prog w) _ (Builtin.Tuple.tupleItemsOf (.ref t) >>= _) _ _ s
  refine wpAny_bind (tupleItemsOf_ ht (wpAny_bind (wpAny_typeOf hT ?_)))
  rw [if_pos (show (_ : Bool) = true by decide)]
  refine wpAny_bind (applied_rev (n := items.size) hs ps ?_)
  have no : ¬ ((((items.size : Int) - 1) == 0 && (-1 : Int) == 1 && items.size == items.size) = true) := by
    intro q
    rw [Bool.and_eq_true, Bool.and_eq_true] at q
    exact absurd (eq_of_beq q.1.2) (by decide)
  show wpAny (model prog w) _ (if (((items.size : Int) - 1) == 0 && (-1 : Int) == 1 && items.size == items.size) = true then _ else _) _ _ s
  rw [if_neg no, pick_rev]
  first
    | exact wpAny_bind (wpAny_bind (m := Builtin.Tuple.tupleExact _) (wpAny_newObj_type (wpAny_pure (wpAny_pure ⟨_, rfl, wpAny_pure h⟩)) ok))
    | exact wpAny_bind (m := Builtin.Tuple.tupleExact _) (wpAny_newObj_type (wpAny_pure ⟨_, rfl, wpAny_pure h⟩) ok)
    | exact wpAny_bind (m := Builtin.Tuple.tupleExact _) (wpAny_newObj_type (wpAny_bind (wpAny_pure (wpAny_pure ⟨_, rfl, wpAny_pure h⟩))) ok)
    | exact wpAny_bind (wpAny_bind (m := Builtin.Tuple.tupleExact _) (wpAny_newObj_type (wpAny_pure ⟨_, rfl, wpAny_pure h⟩) ok))
end
def tRevT (K : PySem.W.Frag) (te : TE) : TE := fun σ H Q => te σ H fun x H1 => ∃ a xs, x = .ref a ∧ SqT K H1 a xs ∧ ∀ p, H1 p = none → Q (.ref p) (upd H1 p (.tup xs.reverse))
section
variable {X : Cx} {ρ : Rho} {μ μ1 : Mus} {e a : Expr} {d : D} {l : List D} {k : Nat} {p1 p2 p3 p pos : Pos} {b c : Bool}
theorem pe_revT {te : TE} (he : PE X e te) : PE X (.Subscript e (.Slice none none (some (.UnaryOp .USub (.Constant (.int 1) k p1) p2)) p3) pos) (tRevT X.K te) := by
  refine ⟨fun pins s σ H Q I h => Subscript_ (thn (he.run pins s σ H _ I h) fun v s1 ⟨x, H1, I1, r1, q1⟩ => ?_)⟩
  obtain ⟨a, xs, rfl, hx, q⟩ := q1
  cases r1
  have st : PO X (some (.UnaryOp .USub (.Constant (.int 1) k p1) p2)) (tPart (tUn (rU fun i => .int (-i)) (tC (.int 1)))) := po_some (pe_un un_neg pe_int)
  refine wpAny_Slice (thn (po_none.run pins s1 σ H1 (fun o G => o = none ∧ G = H1) I1 ⟨rfl, rfl⟩) fun vl s2 ⟨o1, H2, I2, pl, z1, z2⟩ => ?_)
  subst z1 z2
  refine thn (po_none.run pins s2 σ H2 (fun o G => o = none ∧ G = H2) I2 ⟨rfl, rfl⟩) fun vu s3 ⟨o2, H3, I3, pu, z3, z4⟩ => ?_
  subst z3 z4
  refine thn (st.run pins s3 σ H3 (fun o G => o = some (-1) ∧ G = H3) I3 ⟨1, rfl, -1, rfl, rfl, rfl⟩) fun vs s4 ⟨o3, H4, I4, ps, z5, z6⟩ => ?_
  subst z5 z6
  cases pl
  cases pu
  have I5 : Inv X pins σ H4 { s4 with heap := s4.heap.push { cls := .type "slice", data := .fields #[.none, .none, vs] } } := I4.kept (t' := s4.toks) fun b ob q => Heap.get?_push_of_some _ q
  obtain ⟨its, r, ht, hz⟩ := I5.tuple hx
  have hlen := r.length
  show wpAny (model X.prog X.w) X.A (subscriptTail e (.Slice none none (some (.UnaryOp .USub (.Constant (.int 1) k p1) p2)) p3) (.ref a) (.ref s4.heap.objs.size)) (EP X pins σ Q) X.xe { s4 with heap := s4.heap.push { cls := .type "slice", data := .fields #[.none, .none, vs] } }
  refine tail_any (ops := [.ref a, .ref s4.heap.objs.size]) ht.typeIs (PyProof.Rows.slot_tuple_getitem.lookup) (item_rev ht (Heap.IsSliceOf.new _ .none .none vs) ps ?_ (by rw [List.size_toArray]; omega)) (by with_unfolding_all rfl)
  refine ⟨.ref _, _, I5.laid (t' := s4.toks) (o := .tup xs.reverse) (fun b ob q => Heap.get?_push_of_some _ q) (Nat.le_refl _) ?_, rfl, q _ (I5.hok.fresh (Nat.le_refl _))⟩
  exact ⟨by rw [List.length_reverse]; exact hz, _, r.reverse, IsTup.new _ _⟩
theorem Rps.rev {K : PySem.W.Frag} {H : Hp} : ∀ {ds : List D} {vs : List V}, Rps K H ds vs → Rps K H ds.reverse vs.reverse
  | [], vs, h => by rw [rps_nil.mp h]; exact Rps.nl
  | d :: ds, vs, h => by
    obtain ⟨v, r, rfl, h1, h2⟩ := rps_cons.mp h
    rw [List.reverse_cons, List.reverse_cons]
    exact (Rps.rev h2).append (Rps.cn h1 Rps.nl)
theorem de_revT (ha : DE X ρ μ e (.tup l) μ1) : DE X ρ μ (.Subscript e (.Slice none none (some (.UnaryOp .USub (.Constant (.int 1) k p1) p2)) p3) pos) (.tup l.reverse) μ1 :=
  ⟨PEw (pe_revT ha.pe) fun σ H Q ⟨⟨g, m⟩, q⟩ => ⟨⟨g, m⟩, fun v H1 s1 m1 r1 => by
    obtain ⟨a, vs, rfl, hq, rr⟩ := rp_tup.mp r1
    exact ⟨a, vs, rfl, hq, fun p hp => q _ _ (s1.trans (SmB.new hp)) (m1.same (same_new hp)) (fr_tup hp rr.rev)⟩⟩, ha.ad⟩
/-! is of truths -/
theorem op_isB : OpR X (compareOp .Is) (fun x y H Q => ∃ b c, x = .bl b ∧ y = .bl c ∧ Q (.bl (decide (b = c))) H) := by
  intro pins s σ H x y v u Q I rx ry h
  obtain ⟨b, c, rfl, rfl, q⟩ := h
  cases rx
  cases ry
  refine wpAny_is_plain rfl (fin_bl I q ?_)
  cases b <;> cases c <;> rfl
theorem op_isNB : OpR X (compareOp .IsNot) (fun x y H Q => ∃ b c, x = .bl b ∧ y = .bl c ∧ Q (.bl (!decide (b = c))) H) := by
  intro pins s σ H x y v u Q I rx ry h
  obtain ⟨b, c, rfl, rfl, q⟩ := h
  cases rx
  cases ry
  show wpAny _ _ (do return Value.bool !(← isSame (Value.bool b) (Value.bool c))) _ _ _
  refine wpAny_bind (wpAny_isSame_plain rfl (wpAny_pure (fin_bl I q ?_)))
  cases b <;> cases c <;> rfl
theorem dt_isB {a2 : Expr} (ha : DE X ρ μ a (.bl b) μ1) (hb : DE X ρ μ1 a2 (.bl c) μ1) : DT X ρ μ (.Compare a [.Is] [a2] pos) (decide (b = c)) μ1 :=
  dt_cmp op_isB (fun v1 v2 H Q r1 r2 k => ⟨b, c, rp_bl.mp r1, rp_bl.mp r2, k _ (rp_bl.mpr rfl)⟩) (nomark _) ha hb
theorem dt_isNB {a2 : Expr} (ha : DE X ρ μ a (.bl b) μ1) (hb : DE X ρ μ1 a2 (.bl c) μ1) : DT X ρ μ (.Compare a [.IsNot] [a2] pos) (!decide (b = c)) μ1 :=
  dt_cmp op_isNB (fun v1 v2 H Q r1 r2 k => ⟨b, c, rp_bl.mp r1, rp_bl.mp r2, k _ (rp_bl.mpr rfl)⟩) (nomark _) ha hb
/-! [..] * n -/
theorem de_rep {es : List Expr} {ds : List D} {n : Int} {j : Nat} (ha : DA X ρ μ es ds μ1) (hn : 0 ≤ n ∧ n ≤ 1000) (hz : ds.length ≤ 100) : DE X ρ μ (.BinOp (.List es p1) .Mult (.Constant (.int n) j p2) pos) (.lst (List.replicate n.toNat ds).flatten) μ1 := by
  refine ⟨PEw (pe_frz (pe_op op_rep (pe_lst ha.pa) pe_int)) fun σ H Q ⟨⟨g, m⟩, q⟩ => ⟨⟨g, m⟩, fun vs H1 s1 m1 r1 => ⟨by rw [← r1.length]; exact sz_of (by omega), fun a hA => ?_⟩⟩, ha.ad⟩
  have z2 : vs.length * n.toNat ≤ 100000 := by
    have h1 : vs.length ≤ 100 := by rw [← r1.length]; exact hz
    have h2 : n.toNat ≤ 1000 := by omega
    exact Nat.mul_le_mul h1 h2
  refine ⟨a, n, vs, rfl, rfl, upd_same, by omega, by omega, sz_of z2, fun p hp => .inr ⟨p, _, upd_same, trivial, fun o => ?_⟩⟩
  rw [upd_upd]
  have fl : ∀ i, Rps X.K H1 (List.replicate i ds).flatten (List.replicate i vs).flatten := fun i => by
    induction i with
    | zero => exact Rps.nl
    | succ i ih => rw [List.replicate_succ, List.replicate_succ, List.flatten_cons, List.flatten_cons]; exact r1.append ih
  exact q _ _ ((s1.trans (SmB.new hA)).trans (SmB.new hp)) ((m1.same (same_new hA)).same (same_new hp)) (fr_lst hp (Rps.sl (sl_new hA) _ _ (fl _)))
/-! x.append(y) -/
theorem ds_append {bs : Bs} {o e : Expr} {pa : Addr} {apos cpos : Pos} {μr : Mus} (ho : DE X ρ μ o (.adr pa) μ1) (hA : (pa, MO.l l) ∈ μ1) (he : DE X ρ μ1 e d ((pa, .l l) :: μr)) (hp : pa ∉ Ad μr) (hz : l.length < 100000) (hbase : attributeBase o "append" X.env (eval o X.env) = eval o X.env := by rfl)
    (hfew : ((backTo cpos (starEach [e] X.env)).all (fun x => !x.1) && (backToKw cpos (keywordEach [] X.env)).all (fun x => x.1.isSome) && decide ([e].length + ([] : List Keyword).length + (if ([] : List Keyword).isEmpty then 0 else 1) < 30)) = true := by rfl)
    (hline : (apos.endLine == cpos.line) = true := by rfl) (hs : starEach [e] X.env = (false, eval e X.env) :: starEach [] X.env := by rfl) (hpl : (backTo cpos (starEach [] X.env)).any (·.1) = false := by rfl) (hsw : swapsWith (.Call (.Attribute o "append" apos) [e] [] cpos) none pos.line X.env = pure false := by rfl) :
    DS X bs ρ μ (.Expr (.Call (.Attribute o "append" apos) [e] [] cpos) pos) (.nx ρ ((pa, .l (l ++ [d])) :: μr)) := fun G =>
  PSw (ps_expr (pe_bm PySem.F.plainAttrs_list PySem.F.slot_list_append PySem.F.type_list_append mt_append ho.pe (da_cons he da_nil hs).pa hbase hfew hline hs hpl) hsw) fun D σ H ⟨S, f⟩ => ⟨⟨S.sg, S.mu⟩, fun v H1 s1 m1 r1 => by
    have S1 := S.step s1 m1 ho.ad
    have ev := rp_adr.mp r1
    subst ev
    obtain ⟨vs0, e0, q0⟩ := m1 _ hA
    refine ⟨.inl ⟨rfl, _, .inl (.inl e0)⟩, ⟨S1.sg, S1.mu⟩, fun us H2 s2 m2 r2 => ?_⟩
    have S2 := S1.step s2 m2 he.ad
    obtain ⟨y, t, rfl, ry, rt⟩ := rps_cons.mp r2
    have et := rps_nil.mp rt
    subst et
    obtain ⟨vs, e1, q1⟩ := m2.hd
    refine ⟨pa, vs, y, rfl, rfl, e1, sz_lt (by rw [← q1.length]; exact hz), f σ _ ?_⟩
    have sl := sl_mut (o := .lst (vs ++ [y])) e1 rfl
    refine ⟨S2.sg.sl sl, Mu.cn ⟨_, upd_same, Rps.sl sl _ _ (q1.append (Rps.cn ry Rps.nl))⟩ fun q hq => (m2.tl q hq).keep sl fun u eu => ?_, fun c u nm eu => ?_, S2.sl.trans sl, S2.may⟩
    · rw [upd_ne]
      · exact eu
      · intro z; exact hp (z ▸ List.mem_map_of_mem hq)
    · rw [upd_ne]
      · exact S2.ok c u nm eu
      · rintro rfl
        rcases S2.may c List.mem_cons_self with z | z
        · exact nm z
        · rw [z] at eu; cases eu⟩
end
end PD

/-! A for that breaks at its k-th item. -/
namespace PD
open PySem PySem.Spec PyProof.Rows L2
section
variable {X : Cx} {b : Bs} {ρ ρ2 : Rho} {μ μ1 μ2 : Mus} {tg : Expr} {pos : Pos}
theorem Loop.uptoB {body : List Stmt} {xs : List D} {P : Nat → Rho → Mus → Prop} {k : Nat} {x : D} (hx : xs[k]? = some x) (brk : ∀ ρ μ, P k ρ μ → ∃ ρ' J, DG X ρ tg x ρ' J ∧ DSs X b ρ' μ body (.bk ρ2 μ2)) :
    ∀ (n i : Nat) (ρ : Rho) (μ : Mus), i + n = k → (∀ j x ρ μ, i ≤ j → j < k → xs[j]? = some x → P j ρ μ → ∃ ρ' J ρ1 μ1, DG X ρ tg x ρ' J ∧ DSs X b ρ' μ body (.nx ρ1 μ1) ∧ P (j + 1) ρ1 μ1) → P i ρ μ → Loop X b tg body (xs.drop i) ρ μ (.nx ρ2 μ2) := by
  have hk : k < xs.length := (List.getElem?_eq_some_iff.mp hx).1
  intro n
  induction n with
  | zero =>
    intro i ρ μ e _ p
    have e' : i = k := by omega
    subst e'
    have hx' : xs[i] = x := (List.getElem?_eq_some_iff.mp hx).2
    obtain ⟨ρ', J, g, h⟩ := brk ρ μ p
    rw [List.drop_eq_getElem_cons hk, hx']
    exact .brk g h
  | succ n ih =>
    intro i ρ μ e st p
    have hi : i < xs.length := by omega
    obtain ⟨ρ', J, ρ1, μ1, g, h, p1⟩ := st i xs[i] ρ μ (Nat.le_refl _) (by omega) (List.getElem?_eq_getElem hi) p
    rw [List.drop_eq_getElem_cons hi]
    exact .next g h (ih (i + 1) ρ1 μ1 (by omega) (fun j x ρ μ h1 h2 h3 h4 => st j x ρ μ (by omega) h2 h3 h4) p1)
theorem dss_forB {it : Expr} {body rest : List Stmt} {xs : List D} {o : O} {P : Nat → Rho → Mus → Prop} (hp : PassesOwn (model X.prog X.w) X.A X.env X.xe) (hi : DI X ρ μ tg it xs μ1) {k : Nat} {x : D} (hx : xs[k]? = some x) (h0 : P 0 ρ μ1)
    (step : ∀ j x ρ μ, j < k → xs[j]? = some x → P j ρ μ → ∃ ρ' J ρ1 μ1, DG X ρ tg x ρ' J ∧ DSs X b ρ' μ body (.nx ρ1 μ1) ∧ P (j + 1) ρ1 μ1) (brk : ∀ ρ μ, P k ρ μ → ∃ ρ' J, DG X ρ tg x ρ' J ∧ DSs X b ρ' μ body (.bk ρ2 μ2)) (r : DSs X b ρ2 μ2 rest o)
    (hc : X.calm = true := by rfl) (hs : ∀ x, foldedSetIterable it X.env x = pure x := by intro _; rfl) : DSs X b ρ μ (.For tg it body [] pos :: rest) o :=
  dss_cons (ds_for hp hi (by simpa using Loop.uptoB hx brk k 0 ρ μ1 (by omega) (fun j x ρ μ _ h => step j x ρ μ h) h0) hc hs) r
end
end PD

/-! The mirror: what the defs are worth, over plain Lean. -/
namespace CC
open PySem PySem.Spec PyProof.Rows L2 PD
/-! ### manners -/
structure Rd where
  step : Int
  side : Str
  grace : Int
  deriving DecidableEq
structure Mn where
  ins : Rd
  outs : Rd
  brk : List (Int × Int)
  day : Option Int
  week : Option Int
  deriving DecidableEq
def optD : Option Int → D
  | none => .non
  | some i => .int i
def pairD (p : Int × Int) : D := .tup [.int p.1, .int p.2]
def Rd.d (r : Rd) : D := .tup [.int r.step, .str r.side, .int r.grace]
def Mn.d (m : Mn) : D := .tup [m.ins.d, m.outs.d, .tup (m.brk.map pairD), optD m.day, optD m.week]
abbrev Week := List (Int × Int)
def weekD (w : Week) : D := .tup (w.map pairD)
def stepsL : List Int := [1, 2, 3, 4, 6, 8, 12]
def sidesL : List Str := ["down", "near", "up"]
structure Rd.Ok (r : Rd) : Prop where
  step : r.step ∈ stepsL
  side : r.side ∈ sidesL
  g0 : 0 ≤ r.grace
  g1 : r.grace < r.step
def limOk (o : Option Int) (hi : Int) : Prop := ∀ i, o = some i → 1 ≤ i ∧ i ≤ hi
structure Mn.Ok (m : Mn) : Prop where
  ins : m.ins.Ok
  outs : m.outs.Ok
  len : m.brk.length ≤ 2
  brk : ∀ p ∈ m.brk, 1 ≤ p.1 ∧ p.1 ≤ 96 ∧ 1 ≤ p.2 ∧ p.2 ≤ 8
  ord : ∀ p q, m.brk = [p, q] → p.1 < q.1
  day : limOk m.day 96
  week : limOk m.week 480
theorem steps_pos {s : Int} (h : s ∈ stepsL) : 0 < s ∧ s ≤ 12 := by
  simp only [stepsL, List.mem_cons, List.not_mem_nil, or_false] at h
  omega
theorem Rd.Ok.pos {r : Rd} (h : r.Ok) : 0 < r.step := (steps_pos h.step).1
def dayOk (p : Int × Int) : Prop := 0 ≤ p.1 ∧ p.1 < p.2 ∧ p.2 ≤ 96
instance (p : Int × Int) : Decidable (dayOk p) := by unfold dayOk; infer_instance
def WeekOk (w : Week) : Prop := w.length ≤ 5 ∧ ∀ p ∈ w, dayOk p
/-! ### checks -/
def isFrom (d : D) (lo hi : Int) : Bool := d.qInt && (!d.qBool && (match d with | .int i => decide (lo ≤ i) && decide (i ≤ hi) | _ => false))
def isRd : D → Bool
  | .tup [s, sd, g] => if !(isFrom s 1 12) || (!(s.isIn (stepsL.map D.int)) || (!sd.qStr || !(sd.isIn (sidesL.map D.str)))) then false else isFrom g 0 (match s with | .int i => i - 1 | _ => 0)
  | _ => false
def isBrk1 : D → Bool
  | .tup [a, b] => !(!(isFrom a 1 96) || !(isFrom b 1 8))
  | _ => false
def ltD : D → D → Bool
  | .int i, .int j => decide (i < j)
  | _, _ => false
def brkOrd : List D → Bool
  | [.tup [a, _], .tup [b, _]] => ltD a b
  | _ => true
def isBrks : D → Bool
  | .tup l => decide (l.length ≤ 2) && (l.all isBrk1 && brkOrd l)
  | _ => false
def isMn : D → Bool
  | .tup [i, o, b, dy, wk] => if !(isRd i) || (!(isRd o) || !(isBrks b)) then false else (dy.isNon || isFrom dy 1 96) && (wk.isNon || isFrom wk 1 480)
  | _ => false
def isDy : D → Bool
  | .tup [a, b] => isFrom a 0 96 && (isFrom b 0 96 && ltD a b)
  | _ => false
def isWk : D → Bool
  | .tup l => decide (l.length ≤ 5) && l.all isDy
  | _ => false
theorem isFrom_int {i lo hi : Int} : isFrom (.int i) lo hi = (decide (lo ≤ i) && decide (i ≤ hi)) := rfl
theorem isFrom_inv {d : D} {lo hi : Int} (h : isFrom d lo hi = true) : ∃ i, d = .int i ∧ lo ≤ i ∧ i ≤ hi := by
  cases d with
  | int i => simp only [isFrom_int, Bool.and_eq_true, decide_eq_true_eq] at h; exact ⟨i, rfl, h⟩
  | _ => simp [isFrom, D.qInt, D.qBool] at h
/-! ### what a day, a week pays -/
def cameR (r : Rd) (t : Int) : Int :=
  if decide (t % r.step ≤ r.grace) || (decide (r.side = "down") || (decide (r.side = "near") && decide (2 * (t % r.step) < r.step))) then t - t % r.step else t - t % r.step + r.step
def wentR (r : Rd) (t : Int) : Int :=
  if decide ((0 - t) % r.step ≤ r.grace) || (decide (r.side = "up") || (decide (r.side = "near") && decide (2 * ((0 - t) % r.step) ≤ r.step))) then t + (0 - t) % r.step else t + (0 - t) % r.step - r.step
def countR (m : Mn) (p : Int × Int) : Int := max 0 (wentR m.outs p.2 - cameR m.ins p.1)
/-- the minus of the last break that applies -/
def minus (brk : List (Int × Int)) (q : Int) : List Int := brk.filterMap fun p => if p.1 ≤ q then some p.2 else none
def leftR (m : Mn) (q : Int) : Int := match (minus m.brk q).getLast? with
  | none => q
  | some x => max 0 (q - x)
def capR (o : Option Int) (l : Int) : Int := match o with
  | none => l
  | some x => min l x
def splitR (m : Mn) (q : Int) : Int × Int := (capR m.day (leftR m q), leftR m q - capR m.day (leftR m q))
def partsR (m : Mn) (p : Int × Int) : Int × Int := splitR m (countR m p)
def normR (m : Mn) (w : Week) : Int := (w.map fun p => (partsR m p).1).sum
def overR (m : Mn) (w : Week) : Int := (w.map fun p => (partsR m p).2).sum
def extraR (o : Option Int) (n : Int) : Int := match o with
  | none => 0
  | some x => max 0 (n - x)
def paidR (m : Mn) (w : Week) : Int := 2 * normR m w + 3 * overR m w + extraR m.week (normR m w)
/-! ### all days -/
def daysR : List (Int × Int) := (List.range 96).flatMap fun s => (List.range (96 - s)).map fun (i : Nat) => (((s : Nat) : Int), ((s : Nat) : Int) + 1 + (i : Int))
def allParts (m : Mn) : List (Int × Int) := daysR.map (partsR m)
end CC

/-! Plain laws of the mirror that the walk asks. -/
namespace CC
open PySem PySem.Spec PyProof.Rows L2 PD
theorem steps_96 {s : Int} (h : s ∈ stepsL) : ∃ c, 96 = s * c := by
  simp only [stepsL, List.mem_cons, List.not_mem_nil, or_false] at h
  rcases h with rfl | rfl | rfl | rfl | rfl | rfl | rfl
  · exact ⟨96, rfl⟩
  · exact ⟨48, rfl⟩
  · exact ⟨32, rfl⟩
  · exact ⟨24, rfl⟩
  · exact ⟨16, rfl⟩
  · exact ⟨12, rfl⟩
  · exact ⟨8, rfl⟩
theorem emod_le {a b : Int} (ha : 0 ≤ a) (hb : 0 < b) : a % b ≤ a := by
  have h1 := Int.emod_def a b
  have h2 := Int.mul_nonneg (Int.le_of_lt hb) (Int.ediv_nonneg ha (Int.le_of_lt hb))
  omega
theorem came_ge {r : Rd} (h : r.Ok) {t : Int} (ht : 0 ≤ t) : 0 ≤ cameR r t := by
  have hp := h.pos
  have h1 : t % r.step ≤ t := emod_le ht hp
  unfold cameR
  split <;> omega
theorem lack_eq {r : Rd} (h : r.Ok) (t : Int) : (0 - t) % r.step = (96 - t) % r.step := by
  obtain ⟨c, hc⟩ := steps_96 h.step
  have e : 96 - t = (0 - t) + r.step * c := by omega
  rw [e, Int.add_mul_emod_self_left]
theorem went_le {r : Rd} (h : r.Ok) {t : Int} (ht : t ≤ 96) : wentR r t ≤ 96 := by
  have hp := h.pos
  have h1 : (96 - t) % r.step ≤ 96 - t := emod_le (by omega) hp
  unfold wentR
  rw [lack_eq h]
  split <;> omega
theorem count_rng {m : Mn} (h : m.Ok) {p : Int × Int} (hp : dayOk p) : 0 ≤ countR m p ∧ countR m p ≤ 96 := by
  have a := came_ge h.ins hp.1
  have b := went_le h.outs hp.2.2
  unfold countR
  omega
theorem isRd3 (s sd g : D) : isRd (.tup [s, sd, g]) = if !(isFrom s 1 12) || (!(s.isIn (stepsL.map D.int)) || (!sd.qStr || !(sd.isIn (sidesL.map D.str)))) then false else isFrom g 0 (match s with | .int i => i - 1 | _ => 0) := rfl
theorem isMn5 (i o b dy wk : D) : isMn (.tup [i, o, b, dy, wk]) = if !(isRd i) || (!(isRd o) || !(isBrks b)) then false else (dy.isNon || isFrom dy 1 96) && (wk.isNon || isFrom wk 1 480) := rfl
theorem isFrom_ok {i lo hi : Int} (h : lo ≤ i ∧ i ≤ hi) : isFrom (.int i) lo hi = true := by simp [isFrom_int, h]
theorem isRd_ok {r : Rd} (h : r.Ok) : isRd r.d = true := by
  obtain ⟨s, sd, g⟩ := r
  have h1 := h.step
  have h2 := h.side
  have h3 := h.g0
  have h4 := h.g1
  simp only at h1 h2 h3 h4
  have hs := steps_pos h1
  have a1 : isFrom (.int s) 1 12 = true := isFrom_ok ⟨by omega, by omega⟩
  have a2 : (D.int s).isIn (stepsL.map D.int) = true := by
    simp only [stepsL, List.mem_cons, List.not_mem_nil, or_false] at h1
    rcases h1 with rfl | rfl | rfl | rfl | rfl | rfl | rfl <;> rfl
  have a3 : (D.str sd).isIn (sidesL.map D.str) = true := by
    simp only [sidesL, List.mem_cons, List.not_mem_nil, or_false] at h2
    rcases h2 with rfl | rfl | rfl <;> decide
  have a4 : isFrom (.int g) 0 (s - 1) = true := isFrom_ok ⟨h3, by omega⟩
  show (if !(isFrom (.int s) 1 12) || (!((D.int s).isIn (stepsL.map D.int)) || (!true || !((D.str sd).isIn (sidesL.map D.str)))) then false else isFrom (.int g) 0 (s - 1)) = true
  rw [a1, a2, a3, a4]
  rfl
theorem isBrks_ok {m : Mn} (h : m.Ok) : isBrks (.tup (m.brk.map pairD)) = true := by
  have hl := h.len
  have hb := h.brk
  have ho := h.ord
  have one : ∀ p : Int × Int, 1 ≤ p.1 ∧ p.1 ≤ 96 ∧ 1 ≤ p.2 ∧ p.2 ≤ 8 → isBrk1 (pairD p) = true := fun p hp => by
    show (!(!(isFrom (.int p.1) 1 96) || !(isFrom (.int p.2) 1 8))) = true
    rw [isFrom_ok ⟨hp.1, hp.2.1⟩, isFrom_ok hp.2.2]
    rfl
  rcases hb' : m.brk with _ | ⟨p, _ | ⟨q, _ | ⟨r, t⟩⟩⟩
  · rfl
  · rw [hb'] at hb
    have := one p (hb p (by simp))
    show (decide ((([p] : List (Int × Int)).map pairD).length ≤ 2) && ((isBrk1 (pairD p) && true) && true)) = true
    rw [this]
    rfl
  · rw [hb'] at hb
    have h1 := one p (hb p (by simp))
    have h2 := one q (hb q (by simp))
    have h3 := ho p q hb'
    show (decide ((([p, q] : List (Int × Int)).map pairD).length ≤ 2) && ((isBrk1 (pairD p) && (isBrk1 (pairD q) && true)) && decide (p.1 < q.1))) = true
    rw [h1, h2, decide_eq_true h3]
    rfl
  · rw [hb'] at hl
    simp at hl
theorem lim_ok {o : Option Int} {hi : Int} (h : limOk o hi) : ((optD o).isNon || isFrom (optD o) 1 hi) = true := by
  cases o with
  | none => rfl
  | some i =>
    show (false || isFrom (.int i) 1 hi) = true
    rw [isFrom_ok (h i rfl)]
    rfl
theorem isMn_ok {m : Mn} (h : m.Ok) : isMn m.d = true := by
  show (if !(isRd m.ins.d) || (!(isRd m.outs.d) || !(isBrks (.tup (m.brk.map pairD)))) then false else ((optD m.day).isNon || isFrom (optD m.day) 1 96) && ((optD m.week).isNon || isFrom (optD m.week) 1 480)) = true
  rw [isRd_ok h.ins, isRd_ok h.outs, isBrks_ok h, lim_ok h.day, lim_ok h.week]
  rfl
theorem real_pair (p : Int × Int) : (pairD p).real = true := rfl
theorem reals_map {α : Type} {f : α → D} (h : ∀ a, (f a).real = true) : ∀ l : List α, D.reals (l.map f) = true
  | [] => rfl
  | a :: l => by
    show (D.real (f a) && D.reals (l.map f)) = true
    rw [h a, reals_map h l]
    rfl
theorem real_opt (o : Option Int) : (optD o).real = true := by cases o <;> rfl
theorem real_mn (m : Mn) : m.d.real = true := by
  show (true && (true && (D.reals (m.brk.map pairD) && (D.real (optD m.day) && (D.real (optD m.week) && true))))) = true
  rw [reals_map real_pair, real_opt, real_opt]
  rfl
theorem reals_all : ∀ {l : List D}, D.reals l = true → ∀ d ∈ l, d.real = true
  | [], _, d, h => by simp at h
  | x :: l, h, d, hd => by
    have h' : (D.real x && D.reals l) = true := h
    rw [Bool.and_eq_true] at h'
    rcases List.mem_cons.mp hd with rfl | hd
    · exact h'.1
    · exact reals_all h'.2 d hd
/-! ### breaks -/
def brkF (q : Int) (x : D) : Option D := match x with
  | .tup [.int a, .int c] => if a ≤ q then some (.int c) else none
  | _ => none
theorem brkF_pair (q : Int) (p : Int × Int) : brkF q (pairD p) = if p.1 ≤ q then some (.int p.2) else none := rfl
theorem fmap_minus (q : Int) : ∀ l : List (Int × Int), (l.map pairD).filterMap (brkF q) = (minus l q).map D.int
  | [] => rfl
  | p :: l => by
    have ih := fmap_minus q l
    unfold minus at ih ⊢
    by_cases h : p.1 ≤ q
    · rw [List.map_cons, List.filterMap_cons_some (show brkF q (pairD p) = some (.int p.2) by rw [brkF_pair, if_pos h]), List.filterMap_cons_some (b := p.2) (by rw [if_pos h]), List.map_cons, ih]
    · rw [List.map_cons, List.filterMap_cons_none (show brkF q (pairD p) = none by rw [brkF_pair, if_neg h]), List.filterMap_cons_none (by rw [if_neg h]), ih]
theorem minus_len (l : List (Int × Int)) (q : Int) : (minus l q).length ≤ l.length := List.length_filterMap_le _ _
theorem left_nil {m : Mn} {q : Int} (h : minus m.brk q = []) : leftR m q = q := by unfold leftR; rw [h]; rfl
theorem left_last {m : Mn} {q x : Int} (h : (minus m.brk q).getLast? = some x) : leftR m q = max 0 (q - x) := by unfold leftR; rw [h]
theorem last_at {l : List Int} {x : Int} (h : l.getLast? = some x) : atI (l.map D.int) (-1) = some (.int x) := by
  obtain ⟨r, rfl⟩ : ∃ r, l = r ++ [x] := List.getLast?_eq_some_iff.mp h
  rw [List.map_append]
  exact atI_last _ _
theorem left_nonneg {m : Mn} {q : Int} (hq : 0 ≤ q) : 0 ≤ leftR m q := by
  unfold leftR
  split <;> omega
/-! ### all days -/
theorem at_rg {α : Type} {n : Nat} {g : Nat → α} {i : Int} (h0 : 0 ≤ i) (h1 : i < n) : atI ((List.range n).map g) i = some (g i.toNat) := by
  obtain ⟨k, rfl⟩ := Int.eq_ofNat_of_zero_le h0
  refine atI_nat ?_
  rw [List.getElem?_map, List.getElem?_range (by omega)]
  rfl
theorem mem_days {p : Int × Int} (h : p ∈ daysR) : dayOk p := by
  unfold daysR at h
  obtain ⟨s, hs, h⟩ := List.mem_flatMap.mp h
  obtain ⟨i, hi, rfl⟩ := List.mem_map.mp h
  have := List.mem_range.mp hs
  have := List.mem_range.mp hi
  unfold dayOk
  simp only
  omega
theorem days_of {p : Int × Int} (h : dayOk p) : p ∈ daysR := by
  unfold dayOk at h
  unfold daysR
  refine List.mem_flatMap.mpr ⟨p.1.toNat, List.mem_range.mpr (by omega), List.mem_map.mpr ⟨(p.2 - p.1 - 1).toNat, List.mem_range.mpr (by omega), ?_⟩⟩
  refine Prod.ext ?_ ?_
  · show ((p.1.toNat : Nat) : Int) = p.1
    omega
  · show ((p.1.toNat : Nat) : Int) + 1 + (((p.2 - p.1 - 1).toNat : Nat) : Int) = p.2
    omega
theorem days_len : daysR.length = 4656 := by decide +kernel
/-- of an int, of a pair of ints -/
def onInt (g : Int → D) : D → D
  | .int i => g i
  | _ => .non
def onPair (g : Int × Int → D) : D → D
  | .tup [.int a, .int b] => g (a, b)
  | _ => .non
/-- a comprehension over all days -/
def dayF (g : Int × Int → D) : D → List D
  | .int s => (rgD (s + 1) (96 - s.toNat)).map (onInt fun e => g (s, e))
  | _ => []
theorem days_flat (g : Int × Int → D) : (rgD 0 96).flatMap (dayF g) = daysR.map g := by
  unfold rgD daysR
  rw [List.flatMap_map, List.map_flatMap]
  congr 1
  funext s
  have e : ((0 : Int) + (s : Int)) = (s : Int) := by omega
  show (rgD (((0 : Int) + (s : Nat)) + 1) (96 - ((0 : Int) + (s : Nat)).toNat)).map (onInt fun e => g (((0 : Int) + (s : Nat)), e)) = _
  rw [e]
  unfold rgD
  rw [List.map_map, List.map_map]
  rfl
theorem pairs_map (f : Int × Int → D) (l : List (Int × Int)) : (l.map pairD).map (onPair f) = l.map f := by rw [List.map_map]; rfl
end CC

/-! Tables of the best pairs, plainly. -/
namespace CC
open PySem PySem.Spec PyProof.Rows L2 PD
section
variable {β : Type} {t : List (Int × β)} {k k' : Int} {v : β}
def keysI (t : List (Int × β)) : List Int := t.map (·.1)
theorem lkI_cons {a : Int × β} : lkI (a :: t) k = if a.1 = k then some a.2 else lkI t k := by
  unfold lkI
  rw [List.find?_cons]
  by_cases h : a.1 = k
  · rw [if_pos h, decide_eq_true h]; rfl
  · rw [if_neg h, decide_eq_false h]
theorem lkI_mem : ∀ {t : List (Int × β)}, lkI t k = some v → (k, v) ∈ t
  | [], h => by cases h
  | a :: t, h => by
    rw [lkI_cons] at h
    by_cases e : a.1 = k
    · rw [if_pos e] at h
      cases h
      rw [← e]
      exact List.mem_cons_self
    · rw [if_neg e] at h
      exact List.mem_cons_of_mem _ (lkI_mem h)
theorem lkI_none : ∀ {t : List (Int × β)}, lkI t k = none → k ∉ keysI t
  | [], _ => by simp [keysI]
  | a :: t, h => by
    rw [lkI_cons] at h
    by_cases e : a.1 = k
    · rw [if_pos e] at h; cases h
    · rw [if_neg e] at h
      intro z
      rcases List.mem_cons.mp z with z | z
      · exact e z.symm
      · exact lkI_none h z
theorem any_keys : (t.any fun kv => decide (kv.1 = k)) = true ↔ k ∈ keysI t := by
  unfold keysI
  rw [List.any_eq_true, List.mem_map]
  simp
theorem lkI_app : ∀ {t u : List (Int × β)}, lkI (t ++ u) k = match lkI t k with | some v => some v | none => lkI u k
  | [], u => rfl
  | a :: t, u => by
    rw [List.cons_append, lkI_cons, lkI_cons]
    by_cases e : a.1 = k
    · rw [if_pos e, if_pos e]
    · rw [if_neg e, if_neg e]
      exact lkI_app
theorem lkI_repl : ∀ {t : List (Int × β)}, lkI (t.map fun kv => if kv.1 = k then (kv.1, v) else kv) k' = if k' = k ∧ k ∈ keysI t then some v else lkI t k'
  | [] => by simp [lkI, keysI]
  | a :: t => by
    rw [List.map_cons, lkI_cons, lkI_cons, lkI_repl]
    by_cases e : a.1 = k
    · subst e
      rw [if_pos rfl]
      by_cases h : k' = a.1
      · subst h; simp [keysI]
      · have h' : ¬ a.1 = k' := fun z => h z.symm
        simp [h, h']
    · rw [if_neg e]
      by_cases h : a.1 = k'
      · subst h
        rw [if_pos rfl, if_pos rfl, if_neg]
        intro z; exact e z.1
      · rw [if_neg h, if_neg h]
        have h2 : k ∈ keysI (a :: t) ↔ k ∈ keysI t := by
          unfold keysI
          rw [List.map_cons, List.mem_cons]
          exact ⟨fun z => z.elim (fun z => absurd z.symm e) id, .inr⟩
        simp only [h2]
theorem lkI_put : lkI (putI t k v) k' = if k' = k then some v else lkI t k' := by
  unfold putI
  by_cases h : (t.any fun kv => decide (kv.1 = k)) = true
  · rw [if_pos h, lkI_repl]
    by_cases e : k' = k
    · rw [if_pos ⟨e, any_keys.mp h⟩, if_pos e]
    · rw [if_neg (fun z => e z.1), if_neg e]
  · rw [if_neg h, lkI_app]
    have hn : k ∉ keysI t := fun z => h (any_keys.mpr z)
    by_cases e : k' = k
    · rw [if_pos e]
      subst e
      cases q : lkI t k' with
      | some w => exact absurd (List.mem_map_of_mem (f := (·.1)) (lkI_mem q)) hn
      | none =>
        show lkI [(k', v)] k' = _
        rw [lkI_cons, if_pos rfl]
    · rw [if_neg e]
      cases q : lkI t k' with
      | some w => rfl
      | none =>
        show lkI [(k, v)] k' = _
        rw [lkI_cons, if_neg (fun z => e z.symm)]
        rfl
theorem put_mem {e : Int × β} (h : e ∈ putI t k v) : e ∈ t ∨ e = (k, v) := by
  unfold putI at h
  by_cases c : (t.any fun kv => decide (kv.1 = k)) = true
  · rw [if_pos c] at h
    obtain ⟨a, ha, rfl⟩ := List.mem_map.mp h
    by_cases e : a.1 = k
    · rw [if_pos e, e]; exact .inr rfl
    · rw [if_neg e]; exact .inl ha
  · rw [if_neg c] at h
    rcases List.mem_append.mp h with h | h
    · exact .inl h
    · exact .inr (by simpa using h)
theorem put_keys : keysI (putI t k v) = if k ∈ keysI t then keysI t else keysI t ++ [k] := by
  unfold putI
  by_cases c : (t.any fun kv => decide (kv.1 = k)) = true
  · rw [if_pos c, if_pos (any_keys.mp c)]
    unfold keysI
    rw [List.map_map]
    refine List.map_congr_left fun a _ => ?_
    show (if a.1 = k then (a.1, v) else a).1 = a.1
    by_cases e : a.1 = k
    · rw [if_pos e]
    · rw [if_neg e]
  · rw [if_neg c, if_neg (fun z => c (any_keys.mpr z))]
    unfold keysI
    rw [List.map_append]
    rfl
theorem put_nodup (h : (keysI t).Nodup) : (keysI (putI t k v)).Nodup := by
  rw [put_keys]
  by_cases c : k ∈ keysI t
  · rw [if_pos c]; exact h
  · rw [if_neg c]
    rw [List.nodup_append]
    refine ⟨h, by simp, fun a ha b hb => ?_⟩
    have : b = k := by simpa using hb
    subst this
    intro z; exact c (z ▸ ha)
theorem nodup_sub {α : Type} [DecidableEq α] : ∀ {l r : List α}, l.Nodup → (∀ x ∈ l, x ∈ r) → l.length ≤ r.length
  | [], _, _, _ => Nat.zero_le _
  | x :: l, r, hn, hs => by
    have hx := hs x List.mem_cons_self
    have hn' := List.nodup_cons.mp hn
    have h := nodup_sub (r := r.erase x) hn'.2 fun y hy => (List.mem_erase_of_ne (fun z => hn'.1 (by rw [← z]; exact hy))).mpr (hs y (List.mem_cons_of_mem _ hy))
    rw [List.length_erase_of_mem hx] at h
    have := List.length_pos_of_mem hx
    rw [List.length_cons]
    omega
theorem keys_len {n : Nat} (h : (keysI t).Nodup) (hr : ∀ e ∈ t, 0 ≤ e.1 ∧ e.1 ≤ n) : t.length ≤ n + 1 := by
  have h1 := nodup_sub (r := (List.range (n + 1)).map fun i => ((i : Nat) : Int)) h fun x hx => by
    obtain ⟨e, he, rfl⟩ := List.mem_map.mp hx
    have := hr e he
    exact List.mem_map.mpr ⟨e.1.toNat, List.mem_range.mpr (by omega), by omega⟩
  rw [List.length_map, List.length_range] at h1
  unfold keysI at h1
  rw [List.length_map] at h1
  exact h1
end
section
variable {β : Type} {t : List (Int × (Int × β))} {k k' g : Int} {x : β}
theorem better_or : (better t k g x = putI t k (g, x) ∧ ∀ h y, lkI t k = some (h, y) → h < g) ∨ (better t k g x = t ∧ ∃ h y, lkI t k = some (h, y) ∧ g ≤ h) := by
  unfold better
  cases q : lkI t k with
  | none => exact .inl ⟨rfl, fun h y e => by cases e⟩
  | some v =>
    obtain ⟨h, y⟩ := v
    by_cases l : h < g
    · refine .inl ⟨?_, fun h' y' e => ?_⟩
      · show (if (!(some (h, y)).isSome || decide (h < g)) = true then _ else _) = _
        rw [if_pos (by simp [l])]
      · cases e; exact l
    · refine .inr ⟨?_, h, y, rfl, by omega⟩
      show (if (!(some (h, y)).isSome || decide (h < g)) = true then _ else _) = _
      rw [if_neg (by simp [l])]
theorem better_mem {e : Int × (Int × β)} (h : e ∈ better t k g x) : e ∈ t ∨ e = (k, (g, x)) := by
  rcases better_or (t := t) (k := k) (g := g) (x := x) with ⟨e1, _⟩ | ⟨e1, _⟩ <;> rw [e1] at h
  · exact put_mem h
  · exact .inl h
theorem better_nodup (h : (keysI t).Nodup) : (keysI (better t k g x)).Nodup := by
  rcases better_or (t := t) (k := k) (g := g) (x := x) with ⟨e1, _⟩ | ⟨e1, _⟩ <;> rw [e1]
  · exact put_nodup h
  · exact h
/-- what stands for a key is at least so much -/
def AtL (t : List (Int × (Int × β))) (k g : Int) : Prop := ∃ g' x', lkI t k = some (g', x') ∧ g ≤ g'
theorem better_at : AtL (better t k g x) k g := by
  rcases better_or (t := t) (k := k) (g := g) (x := x) with ⟨e1, _⟩ | ⟨e1, h, y, e2, l⟩ <;> rw [e1]
  · exact ⟨g, x, by rw [lkI_put, if_pos rfl], Int.le_refl _⟩
  · exact ⟨h, y, e2, l⟩
theorem better_mono {k' g' : Int} (h : AtL t k' g') : AtL (better t k g x) k' g' := by
  rcases better_or (t := t) (k := k) (g := g) (x := x) with ⟨e1, q⟩ | ⟨e1, _⟩ <;> rw [e1]
  · obtain ⟨h1, x1, e2, l1⟩ := h
    unfold AtL
    rw [lkI_put]
    by_cases e : k' = k
    · subst e
      rw [if_pos rfl]
      have := q _ _ e2
      exact ⟨g, x, rfl, by omega⟩
    · rw [if_neg e]
      exact ⟨h1, x1, e2, l1⟩
  · exact h
/-- many at once -/
def foldB (t : List (Int × (Int × β))) (l : List (Int × (Int × β))) : List (Int × (Int × β)) := l.foldl (fun t u => better t u.1 u.2.1 u.2.2) t
theorem foldB_mem {e : Int × (Int × β)} : ∀ {l t : List (Int × (Int × β))}, e ∈ foldB t l → e ∈ t ∨ e ∈ l
  | [], _, h => .inl h
  | u :: l, t, h => by
    rcases foldB_mem (l := l) h with h | h
    · rcases better_mem h with h | h
      · exact .inl h
      · exact .inr (by rw [h]; exact List.mem_cons_self)
    · exact .inr (List.mem_cons_of_mem _ h)
theorem foldB_nodup : ∀ {l t : List (Int × (Int × β))}, (keysI t).Nodup → (keysI (foldB t l)).Nodup
  | [], _, h => h
  | u :: l, t, h => foldB_nodup (l := l) (better_nodup h)
theorem foldB_mono : ∀ {l t : List (Int × (Int × β))}, AtL t k g → AtL (foldB t l) k g
  | [], _, h => h
  | u :: l, t, h => foldB_mono (l := l) (better_mono h)
theorem foldB_at {u : Int × (Int × β)} : ∀ {l t : List (Int × (Int × β))}, u ∈ l → AtL (foldB t l) u.1 u.2.1
  | [], _, h => by cases h
  | v :: l, t, h => by
    rcases List.mem_cons.mp h with rfl | h
    · exact foldB_mono (l := l) better_at
    · exact foldB_at (l := l) h
theorem AtL.le {g' : Int} (h : AtL t k g) (l : g' ≤ g) : AtL t k g' := let ⟨a, b, c, d⟩ := h; ⟨a, b, c, by omega⟩
theorem foldl_flatMap {α γ σ : Type} {step : σ → γ → σ} {f : α → List γ} : ∀ {l : List α} {s : σ}, (l.flatMap f).foldl step s = l.foldl (fun s a => (f a).foldl step s) s
  | [], _ => rfl
  | a :: l, s => by
    rw [List.flatMap_cons, List.foldl_append, List.foldl_cons]
    exact foldl_flatMap
end
/-! ### the best weeks from the best days -/
abbrev TabD := List (Int × (Int × (Int × Int)))
abbrev TabW := List (Int × (Int × Week))
def dayTab (key gain : Int × Int → Int) : TabD := daysR.foldl (fun t p => better t (key p) (gain p) p) []
def weekStep (found : TabD) (bs : Bool) (weeks : TabW) : TabW := weeks.foldl (fun later e => found.foldl (fun later f => better later (if bs then e.1 + f.1 else 0) (e.2.1 + f.2.1) (e.2.2 ++ [f.2.2])) later) weeks
def weekTab (found : TabD) (bs : Bool) : Nat → TabW
  | 0 => [(0, (0, []))]
  | i + 1 => weekStep found bs (weekTab found bs i)
/-- a table of days: keys of 0 to 96 -/
structure DT_ (t : TabD) : Prop where
  nd : (keysI t).Nodup
  rg : ∀ e ∈ t, 0 ≤ e.1 ∧ e.1 ≤ 96 ∧ e.2.2 ∈ daysR
structure WT_ (i : Nat) (t : TabW) : Prop where
  nd : (keysI t).Nodup
  rg : ∀ e ∈ t, 0 ≤ e.1 ∧ e.1 ≤ 96 * (i : Nat) ∧ e.2.2.length ≤ i ∧ ∀ p ∈ e.2.2, p ∈ daysR
theorem DT_.len {t : TabD} (h : DT_ t) : t.length ≤ 97 := keys_len (n := 96) h.nd fun e he => ⟨(h.rg e he).1, (h.rg e he).2.1⟩
theorem WT_.len {i : Nat} {t : TabW} (h : WT_ i t) : t.length ≤ 96 * i + 1 := keys_len (n := 96 * i) h.nd fun e he => ⟨(h.rg e he).1, by have := (h.rg e he).2.1; omega⟩
theorem DT_.nil : DT_ [] := ⟨by simp [keysI], fun e h => by cases h⟩
theorem DT_.better {t : TabD} (h : DT_ t) {k g : Int} {p : Int × Int} (hk : 0 ≤ k ∧ k ≤ 96) (hp : p ∈ daysR) : DT_ (better t k g p) :=
  ⟨better_nodup h.nd, fun e he => by
    rcases better_mem he with he | rfl
    · exact h.rg e he
    · exact ⟨hk.1, hk.2, hp⟩⟩
theorem WT_.better {i : Nat} {t : TabW} (h : WT_ i t) {k g : Int} {w : Week} (hk : 0 ≤ k ∧ k ≤ 96 * (i : Nat)) (hw : w.length ≤ i ∧ ∀ p ∈ w, p ∈ daysR) : WT_ i (better t k g w) :=
  ⟨better_nodup h.nd, fun e he => by
    rcases better_mem he with he | rfl
    · exact h.rg e he
    · exact ⟨hk.1, hk.2, hw.1, hw.2⟩⟩
theorem WT_.mono {i j : Nat} {t : TabW} (h : WT_ i t) (l : i ≤ j) : WT_ j t := ⟨h.nd, fun e he => by
  obtain ⟨a, b, c, d⟩ := h.rg e he
  exact ⟨a, by omega, by omega, d⟩⟩
theorem fold_inv {α σ : Type} {step : σ → α → σ} {I : σ → Prop} : ∀ {l : List α} {s : σ}, I s → (∀ a, a ∈ l → ∀ s, I s → I (step s a)) → I (l.foldl step s)
  | [], _, h, _ => h
  | a :: l, s, h, st => fold_inv (l := l) (st a List.mem_cons_self s h) fun b hb => st b (List.mem_cons_of_mem _ hb)
theorem key_step {bs : Bool} {a k : Int} {i : Nat} (h1 : 0 ≤ a ∧ a ≤ 96 * (i : Nat)) (h2 : 0 ≤ k ∧ k ≤ 96) : 0 ≤ (if bs then a + k else 0) ∧ (if bs then a + k else 0) ≤ 96 * ((i + 1 : Nat) : Int) := by
  split <;> omega
theorem weekStep_ok {found : TabD} {bs : Bool} {i : Nat} {t : TabW} (hf : DT_ found) (h : WT_ i t) : WT_ (i + 1) (weekStep found bs t) := by
  refine fold_inv (h.mono (by omega)) fun e he s hs => fold_inv hs fun f hf' s hs => ?_
  obtain ⟨a1, a2, a3, a4⟩ := h.rg e he
  obtain ⟨b1, b2, b3⟩ := hf.rg f hf'
  refine hs.better (key_step ⟨a1, a2⟩ ⟨b1, b2⟩) ⟨by simp; omega, fun p hp => ?_⟩
  rcases List.mem_append.mp hp with hp | hp
  · exact a4 p hp
  · have : p = f.2.2 := by simpa using hp
    rw [this]; exact b3
theorem WT_.start : WT_ 0 [(0, (0, []))] := ⟨by simp [keysI], fun e he => by
  have : e = (0, (0, [])) := by simpa using he
  subst this
  exact ⟨Int.le_refl _, by decide, Nat.le_refl _, fun p hp => by cases hp⟩⟩
theorem weekTab_ok {found : TabD} {bs : Bool} (hf : DT_ found) : ∀ i, WT_ i (weekTab found bs i)
  | 0 => WT_.start
  | i + 1 => weekStep_ok hf (weekTab_ok hf i)
theorem dayTab_ok {key gain : Int × Int → Int} (hk : ∀ p ∈ daysR, 0 ≤ key p ∧ key p ≤ 96) : DT_ (dayTab key gain) := fold_inv DT_.nil fun p hp s hs => hs.better (hk p hp) hp
/-! what the tables hold -/
theorem dayTab_foldB (key gain : Int × Int → Int) : dayTab key gain = foldB [] (daysR.map fun p => (key p, (gain p, p))) := by
  unfold dayTab foldB
  rw [List.foldl_map]
theorem weekStep_foldB (found : TabD) (bs : Bool) (weeks : TabW) : weekStep found bs weeks = foldB weeks (weeks.flatMap fun e => found.map fun f => ((if bs then e.1 + f.1 else 0), (e.2.1 + f.2.1, e.2.2 ++ [f.2.2]))) := by
  unfold weekStep foldB
  rw [foldl_flatMap]
  congr 1
  funext s e
  rw [List.foldl_map]
theorem dayTab_mem {key gain : Int × Int → Int} {e} (h : e ∈ dayTab key gain) : e.2.2 ∈ daysR ∧ e.1 = key e.2.2 ∧ e.2.1 = gain e.2.2 := by
  rw [dayTab_foldB] at h
  rcases foldB_mem h with h | h
  · cases h
  · obtain ⟨p, hp, rfl⟩ := List.mem_map.mp h
    exact ⟨hp, rfl, rfl⟩
theorem dayTab_at {key gain : Int × Int → Int} {p} (h : p ∈ daysR) : AtL (dayTab key gain) (key p) (gain p) := by
  rw [dayTab_foldB]
  exact foldB_at (u := (key p, (gain p, p))) (List.mem_map_of_mem h)
def tot (f : Int × Int → Int) (w : Week) : Int := (w.map f).sum
theorem tot_app (f : Int × Int → Int) (w : Week) (p : Int × Int) : tot f (w ++ [p]) = tot f w + f p := by unfold tot; simp
def keyB (bs : Bool) (key : Int × Int → Int) (w : Week) : Int := if bs then tot key w else 0
theorem weekTab_mem {key gain : Int × Int → Int} {bs : Bool} : ∀ {i : Nat} {e}, e ∈ weekTab (dayTab key gain) bs i → (∀ p ∈ e.2.2, p ∈ daysR) ∧ e.2.2.length ≤ i ∧ e.1 = keyB bs key e.2.2 ∧ e.2.1 = tot gain e.2.2
  | 0, e, h => by
    have : e = (0, (0, [])) := by simpa [weekTab] using h
    subst this
    exact ⟨fun p hp => by simp at hp, Nat.le_refl _, by unfold keyB; cases bs <;> rfl, rfl⟩
  | i + 1, e, h => by
    rw [weekTab, weekStep_foldB] at h
    rcases foldB_mem h with h | h
    · obtain ⟨a, b, c, d⟩ := weekTab_mem h
      exact ⟨a, by omega, c, d⟩
    · obtain ⟨u, hu, h⟩ := List.mem_flatMap.mp h
      obtain ⟨f, hf, rfl⟩ := List.mem_map.mp h
      obtain ⟨a, b, c, d⟩ := weekTab_mem hu
      obtain ⟨f1, f2, f3⟩ := dayTab_mem hf
      refine ⟨fun p hp => ?_, by simp; omega, ?_, ?_⟩
      · rcases List.mem_append.mp hp with hp | hp
        · exact a p hp
        · have : p = f.2.2 := by simpa using hp
          rw [this]; exact f1
      · show (if bs then u.1 + f.1 else 0) = keyB bs key (u.2.2 ++ [f.2.2])
        unfold keyB at *
        cases bs with
        | true => rw [if_pos rfl, if_pos rfl, tot_app]; rw [if_pos rfl] at c; rw [c, f2]
        | false => rfl
      · show u.2.1 + f.2.1 = tot gain (u.2.2 ++ [f.2.2])
        rw [tot_app, d, f3]
theorem weekTab_at {key gain : Int × Int → Int} {bs : Bool} : ∀ {i : Nat} {w : Week}, w.length ≤ i → (∀ p ∈ w, p ∈ daysR) → AtL (weekTab (dayTab key gain) bs i) (keyB bs key w) (tot gain w)
  | 0, w, h, _ => by
    have : w = [] := List.length_eq_zero_iff.mp (by omega)
    subst this
    exact ⟨0, [], by unfold keyB; cases bs <;> rfl, Int.le_refl _⟩
  | i + 1, w, h, hd => by
    rw [weekTab, weekStep_foldB]
    by_cases hl : w.length ≤ i
    · exact foldB_mono (weekTab_at hl hd)
    · rcases List.eq_nil_or_concat w with rfl | ⟨u, p, e⟩
      · exact absurd (Nat.zero_le _) hl
      · rw [List.concat_eq_append] at e
        subst e
        have lu : u.length ≤ i := by simp at h; omega
        obtain ⟨g1, x1, e1, l1⟩ := weekTab_at (key := key) (gain := gain) (bs := bs) lu fun q hq => hd q (List.mem_append_left _ hq)
        obtain ⟨g2, x2, e2, l2⟩ := dayTab_at (key := key) (gain := gain) (hd p (by simp))
        have m1 := lkI_mem e1
        have m2 := lkI_mem e2
        have := foldB_at (t := weekTab (dayTab key gain) bs i) (u := ((if bs then keyB bs key u + key p else 0), (g1 + g2, x1 ++ [x2]))) (l := (weekTab (dayTab key gain) bs i).flatMap fun e => (dayTab key gain).map fun f => ((if bs then e.1 + f.1 else 0), (e.2.1 + f.2.1, e.2.2 ++ [f.2.2])))
          (List.mem_flatMap.mpr ⟨_, m1, List.mem_map.mpr ⟨_, m2, rfl⟩⟩)
        have ek : (if bs then keyB bs key u + key p else 0) = keyB bs key (u ++ [p]) := by
          unfold keyB
          cases bs with
          | true => rw [if_pos rfl, if_pos rfl, if_pos rfl, tot_app]
          | false => rfl
        have t2 : AtL _ (if bs then keyB bs key u + key p else 0) (g1 + g2) := this
        rw [ek] at t2
        refine t2.le ?_
        rw [tot_app]
        omega
end CC

/-! Ranges; leads, plainly. -/
namespace CC
open PySem PySem.Spec PyProof.Rows L2 PD
theorem minus_pos {m : Mn} (h : m.Ok) {q x : Int} (hx : (minus m.brk q).getLast? = some x) : 1 ≤ x := by
  have := List.mem_of_getLast? hx
  unfold minus at this
  obtain ⟨p, hp, e⟩ := List.mem_filterMap.mp this
  by_cases c : p.1 ≤ q
  · rw [if_pos c] at e; cases e
    exact (h.brk p hp).2.2.1
  · rw [if_neg c] at e; cases e
theorem left_rng {m : Mn} (h : m.Ok) {q : Int} (hq : 0 ≤ q) : 0 ≤ leftR m q ∧ leftR m q ≤ q := by
  cases c : (minus m.brk q).getLast? with
  | none => 
    have : leftR m q = q := by unfold leftR; rw [c]
    omega
  | some x =>
    rw [left_last c]
    have := minus_pos h c
    omega
theorem parts_rng {m : Mn} (h : m.Ok) {p : Int × Int} (hp : dayOk p) : 0 ≤ (partsR m p).1 ∧ (partsR m p).1 ≤ 96 ∧ 0 ≤ (partsR m p).2 ∧ (partsR m p).2 ≤ 96 := by
  have c := count_rng h hp
  have l := left_rng h c.1
  show 0 ≤ capR m.day (leftR m (countR m p)) ∧ capR m.day (leftR m (countR m p)) ≤ 96 ∧ 0 ≤ leftR m (countR m p) - capR m.day (leftR m (countR m p)) ∧ leftR m (countR m p) - capR m.day (leftR m (countR m p)) ≤ 96
  cases e : m.day with
  | none => show 0 ≤ leftR m (countR m p) ∧ _; simp only [capR]; omega
  | some x =>
    have := h.day x e
    simp only [capR]; omega
def gainR (m n : Mn) (wt : Int) (p : Int × Int) : Int := 2 * (partsR m p).1 + 3 * (partsR m p).2 - 2 * (partsR n p).1 - 3 * (partsR n p).2 + wt * (partsR m p).1
def bestDaysR (m n : Mn) (wt : Int) : TabD := dayTab (fun p => (partsR n p).1) (gainR m n wt)
theorem bestDays_ok {m n : Mn} (hn : n.Ok) {wt : Int} : DT_ (bestDaysR m n wt) := dayTab_ok fun p hp => by
  have := parts_rng hn (mem_days hp)
  exact ⟨this.1, this.2.1⟩
def wtsR (o : Option Int) : List Int := match o with | none => [0] | some _ => [0, 1]
def leadStep (m n : Mn) (best : Int × Week) (e : Int × (Int × Week)) : Int × Week := if best.1 < paidR m e.2.2 - paidR n e.2.2 then (paidR m e.2.2 - paidR n e.2.2, e.2.2) else best
def leadR (m n : Mn) : Int × Week := (wtsR m.week).foldl (fun best wt => (weekTab (bestDaysR m n wt) n.week.isSome 5).foldl (leadStep m n) best) (0, [])
/-- five days at most, all days -/
def W5 (w : Week) : Prop := w.length ≤ 5 ∧ ∀ p ∈ w, p ∈ daysR
/-! leads -/
theorem leadFold_mono (m n : Mn) : ∀ (l : TabW) (best : Int × Week), best.1 ≤ (l.foldl (leadStep m n) best).1
  | [], _ => Int.le_refl _
  | e :: l, best => by
    refine Int.le_trans ?_ (leadFold_mono m n l _)
    unfold leadStep
    split <;> omega
theorem leadFold_at (m n : Mn) {e} : ∀ (l : TabW) (best : Int × Week), e ∈ l → paidR m e.2.2 - paidR n e.2.2 ≤ (l.foldl (leadStep m n) best).1
  | [], _, h => by cases h
  | u :: l, best, h => by
    rcases List.mem_cons.mp h with rfl | h
    · refine Int.le_trans ?_ (leadFold_mono m n l _)
      unfold leadStep
      split <;> omega
    · exact leadFold_at m n l _ h
/-- what is told is a week's lead -/
def LeadOf (m n : Mn) (b : Int × Week) : Prop := W5 b.2 ∧ b.1 = paidR m b.2 - paidR n b.2
theorem extra0 {m : Mn} (h : m.Ok) : extraR m.week 0 = 0 := by
  cases q : m.week with
  | none => rfl
  | some x =>
    have := h.week x q
    show max 0 (0 - x) = 0
    omega
theorem paid0 {m : Mn} (h : m.Ok) : paidR m [] = 0 := by
  have e := extra0 h
  show 2 * (0 : Int) + 3 * 0 + extraR m.week 0 = 0
  rw [e]; rfl
theorem lead_is {m n : Mn} (hm : m.Ok) (hn : n.Ok) : LeadOf m n (leadR m n) := by
  unfold leadR
  refine fold_inv (I := LeadOf m n) ⟨⟨by decide, fun p hp => by cases hp⟩, ?_⟩ fun wt _ s hs => fold_inv hs fun e he s hs => ?_
  · show (0 : Int) = paidR m [] - paidR n []
    rw [paid0 hm, paid0 hn]; rfl
  · unfold leadStep
    split
    · have r := (weekTab_ok (bs := n.week.isSome) (bestDays_ok (m := m) hn (wt := wt)) 5).rg e he
      exact ⟨⟨r.2.2.1, r.2.2.2⟩, rfl⟩
    · exact hs
theorem lead_ge0 (m n : Mn) : 0 ≤ (leadR m n).1 := by
  unfold leadR
  exact fold_inv (I := fun b : Int × Week => 0 ≤ b.1) (Int.le_refl _) fun wt _ s hs => Int.le_trans hs (leadFold_mono ..)
theorem foldl_le {α σ : Type} {step : σ → α → σ} {v : σ → Int} (mono : ∀ s a, v s ≤ v (step s a)) : ∀ (l : List α) (b : σ), v b ≤ v (l.foldl step b)
  | [], _ => Int.le_refl _
  | x :: l, b => Int.le_trans (mono b x) (foldl_le mono l _)
theorem foldl_at {α σ : Type} {step : σ → α → σ} {v : σ → Int} {a : α} {z : Int} (mono : ∀ s a, v s ≤ v (step s a)) (hz : ∀ s, z ≤ v (step s a)) : ∀ (l : List α) (b : σ), a ∈ l → z ≤ v (l.foldl step b)
  | [], _, h => by cases h
  | x :: l, b, h => by
    rcases List.mem_cons.mp h with rfl | h
    · exact Int.le_trans (hz b) (foldl_le mono l _)
    · exact foldl_at mono hz l _ h
theorem lead_at {m n : Mn} {wt : Int} {e} (hw : wt ∈ wtsR m.week) (he : e ∈ weekTab (bestDaysR m n wt) n.week.isSome 5) : paidR m e.2.2 - paidR n e.2.2 ≤ (leadR m n).1 :=
  foldl_at (v := fun b : Int × Week => b.1) (step := fun best wt => (weekTab (bestDaysR m n wt) n.week.isSome 5).foldl (leadStep m n) best) (fun s a => leadFold_mono ..) (fun s => leadFold_at m n _ _ he) _ _ hw
/-! no week's lead is greater -/
theorem tot_gain (m n : Mn) (wt : Int) : ∀ w : Week, tot (gainR m n wt) w = (2 + wt) * normR m w + 3 * overR m w - 2 * normR n w - 3 * overR n w
  | [] => by unfold tot normR overR; simp
  | p :: w => by
    have ih := tot_gain m n wt w
    unfold tot normR overR at *
    simp only [List.map_cons, List.sum_cons]
    rw [ih]
    unfold gainR
    simp only [Int.mul_add, Int.add_mul]
    omega
theorem tot_norm (n : Mn) (w : Week) : tot (fun p => (partsR n p).1) w = normR n w := rfl
theorem lead_max {m n : Mn} {w : Week} (hw : W5 w) : paidR m w - paidR n w ≤ (leadR m n).1 := by
  have key : ∀ wt ∈ wtsR m.week, ∃ e, e ∈ weekTab (bestDaysR m n wt) n.week.isSome 5 ∧ keyB n.week.isSome (fun p => (partsR n p).1) e.2.2 = keyB n.week.isSome (fun p => (partsR n p).1) w ∧ tot (gainR m n wt) w ≤ tot (gainR m n wt) e.2.2 := fun wt _ => by
    obtain ⟨g, x, e1, l⟩ := weekTab_at (key := fun p => (partsR n p).1) (gain := gainR m n wt) (bs := n.week.isSome) hw.1 hw.2
    have hm := lkI_mem e1
    obtain ⟨_, _, c, d⟩ := weekTab_mem hm
    exact ⟨_, hm, c.symm, by rw [← d]; exact l⟩
  have ex : ∀ v, keyB n.week.isSome (fun p => (partsR n p).1) v = keyB n.week.isSome (fun p => (partsR n p).1) w → extraR n.week (normR n v) = extraR n.week (normR n w) := fun v e => by
    cases q : n.week with
    | none => rfl
    | some x =>
      rw [q] at e
      have e' : normR n v = normR n w := e
      rw [e']
  have fin : ∀ wt ∈ wtsR m.week, ∃ v, paidR m v - paidR n v ≤ (leadR m n).1 ∧ extraR n.week (normR n v) = extraR n.week (normR n w) ∧ (2 + wt) * normR m w + 3 * overR m w - 2 * normR n w - 3 * overR n w ≤ (2 + wt) * normR m v + 3 * overR m v - 2 * normR n v - 3 * overR n v := fun wt h => by
    obtain ⟨e, he, hk, hl⟩ := key wt h
    rw [tot_gain, tot_gain] at hl
    exact ⟨_, lead_at h he, ex _ hk, hl⟩
  unfold paidR at *
  cases q : m.week with
  | none =>
    rw [q] at fin
    obtain ⟨v, a, b, c⟩ := fin 0 (by simp [wtsR])
    rw [b] at a
    have k1 : ∀ y, extraR none y = 0 := fun _ => rfl
    rw [k1] at a ⊢
    omega
  | some x =>
    rw [q] at fin
    obtain ⟨v, a, b, c⟩ := fin 0 (by simp [wtsR])
    obtain ⟨v1, a1, b1, c1⟩ := fin 1 (by simp [wtsR])
    rw [b] at a
    rw [b1] at a1
    have k1 : ∀ y, extraR (some x) y = max 0 (y - x) := fun _ => rfl
    rw [k1] at a a1 ⊢
    omega
end CC

/-! The laws' deck of random numbers, plainly. -/
namespace CC
open PySem PySem.Spec PyProof.Rows L2 PD
structure Dk where
  c : Int
  n : Int
  t : Int
def Dk.mo (k : Dk) : MO := .l [.int k.c, .int k.n, .int k.t]
def deckR (cell turn : Int) : Dk := if 10 ^ 18 ≤ cell then ⟨cell - 10 ^ 18, cell % 2147483579, turn⟩ else ⟨0, cell % 2147483579, turn⟩
def Dk.Ok (k : Dk) (T : Int) : Prop := (0 ≤ k.n ∧ k.n < 2147483579) ∧ 0 ≤ k.t ∧ k.t ≤ T
theorem deck_ok {cell turn T : Int} (h : 0 ≤ turn ∧ turn ≤ T) : (deckR cell turn).Ok T := by
  unfold deckR
  have := Int.emod_nonneg cell (show (2147483579 : Int) ≠ 0 by decide)
  have := Int.emod_lt_of_pos cell (show (0 : Int) < 2147483579 by decide)
  split <;> exact ⟨⟨by assumption, by assumption⟩, h⟩
theorem Dk.Ok.mono {k : Dk} {T T' : Int} (h : k.Ok T) (l : T ≤ T') : k.Ok T' := ⟨h.1, h.2.1, by have := h.2.2; omega⟩
def num1 (k : Dk) : Int := (k.n + 15485867 * (k.t + 1)) ^ (5 : Int).toNat % 2147483647
def num2 (k : Dk) : Int := (num1 k + 7919 * (k.t + 1)) ^ (3 : Int).toNat % 2147483629 / 32
def pickR (k : Dk) (lim : Int) : Int × Dk := if 1 < k.c then (k.c % lim, ⟨k.c / lim, k.n, k.t⟩) else (num2 k % lim, ⟨k.c, k.n, k.t + 1⟩)
theorem pick_ok {k : Dk} {T lim : Int} (h : k.Ok T) : (pickR k lim).2.Ok (T + 1) := by
  obtain ⟨h1, h2, h3⟩ := h
  unfold pickR
  split
  · exact ⟨h1, h2, by show k.t ≤ T + 1; omega⟩
  · exact ⟨h1, by show 0 ≤ k.t + 1; omega, by show k.t + 1 ≤ T + 1; omega⟩
theorem pick_rng {k : Dk} {lim : Int} (h : 0 < lim) : 0 ≤ (pickR k lim).1 ∧ (pickR k lim).1 < lim := by
  unfold pickR
  split
  · exact ⟨Int.emod_nonneg _ (by omega), Int.emod_lt_of_pos _ h⟩
  · exact ⟨Int.emod_nonneg _ (by omega), Int.emod_lt_of_pos _ h⟩
theorem num1_rng (k : Dk) : 0 ≤ num1 k ∧ num1 k < 2147483647 := ⟨Int.emod_nonneg _ (by decide), Int.emod_lt_of_pos _ (by decide)⟩
/-! a rounding -/
def roundR (k : Dk) : Rd × Dk :=
  let s := stepsL.getD (pickR k 7).1.toNat 1
  let k1 := (pickR k 7).2
  let k2 := (pickR k1 3).2
  (⟨s, sidesL.getD (pickR k1 3).1.toNat "down", (pickR k2 s).1⟩, (pickR k2 s).2)
theorem getD_at {α : Type} {l : List α} {i : Int} {d : α} (f : α → D) (h : 0 ≤ i ∧ i < l.length) : atI (l.map f) i = some (f (l.getD i.toNat d)) := by
  have hl : i.toNat < l.length := by omega
  have e : (l.map f)[i.toNat]? = some (f (l.getD i.toNat d)) := by
    rw [List.getElem?_map, List.getElem?_eq_getElem hl, List.getD_eq_getElem?_getD, List.getElem?_eq_getElem hl]
    rfl
  unfold atI ixN
  have h1 : ¬ i < 0 := by omega
  have h2 : i < ((l.map f).length : Int) := by rw [List.length_map]; exact h.2
  simp only [h1, h.1, h2, if_false, and_self, if_true]
  exact e
theorem getD_mem {α : Type} {l : List α} {i : Nat} {d : α} (h : i < l.length) : l.getD i d ∈ l := by
  rw [List.getD_eq_getElem?_getD, List.getElem?_eq_getElem h]
  exact List.getElem_mem h
theorem round_ok {k : Dk} {T : Int} (h : k.Ok T) : (roundR k).1.Ok ∧ (roundR k).2.Ok (T + 3) := by
  have p1 := pick_rng (k := k) (lim := 7) (by decide)
  have p2 := pick_rng (k := (pickR k 7).2) (lim := 3) (by decide)
  have s1 : stepsL.getD (pickR k 7).1.toNat 1 ∈ stepsL := getD_mem (by show _ < 7; omega)
  have s2 : sidesL.getD (pickR (pickR k 7).2 3).1.toNat "down" ∈ sidesL := getD_mem (by show _ < 3; omega)
  have p3 := pick_rng (k := (pickR (pickR k 7).2 3).2) (steps_pos s1).1
  refine ⟨⟨s1, s2, p3.1, p3.2⟩, ?_⟩
  have := pick_ok (lim := stepsL.getD (pickR k 7).1.toNat 1) (pick_ok (lim := 3) (pick_ok (lim := 7) h))
  exact this.mono (by omega)
/-! a manner -/
def brkStep (s : List (Int × Int) × Int × Dk) : List (Int × Int) × Int × Dk :=
  let a := s.2.1 + 1 + (pickR s.2.2 40).1
  let k1 := (pickR s.2.2 40).2
  (s.1 ++ [(a, 1 + (pickR k1 8).1)], a, (pickR k1 8).2)
def brkIt (k : Dk) : Nat → List (Int × Int) × Int × Dk
  | 0 => ([], 0, k)
  | i + 1 => brkStep (brkIt k i)
def optR (k : Dk) (hi : Int) : Option Int × Dk :=
  let k1 := (pickR k 2).2
  if (pickR k 2).1 = 0 then (none, k1) else (some (1 + (pickR k1 hi).1), (pickR k1 hi).2)
theorem opt_ok {k : Dk} {T hi : Int} (h : k.Ok T) (hp : 0 < hi) : limOk (optR k hi).1 hi ∧ (optR k hi).2.Ok (T + 2) := by
  by_cases e0 : (pickR k 2).1 = 0
  · have q : optR k hi = (none, (pickR k 2).2) := if_pos e0
    rw [q]
    exact ⟨fun i e => (by cases e), (pick_ok h).mono (by omega)⟩
  · have q : optR k hi = (some (1 + (pickR (pickR k 2).2 hi).1), (pickR (pickR k 2).2 hi).2) := if_neg e0
    rw [q]
    refine ⟨fun i e => ?_, (pick_ok (pick_ok h)).mono (by omega)⟩
    have := pick_rng (k := (pickR k 2).2) hp
    cases e
    omega
/-- what the breaks' turns keep -/
structure BrkOk (i : Nat) (T : Int) (s : List (Int × Int) × Int × Dk) : Prop where
  len : s.1.length = i
  rg : ∀ p ∈ s.1, 1 ≤ p.1 ∧ p.1 ≤ s.2.1 ∧ 1 ≤ p.2 ∧ p.2 ≤ 8
  st : 0 ≤ s.2.1 ∧ s.2.1 ≤ 40 * i
  ord : ∀ p q, s.1 = [p, q] → p.1 < q.1
  k : s.2.2.Ok (T + 2 * i)
theorem brk_step {i : Nat} {T : Int} {s} (h : BrkOk i T s) : BrkOk (i + 1) T (brkStep s) := by
  have p1 := pick_rng (k := s.2.2) (lim := 40) (by decide)
  have p2 := pick_rng (k := (pickR s.2.2 40).2) (lim := 8) (by decide)
  obtain ⟨h1, h2, h3, h4, h5⟩ := h
  refine ⟨by simp [brkStep, h1], fun p hp => ?_, by show 0 ≤ s.2.1 + 1 + _ ∧ s.2.1 + 1 + _ ≤ _; omega, fun p q e => ?_, (pick_ok (pick_ok h5)).mono (by omega)⟩
  · show 1 ≤ p.1 ∧ p.1 ≤ s.2.1 + 1 + (pickR s.2.2 40).1 ∧ 1 ≤ p.2 ∧ p.2 ≤ 8
    rcases List.mem_append.mp hp with hp | hp
    · have := h2 p hp; omega
    · have : p = _ := List.mem_singleton.mp hp
      subst this
      show 1 ≤ s.2.1 + 1 + (pickR s.2.2 40).1 ∧ s.2.1 + 1 + (pickR s.2.2 40).1 ≤ s.2.1 + 1 + (pickR s.2.2 40).1 ∧ 1 ≤ 1 + (pickR (pickR s.2.2 40).2 8).1 ∧ 1 + (pickR (pickR s.2.2 40).2 8).1 ≤ 8
      omega
  · have e' : s.1 ++ [(s.2.1 + 1 + (pickR s.2.2 40).1, 1 + (pickR (pickR s.2.2 40).2 8).1)] = [p, q] := e
    rcases hs : s.1 with _ | ⟨a, _ | ⟨c, l⟩⟩
    · rw [hs] at e'; simp at e'
    · rw [hs] at e'
      simp only [List.cons_append, List.nil_append, List.cons.injEq, and_true] at e'
      obtain ⟨rfl, rfl⟩ := e'
      have := h2 a (by rw [hs]; exact List.mem_singleton.mpr rfl)
      show a.1 < s.2.1 + 1 + (pickR s.2.2 40).1
      omega
    · rw [hs] at e'
      have := congrArg List.length e'
      simp at this
theorem brk_it {k : Dk} {T : Int} (h : k.Ok T) : ∀ i, BrkOk i T (brkIt k i)
  | 0 => ⟨rfl, fun p hp => (by cases hp), by show (0 : Int) ≤ 0 ∧ (0 : Int) ≤ _; omega, fun p q e => (by cases e), h.mono (by omega)⟩
  | i + 1 => brk_step (brk_it h i)
def mannerR (k : Dk) : Mn × Dk :=
  let n := (pickR k 3).1
  let s := brkIt (pickR k 3).2 n.toNat
  let o1 := optR s.2.2 60
  let o2 := optR o1.2 300
  let r1 := roundR o2.2
  let r2 := roundR r1.2
  (⟨r1.1, r2.1, s.1, o1.1, o2.1⟩, r2.2)
theorem manner_ok {k : Dk} {T : Int} (h : k.Ok T) : (mannerR k).1.Ok ∧ (mannerR k).2.Ok (T + 20) := by
  have p := pick_rng (k := k) (lim := 3) (by decide)
  have b := brk_it (pick_ok (lim := 3) h) (pickR k 3).1.toNat
  have o1 := opt_ok (hi := 60) b.k (by decide)
  have o2 := opt_ok (hi := 300) o1.2 (by decide)
  have r1 := round_ok o2.2
  have r2 := round_ok r1.2
  refine ⟨⟨r1.1, r2.1, ?_, fun q hq => ?_, b.ord, fun i e => ?_, fun i e => ?_⟩, r2.2.mono (by omega)⟩
  · show (brkIt (pickR k 3).2 (pickR k 3).1.toNat).1.length ≤ 2
    rw [b.len]; omega
  · have := b.rg q hq
    have := b.st
    omega
  · have := o1.1 i e; omega
  · have := o2.1 i e; omega
end CC

/-! The laws' own reckoning of punches and splits, plainly. -/
namespace CC
open PySem PySem.Spec PyProof.Rows L2 PD
def lowR (r : Rd) (t : Int) : Int := t - t % r.step
def highR (r : Rd) (t : Int) : Int := if decide (lowR r t = t) = true then lowR r t else lowR r t + r.step
def punchR (r : Rd) (t : Int) (b : Bool) : Int :=
  if ((b && decide (t - lowR r t ≤ r.grace)) || (!b && decide (highR r t - t ≤ r.grace))) = true then (if b = true then lowR r t else highR r t)
  else if decide (r.side = "near") = true then (if decide (t - lowR r t < highR r t - t) = true then lowR r t else highR r t)
  else (if decide (r.side = "down") = true then lowR r t else highR r t)
theorem side_cases {r : Rd} (h : r.Ok) : r.side = "down" ∨ r.side = "near" ∨ r.side = "up" := by
  have := h.side
  simpa [sidesL] using this
theorem nd1 : ("near" : Str) ≠ "down" := by decide
theorem nd2 : ("up" : Str) ≠ "down" := by decide
theorem nd3 : ("up" : Str) ≠ "near" := by decide
theorem nd4 : ("down" : Str) ≠ "near" := by decide
theorem nd5 : ("down" : Str) ≠ "up" := by decide
theorem nd6 : ("near" : Str) ≠ "up" := by decide
theorem high_eq {r : Rd} (h : r.Ok) (t : Int) : highR r t = if t % r.step = 0 then t else t - t % r.step + r.step := by
  unfold highR lowR
  by_cases c : t % r.step = 0
  · rw [if_pos c, if_pos (by rw [c]; simp), c]; omega
  · rw [if_neg c, if_neg (by simp only [decide_eq_true_eq]; omega)]
theorem neg_mod {r : Rd} (h : r.Ok) (t : Int) : (0 - t) % r.step = if t % r.step = 0 then 0 else r.step - t % r.step := by
  have hp := h.pos
  have h0 := Int.emod_nonneg t (show r.step ≠ 0 by omega)
  have h1 := Int.emod_lt_of_pos t hp
  have e := Int.emod_add_mul_ediv t r.step
  by_cases c : t % r.step = 0
  · rw [if_pos c]
    rw [c] at e
    have : 0 - t = r.step * (-(t / r.step)) := by rw [Int.mul_neg]; omega
    rw [this, Int.mul_emod_right]
  · rw [if_neg c]
    have : 0 - t = (r.step - t % r.step) + r.step * (-(t / r.step) - 1) := by rw [Int.mul_sub, Int.mul_neg]; omega
    rw [this, Int.add_mul_emod_self_left, Int.emod_eq_of_lt (by omega) (by omega)]
theorem punch_in {r : Rd} (h : r.Ok) (t : Int) : punchR r t true = cameR r t := by
  have hp := h.pos
  have h0 := Int.emod_nonneg t (show r.step ≠ 0 by omega)
  have h1 := Int.emod_lt_of_pos t hp
  have hg := h.g0
  have hh := high_eq h t
  have el : lowR r t = t - t % r.step := rfl
  unfold punchR cameR
  rw [hh, el]
  generalize t % r.step = z at *
  rcases side_cases h with s | s | s <;> rw [s] <;> simp only [Bool.true_and, Bool.not_true, Bool.false_and, Bool.or_false, decide_true, nd1, nd2, nd3, nd4, nd5, nd6, decide_false, Bool.true_or, Bool.or_true, Bool.false_or, if_true, Bool.false_eq_true, if_false, Bool.or_eq_true, decide_eq_true_eq] <;> (repeat' split) <;> omega
theorem punch_out {r : Rd} (h : r.Ok) (t : Int) : punchR r t false = wentR r t := by
  have hp := h.pos
  have h0 := Int.emod_nonneg t (show r.step ≠ 0 by omega)
  have h1 := Int.emod_lt_of_pos t hp
  have hg := h.g0
  have hh := high_eq h t
  have hn := neg_mod h t
  have el : lowR r t = t - t % r.step := rfl
  unfold punchR wentR
  rw [hh, hn, el]
  generalize t % r.step = z at *
  rcases side_cases h with s | s | s <;> rw [s] <;> simp only [Bool.false_and, Bool.not_false, Bool.true_and, decide_true, nd1, nd2, nd3, nd4, nd5, nd6, decide_false, Bool.true_or, Bool.or_true, Bool.false_or, Bool.or_false, if_true, Bool.false_eq_true, if_false, Bool.or_eq_true, decide_eq_true_eq] <;> (repeat' split) <;> omega
/-! a split -/
def leftL : List (Int × Int) → Int → Int
  | [], q => q
  | p :: t, q => if decide (p.1 ≤ q) = true then (if decide (p.2 < q) = true then q - p.2 else 0) else leftL t q
theorem leftL_eq {m : Mn} (h : m.brk.length ≤ 2) (q : Int) : leftL m.brk.reverse q = leftR m q := by
  unfold leftR minus
  rcases hb : m.brk with _ | ⟨a, _ | ⟨c, _ | ⟨e, l⟩⟩⟩
  · rfl
  · show leftL [a] q = _
    by_cases c : a.1 ≤ q
    · simp only [leftL, c, decide_true, if_true, List.filterMap_cons, List.filterMap_nil, List.getLast?_singleton, decide_eq_true_eq]
      split <;> omega
    · simp [leftL, c]
  · show leftL [c, a] q = _
    by_cases c1 : c.1 ≤ q
    · by_cases c2 : a.1 ≤ q
      · simp only [leftL, c1, c2, decide_true, if_true, List.filterMap_cons, List.filterMap_nil, List.getLast?_cons_cons, List.getLast?_singleton, decide_eq_true_eq]
        split <;> omega
      · simp only [leftL, c1, c2, decide_true, decide_false, if_true, if_false, List.filterMap_cons, List.filterMap_nil, List.getLast?_singleton, decide_eq_true_eq]
        split <;> omega
    · by_cases c2 : a.1 ≤ q
      · simp only [leftL, c1, c2, decide_true, decide_false, Bool.false_eq_true, if_true, if_false, List.filterMap_cons, List.filterMap_nil, List.getLast?_singleton, decide_eq_true_eq]
        split <;> omega
      · simp [leftL, c1, c2]
  · rw [hb] at h
    simp at h
def splitL (m : Mn) (q : Int) : Int × Int := match m.day with
  | none => (leftL m.brk.reverse q, 0)
  | some x => if decide (leftL m.brk.reverse q ≤ x) = true then (leftL m.brk.reverse q, 0) else (x, leftL m.brk.reverse q - x)
theorem splitL_eq {m : Mn} (h : m.Ok) (q : Int) : splitL m q = splitR m q := by
  unfold splitL splitR
  rw [leftL_eq h.len]
  cases m.day with
  | none => simp [capR]
  | some x =>
    simp only [capR, decide_eq_true_eq]
    split
    · rw [Int.min_eq_left (by assumption)]; simp
    · rw [Int.min_eq_right (by omega)]
/-! all days by their starts -/
def rowD (s : Nat) : List (Int × Int) := (List.range (96 - s)).map fun (i : Nat) => (((s : Nat) : Int), ((s : Nat) : Int) + 1 + (i : Int))
def daysTo (n : Nat) : List (Int × Int) := (List.range n).flatMap rowD
theorem days_96 : daysTo 96 = daysR := rfl
theorem daysTo_succ (n : Nat) : daysTo (n + 1) = daysTo n ++ rowD n := by
  unfold daysTo
  rw [List.range_succ, List.flatMap_append]
  simp
theorem daysTo_len : ∀ n, (daysTo n).length ≤ 96 * n
  | 0 => Nat.le_refl _
  | n + 1 => by
    have := daysTo_len n
    rw [daysTo_succ, List.length_append]
    have : (rowD n).length = 96 - n := by unfold rowD; rw [List.length_map, List.length_range]
    omega
end CC

/-! A manner with one part changed, plainly. -/
namespace CC
open PySem PySem.Spec PyProof.Rows L2 PD
def bendL (r : Rd) (k : Dk) : List Rd := [⟨r.step, r.side, (pickR k r.step).1⟩, ⟨r.step, "near", r.grace⟩, (roundR (pickR k r.step).2).1]
def bendK (r : Rd) (k : Dk) : Dk := (roundR (pickR k r.step).2).2
def bendR (r : Rd) (k : Dk) : Rd × Dk := ((bendL r k).getD (pickR (bendK r k) 3).1.toNat r, (pickR (bendK r k) 3).2)
def limL (hi : Int) (k : Dk) : List (Option Int) := [none, some hi, some (1 + (pickR k hi).1)]
def limR (hi : Int) (k : Dk) : Option Int × Dk := ((limL hi k).getD (pickR (pickR k hi).2 3).1.toNat none, (pickR (pickR k hi).2 3).2)
def bentR (k : Dk) (m : Mn) : Mn × Dk :=
  if (pickR k 6).1 = 0 then (⟨(bendR m.ins (pickR k 6).2).1, m.outs, m.brk, m.day, m.week⟩, (bendR m.ins (pickR k 6).2).2)
  else if (pickR k 6).1 = 1 then (⟨m.ins, (bendR m.outs (pickR k 6).2).1, m.brk, m.day, m.week⟩, (bendR m.outs (pickR k 6).2).2)
  else if (pickR k 6).1 = 2 then (⟨m.ins, m.outs, m.brk.drop 1, m.day, m.week⟩, (pickR k 6).2)
  else if (pickR k 6).1 = 3 then (⟨m.ins, m.outs, m.brk, (limR 96 (pickR k 6).2).1, m.week⟩, (limR 96 (pickR k 6).2).2)
  else (⟨m.ins, m.outs, m.brk, m.day, (limR 480 (pickR k 6).2).1⟩, (limR 480 (pickR k 6).2).2)
theorem bend_ok {r : Rd} (hr : r.Ok) {k : Dk} {T : Int} (h : k.Ok T) : (bendR r k).1.Ok ∧ (bendR r k).2.Ok (T + 6) ∧ (bendK r k).Ok (T + 4) := by
  have p := pick_rng (k := k) hr.pos
  have p1 := pick_ok (lim := r.step) h
  have q := round_ok p1
  have s := pick_rng (k := bendK r k) (lim := 3) (by decide)
  have mem : (bendR r k).1 ∈ bendL r k := getD_mem (by show _ < 3; omega)
  refine ⟨?_, (pick_ok q.2).mono (by omega), q.2.mono (by omega)⟩
  have mem' : (bendR r k).1 = ⟨r.step, r.side, (pickR k r.step).1⟩ ∨ (bendR r k).1 = ⟨r.step, "near", r.grace⟩ ∨ (bendR r k).1 = (roundR (pickR k r.step).2).1 := by simpa [bendL] using mem
  rcases mem' with e | e | e <;> rw [e]
  · exact ⟨hr.step, hr.side, p.1, p.2⟩
  · exact ⟨hr.step, (by decide : ("near" : Str) ∈ sidesL), hr.g0, hr.g1⟩
  · exact q.1
theorem lim_ok2 {hi : Int} (hp : 1 ≤ hi) {k : Dk} {T : Int} (h : k.Ok T) : limOk (limR hi k).1 hi ∧ (limR hi k).2.Ok (T + 2) := by
  have p := pick_rng (k := k) (lim := hi) (by omega)
  have s := pick_rng (k := (pickR k hi).2) (lim := 3) (by decide)
  have mem : (limR hi k).1 ∈ limL hi k := getD_mem (by show _ < 3; omega)
  refine ⟨fun i e => ?_, (pick_ok (pick_ok h)).mono (by omega)⟩
  rw [e] at mem
  have : i = hi ∨ i = 1 + (pickR k hi).1 := by simpa [limL] using mem
  omega
theorem bent_ok {m : Mn} (hm : m.Ok) {k : Dk} {T : Int} (h : k.Ok T) : (bentR k m).1.Ok ∧ (bentR k m).2.Ok (T + 10) := by
  have k1 := pick_ok (lim := 6) h
  unfold bentR
  by_cases c0 : (pickR k 6).1 = 0
  · rw [if_pos c0]
    have b := bend_ok hm.ins k1
    exact ⟨⟨b.1, hm.outs, hm.len, hm.brk, hm.ord, hm.day, hm.week⟩, b.2.1.mono (by omega)⟩
  rw [if_neg c0]
  by_cases c1 : (pickR k 6).1 = 1
  · rw [if_pos c1]
    have b := bend_ok hm.outs k1
    exact ⟨⟨hm.ins, b.1, hm.len, hm.brk, hm.ord, hm.day, hm.week⟩, b.2.1.mono (by omega)⟩
  rw [if_neg c1]
  by_cases c2 : (pickR k 6).1 = 2
  · rw [if_pos c2]
    have hl := hm.len
    refine ⟨⟨hm.ins, hm.outs, by show (m.brk.drop 1).length ≤ 2; rw [List.length_drop]; omega, fun p hp => hm.brk p (List.mem_of_mem_drop hp), fun p q e => ?_, hm.day, hm.week⟩, k1.mono (by omega)⟩
    have e' := congrArg List.length e
    have e2 : (m.brk.drop 1).length = 2 := e'
    rw [List.length_drop] at e2
    omega
  rw [if_neg c2]
  by_cases c3 : (pickR k 6).1 = 3
  · rw [if_pos c3]
    have b := lim_ok2 (hi := 96) (by decide) k1
    exact ⟨⟨hm.ins, hm.outs, hm.len, hm.brk, hm.ord, b.1, hm.week⟩, b.2.mono (by omega)⟩
  rw [if_neg c3]
  have b := lim_ok2 (hi := 480) (by decide) k1
  exact ⟨⟨hm.ins, hm.outs, hm.len, hm.brk, hm.ord, hm.day, b.1⟩, b.2.mono (by omega)⟩
end CC

/-! Limits that change nothing, plainly. -/
namespace CC
open PySem PySem.Spec PyProof.Rows L2 PD
def mostR (m : Mn) : Int := mxI ((allParts m).map (·.1))
def Mn.dl (m : Mn) (x : Option Int) : Mn := ⟨m.ins, m.outs, m.brk, x, m.week⟩
def Mn.wl (m : Mn) (x : Option Int) : Mn := ⟨m.ins, m.outs, m.brk, m.day, x⟩
def dayLimR (m : Mn) : Int := max 1 (capR m.week (mostR (m.dl none)))
def weekLimR (m : Mn) : Int := max 1 (5 * mostR m)
def alikeR (m n : Mn) : Bool := decide ((leadR m n).1 = 0) && decide ((leadR n m).1 = 0)
theorem parts_ne (m : Mn) : (allParts m).map (·.1) ≠ [] := fun h => by
  have := congrArg List.length h
  unfold allParts at this
  rw [List.length_map, List.length_map, days_len] at this
  cases this
theorem most_ge {m : Mn} {p : Int × Int} (h : p ∈ daysR) : (partsR m p).1 ≤ mostR m := by
  unfold mostR allParts
  exact mxI_ge (List.mem_map.mpr ⟨_, List.mem_map.mpr ⟨p, h, rfl⟩, rfl⟩)
theorem most_at (m : Mn) : ∃ p ∈ daysR, (partsR m p).1 = mostR m := by
  have h := mxI_mem (parts_ne m)
  obtain ⟨q, hq, e⟩ := List.mem_map.mp h
  unfold allParts at hq
  obtain ⟨p, hp, rfl⟩ := List.mem_map.mp hq
  exact ⟨p, hp, e⟩
theorem most_rng {m : Mn} (h : m.Ok) : 0 ≤ mostR m ∧ mostR m ≤ 96 := by
  obtain ⟨p, hp, e⟩ := most_at m
  have := parts_rng h (mem_days hp)
  omega
theorem dl_ok {m : Mn} (h : m.Ok) {x : Option Int} (hx : limOk x 96) : (m.dl x).Ok := ⟨h.ins, h.outs, h.len, h.brk, h.ord, hx, h.week⟩
theorem wl_ok {m : Mn} (h : m.Ok) {x : Option Int} (hx : limOk x 480) : (m.wl x).Ok := ⟨h.ins, h.outs, h.len, h.brk, h.ord, h.day, hx⟩
theorem lim_none {hi : Int} : limOk none hi := fun i e => by cases e
theorem lim_some {i hi : Int} (h : 1 ≤ i ∧ i ≤ hi) : limOk (some i) hi := fun j e => by cases e; exact h
/-! equal pay, no lead -/
theorem alike_of {a b : Mn} (ha : a.Ok) (hb : b.Ok) (h : ∀ w, W5 w → paidR a w = paidR b w) : alikeR a b = true := by
  have z : ∀ {a b : Mn}, a.Ok → b.Ok → (∀ w, W5 w → paidR a w = paidR b w) → (leadR a b).1 = 0 := fun ha hb h => by
    have l := lead_is ha hb
    have := h _ l.1
    rw [l.2, this]
    omega
  unfold alikeR
  rw [z ha hb h, z hb ha fun w hw => (h w hw).symm]
  rfl
theorem not_alike {a b : Mn} {w : Week} (hw : W5 w) (h : paidR a w ≠ paidR b w) : alikeR a b = false := by
  have l1 := lead_max (m := a) (n := b) hw
  have l2 := lead_max (m := b) (n := a) hw
  cases q : alikeR a b with
  | false => rfl
  | true =>
    unfold alikeR at q
    rw [Bool.and_eq_true, decide_eq_true_eq, decide_eq_true_eq] at q
    omega
theorem alike_conv {a b : Mn} (h : alikeR a b = true) {w : Week} (hw : W5 w) : paidR a w = paidR b w := by
  cases Int.decEq (paidR a w) (paidR b w) with
  | isTrue e => exact e
  | isFalse e => rw [not_alike hw e] at h; cases h
/-! with a limit of the day -/
def leftP (m : Mn) (p : Int × Int) : Int := leftR m (countR m p)
theorem parts_dl (m : Mn) (x : Option Int) (p : Int × Int) : partsR (m.dl x) p = (capR x (leftP m p), leftP m p - capR x (leftP m p)) := rfl
theorem leftP_ge {m : Mn} (h : m.Ok) {p : Int × Int} (hp : p ∈ daysR) : 0 ≤ leftP m p := (left_rng h (count_rng h (mem_days hp)).1).1
theorem sums_dl {m : Mn} (h : m.Ok) {L : Int} (hL : 0 ≤ L) : ∀ w : Week, (∀ p ∈ w, p ∈ daysR) → normR (m.dl (some L)) w + overR (m.dl (some L)) w = normR (m.dl none) w ∧ overR (m.dl none) w = 0 ∧ 0 ≤ normR (m.dl (some L)) w ∧ 0 ≤ overR (m.dl (some L)) w ∧
    (overR (m.dl (some L)) w = 0 ∨ L ≤ normR (m.dl (some L)) w) ∧ ((∀ p ∈ w, leftP m p ≤ L) → overR (m.dl (some L)) w = 0)
  | [], _ => ⟨rfl, rfl, Int.le_refl _, Int.le_refl _, .inl rfl, fun _ => rfl⟩
  | p :: w, hw => by
    obtain ⟨a, b, c, d, e, f⟩ := sums_dl h hL w fun q hq => hw q (List.mem_cons_of_mem _ hq)
    have hp := leftP_ge h (hw p List.mem_cons_self)
    have e1 : ∀ x, normR (m.dl x) (p :: w) = capR x (leftP m p) + normR (m.dl x) w := fun x => by unfold normR; rw [List.map_cons, List.sum_cons]; rfl
    have e2 : ∀ x, overR (m.dl x) (p :: w) = (leftP m p - capR x (leftP m p)) + overR (m.dl x) w := fun x => by unfold overR; rw [List.map_cons, List.sum_cons]; rfl
    have c1 : capR none (leftP m p) = leftP m p := rfl
    have c2 : capR (some L) (leftP m p) = min (leftP m p) L := rfl
    rw [e1, e1, e2, e2, c1, c2]
    refine ⟨by omega, by omega, by omega, by omega, by omega, fun k => ?_⟩
    have k1 := k p List.mem_cons_self
    have k2 := f fun q hq => k q (List.mem_cons_of_mem _ hq)
    omega
theorem day_same {m : Mn} (h : m.Ok) : alikeR (m.dl (some (dayLimR m))) (m.dl none) = true := by
  have mr := most_rng (dl_ok h lim_none : (m.dl none).Ok)
  have lr : 1 ≤ dayLimR m ∧ dayLimR m ≤ 96 := by
    unfold dayLimR
    cases q : m.week with
    | none => show 1 ≤ max 1 (mostR (m.dl none)) ∧ max 1 (mostR (m.dl none)) ≤ 96; omega
    | some x => show 1 ≤ max 1 (min (mostR (m.dl none)) x) ∧ max 1 (min (mostR (m.dl none)) x) ≤ 96; omega
  refine alike_of (dl_ok h (lim_some lr)) (dl_ok h lim_none) fun w hw => ?_
  obtain ⟨a, b, c, d, e, f⟩ := sums_dl h (L := dayLimR m) (by omega) w hw.2
  have mx : ∀ p ∈ w, leftP m p ≤ mostR (m.dl none) := fun p hp => most_ge (m := m.dl none) (hw.2 p hp)
  unfold paidR
  show 2 * normR (m.dl (some (dayLimR m))) w + 3 * overR (m.dl (some (dayLimR m))) w + extraR m.week (normR (m.dl (some (dayLimR m))) w) = 2 * normR (m.dl none) w + 3 * overR (m.dl none) w + extraR m.week (normR (m.dl none) w)
  cases q : m.week with
  | none =>
    have hl : dayLimR m = max 1 (mostR (m.dl none)) := by unfold dayLimR; rw [q]; rfl
    have := f fun p hp => by have := mx p hp; omega
    show 2 * _ + 3 * _ + 0 = 2 * _ + 3 * _ + (0 : Int)
    omega
  | some x =>
    have hx := h.week x q
    have hl : dayLimR m = max 1 (min (mostR (m.dl none)) x) := by unfold dayLimR; rw [q]; rfl
    show 2 * _ + 3 * _ + max 0 (_ - x) = 2 * _ + 3 * _ + max (0 : Int) (_ - x)
    by_cases hc : mostR (m.dl none) ≤ x
    · have := f fun p hp => by have := mx p hp; omega
      omega
    · omega
theorem day_less {m : Mn} (h : m.Ok) (ht : 1 < dayLimR m) : alikeR (m.dl (some (dayLimR m - 1))) (m.dl none) = false := by
  obtain ⟨p, hp, e⟩ := most_at (m.dl none)
  have hw : W5 [p] := ⟨by simp, fun q hq => by rw [List.mem_singleton.mp hq]; exact hp⟩
  refine not_alike hw fun z => ?_
  have e' : leftP m p = mostR (m.dl none) := e
  unfold paidR at z
  have n1 : ∀ x, normR (m.dl x) [p] = capR x (leftP m p) + 0 := fun x => rfl
  have n2 : ∀ x, overR (m.dl x) [p] = (leftP m p - capR x (leftP m p)) + 0 := fun x => rfl
  rw [n1, n1, n2, n2] at z
  have c1 : capR none (leftP m p) = leftP m p := rfl
  have c2 : ∀ L, capR (some L) (leftP m p) = min (leftP m p) L := fun _ => rfl
  rw [c1, c2] at z
  have z' : ∀ y, extraR (m.dl y).week = extraR m.week := fun _ => rfl
  rw [z', z'] at z
  cases q : m.week with
  | none =>
    have hl : dayLimR m = max 1 (mostR (m.dl none)) := by unfold dayLimR; rw [q]; rfl
    rw [q] at z
    have k : ∀ y, extraR none y = 0 := fun _ => rfl
    rw [k, k] at z
    omega
  | some x =>
    have hl : dayLimR m = max 1 (min (mostR (m.dl none)) x) := by unfold dayLimR; rw [q]; rfl
    rw [q] at z
    have k : ∀ y, extraR (some x) y = max 0 (y - x) := fun _ => rfl
    rw [k, k] at z
    omega
/-! with a limit of the week -/
theorem norm_wl (m : Mn) (x : Option Int) (w : Week) : normR (m.wl x) w = normR m w := rfl
theorem over_wl (m : Mn) (x : Option Int) (w : Week) : overR (m.wl x) w = overR m w := rfl
theorem norm_le (m : Mn) : ∀ w : Week, (∀ p ∈ w, p ∈ daysR) → normR m w ≤ w.length * mostR m
  | [], _ => by show (0 : Int) ≤ ((0 : Nat) : Int) * mostR m; omega
  | p :: w, hw => by
    have ih := norm_le m w fun q hq => hw q (List.mem_cons_of_mem _ hq)
    have hp := most_ge (m := m) (hw p List.mem_cons_self)
    have e : normR m (p :: w) = (partsR m p).1 + normR m w := by unfold normR; rw [List.map_cons, List.sum_cons]
    rw [e, List.length_cons, Int.natCast_add, Int.add_mul]
    omega
theorem week_same {m : Mn} (h : m.Ok) : alikeR (m.wl (some (weekLimR m))) (m.wl none) = true := by
  have mr := most_rng h
  have lr : 1 ≤ weekLimR m ∧ weekLimR m ≤ 480 := by unfold weekLimR; omega
  refine alike_of (wl_ok h (lim_some lr)) (wl_ok h lim_none) fun w hw => ?_
  have nl := norm_le m w hw.2
  have n5 : (w.length : Int) * mostR m ≤ 5 * mostR m := Int.mul_le_mul_of_nonneg_right (by have := hw.1; omega) mr.1
  unfold paidR
  rw [norm_wl, norm_wl, over_wl, over_wl]
  show 2 * normR m w + 3 * overR m w + max 0 (normR m w - weekLimR m) = 2 * normR m w + 3 * overR m w + 0
  unfold weekLimR
  omega
theorem week_less {m : Mn} (h : m.Ok) (ht : 1 < weekLimR m) : alikeR (m.wl (some (weekLimR m - 1))) (m.wl none) = false := by
  obtain ⟨p, hp, e⟩ := most_at m
  have hw : W5 [p, p, p, p, p] := ⟨by simp, fun q hq => by
    have : q = p := by simpa using hq
    rw [this]; exact hp⟩
  refine not_alike hw fun z => ?_
  unfold paidR at z
  rw [norm_wl, norm_wl, over_wl, over_wl] at z
  have n1 : normR m [p, p, p, p, p] = 5 * mostR m := by
    show (partsR m p).1 + ((partsR m p).1 + ((partsR m p).1 + ((partsR m p).1 + ((partsR m p).1 + 0)))) = _
    rw [e]; omega
  rw [n1] at z
  have z' : 2 * (5 * mostR m) + 3 * overR m [p, p, p, p, p] + max 0 (5 * mostR m - (weekLimR m - 1)) = 2 * (5 * mostR m) + 3 * overR m [p, p, p, p, p] + 0 := z
  unfold weekLimR at *
  omega
theorem dayLim_rng {m : Mn} (h : m.Ok) : 1 ≤ dayLimR m ∧ dayLimR m ≤ 96 := by
  have mr := most_rng (dl_ok h lim_none : (m.dl none).Ok)
  unfold dayLimR
  cases q : m.week with
  | none => show 1 ≤ max 1 (mostR (m.dl none)) ∧ max 1 (mostR (m.dl none)) ≤ 96; omega
  | some x => show 1 ≤ max 1 (min (mostR (m.dl none)) x) ∧ max 1 (min (mostR (m.dl none)) x) ≤ 96; omega
theorem weekLim_rng {m : Mn} (h : m.Ok) : 1 ≤ weekLimR m ∧ weekLimR m ≤ 480 := by
  have mr := most_rng h
  unfold weekLimR; omega
end CC

/-! Weeks without limits, plainly. -/
namespace CC
open PySem PySem.Spec PyProof.Rows L2 PD
def firstDayR (m n : Mn) : Option (Int × Int) := daysR.find? fun p => !decide (paidR m [p] = paidR n [p])
def dayO (o : Option (Int × Int)) : D := match o with | none => .non | some p => pairD p
def weekO (o : Option (Int × Int)) : D := match o with | none => .non | some p => weekD [p]
theorem first_none {m n : Mn} (h : daysR.all (fun p => decide (paidR m [p] = paidR n [p])) = true) : firstDayR m n = none := by
  unfold firstDayR
  rw [List.find?_eq_none]
  intro p hp
  have := List.all_eq_true.mp h p hp
  rw [this]; decide
theorem find_at {α : Type} {f : α → Bool} {x : α} (hx : f x = true) : ∀ {l : List α} {k : Nat}, l[k]? = some x → (∀ j y, j < k → l[j]? = some y → f y = false) → l.find? f = some x
  | [], _, h, _ => by simp at h
  | a :: l, 0, h, _ => by
    have : a = x := by simpa using h
    subst this
    rw [List.find?_cons, hx]
  | a :: l, k + 1, h, hb => by
    rw [List.find?_cons, hb 0 a (by omega) rfl]
    exact find_at hx (by simpa using h) fun j y hj e => hb (j + 1) y (by omega) (by simpa using e)
theorem first_some {m n : Mn} {k : Nat} {p : Int × Int} (hk : daysR[k]? = some p) (hf : decide (paidR m [p] = paidR n [p]) = false) (hb : ∀ j y, j < k → daysR[j]? = some y → decide (paidR m [y] = paidR n [y]) = true) : firstDayR m n = some p :=
  find_at (by rw [hf]; rfl) hk fun j y hj e => by rw [hb j y hj e]; rfl
theorem first_none_all {m n : Mn} (h : firstDayR m n = none) : ∀ p ∈ daysR, paidR m [p] = paidR n [p] := fun p hp => by
  unfold firstDayR at h
  have := List.find?_eq_none.mp h p hp
  simpa using this
theorem first_some_ne {m n : Mn} {p : Int × Int} (h : firstDayR m n = some p) : p ∈ daysR ∧ paidR m [p] ≠ paidR n [p] := by
  unfold firstDayR at h
  exact ⟨List.mem_of_find?_eq_some h, by simpa using List.find?_some h⟩
/-! without a limit of the week a week pays what its days pay -/
def gain0 (m n : Mn) (p : Int × Int) : Int := 2 * (partsR m p).1 + 3 * (partsR m p).2 - 2 * (partsR n p).1 - 3 * (partsR n p).2
theorem paid_diff {m n : Mn} (hm : m.week = none) (hn : n.week = none) (w : Week) : paidR m w - paidR n w = tot (gain0 m n) w := by
  have e : tot (gain0 m n) w = tot (gainR m n 0) w := by
    unfold tot
    congr 1
    refine List.map_congr_left fun p _ => ?_
    unfold gain0 gainR
    omega
  rw [e, tot_gain]
  unfold paidR
  rw [hm, hn]
  show 2 * normR m w + 3 * overR m w + 0 - (2 * normR n w + 3 * overR n w + 0) = _
  omega
theorem tot_one (f : Int × Int → Int) (p : Int × Int) : tot f [p] = f p := by unfold tot; simp
theorem tot_le {f : Int × Int → Int} {M : Int} (hM : ∀ p ∈ daysR, f p ≤ M) : ∀ w : Week, (∀ p ∈ w, p ∈ daysR) → tot f w ≤ w.length * M
  | [], _ => by show (0 : Int) ≤ ((0 : Nat) : Int) * M; omega
  | p :: w, hw => by
    have ih := tot_le hM w fun q hq => hw q (List.mem_cons_of_mem _ hq)
    have hp := hM p (hw p List.mem_cons_self)
    have e : tot f (p :: w) = f p + tot f w := by unfold tot; rw [List.map_cons, List.sum_cons]
    rw [e, List.length_cons, Int.natCast_add, Int.add_mul]
    omega
theorem tot_five (f : Int × Int → Int) (p : Int × Int) : tot f [p, p, p, p, p] = 5 * f p := by
  unfold tot
  simp only [List.map_cons, List.map_nil, List.sum_cons, List.sum_nil]
  omega
theorem w5_five {p : Int × Int} (hp : p ∈ daysR) : W5 [p, p, p, p, p] := ⟨by simp, fun q hq => by
  have : q = p := by simpa using hq
  rw [this]; exact hp⟩
theorem w5_one {p : Int × Int} (hp : p ∈ daysR) : W5 [p] := ⟨by simp, fun q hq => by rw [List.mem_singleton.mp hq]; exact hp⟩
/-- the lead is five times the greatest gain, or nothing -/
theorem lead_five {m n : Mn} (hm : m.Ok) (hn : n.Ok) (wm : m.week = none) (wn : n.week = none) {M : Int} (h0 : 0 ≤ M) (hM : ∀ p ∈ daysR, gain0 m n p ≤ M) (at_ : M = 0 ∨ ∃ p ∈ daysR, gain0 m n p = M) : (leadR m n).1 = 5 * M := by
  have l := lead_is hm hn
  have up : (leadR m n).1 ≤ 5 * M := by
    rw [l.2, paid_diff wm wn]
    have h1 := tot_le hM _ l.1.2
    have h2 : ((leadR m n).2.length : Int) * M ≤ 5 * M := Int.mul_le_mul_of_nonneg_right (by have := l.1.1; omega) h0
    omega
  rcases at_ with e | ⟨p, hp, e⟩
  · have := lead_ge0 m n
    omega
  · have := lead_max (m := m) (n := n) (w5_five hp)
    rw [paid_diff wm wn, tot_five, e] at this
    omega
theorem gain_zero {m n : Mn} (wm : m.week = none) (wn : n.week = none) (h : firstDayR m n = none) : ∀ p ∈ daysR, gain0 m n p = 0 := fun p hp => by
  have e := first_none_all h p hp
  have d := paid_diff wm wn [p]
  rw [tot_one] at d
  omega
theorem gain_anti (m n : Mn) (p : Int × Int) : gain0 n m p = 0 - gain0 m n p := by unfold gain0; omega
theorem lead_zero {m n : Mn} (hm : m.Ok) (hn : n.Ok) (wm : m.week = none) (wn : n.week = none) (h : firstDayR m n = none) : (leadR m n).1 = 0 := by
  have := lead_five hm hn wm wn (M := 0) (Int.le_refl _) (fun p hp => by rw [gain_zero wm wn h p hp]; exact Int.le_refl _) (.inl rfl)
  omega
theorem lead_zero' {m n : Mn} (hm : m.Ok) (hn : n.Ok) (wm : m.week = none) (wn : n.week = none) (h : firstDayR m n = none) : (leadR n m).1 = 0 := by
  have := lead_five hn hm wn wm (M := 0) (Int.le_refl _) (fun p hp => by rw [gain_anti, gain_zero wm wn h p hp]; omega) (.inl rfl)
  omega
theorem alike_first {m n : Mn} (hm : m.Ok) (hn : n.Ok) (wm : m.week = none) (wn : n.week = none) : alikeR m n = (firstDayR m n).isNone := by
  cases h : firstDayR m n with
  | none =>
    unfold alikeR
    rw [lead_zero hm hn wm wn h, lead_zero' hm hn wm wn h]
    rfl
  | some p =>
    have := first_some_ne h
    exact not_alike (w5_one this.1) this.2
/-! the law's list of gains -/
def gainsR (m n : Mn) : List Int := 0 :: daysR.map (gain0 m n)
theorem gains_ne (m n : Mn) : gainsR m n ≠ [] := fun h => by cases h
theorem lead_gains {m n : Mn} (hm : m.Ok) (hn : n.Ok) (wm : m.week = none) (wn : n.week = none) : (leadR m n).1 = 5 * mxI (gainsR m n) := by
  refine lead_five hm hn wm wn (mxI_ge List.mem_cons_self) (fun p hp => mxI_ge (List.mem_cons_of_mem _ (List.mem_map_of_mem hp))) ?_
  rcases List.mem_cons.mp (mxI_mem (gains_ne m n)) with e | e
  · exact .inl e
  · obtain ⟨p, hp, e⟩ := List.mem_map.mp e
    exact .inr ⟨p, hp, e⟩
theorem lead_gains' {m n : Mn} (hm : m.Ok) (hn : n.Ok) (wm : m.week = none) (wn : n.week = none) : (leadR n m).1 = 0 - 5 * mnI (gainsR m n) := by
  have ge : ∀ z ∈ gainsR m n, mnI (gainsR m n) ≤ z := fun z hz => mnI_le hz
  have mem := mnI_mem (gains_ne m n)
  have h0 : mnI (gainsR m n) ≤ 0 := ge 0 List.mem_cons_self
  have := lead_five hn hm wn wm (M := 0 - mnI (gainsR m n)) (by omega) (fun p hp => by
    rw [gain_anti]
    have := ge _ (List.mem_cons_of_mem _ (List.mem_map_of_mem hp))
    omega) (by
    rcases List.mem_cons.mp mem with e | e
    · exact .inl (by omega)
    · obtain ⟨p, hp, e⟩ := List.mem_map.mp e
      exact .inr ⟨p, hp, by rw [gain_anti]; omega⟩)
  omega
/-! a limit that is never passed -/
def Mn.wk (m : Mn) (x : Option Int) : Mn := ⟨m.ins, m.outs, m.brk, m.day, x⟩
theorem wk_same {m : Mn} (h : m.Ok) (hp : 0 < 5 * mostR m) (wm : m.week = none) : alikeR m (m.wl (some (5 * mostR m))) = true := by
  have mr := most_rng h
  have e : weekLimR m = 5 * mostR m := by unfold weekLimR; omega
  refine alike_of h (wl_ok h (lim_some (by omega))) fun w hw => ?_
  have nl := norm_le m w hw.2
  have n5 : (w.length : Int) * mostR m ≤ 5 * mostR m := Int.mul_le_mul_of_nonneg_right (by have := hw.1; omega) mr.1
  unfold paidR
  rw [norm_wl, over_wl, wm]
  show 2 * normR m w + 3 * overR m w + 0 = 2 * normR m w + 3 * overR m w + max 0 (normR m w - 5 * mostR m)
  omega
theorem wk_less {m : Mn} (h : m.Ok) (hp : 5 < 5 * mostR m) (wm : m.week = none) : alikeR m (m.wl (some (5 * mostR m - 1))) = false := by
  obtain ⟨p, hp2, e⟩ := most_at m
  refine not_alike (w5_five hp2) fun z => ?_
  unfold paidR at z
  rw [norm_wl, over_wl, wm] at z
  have n1 : normR m [p, p, p, p, p] = 5 * mostR m := by
    have := tot_five (fun q => (partsR m q).1) p
    rw [← e]
    exact this
  rw [n1] at z
  have z' : 2 * (5 * mostR m) + 3 * overR m [p, p, p, p, p] + 0 = 2 * (5 * mostR m) + 3 * overR m [p, p, p, p, p] + max 0 (5 * mostR m - (5 * mostR m - 1)) := z
  omega
end CC

namespace CC
open PySem PySem.Spec PyProof.Rows L2 PD
def topS (i : Nat) : Stmt := PySem.Challenge.pw_clockcards_k18_whole_weeks_without_limit.main.body.getD i (.Pass ⟨0, 0, 0, 0⟩)
abbrev s_is_from : Stmt := topS 10
abbrev s_is_rounding_of : Stmt := topS 11
abbrev s_are_breaks_of : Stmt := topS 12
abbrev s_is_manner_of : Stmt := topS 13
abbrev s_is_day_of : Stmt := topS 14
abbrev s_is_week_of : Stmt := topS 15
abbrev s_need_manner : Stmt := topS 16
abbrev s_need_manners : Stmt := topS 17
abbrev s_need_week : Stmt := topS 18
abbrev s_came : Stmt := topS 20
abbrev s_went : Stmt := topS 21
abbrev s_counted_of : Stmt := topS 22
abbrev s_left_of : Stmt := topS 23
abbrev s_split_of : Stmt := topS 24
abbrev s_parts_of : Stmt := topS 25
abbrev s_lists_of : Stmt := topS 26
abbrev s_all_parts : Stmt := topS 27
abbrev s_paid_of : Stmt := topS 28
abbrev s_paid : Stmt := topS 29
abbrev s_every_day : Stmt := topS 30
abbrev s_best_days : Stmt := topS 32
abbrev s_best_weeks : Stmt := topS 33
abbrev s_lead_of : Stmt := topS 34
abbrev s_greatest_lead : Stmt := topS 35
abbrev s_lead_week : Stmt := topS 36
abbrev s_same_for_all : Stmt := topS 38
abbrev s_alike : Stmt := topS 39
abbrev s_first_day : Stmt := topS 40
abbrev s_parting_day : Stmt := topS 41
abbrev s_parting_week : Stmt := topS 42
abbrev s_law_deck : Stmt := topS 44
abbrev s_law_pick : Stmt := topS 45
abbrev s_law_one : Stmt := topS 46
abbrev s_law_punch : Stmt := topS 47
abbrev s_law_split : Stmt := topS 48
abbrev s_law_counts : Stmt := topS 49
abbrev s_law_worth : Stmt := topS 50
abbrev s_law_rounding : Stmt := topS 51
abbrev s_law_manner : Stmt := topS 52
abbrev s_law_pair : Stmt := topS 53
abbrev s_law_days : Stmt := topS 54
abbrev s_law_bent : Stmt := topS 55
abbrev s_law_every : Stmt := topS 56
abbrev s_law_splits : Stmt := topS 57
abbrev s_law_alone : Stmt := topS 58
abbrev s_law : Stmt := topS 59
/-- the built-ins' names are free; the module's constants -/
structure Bi (K : PySem.W.Frag) (mg : Str → Option Value) : Prop where
  b_max : mg "max" = none
  b_min : mg "min" = none
  b_len : mg "len" = none
  b_sum : mg "sum" = none
  b_all : mg "all" = none
  b_isinstance : mg "isinstance" = none
  b_range : mg "range" = none
  b_list : mg "list" = none
  b_zip : mg "zip" = none
  b_dict : mg "dict" = none
  b_int : mg "int" = none
  b_tuple : mg "tuple" = none
  b_str : mg "str" = none
  b_bool : mg "bool" = none
  k_LAST : KInt mg "LAST" 96
  k_STEPS : KTup K mg "STEPS" (stepsL.map D.int)
  k_SIDES : KTup K mg "SIDES" (sidesL.map D.str)
  k_MOST_MINUS : KInt mg "MOST_MINUS" 8
  k_MOST_DAYS : KInt mg "MOST_DAYS" 5
end CC

/-! The walk of the checks and of what days pay. -/
namespace CC
open PySem PySem.Spec PyProof.Rows L2 PD
def R_is_from : List D → D → Prop := fun ds d => ∃ v lo hi, ds = [v, .int lo, .int hi] ∧ v.noA = true ∧ d = .bl (isFrom v lo hi)
def R_is_rounding_of : List D → D → Prop := fun ds d => ∃ v, ds = [v] ∧ v.real = true ∧ d = .bl (isRd v)
def R_came : List D → D → Prop := fun ds d => ∃ r t, ds = [Rd.d r, .int t] ∧ 0 < r.step ∧ d = .int (cameR r t)
def R_went : List D → D → Prop := fun ds d => ∃ r t, ds = [Rd.d r, .int t] ∧ 0 < r.step ∧ d = .int (wentR r t)
def R_counted_of : List D → D → Prop := fun ds d => ∃ m p, ds = [Mn.d m, pairD p] ∧ m.Ok ∧ d = .int (countR m p)
def R_left_of : List D → D → Prop := fun ds d => ∃ m q, ds = [Mn.d m, .int q] ∧ m.Ok ∧ d = .int (leftR m q)
def R_split_of : List D → D → Prop := fun ds d => ∃ m q, ds = [Mn.d m, .int q] ∧ m.Ok ∧ d = pairD (splitR m q)
def R_parts_of : List D → D → Prop := fun ds d => ∃ m p, ds = [Mn.d m, pairD p] ∧ m.Ok ∧ d = pairD (partsR m p)
section
variable {P : Program} {w : World} {K : PySem.W.Frag} {mg : Str → Option Value} {base : Heap}
theorem sc_is_from : FnScope ["value", "low", "high"] ["value", "low", "high"] (defScope s_is_from) := ⟨rfl, rfl, rfl, by decide +kernel, rfl, by decide +kernel, by decide +kernel⟩
theorem c_is_from (B : Bi K mg) (C : Df K mg "is_from" s_is_from) : Cal P w K mg base "is_from" 1 (Pure R_is_from) := by
  refine cal_mk C (fun _ _ _ _ _ _ us hl => match us, hl with | [_, _, _], _ => rfl) fun f fd F => fn_ret F sc_is_from (fun ds μ d μ' h => by obtain ⟨_, _, _, _, _, rfl, _⟩ := h; rfl) (fun cdv A outer s H E b ds μ d μ' hr hR hb => ?_)
  obtain ⟨rfl, rfl, v, lo, hi, rfl, hv, rfl⟩ := hR
  have nd := sc_is_from.nd
  refine dss_ret (de_and (de_isInt B.b_isinstance B.b_int (de_var 0 rfl) hv) fun h1 => de_and (de_not (de_isBool B.b_isinstance B.b_bool (de_var 0 rfl) hv)) fun h2 => de_one ?_) rfl (fun _ z => z)
  cases v with
  | int i => exact de_leLe (de_var 1 rfl) (de_var 0 rfl) (de_var 2 rfl)
  | _ => simp [D.qInt, D.qBool] at h1 h2
theorem sc_came : FnScope ["rounding", "time", "step", "side", "grace", "rest"] ["rounding", "time"] (defScope s_came) := ⟨rfl, rfl, rfl, by decide +kernel, rfl, by decide +kernel, by decide +kernel⟩
theorem c_came (B : Bi K mg) (C : Df K mg "came" s_came) : Cal P w K mg base "came" 1 (Pure R_came) := by
  refine cal_mk C (fun _ _ _ _ _ _ us hl => match us, hl with | [_, _], _ => rfl) fun f fd F => fn_ret F sc_came (fun ds μ d μ' h => by obtain ⟨_, _, _, _, rfl, _⟩ := h; rfl) (fun cdv A outer s H E b ds μ d μ' hr hR hb => ?_)
  obtain ⟨rfl, rfl, r, t, rfl, h0, rfl⟩ := hR
  have nd := sc_came.nd
  refine dss_cons (ds_asg (de_var 0 rfl) (dg_tup (dgs_cons (dg_name (i := 2) nd) (dgs_cons (dg_name (i := 3) nd) (dgs_cons (dg_name (i := 4) nd) dgs_nil))) rfl)) ?_
  refine dss_cons (ds_set (i := 5) (de_mod (de_var 1 rfl) (de_var 2 rfl) h0) nd) ?_
  refine dss_if (dw_or (dt_le (de_var 5 rfl) (de_var 4 rfl)) fun _ => dw_or (dt_eqS (de_var 3 rfl) de_str) fun _ => dw_or1 (dw_and (dt_eqS (de_var 3 rfl) de_str) fun _ => dw_and1 (dt_lt (de_mul de_int (de_var 5 rfl) (.inl ⟨by decide, by decide⟩)) (de_var 2 rfl))).dt).dt (fun h => ?_) (fun h => ?_)
  · refine .stop (dss_ret (de_sub (de_var 1 rfl) (de_var 5 rfl)) ?_ (fun _ z => z)) rfl
    rw [cameR, if_pos h]
  · refine .go dss_nil (dss_ret (de_add (de_sub (de_var 1 rfl) (de_var 5 rfl)) (de_var 2 rfl)) ?_ (fun _ z => z))
    rw [cameR, if_neg (by rw [h]; decide)]
theorem sc_went : FnScope ["rounding", "time", "step", "side", "grace", "lack"] ["rounding", "time"] (defScope s_went) := ⟨rfl, rfl, rfl, by decide +kernel, rfl, by decide +kernel, by decide +kernel⟩
theorem c_went (B : Bi K mg) (C : Df K mg "went" s_went) : Cal P w K mg base "went" 1 (Pure R_went) := by
  refine cal_mk C (fun _ _ _ _ _ _ us hl => match us, hl with | [_, _], _ => rfl) fun f fd F => fn_ret F sc_went (fun ds μ d μ' h => by obtain ⟨_, _, _, _, rfl, _⟩ := h; rfl) (fun cdv A outer s H E b ds μ d μ' hr hR hb => ?_)
  obtain ⟨rfl, rfl, r, t, rfl, h0, rfl⟩ := hR
  have nd := sc_went.nd
  refine dss_cons (ds_asg (de_var 0 rfl) (dg_tup (dgs_cons (dg_name (i := 2) nd) (dgs_cons (dg_name (i := 3) nd) (dgs_cons (dg_name (i := 4) nd) dgs_nil))) rfl)) ?_
  refine dss_cons (ds_set (i := 5) (de_mod (de_sub de_int (de_var 1 rfl)) (de_var 2 rfl) h0) nd) ?_
  refine dss_if (dw_or (dt_le (de_var 5 rfl) (de_var 4 rfl)) fun _ => dw_or (dt_eqS (de_var 3 rfl) de_str) fun _ => dw_or1 (dw_and (dt_eqS (de_var 3 rfl) de_str) fun _ => dw_and1 (dt_le (de_mul de_int (de_var 5 rfl) (.inl ⟨by decide, by decide⟩)) (de_var 2 rfl))).dt).dt (fun h => ?_) (fun h => ?_)
  · refine .stop (dss_ret (de_add (de_var 1 rfl) (de_var 5 rfl)) ?_ (fun _ z => z)) rfl
    rw [wentR, if_pos h]
  · refine .go dss_nil (dss_ret (de_sub (de_add (de_var 1 rfl) (de_var 5 rfl)) (de_var 2 rfl)) ?_ (fun _ z => z))
    rw [wentR, if_neg (by rw [h]; decide)]
theorem sc_counted_of : FnScope ["manner", "day"] ["manner", "day"] (defScope s_counted_of) := ⟨rfl, rfl, rfl, by decide +kernel, rfl, by decide +kernel, by decide +kernel⟩
theorem c_counted_of (B : Bi K mg) (k_went : Cal P w K mg base "went" 1 (Pure R_went)) (k_came : Cal P w K mg base "came" 1 (Pure R_came)) (C : Df K mg "counted_of" s_counted_of) : Cal P w K mg base "counted_of" 2 (Pure R_counted_of) := by
  refine cal_mk C (fun _ _ _ _ _ _ us hl => match us, hl with | [_, _], _ => rfl) fun f fd F => fn_ret F sc_counted_of (fun ds μ d μ' h => by obtain ⟨_, _, _, _, rfl, _⟩ := h; rfl) (fun cdv A outer s H E b ds μ d μ' hr hR hb => ?_)
  obtain ⟨rfl, rfl, m, p, rfl, hm, rfl⟩ := hR
  have nd := sc_counted_of.nd
  have hr1 := hr
  refine dss_ret (de_max2 B.b_max (da_cons de_int (da_cons (de_sub (de_call k_went hr1 (da_cons (de_ixT (de_var 0 rfl) de_int rfl) (da_cons (de_ixT (de_var 1 rfl) de_int rfl) da_nil)) ⟨m.outs, p.2, rfl, hm.outs.pos, rfl⟩) (de_call k_came hr1 (da_cons (de_ixT (de_var 0 rfl) de_int rfl) (da_cons (de_ixT (de_var 1 rfl) de_int rfl) da_nil)) ⟨m.ins, p.1, rfl, hm.ins.pos, rfl⟩)) da_nil))) rfl (fun _ z => z)
end
end CC


/-! The walk of the checks and of what days pay, further. -/
namespace CC
open PySem PySem.Spec PyProof.Rows L2 PD
def R_are_breaks_of : List D → D → Prop := fun ds d => ∃ v, ds = [v] ∧ v.real = true ∧ d = .bl (isBrks v)
def R_is_manner_of : List D → D → Prop := fun ds d => ∃ v, ds = [v] ∧ v.real = true ∧ d = .bl (isMn v)
def R_lists_of : List D → D → Prop := fun ds d => ∃ m, ds = [Mn.d m] ∧ m.Ok ∧ d = .tup [.lst ((List.range 97).map fun i => D.int (cameR m.ins (i : Nat))), .lst ((List.range 97).map fun i => D.int (wentR m.outs (i : Nat))), .lst ((List.range 97).map fun i => pairD (splitR m (i : Nat)))]
def R_all_parts : List D → D → Prop := fun ds d => ∃ m, ds = [Mn.d m] ∧ m.Ok ∧ d = .lst ((allParts m).map pairD)
def R_paid_of : List D → D → Prop := fun ds d => ∃ m w, ds = [Mn.d m, weekD w] ∧ m.Ok ∧ w.length ≤ 1000 ∧ d = .int (paidR m w)
def R_every_day : List D → D → Prop := fun ds d => ds = [] ∧ d = .lst (daysR.map pairD)
section
variable {P : Program} {w : World} {K : PySem.W.Frag} {mg : Str → Option Value} {base : Heap}
theorem sc_is_rounding_of : FnScope ["value", "step", "side", "grace"] ["value"] (defScope s_is_rounding_of) := ⟨rfl, rfl, rfl, by decide +kernel, rfl, by decide +kernel, by decide +kernel⟩
theorem c_is_rounding_of (B : Bi K mg) (k_is_from : Cal P w K mg base "is_from" 1 (Pure R_is_from)) (C : Df K mg "is_rounding_of" s_is_rounding_of) : Cal P w K mg base "is_rounding_of" 2 (Pure R_is_rounding_of) := by
  refine cal_mk C (fun _ _ _ _ _ _ us hl => match us, hl with | [_], _ => rfl) fun f fd F => fn_ret F sc_is_rounding_of (fun ds μ d μ' h => by obtain ⟨_, _, _, rfl, _⟩ := h; rfl) (fun cdv A outer s H E b ds μ d μ' hr hR hb => ?_)
  obtain ⟨rfl, rfl, v, rfl, hv, rfl⟩ := hR
  have nd := sc_is_rounding_of.nd
  cases hq : v.qTup with
  | false =>
    refine dss_if (dw_or (k2 := true) (dt_not (dt_val (de_isTup B.b_isinstance B.b_tuple (de_var 0 rfl) (D.real_noA hv)))) fun h => ?_).dt (fun h => .stop (dss_ret de_bl ?_ (fun _ z => z)) rfl) (fun h => ?_)
    · rw [hq] at h; cases h
    · congr 1
      cases v <;> first | rfl | (cases hq; done)
    · rw [hq] at h; cases h
  | true =>
    obtain ⟨l, rfl⟩ : ∃ l, v = .tup l := by
      cases v with
      | tup l => exact ⟨l, rfl⟩
      | _ => cases hq
    refine dss_if (dw_or (dt_not (dt_val (de_isTup B.b_isinstance B.b_tuple (de_var 0 rfl) rfl))) fun _ => dw_or1 (dt_neI (de_lenT B.b_len (de_var 0 rfl)) de_int)).dt (fun h => .stop (dss_ret de_bl ?_ (fun _ z => z)) rfl) (fun h => .go dss_nil ?_)
    · have hl : l.length ≠ 3 := by
        intro z
        rw [z] at h
        cases h
      congr 1
      rcases l with _ | ⟨a, _ | ⟨b', _ | ⟨c, _ | ⟨d', t⟩⟩⟩⟩ <;> first | rfl | (exact absurd rfl hl)
    · obtain ⟨a, b', c, rfl⟩ : ∃ a b c, l = [a, b, c] := by
        have hl : l.length = 3 := by
          have h2 : (!decide ((l.length : Int) = 3)) = false := h
          rw [Bool.not_eq_false', decide_eq_true_eq] at h2
          omega
        rcases l with _ | ⟨a, _ | ⟨b', _ | ⟨c, _ | ⟨d', t⟩⟩⟩⟩ <;> first | exact ⟨_, _, _, rfl⟩ | (simp at hl)
      have ra := reals_all hv
      have r1 := ra a (by simp)
      have r2 := ra b' (by simp)
      have r3 := ra c (by simp)
      refine dss_cons (ds_asg (de_var 0 rfl) (dg_tup (dgs_cons (dg_name (i := 1) nd) (dgs_cons (dg_name (i := 2) nd) (dgs_cons (dg_name (i := 3) nd) dgs_nil))) rfl)) ?_
      have fl : ∀ {lo hi : Int}, (!(isFrom a lo hi)) = false → a.flat = true := fun h => by
        obtain ⟨i, rfl, _⟩ := isFrom_inv (by simpa using h)
        rfl
      have fs : (!b'.qStr) = false → b'.flat = true := fun h => by
        cases b' <;> first | rfl | (cases h; done)
      refine dss_if (dw_or (dt_not (dt_val (de_call k_is_from hr (da_cons (de_var 1 rfl) (da_cons de_int (da_cons de_int da_nil))) ⟨a, 1, 12, rfl, D.real_noA r1, rfl⟩))) fun h1 => dw_or (dt_notIn (de_var 1 rfl) (de_ktup B.k_STEPS) (fl h1) rfl rfl) fun h2 => dw_or (dt_not (dt_val (de_isStr B.b_isinstance B.b_str (de_var 2 rfl) (D.real_noA r2)))) fun h3 => dw_or1 (dt_notIn (de_var 2 rfl) (de_ktup B.k_SIDES) (fs h3) rfl rfl)).dt
        (fun h => .stop (dss_ret de_bl ?_ (fun _ z => z)) rfl) (fun h => .go dss_nil ?_)
      · rw [isRd3, if_pos h]
      · obtain ⟨i, rfl, hi⟩ : ∃ i, a = .int i ∧ 1 ≤ i ∧ i ≤ 12 := by
          rw [Bool.or_eq_false_iff] at h
          exact isFrom_inv (by simpa using h.1)
        refine dss_ret (de_call k_is_from hr (da_cons (de_var 3 rfl) (da_cons de_int (da_cons (de_sub (de_var 1 rfl) de_int) da_nil))) ⟨c, 0, i - 1, rfl, D.real_noA r3, rfl⟩) ?_ (fun _ z => z)
        rw [isRd3, if_neg (by rw [h]; decide)]
theorem sc_left_of : FnScope ["manner", "quarters", "minus", "start", "less"] ["manner", "quarters"] (defScope s_left_of) := ⟨rfl, rfl, rfl, by decide +kernel, rfl, by decide +kernel, by decide +kernel⟩
theorem c_left_of (B : Bi K mg) (C : Df K mg "left_of" s_left_of) : Cal P w K mg base "left_of" 1 (Pure R_left_of) := by
  refine cal_mk C (fun _ _ _ _ _ _ us hl => match us, hl with | [_, _], _ => rfl) fun f fd F => fn_ret F sc_left_of (fun ds μ d μ' h => by obtain ⟨_, _, _, _, rfl, _⟩ := h; rfl) (fun cdv A outer s H E b ds μ d μ' hr hR hb => ?_)
  obtain ⟨rfl, rfl, m, q, rfl, hm, rfl⟩ := hR
  have nd := sc_left_of.nd
  have hl : (minus m.brk q).length ≤ 100000 := Nat.le_trans (minus_len _ _) (Nat.le_trans hm.len (by decide))
  have hl2 : ((minus m.brk q).map D.int).length ≤ 100000 := by simpa using hl
  refine dss_setLc (own := [("start", 3), ("less", 4)]) (out := (minus m.brk q).map D.int) (μ2 := []) (i := 2) (di_tup (de_ixT (de_var 0 rfl) de_int rfl)) ?_ hl2 rfl ?_ nd (blkOk_by (N := ["manner", "quarters", "minus", "start", "less"]) (sc := defScope s_left_of) (by decide +kernel)) (sw_true rfl rfl rfl (by decide +kernel))
  · rw [← fmap_minus]
    refine CLoop.fmap (brkF q) fun x hx => ?_
    obtain ⟨p, _, rfl⟩ := List.mem_map.mp hx
    refine ⟨_, _, fun _ _ _ _ _ => dg_tup (dgs_cons (dg_name (i := 3) nd) (dgs_cons (dg_name (i := 4) nd) dgs_nil)) rfl, by decide, fun _ _ _ _ _ => ?_, fun d hd => ?_⟩
    · refine (dt_le (de_var 3 rfl) (de_var 1 rfl)).cast ?_
      rw [brkF_pair]
      by_cases h : p.1 ≤ q
      · rw [if_pos h, decide_eq_true h]; rfl
      · rw [if_neg h, decide_eq_false h]; rfl
    · rw [brkF_pair] at hd
      by_cases h : p.1 ≤ q
      · rw [if_pos h] at hd
        cases hd
        exact fun _ _ _ _ _ => de_var 4 rfl
      · rw [if_neg h] at hd
        cases hd
  · refine dss_ret (de_ifP (dt_neD hr.units (de_var 2 rfl) (de_lst da_nil) (cm_lst (k := 0) (cm_map (fun _ => cm_int) _)).ok (cm_lst (k := 0) (by intro d h; cases h)).ok) (fun h => ?_) (fun h => ?_)) rfl (fun _ z => z)
    · have e : D.eqv (.lst ((minus m.brk q).map D.int)) (.lst (([] : List Int).map D.int)) = decide (minus m.brk q = []) := eqC_lst eqC_int _ _
      have hne : minus m.brk q ≠ [] := fun z => by
        have h2 : (!D.eqv (.lst ((minus m.brk q).map D.int)) (.lst (([] : List Int).map D.int))) = true := h
        rw [e, z] at h2
        cases h2
      obtain ⟨x, hx⟩ : ∃ x, (minus m.brk q).getLast? = some x := by
        cases hc : (minus m.brk q).getLast? with
        | none => exact absurd (List.getLast?_eq_none_iff.mp hc) hne
        | some x => exact ⟨x, rfl⟩
      refine (de_max2 B.b_max (da_cons de_int (da_cons (de_sub (de_var 1 rfl) (de_ixL (de_var 2 rfl) (de_neg de_int) (last_at hx))) da_nil))).cast ?_
      rw [left_last hx]
    · have e : D.eqv (.lst ((minus m.brk q).map D.int)) (.lst (([] : List Int).map D.int)) = decide (minus m.brk q = []) := eqC_lst eqC_int _ _
      have he : minus m.brk q = [] := by
        have h2 : (!D.eqv (.lst ((minus m.brk q).map D.int)) (.lst (([] : List Int).map D.int))) = false := h
        rw [e] at h2
        simpa using h2
      refine (de_var 1 rfl : DE _ _ _ _ (.int q) _).cast ?_
      rw [left_nil he]
theorem sc_split_of : FnScope ["manner", "quarters", "left", "normal"] ["manner", "quarters"] (defScope s_split_of) := ⟨rfl, rfl, rfl, by decide +kernel, rfl, by decide +kernel, by decide +kernel⟩
theorem c_split_of (B : Bi K mg) (k_left_of : Cal P w K mg base "left_of" 1 (Pure R_left_of)) (C : Df K mg "split_of" s_split_of) : Cal P w K mg base "split_of" 2 (Pure R_split_of) := by
  refine cal_mk C (fun _ _ _ _ _ _ us hl => match us, hl with | [_, _], _ => rfl) fun f fd F => fn_ret F sc_split_of (fun ds μ d μ' h => by obtain ⟨_, _, _, _, rfl, _⟩ := h; rfl) (fun cdv A outer s H E b ds μ d μ' hr hR hb => ?_)
  obtain ⟨rfl, rfl, m, q, rfl, hm, rfl⟩ := hR
  have nd := sc_split_of.nd
  refine dss_cons (ds_set (i := 2) (de_call k_left_of hr (da_cons (de_var 0 rfl) (da_cons (de_var 1 rfl) da_nil)) ⟨m, q, rfl, hm, rfl⟩) nd) ?_
  refine dss_cons (ds_set (i := 3) (d := .int (capR m.day (leftR m q))) (de_ifP (dt_isN (de_ixT (de_var 0 rfl) de_int rfl)) (fun h => ?_) (fun h => ?_)) nd) ?_
  · cases hd : m.day with
    | none => exact de_var 2 rfl
    | some x => rw [hd] at h; cases h
  · cases hd : m.day with
    | none => rw [hd] at h; cases h
    | some x => exact de_min2 B.b_min (da_cons (de_var 2 rfl) (da_cons (de_ixT (de_var 0 rfl) de_int (by show some (optD m.day) = _; rw [hd]; rfl)) da_nil))
  exact dss_ret (de_tup (da_cons (de_var 3 rfl) (da_cons (de_sub (de_var 2 rfl) (de_var 3 rfl)) da_nil))) rfl (fun _ z => z)
theorem sc_parts_of : FnScope ["manner", "day"] ["manner", "day"] (defScope s_parts_of) := ⟨rfl, rfl, rfl, by decide +kernel, rfl, by decide +kernel, by decide +kernel⟩
theorem c_parts_of (B : Bi K mg) (k_split_of : Cal P w K mg base "split_of" 2 (Pure R_split_of)) (k_counted_of : Cal P w K mg base "counted_of" 2 (Pure R_counted_of)) (C : Df K mg "parts_of" s_parts_of) : Cal P w K mg base "parts_of" 3 (Pure R_parts_of) := by
  refine cal_mk C (fun _ _ _ _ _ _ us hl => match us, hl with | [_, _], _ => rfl) fun f fd F => fn_ret F sc_parts_of (fun ds μ d μ' h => by obtain ⟨_, _, _, _, rfl, _⟩ := h; rfl) (fun cdv A outer s H E b ds μ d μ' hr hR hb => ?_)
  obtain ⟨rfl, rfl, m, p, rfl, hm, rfl⟩ := hR
  have nd := sc_parts_of.nd
  exact dss_ret (de_call k_split_of hr (da_cons (de_var 0 rfl) (da_cons (de_call k_counted_of (hr.mono (by decide)) (da_cons (de_var 0 rfl) (da_cons (de_var 1 rfl) da_nil)) ⟨m, p, rfl, hm, rfl⟩) da_nil)) ⟨m, _, rfl, hm, rfl⟩) rfl (fun _ z => z)
theorem sc_lists_of : FnScope ["manner", "times", "splits", "quarters", "time"] ["manner"] (defScope s_lists_of) := ⟨rfl, rfl, rfl, by decide +kernel, rfl, by decide +kernel, by decide +kernel⟩
theorem c_lists_of (B : Bi K mg) (k_split_of : Cal P w K mg base "split_of" 2 (Pure R_split_of)) (k_came : Cal P w K mg base "came" 1 (Pure R_came)) (k_went : Cal P w K mg base "went" 1 (Pure R_went)) (C : Df K mg "lists_of" s_lists_of) : Cal P w K mg base "lists_of" 3 (Pure R_lists_of) := by
  refine cal_mk C (fun _ _ _ _ _ _ us hl => match us, hl with | [_], _ => rfl) fun f fd F => fn_ret F sc_lists_of (fun ds μ d μ' h => by obtain ⟨_, _, _, rfl, _⟩ := h; rfl) (fun cdv A outer s H E b ds μ d μ' hr hR hb => ?_)
  obtain ⟨rfl, rfl, m, rfl, hm, rfl⟩ := hR
  have nd := sc_lists_of.nd
  have hz : ∀ {α : Type} (g : Nat → α), ((List.range 97).map g).length ≤ 100000 := fun g => by rw [List.length_map, List.length_range]; decide
  refine dss_cons (ds_set (i := 1) (de_listRg (n := 96 + 1) B.b_list B.b_range (de_add (de_kint B.k_LAST) de_int) (by decide)) nd) ?_
  have tm : ∀ {x : D}, x ∈ (List.range (96 + 1 : Int).toNat).map (fun i => D.int (i : Nat)) → ∃ i : Nat, i < 97 ∧ x = .int (i : Nat) := fun {x} hx => by
    obtain ⟨i, hi, rfl⟩ := List.mem_map.mp hx
    exact ⟨i, List.mem_range.mp hi, rfl⟩
  refine dss_setLc (own := [("quarters", 3)]) (out := (List.range 97).map fun i => pairD (splitR m (i : Nat))) (μ2 := []) (i := 2) (di_lst (de_var 1 rfl)) ?_ (hz _) rfl ?_ nd (blkOk_by (N := ["manner", "times", "splits", "quarters", "time"]) (sc := defScope s_lists_of) (by decide +kernel)) (sw_true rfl rfl rfl (by decide +kernel))
  · have e : (List.range 97).map (fun i => pairD (splitR m (i : Nat))) = ((List.range (96 + 1 : Int).toNat).map (fun i => D.int (i : Nat))).map (onInt fun i => pairD (splitR m i)) := by
      rw [List.map_map]; rfl
    rw [e]
    refine CLoop.map _ fun x hx => ?_
    obtain ⟨i, hi, rfl⟩ := tm hx
    exact ⟨_, _, fun _ _ _ _ _ => dg_name (i := 3) nd, by decide, fun _ _ _ _ _ => de_call k_split_of hr (da_cons (de_var 0 rfl) (da_cons (de_var 3 rfl) da_nil)) ⟨m, i, rfl, hm, rfl⟩⟩
  · refine dss_ret (de_tup (da_cons (d := .lst ((List.range 97).map fun i => D.int (cameR m.ins (i : Nat)))) (de_lc (own := [("time", 4)]) (di_lst (de_var 1 rfl)) ?_ (hz _) nd (blkOk_by (N := ["manner", "times", "splits", "quarters", "time"]) (sc := defScope s_lists_of) (by decide +kernel)) rfl (fun _ => rfl) rfl) (da_cons (d := .lst ((List.range 97).map fun i => D.int (wentR m.outs (i : Nat)))) (de_lc (own := [("time", 4)]) (di_lst (de_var 1 rfl)) ?_ (hz _) nd (blkOk_by (N := ["manner", "times", "splits", "quarters", "time"]) (sc := defScope s_lists_of) (by decide +kernel)) rfl (fun _ => rfl) rfl) (da_cons (de_var 2 rfl) da_nil)))) rfl (fun _ z => z)
    · have e : (List.range 97).map (fun i => D.int (cameR m.ins (i : Nat))) = ((List.range (96 + 1 : Int).toNat).map (fun i => D.int (i : Nat))).map (onInt fun i => .int (cameR m.ins i)) := by
        rw [List.map_map]; rfl
      rw [e]
      refine CLoop.map _ fun x hx => ?_
      obtain ⟨i, hi, rfl⟩ := tm hx
      exact ⟨_, _, fun _ _ _ _ _ => dg_name (i := 4) nd, by decide, fun _ _ _ _ _ => de_call k_came (hr.mono (by decide)) (da_cons (de_ixT (de_var 0 rfl) de_int rfl) (da_cons (de_var 4 rfl) da_nil)) ⟨m.ins, i, rfl, hm.ins.pos, rfl⟩⟩
    · have e : (List.range 97).map (fun i => D.int (wentR m.outs (i : Nat))) = ((List.range (96 + 1 : Int).toNat).map (fun i => D.int (i : Nat))).map (onInt fun i => .int (wentR m.outs i)) := by
        rw [List.map_map]; rfl
      rw [e]
      refine CLoop.map _ fun x hx => ?_
      obtain ⟨i, hi, rfl⟩ := tm hx
      exact ⟨_, _, fun _ _ _ _ _ => dg_name (i := 4) nd, by decide, fun _ _ _ _ _ => de_call k_went (hr.mono (by decide)) (da_cons (de_ixT (de_var 0 rfl) de_int rfl) (da_cons (de_var 4 rfl) da_nil)) ⟨m.outs, i, rfl, hm.outs.pos, rfl⟩⟩
theorem sc_every_day : FnScope ["start", "end"] [] (defScope s_every_day) := ⟨rfl, rfl, rfl, by decide +kernel, rfl, by decide +kernel, by decide +kernel⟩
theorem c_every_day (B : Bi K mg) (C : Df K mg "every_day" s_every_day) : Cal P w K mg base "every_day" 1 (Pure R_every_day) := by
  refine cal_mk C (fun _ _ _ _ _ _ us hl => match us, hl with | [], _ => rfl) fun f fd F => fn_ret F sc_every_day (fun ds μ d μ' h => by obtain ⟨_, _, rfl, _⟩ := h; rfl) (fun cdv A outer s H E b ds μ d μ' hr hR hb => ?_)
  obtain ⟨rfl, rfl, rfl, rfl⟩ := hR
  have nd := sc_every_day.nd
  have hz : ((rgD 0 96).flatMap (dayF pairD)).length ≤ 100000 := by
    rw [days_flat pairD, List.length_map, days_len]; decide
  refine dss_ret (de_lc2 (own := [("start", 0), ("end", 1)]) (vs1 := [1]) (di_rg1 (i := 96) B.b_range (de_kint B.k_LAST) (by decide)) (dayF pairD) (fun x hx => ?_) hz nd (blkOk_by (N := ["start", "end"]) (sc := defScope s_every_day) (by decide +kernel)) (by decide)) (congrArg D.lst (days_flat pairD)) (fun _ z => z)
  obtain ⟨i, hi, rfl⟩ := List.mem_map.mp hx
  have hi' := List.mem_range.mp hi
  refine ⟨_, _, rgD (((0 : Int) + (i : Nat)) + 1) (96 - ((0 : Int) + (i : Nat)).toNat), fun _ _ _ _ _ => dg_name (i := 0) nd, by decide, fun _ _ _ _ _ => ?_, ?_⟩
  · have e : (96 - ((0 : Int) + (i : Nat)).toNat) = ((96 + 1 : Int) - (((0 : Int) + (i : Nat)) + 1)).toNat := by omega
    rw [e]
    exact di_rg2 B.b_range (da_cons (de_add (de_var 0 rfl) de_int) (da_cons (de_add (de_kint B.k_LAST) de_int) da_nil)) (by omega)
  · refine CLoop.map _ fun y hy => ?_
    obtain ⟨j, hj, rfl⟩ := List.mem_map.mp hy
    exact ⟨_, _, fun _ _ _ _ _ => dg_name (i := 1) nd, by decide, fun _ _ _ _ _ => de_tup (da_cons (de_var 0 rfl) (da_cons (de_var 1 rfl) da_nil))⟩
end
end CC


/-! The walk of the checks and of what days pay, the end. -/
namespace CC
open PySem PySem.Spec PyProof.Rows L2 PD
def R_need_manner : List D → D → Prop := fun ds d => ∃ m, ds = [Mn.d m] ∧ m.Ok ∧ d = .non
def R_need_manners : List D → D → Prop := fun ds d => ∃ m n, ds = [Mn.d m, Mn.d n] ∧ (m.Ok ∧ n.Ok) ∧ d = .non
theorem brkOrd1 (a : D) : brkOrd [a] = true := by
  rcases a with _ | _ | _ | _ | l | _ | _ | _ <;> first | rfl | skip
  rcases l with _ | ⟨a, l⟩ <;> first | rfl | (rcases l with _ | ⟨c, _ | ⟨_, _⟩⟩ <;> first | rfl | (cases a <;> rfl) | (cases a <;> cases c <;> rfl))
section
variable {P : Program} {w : World} {K : PySem.W.Frag} {mg : Str → Option Value} {base : Heap}
theorem sc_are_breaks_of : FnScope ["value", "one"] ["value"] (defScope s_are_breaks_of) := ⟨rfl, rfl, rfl, by decide +kernel, rfl, by decide +kernel, by decide +kernel⟩
theorem c_are_breaks_of (B : Bi K mg) (k_is_from : Cal P w K mg base "is_from" 1 (Pure R_is_from)) (C : Df K mg "are_breaks_of" s_are_breaks_of) : Cal P w K mg base "are_breaks_of" 2 (Pure R_are_breaks_of) := by
  refine cal_mk C (fun _ _ _ _ _ _ us hl => match us, hl with | [_], _ => rfl) fun f fd F => fn_ret F sc_are_breaks_of (fun ds μ d μ' h => by obtain ⟨_, _, _, rfl, _⟩ := h; rfl) (fun cdv A outer s H E b ds μ d μ' hr hR hb => ?_)
  obtain ⟨rfl, rfl, v, rfl, hv, rfl⟩ := hR
  have nd := sc_are_breaks_of.nd
  cases hq : v.qTup with
  | false =>
    refine dss_if (dw_or (k2 := true) (dt_not (dt_val (de_isTup B.b_isinstance B.b_tuple (de_var 0 rfl) (D.real_noA hv)))) fun h => ?_).dt (fun h => .stop (dss_ret de_bl ?_ (fun _ z => z)) rfl) (fun h => ?_)
    · rw [hq] at h; cases h
    · congr 1
      cases v <;> first | rfl | (cases hq; done)
    · rw [hq] at h; cases h
  | true =>
    obtain ⟨l, rfl⟩ : ∃ l, v = .tup l := by
      cases v with
      | tup l => exact ⟨l, rfl⟩
      | _ => cases hq
    have ra := reals_all hv
    refine dss_if (dw_or (dt_not (dt_val (de_isTup B.b_isinstance B.b_tuple (de_var 0 rfl) rfl))) fun _ => dw_or1 (dt_gt (de_lenT B.b_len (de_var 0 rfl)) de_int)).dt (fun h => .stop (dss_ret de_bl ?_ (fun _ z => z)) rfl) (fun h => .go dss_nil ?_)
    · have hl : 2 < (l.length : Int) := by
        have h2 : (!true || decide (2 < (l.length : Int))) = true := h
        simpa using h2
      congr 1
      show false = (decide (l.length ≤ 2) && _)
      rw [decide_eq_false (by omega)]
      rfl
    · have hl : l.length ≤ 2 := by
        have h2 : (!true || decide (2 < (l.length : Int))) = false := h
        have h3 : ¬ (2 : Int) < l.length := by simpa using h2
        omega
      have i01 : ∀ {x : D}, isBrk1 x = true → ∃ i j, x = .tup [.int i, .int j] := fun {x} h => by
        rcases x with _ | _ | _ | _ | l | _ | _ | _ <;> first | (cases h; done) | skip
        rcases l with _ | ⟨a, _ | ⟨c, _ | ⟨_, _⟩⟩⟩ <;> first | (cases h; done) | skip
        have h' : (!(!(isFrom a 1 96) || !(isFrom c 1 8))) = true := h
        simp only [Bool.not_or, Bool.not_not, Bool.and_eq_true] at h'
        obtain ⟨i, rfl, _⟩ := isFrom_inv h'.1
        obtain ⟨j, rfl, _⟩ := isFrom_inv h'.2
        exact ⟨i, j, rfl⟩
      cases ha : l.all isBrk1 with
      | true =>
        refine dss_forI (P := fun i ρ μ => (∃ y, ρ = [some (.tup l), y]) ∧ μ = []) PassesOwn.never (di_tup (de_var 0 rfl)) ⟨⟨_, rfl⟩, rfl⟩ (fun i x ρ μ hx hP => ?_) (fun ρ μ hP => ?_)
        · obtain ⟨⟨y, rfl⟩, rfl⟩ := hP
          have hx1 := List.all_eq_true.mp ha x (List.mem_of_getElem? hx)
          obtain ⟨i, j, rfl⟩ := i01 hx1
          have hx2 : (!(!(isFrom (.int i) 1 96) || !(isFrom (.int j) 1 8))) = true := hx1
          have hx3 : (!(isFrom (.int i) 1 96) || !(isFrom (.int j) 1 8)) = false := by simpa using hx2
          refine ⟨_, _, _, _, dg_name (i := 1) nd, dss_if (dw_or (dt_not (dt_val (de_isTup B.b_isinstance B.b_tuple (de_var 1 rfl) rfl))) fun _ => dw_or1 (dt_neI (de_lenT B.b_len (de_var 1 rfl)) de_int)).dt (fun h => by cases h) (fun h => .go dss_nil (dss_if (dw_or (dt_not (dt_val (de_call k_is_from hr (da_cons (de_ixT (de_var 1 rfl) de_int rfl) (da_cons de_int (da_cons (de_kint B.k_LAST) da_nil))) ⟨.int i, 1, 96, rfl, rfl, rfl⟩))) fun _ => dw_or1 (dt_not (dt_val (de_call k_is_from hr (da_cons (de_ixT (de_var 1 rfl) de_int rfl) (da_cons de_int (da_cons (de_kint B.k_MOST_MINUS) da_nil))) ⟨.int j, 1, 8, rfl, rfl, rfl⟩)))).dt (fun h => by rw [hx3] at h; cases h) (fun h => .go dss_nil dss_nil))), ⟨_, rfl⟩, rfl⟩
        · obtain ⟨⟨y, rfl⟩, rfl⟩ := hP
          refine dss_ret (de_or (k2 := brkOrd l) (de_lt (de_lenT B.b_len (de_var 0 rfl)) de_int) fun h => de_one ?_) ?_ (fun _ z => z)
          · have h2 : ¬ (l.length : Int) < 2 := by simpa using h
            obtain ⟨x1, x2, rfl⟩ : ∃ a c, l = [a, c] := by
              rcases l with _ | ⟨a, _ | ⟨c, _ | ⟨_, _⟩⟩⟩
              · simp at h2
              · simp at h2
              · exact ⟨a, c, rfl⟩
              · simp at hl
            obtain ⟨i1, j1, rfl⟩ := i01 (List.all_eq_true.mp ha x1 (by simp))
            obtain ⟨i2, j2, rfl⟩ := i01 (List.all_eq_true.mp ha x2 (by simp))
            exact de_lt (de_ixT (de_ixT (de_var 0 rfl) de_int rfl) de_int rfl) (de_ixT (de_ixT (de_var 0 rfl) de_int rfl) de_int rfl)
          · show D.bl _ = D.bl (decide (l.length ≤ 2) && (l.all isBrk1 && brkOrd l))
            rw [ha, decide_eq_true hl]
            rcases l with _ | ⟨a, _ | ⟨c, _ | ⟨_, _⟩⟩⟩
            · rfl
            · rw [brkOrd1]; rfl
            · rfl
            · simp at hl
      | false =>
        obtain ⟨k, x, hx, hf, hbe⟩ := first_false ha
        have he : isBrks (.tup l) = false := by
          show (decide (l.length ≤ 2) && (l.all isBrk1 && brkOrd l)) = false
          rw [ha]
          simp
        rw [he]
        refine dss_forR (P := fun i ρ μ => (∃ y, ρ = [some (.tup l), y]) ∧ μ = []) PassesOwn.never (di_tup (de_var 0 rfl)) hx ⟨⟨_, rfl⟩, rfl⟩ (fun i x ρ μ hk hx hP => ?_) (fun ρ μ hP => ?_)
        · obtain ⟨⟨y, rfl⟩, rfl⟩ := hP
          have hx1 := hbe i x hk hx
          obtain ⟨i, j, rfl⟩ := i01 hx1
          have hx2 : (!(!(isFrom (.int i) 1 96) || !(isFrom (.int j) 1 8))) = true := hx1
          have hx3 : (!(isFrom (.int i) 1 96) || !(isFrom (.int j) 1 8)) = false := by simpa using hx2
          refine ⟨_, _, _, _, dg_name (i := 1) nd, dss_if (dw_or (dt_not (dt_val (de_isTup B.b_isinstance B.b_tuple (de_var 1 rfl) rfl))) fun _ => dw_or1 (dt_neI (de_lenT B.b_len (de_var 1 rfl)) de_int)).dt (fun h => by cases h) (fun h => .go dss_nil (dss_if (dw_or (dt_not (dt_val (de_call k_is_from hr (da_cons (de_ixT (de_var 1 rfl) de_int rfl) (da_cons de_int (da_cons (de_kint B.k_LAST) da_nil))) ⟨.int i, 1, 96, rfl, rfl, rfl⟩))) fun _ => dw_or1 (dt_not (dt_val (de_call k_is_from hr (da_cons (de_ixT (de_var 1 rfl) de_int rfl) (da_cons de_int (da_cons (de_kint B.k_MOST_MINUS) da_nil))) ⟨.int j, 1, 8, rfl, rfl, rfl⟩)))).dt (fun h => by rw [hx3] at h; cases h) (fun h => .go dss_nil dss_nil))), ⟨_, rfl⟩, rfl⟩
        · obtain ⟨⟨y, rfl⟩, rfl⟩ := hP
          have rx := ra x (List.mem_of_getElem? hx)
          refine ⟨_, _, dg_name (i := 1) nd, ?_⟩
          cases hq : x.qTup with
          | false =>
            refine dss_if (dw_or (k2 := true) (dt_not (dt_val (de_isTup B.b_isinstance B.b_tuple (de_var 1 rfl) (D.real_noA rx)))) fun h => ?_).dt (fun h => .stop (dss_ret de_bl rfl (fun _ z => z)) rfl) (fun h => ?_)
            · rw [hq] at h; cases h
            · rw [hq] at h; cases h
          | true =>
            obtain ⟨t, rfl⟩ : ∃ t, x = .tup t := by
              cases x with
              | tup l => exact ⟨l, rfl⟩
              | _ => cases hq
            refine dss_if (dw_or (dt_not (dt_val (de_isTup B.b_isinstance B.b_tuple (de_var 1 rfl) rfl))) fun _ => dw_or1 (dt_neI (de_lenT B.b_len (de_var 1 rfl)) de_int)).dt (fun h => .stop (dss_ret de_bl rfl (fun _ z => z)) rfl) (fun h => .go dss_nil ?_)
            obtain ⟨a, c, rfl⟩ : ∃ a c, t = [a, c] := by
              have ht : t.length = 2 := by
                have h2 : (!decide ((t.length : Int) = 2)) = false := h
                rw [Bool.not_eq_false', decide_eq_true_eq] at h2
                omega
              rcases t with _ | ⟨a, _ | ⟨b', _ | ⟨_, _⟩⟩⟩ <;> first | exact ⟨_, _, rfl⟩ | (simp at ht)
            have r1 := reals_all rx
            have hf2 : (!(!(isFrom a 1 96) || !(isFrom c 1 8))) = false := hf
            have hf3 : (!(isFrom a 1 96) || !(isFrom c 1 8)) = true := by
              cases h : (!(isFrom a 1 96) || !(isFrom c 1 8)) with
              | true => rfl
              | false => rw [h] at hf2; cases hf2
            exact dss_if (dw_or (dt_not (dt_val (de_call k_is_from hr (da_cons (de_ixT (de_var 1 rfl) de_int rfl) (da_cons de_int (da_cons (de_kint B.k_LAST) da_nil))) ⟨a, 1, 96, rfl, D.real_noA (r1 a (by simp)), rfl⟩))) fun _ => dw_or1 (dt_not (dt_val (de_call k_is_from hr (da_cons (de_ixT (de_var 1 rfl) de_int rfl) (da_cons de_int (da_cons (de_kint B.k_MOST_MINUS) da_nil))) ⟨c, 1, 8, rfl, D.real_noA (r1 c (by simp)), rfl⟩)))).dt (fun h => .stop (dss_ret de_bl rfl (fun _ z => z)) rfl) (fun h => by rw [hf3] at h; cases h)
theorem sc_is_manner_of : FnScope ["value", "ins", "outs", "breaks", "day", "week"] ["value"] (defScope s_is_manner_of) := ⟨rfl, rfl, rfl, by decide +kernel, rfl, by decide +kernel, by decide +kernel⟩
theorem c_is_manner_of (B : Bi K mg) (k_is_rounding_of : Cal P w K mg base "is_rounding_of" 2 (Pure R_is_rounding_of)) (k_are_breaks_of : Cal P w K mg base "are_breaks_of" 2 (Pure R_are_breaks_of)) (k_is_from : Cal P w K mg base "is_from" 1 (Pure R_is_from)) (C : Df K mg "is_manner_of" s_is_manner_of) : Cal P w K mg base "is_manner_of" 3 (Pure R_is_manner_of) := by
  refine cal_mk C (fun _ _ _ _ _ _ us hl => match us, hl with | [_], _ => rfl) fun f fd F => fn_ret F sc_is_manner_of (fun ds μ d μ' h => by obtain ⟨_, _, _, rfl, _⟩ := h; rfl) (fun cdv A outer s H E b ds μ d μ' hr hR hb => ?_)
  obtain ⟨rfl, rfl, v, rfl, hv, rfl⟩ := hR
  have nd := sc_is_manner_of.nd
  cases hq : v.qTup with
  | false =>
    refine dss_if (dw_or (k2 := true) (dt_not (dt_val (de_isTup B.b_isinstance B.b_tuple (de_var 0 rfl) (D.real_noA hv)))) fun h => ?_).dt (fun h => .stop (dss_ret de_bl ?_ (fun _ z => z)) rfl) (fun h => ?_)
    · rw [hq] at h; cases h
    · congr 1
      cases v <;> first | rfl | (cases hq; done)
    · rw [hq] at h; cases h
  | true =>
    obtain ⟨l, rfl⟩ : ∃ l, v = .tup l := by
      cases v with
      | tup l => exact ⟨l, rfl⟩
      | _ => cases hq
    refine dss_if (dw_or (dt_not (dt_val (de_isTup B.b_isinstance B.b_tuple (de_var 0 rfl) rfl))) fun _ => dw_or1 (dt_neI (de_lenT B.b_len (de_var 0 rfl)) de_int)).dt (fun h => .stop (dss_ret de_bl ?_ (fun _ z => z)) rfl) (fun h => .go dss_nil ?_)
    · have hl : l.length ≠ 5 := by
        intro z
        rw [z] at h
        cases h
      congr 1
      rcases l with _ | ⟨a, _ | ⟨b', _ | ⟨c, _ | ⟨d', _ | ⟨e', _ | ⟨f', t⟩⟩⟩⟩⟩⟩ <;> first | rfl | (exact absurd rfl hl)
    · obtain ⟨a, b', c, d', e', rfl⟩ : ∃ a b c d e, l = [a, b, c, d, e] := by
        have hl : l.length = 5 := by
          have h2 : (!decide ((l.length : Int) = 5)) = false := h
          rw [Bool.not_eq_false', decide_eq_true_eq] at h2
          omega
        rcases l with _ | ⟨a, _ | ⟨b', _ | ⟨c, _ | ⟨d', _ | ⟨e', _ | ⟨f', t⟩⟩⟩⟩⟩⟩ <;> first | exact ⟨_, _, _, _, _, rfl⟩ | (simp at hl)
      have ra := reals_all hv
      refine dss_cons (ds_asg (de_var 0 rfl) (dg_tup (dgs_cons (dg_name (i := 1) nd) (dgs_cons (dg_name (i := 2) nd) (dgs_cons (dg_name (i := 3) nd) (dgs_cons (dg_name (i := 4) nd) (dgs_cons (dg_name (i := 5) nd) dgs_nil))))) rfl)) ?_
      refine dss_if (dw_or (dt_not (dt_val (de_call k_is_rounding_of hr (da_cons (de_var 1 rfl) da_nil) ⟨a, rfl, ra a (by simp), rfl⟩))) fun _ => dw_or (dt_not (dt_val (de_call k_is_rounding_of hr (da_cons (de_var 2 rfl) da_nil) ⟨b', rfl, ra b' (by simp), rfl⟩))) fun _ => dw_or1 (dt_not (dt_val (de_call k_are_breaks_of hr (da_cons (de_var 3 rfl) da_nil) ⟨c, rfl, ra c (by simp), rfl⟩)))).dt
        (fun h => .stop (dss_ret de_bl (by rw [isMn5, if_pos h]) (fun _ z => z)) rfl) (fun h => .go dss_nil ?_)
      have hr1 := hr.mono (j := 1) (by decide)
      refine dss_ret (de_and (de_or (de_isN (de_var 4 rfl)) fun _ => de_one (de_call k_is_from hr1 (da_cons (de_var 4 rfl) (da_cons de_int (da_cons (de_kint B.k_LAST) da_nil))) ⟨d', 1, 96, rfl, D.real_noA (ra d' (by simp)), rfl⟩)) fun _ => de_one (de_or (de_isN (de_var 5 rfl)) fun _ => de_one (de_call k_is_from hr1 (da_cons (de_var 5 rfl) (da_cons de_int (da_cons (de_mul (de_kint B.k_MOST_DAYS) (de_kint B.k_LAST) (.inl ⟨by decide, by decide⟩)) da_nil))) ⟨e', 1, 5 * 96, rfl, D.real_noA (ra e' (by simp)), rfl⟩))) ?_ (fun _ z => z)
      rw [isMn5, if_neg (by rw [h]; decide)]
      rfl
theorem sc_need_manner : FnScope ["value"] ["value"] (defScope s_need_manner) := ⟨rfl, rfl, rfl, by decide +kernel, rfl, by decide +kernel, by decide +kernel⟩
theorem c_need_manner (B : Bi K mg) (k_is_manner_of : Cal P w K mg base "is_manner_of" 3 (Pure R_is_manner_of)) (C : Df K mg "need_manner" s_need_manner) : Cal P w K mg base "need_manner" 4 (Pure R_need_manner) := by
  refine cal_mk C (fun _ _ _ _ _ _ us hl => match us, hl with | [_], _ => rfl) fun f fd F => fn_non F sc_need_manner (fun ds μ d μ' h => by obtain ⟨_, _, _, rfl, _⟩ := h; rfl) (fun ds μ d μ' h => by obtain ⟨_, _, _, rfl, _, h⟩ := h; first | exact h | exact h.2 | exact h.2.2) (fun cdv A outer s H E b ds μ d μ' hr hR hb => ?_)
  obtain ⟨rfl, rfl, m, rfl, hm, rfl⟩ := hR
  have nd := sc_need_manner.nd
  refine ⟨_, dss_if (dt_not (dt_val (de_call k_is_manner_of hr (da_cons (de_var 0 rfl) da_nil) ⟨m.d, rfl, real_mn m, rfl⟩))) (fun h => ?_) (fun h => .go dss_nil dss_nil)⟩
  rw [isMn_ok hm] at h
  cases h
theorem sc_need_manners : FnScope ["one", "other"] ["one", "other"] (defScope s_need_manners) := ⟨rfl, rfl, rfl, by decide +kernel, rfl, by decide +kernel, by decide +kernel⟩
theorem c_need_manners (B : Bi K mg) (k_need_manner : Cal P w K mg base "need_manner" 4 (Pure R_need_manner)) (C : Df K mg "need_manners" s_need_manners) : Cal P w K mg base "need_manners" 5 (Pure R_need_manners) := by
  refine cal_mk C (fun _ _ _ _ _ _ us hl => match us, hl with | [_, _], _ => rfl) fun f fd F => fn_non F sc_need_manners (fun ds μ d μ' h => by obtain ⟨_, _, _, _, rfl, _⟩ := h; rfl) (fun ds μ d μ' h => by obtain ⟨_, _, _, _, rfl, _, h⟩ := h; first | exact h | exact h.2 | exact h.2.2) (fun cdv A outer s H E b ds μ d μ' hr hR hb => ?_)
  obtain ⟨rfl, rfl, m, n, rfl, hm, rfl⟩ := hR
  have nd := sc_need_manners.nd
  refine ⟨_, dss_cons (ds_drop (de_call k_need_manner hr (da_cons (de_var 0 rfl) da_nil) ⟨m, rfl, hm.1, rfl⟩)) (dss_one (ds_drop (de_call k_need_manner hr (da_cons (de_var 1 rfl) da_nil) ⟨n, rfl, hm.2, rfl⟩)))⟩
theorem sc_all_parts : FnScope ["manner", "ins", "outs", "splits", "start", "end"] ["manner"] (defScope s_all_parts) := ⟨rfl, rfl, rfl, by decide +kernel, rfl, by decide +kernel, by decide +kernel⟩
theorem c_all_parts (B : Bi K mg) (k_lists_of : Cal P w K mg base "lists_of" 3 (Pure R_lists_of)) (C : Df K mg "all_parts" s_all_parts) : Cal P w K mg base "all_parts" 4 (Pure R_all_parts) := by
  refine cal_mk C (fun _ _ _ _ _ _ us hl => match us, hl with | [_], _ => rfl) fun f fd F => fn_ret F sc_all_parts (fun ds μ d μ' h => by obtain ⟨_, _, _, rfl, _⟩ := h; rfl) (fun cdv A outer s H E b ds μ d μ' hr hR hb => ?_)
  obtain ⟨rfl, rfl, m, rfl, hm, rfl⟩ := hR
  have nd := sc_all_parts.nd
  have hz : ((rgD 0 96).flatMap (dayF fun p => pairD (partsR m p))).length ≤ 100000 := by
    rw [days_flat, List.length_map, days_len]; decide
  refine dss_cons (ds_asg (de_call k_lists_of hr (da_cons (de_var 0 rfl) da_nil) ⟨m, rfl, hm, rfl⟩) (dg_tup (dgs_cons (dg_name (i := 1) nd) (dgs_cons (dg_name (i := 2) nd) (dgs_cons (dg_name (i := 3) nd) dgs_nil))) rfl)) ?_
  refine dss_ret (de_lc2 (own := [("start", 4), ("end", 5)]) (vs1 := [5]) (di_rg1 (i := 96) B.b_range (de_kint B.k_LAST) (by decide)) (dayF fun p => pairD (partsR m p)) (fun x hx => ?_) hz nd (blkOk_by (N := ["manner", "ins", "outs", "splits", "start", "end"]) (sc := defScope s_all_parts) (by decide +kernel)) (by decide)) ?_ (fun _ z => z)
  · obtain ⟨i, hi, rfl⟩ := List.mem_map.mp hx
    have hi' := List.mem_range.mp hi
    have hi2 : i < 96 := by simpa using hi'
    refine ⟨_, _, rgD (((0 : Int) + (i : Nat)) + 1) (96 - ((0 : Int) + (i : Nat)).toNat), fun _ _ _ _ _ => dg_name (i := 4) nd, by decide, fun _ _ _ _ _ => ?_, ?_⟩
    · have e : (96 - ((0 : Int) + (i : Nat)).toNat) = ((96 + 1 : Int) - (((0 : Int) + (i : Nat)) + 1)).toNat := by omega
      rw [e]
      exact di_rg2 B.b_range (da_cons (de_add (de_var 4 rfl) de_int) (da_cons (de_add (de_kint B.k_LAST) de_int) da_nil)) (by omega)
    · refine CLoop.map _ fun y hy => ?_
      obtain ⟨j, hj, rfl⟩ := List.mem_map.mp hy
      have hj' := List.mem_range.mp hj
      have dk : dayOk ((0 : Int) + (i : Nat), (((0 : Int) + (i : Nat)) + 1) + (j : Nat)) := by unfold dayOk; simp only; omega
      have cr := count_rng hm dk
      refine ⟨_, _, fun _ _ _ _ _ => dg_name (i := 5) nd, by decide, fun _ _ _ _ _ => ?_⟩
      refine de_ixL (de_var 3 rfl) (de_max2 B.b_max (da_cons de_int (da_cons (de_sub (de_ixL (de_var 2 rfl) (de_var 5 rfl) (at_rg (by omega) (by omega))) (de_ixL (de_var 1 rfl) (de_var 4 rfl) (at_rg (by omega) (by omega)))) da_nil))) ?_
      have e1 : ((((0 : Int) + (i : Nat)).toNat : Nat) : Int) = (0 : Int) + (i : Nat) := by omega
      have e2 : ((((((0 : Int) + (i : Nat)) + 1) + (j : Nat)).toNat : Nat) : Int) = (((0 : Int) + (i : Nat)) + 1) + (j : Nat) := by omega
      rw [e1, e2]
      show atI _ (countR m ((0 : Int) + (i : Nat), (((0 : Int) + (i : Nat)) + 1) + (j : Nat))) = _
      rw [at_rg cr.1 (by omega)]
      have e3 : (((countR m ((0 : Int) + (i : Nat), (((0 : Int) + (i : Nat)) + 1) + (j : Nat))).toNat : Nat) : Int) = countR m ((0 : Int) + (i : Nat), (((0 : Int) + (i : Nat)) + 1) + (j : Nat)) := by omega
      rw [e3]
      rfl
  · refine (congrArg D.lst (days_flat _)).trans ?_
    unfold allParts
    rw [List.map_map]
    rfl
end
end CC


/-! The walk of what weeks pay, of leads. -/
namespace CC
open PySem PySem.Spec PyProof.Rows L2 PD
def R_best_days : List D → D → Prop := fun ds d => ∃ m n wt, ds = [Mn.d m, Mn.d n, .int wt] ∧ (m.Ok ∧ n.Ok) ∧ d = dctE (encP pairD) (inK (bestDaysR m n wt))
def R_best_weeks : List D → D → Prop := fun ds d => ∃ t bs, ds = [dctE (encP pairD) (inK t), .bl bs] ∧ DT_ t ∧ d = dctE (encP weekD) (inK (weekTab t bs 5))
def R_lead_of : List D → D → Prop := fun ds d => ∃ m n, ds = [Mn.d m, Mn.d n] ∧ (m.Ok ∧ n.Ok) ∧ d = .tup [.int (leadR m n).1, weekD (leadR m n).2]
def R_greatest_lead : List D → D → Prop := fun ds d => ∃ m n, ds = [Mn.d m, Mn.d n] ∧ (m.Ok ∧ n.Ok) ∧ d = .int (leadR m n).1
theorem zipD3_map {α : Type} (f g h : α → D) : ∀ l : List α, zipD3 (l.map f) (l.map g) (l.map h) = l.map fun a => .tup [f a, g a, h a]
  | [] => rfl
  | a :: l => congrArg (_ :: ·) (zipD3_map f g h l)
theorem items_inK {β : Type} (enc : β → D) : ∀ t : List (Int × β), zipD (((inK t).map (·.1)).map kD) ((inK t).map fun kv => enc kv.2) = t.map fun e => .tup [.int e.1, enc e.2]
  | [] => rfl
  | a :: t => congrArg (_ :: ·) (items_inK enc t)
theorem weekD_app (w : Week) (p : Int × Int) : D.tup (w.map pairD ++ [pairD p]) = weekD (w ++ [p]) := by unfold weekD; rw [List.map_append]; rfl
section
variable {P : Program} {w : World} {K : PySem.W.Frag} {mg : Str → Option Value} {base : Heap}
theorem sc_paid_of : FnScope ["manner", "week", "parts", "day", "normal", "over", "one", "two", "extra"] ["manner", "week"] (defScope s_paid_of) := ⟨rfl, rfl, rfl, by decide +kernel, rfl, by decide +kernel, by decide +kernel⟩
theorem c_paid_of (B : Bi K mg) (k_parts_of : Cal P w K mg base "parts_of" 3 (Pure R_parts_of)) (C : Df K mg "paid_of" s_paid_of) : Cal P w K mg base "paid_of" 4 (Pure R_paid_of) := by
  refine cal_mk C (fun _ _ _ _ _ _ us hl => match us, hl with | [_, _], _ => rfl) fun f fd F => fn_ret F sc_paid_of (fun ds μ d μ' h => by obtain ⟨_, _, _, _, rfl, _⟩ := h; rfl) (fun cdv A outer s H E b ds μ d μ' hr hR hb => ?_)
  obtain ⟨rfl, rfl, m, w, rfl, hm, hw, rfl⟩ := hR
  have nd := sc_paid_of.nd
  have hl : ∀ {α : Type} (f : Int × Int → α), (w.map f).length ≤ 100000 := fun f => by rw [List.length_map]; omega
  refine dss_setLc (own := [("day", 3)]) (out := w.map fun p => pairD (partsR m p)) (μ2 := []) (i := 2) (di_tup (de_var 1 rfl)) ?_ (hl _) rfl ?_ nd (blkOk_by (N := ["manner", "week", "parts", "day", "normal", "over", "one", "two", "extra"]) (sc := defScope s_paid_of) (by decide +kernel)) (sw_true rfl rfl rfl (by decide +kernel))
  · have e : w.map (fun p => pairD (partsR m p)) = (w.map pairD).map (onPair fun p => pairD (partsR m p)) := by rw [List.map_map]; rfl
    rw [e]
    refine CLoop.map _ fun x hx => ?_
    obtain ⟨p, _, rfl⟩ := List.mem_map.mp hx
    exact ⟨_, _, fun _ _ _ _ _ => dg_name (i := 3) nd, by decide, fun _ _ _ _ _ => de_call k_parts_of hr (da_cons (de_var 0 rfl) (da_cons (de_var 3 rfl) da_nil)) ⟨m, p, rfl, hm, rfl⟩⟩
  refine dss_cons (ds_par (i := 4) (j := 5) (d1 := .int (normR m w)) (d2 := .int (overR m w)) (da_cons (de_sumL B.b_sum (ns := w.map fun p => (partsR m p).1) (de_lc (own := [("one", 6), ("two", 7)]) (di_lst (de_var 2 rfl)) ?_ (by rw [List.length_map]; exact hl _) nd (blkOk_by (N := ["manner", "week", "parts", "day", "normal", "over", "one", "two", "extra"]) (sc := defScope s_paid_of) (by decide +kernel)) rfl (fun _ => rfl) rfl)) (da_cons (de_sumL B.b_sum (ns := w.map fun p => (partsR m p).2) (de_lc (own := [("one", 6), ("two", 7)]) (di_lst (de_var 2 rfl)) ?_ (by rw [List.length_map]; exact hl _) nd (blkOk_by (N := ["manner", "week", "parts", "day", "normal", "over", "one", "two", "extra"]) (sc := defScope s_paid_of) (by decide +kernel)) rfl (fun _ => rfl) rfl)) da_nil)) nd) ?_
  · have e : (w.map fun p => (partsR m p).1).map D.int = (w.map fun p => pairD (partsR m p)).map (onPair fun q => .int q.1) := by rw [List.map_map, List.map_map]; rfl
    rw [e]
    refine CLoop.map _ fun x hx => ?_
    obtain ⟨p, _, rfl⟩ := List.mem_map.mp hx
    exact ⟨_, _, fun _ _ _ _ _ => dg_tup (dgs_cons (dg_name (i := 6) nd) (dgs_cons (dg_name (i := 7) nd) dgs_nil)) rfl, by decide, fun _ _ _ _ _ => de_var 6 rfl⟩
  · have e : (w.map fun p => (partsR m p).2).map D.int = (w.map fun p => pairD (partsR m p)).map (onPair fun q => .int q.2) := by rw [List.map_map, List.map_map]; rfl
    rw [e]
    refine CLoop.map _ fun x hx => ?_
    obtain ⟨p, _, rfl⟩ := List.mem_map.mp hx
    exact ⟨_, _, fun _ _ _ _ _ => dg_tup (dgs_cons (dg_name (i := 6) nd) (dgs_cons (dg_name (i := 7) nd) dgs_nil)) rfl, by decide, fun _ _ _ _ _ => de_var 7 rfl⟩
  refine dss_cons (ds_set (i := 8) (d := .int (extraR m.week (normR m w))) (de_ifP (dt_isN (de_ixT (de_var 0 rfl) de_int rfl)) (fun h => ?_) (fun h => ?_)) nd) ?_
  · cases hd : m.week with
    | none => exact de_int
    | some x => rw [hd] at h; cases h
  · cases hd : m.week with
    | none => rw [hd] at h; cases h
    | some x => exact de_max2 B.b_max (da_cons de_int (da_cons (de_sub (de_var 4 rfl) (de_ixT (de_var 0 rfl) de_int (by show some (optD m.week) = _; rw [hd]; rfl))) da_nil))
  exact dss_ret (de_add (de_add (de_mul de_int (de_var 4 rfl) (.inl ⟨by decide, by decide⟩)) (de_mul de_int (de_var 5 rfl) (.inl ⟨by decide, by decide⟩))) (de_var 8 rfl)) rfl (fun _ z => z)
theorem sc_best_days : FnScope ["one", "other", "weight", "found", "day", "first", "second", "gain"] ["one", "other", "weight"] (defScope s_best_days) := ⟨rfl, rfl, rfl, by decide +kernel, rfl, by decide +kernel, by decide +kernel⟩
theorem c_best_days (B : Bi K mg) (k_every_day : Cal P w K mg base "every_day" 1 (Pure R_every_day)) (k_all_parts : Cal P w K mg base "all_parts" 4 (Pure R_all_parts)) (C : Df K mg "best_days" s_best_days) : Cal P w K mg base "best_days" 5 (Pure R_best_days) := by
  refine cal_mk C (fun _ _ _ _ _ _ us hl => match us, hl with | [_, _, _], _ => rfl) fun f fd F => fn_ret F sc_best_days (fun ds μ d μ' h => by obtain ⟨_, _, _, _, _, rfl, _⟩ := h; rfl) (fun cdv A outer s H E b ds μ d μ' hr hR hb => ?_)
  obtain ⟨rfl, rfl, m, n, wt, rfl, hmn, rfl⟩ := hR
  have nd := sc_best_days.nd
  have hu := hr.units
  refine dss_newD (j := 3) (enc := encP pairD) (fun p hp => ?_) nd
  refine dss_forF daysR (fun p => .tup [pairD p, pairD (partsR m p), pairD (partsR n p)]) (fun t p => better t (partsR n p).1 (gainR m n wt p) p) [] (fun t ρ μ => (∃ y1 y2 y3 y4, ρ = [some m.d, some n.d, some (.int wt), some (.adr p), y1, y2, y3, y4]) ∧ μ = [(p, moE (encP pairD) (inK t))] ∧ DT_ t) PassesOwn.never ?_ ⟨⟨_, _, _, _, rfl⟩, rfl, DT_.nil⟩ (fun q hq t ρ μ hP => ?_) (fun ρ μ hP => ?_)
  · rw [← zipD3_map]
    exact di_zip3 B.b_zip (da_cons (de_call0 k_every_day (hr.mono (by decide)) ⟨rfl, rfl⟩) (da_cons ((de_call k_all_parts hr (da_cons (de_var 0 rfl) da_nil) ⟨m, rfl, hmn.1, rfl⟩).cast (by unfold allParts; rw [List.map_map]; rfl)) (da_cons ((de_call k_all_parts hr (da_cons (de_var 1 rfl) da_nil) ⟨n, rfl, hmn.2, rfl⟩).cast (by unfold allParts; rw [List.map_map]; rfl)) da_nil))) (by simp) (by simp)
  · obtain ⟨⟨y1, y2, y3, y4, rfl⟩, rfl, ht⟩ := hP
    have pr := parts_rng hmn.2 (mem_days hq)
    refine ⟨_, _, _, _, dg_tup (dgs_cons (dg_name (i := 4) nd) (dgs_cons (dg_name (i := 5) nd) (dgs_cons (dg_name (i := 6) nd) dgs_nil))) rfl, dss_cons (ds_set (i := 7) (d := .int (gainR m n wt q)) (de_add (de_sub (de_sub (de_add (de_mul de_int (de_ixT (de_var 5 rfl) de_int rfl) (.inl ⟨by decide, by decide⟩)) (de_mul de_int (de_ixT (de_var 5 rfl) de_int rfl) (.inl ⟨by decide, by decide⟩))) (de_mul de_int (de_ixT (de_var 6 rfl) de_int rfl) (.inl ⟨by decide, by decide⟩))) (de_mul de_int (de_ixT (de_var 6 rfl) de_int rfl) (.inl ⟨by decide, by decide⟩))) (de_mul (de_var 2 rfl) (de_ixT (de_var 5 rfl) de_int rfl) (.inr ⟨?_, ?_⟩))) nd) (dss_better (enc := pairD) (x := q) hu (de_ixT (de_var 6 rfl) de_int rfl) (de_ixT (de_var 6 rfl) de_int rfl) (de_ixT (de_var 6 rfl) de_int rfl) (de_var 3 rfl) (de_var 3 rfl) (de_var 3 rfl) (de_var 7 rfl) (da_cons (de_var 7 rfl) (da_cons (de_var 4 rfl) da_nil)) (by simp) (by have := ht.len; omega) dss_nil), ⟨_, _, _, _, rfl⟩, rfl, ht.better ⟨pr.1, pr.2.1⟩ hq⟩
    · have := (parts_rng hmn.1 (mem_days hq)).1; show -(2 ^ 64) < (partsR m q).1; omega
    · have := (parts_rng hmn.1 (mem_days hq)).2.1; show (partsR m q).1 < 2 ^ 64; omega
  · obtain ⟨⟨y1, y2, y3, y4, rfl⟩, rfl, ht⟩ := hP
    exact dss_lockD (.keep (.keep (.keep (.chg (.keep (.keep (.keep (.keep .nil)))))))) (by simp) (dss_ret (de_var 3 rfl) rfl (fun _ z => z))
theorem sc_best_weeks : FnScope ["found", "by_sum", "weeks", "turn", "later", "total", "amount", "week", "normal", "gain", "day", "key"] ["found", "by_sum"] (defScope s_best_weeks) := ⟨rfl, rfl, rfl, by decide +kernel, rfl, by decide +kernel, by decide +kernel⟩
theorem c_best_weeks (B : Bi K mg) (C : Df K mg "best_weeks" s_best_weeks) : Cal P w K mg base "best_weeks" 1 (Pure R_best_weeks) := by
  refine cal_mk C (fun _ _ _ _ _ _ us hl => match us, hl with | [_, _], _ => rfl) fun f fd F => fn_ret F sc_best_weeks (fun ds μ d μ' h => by obtain ⟨_, _, _, _, rfl, _⟩ := h; rfl) (fun cdv A outer s H E b ds μ d μ' hr hR hb => ?_)
  obtain ⟨rfl, rfl, t, bs, rfl, ht, rfl⟩ := hR
  have nd := sc_best_weeks.nd
  have hu := hr.units
  refine dss_cons (ds_set (i := 2) (de_disp1 (k := .inl 0) (a := ((0 : Int), ([] : Week))) (enc := encP weekD) de_int (de_tup (da_cons de_int (da_cons (de_tup da_nil) da_nil)))) nd) ?_
  refine dss_forI (xs := rgD 0 5) (P := fun i ρ μ => (∃ y1 y2 y3 y4 y5 y6 y7 y8 y9, ρ = [some (dctE (encP pairD) (inK t)), some (.bl bs), some (dctE (encP weekD) (inK (weekTab t bs i))), y1, y2, y3, y4, y5, y6, y7, y8, y9]) ∧ μ = []) PassesOwn.never (di_rg1 (i := 5) B.b_range (de_kint B.k_MOST_DAYS) (by decide)) ⟨⟨_, _, _, _, _, _, _, _, _, rfl⟩, rfl⟩ (fun i x ρ μ hx hP => ?_) (fun ρ μ hP => ?_)
  · obtain ⟨⟨y1, y2, y3, y4, y5, y6, y7, y8, y9, rfl⟩, rfl⟩ := hP
    have hi : i < 5 := by
      have := (List.getElem?_eq_some_iff.mp hx).1
      rw [rgD_len] at this
      exact this
    have hW := weekTab_ok (bs := bs) ht i
    have hwl := weekStep_ok (bs := bs) ht hW
    refine ⟨_, _, [some (dctE (encP pairD) (inK t)), some (.bl bs), some (dctE (encP weekD) (inK (weekTab t bs (i + 1)))), none, none, none, none, none, none, none, none, none], [], dg_name (i := 3) nd, ?_, ⟨_, _, _, _, _, _, _, _, _, rfl⟩, rfl⟩
    refine dss_newC (j := 4) (enc := encP weekD) (kd := inK (weekTab t bs i)) B.b_dict (de_var 2 rfl) (fun p hp => ?_) nd
    refine dss_forF (weekTab t bs i) (fun e => .tup [.int e.1, encP weekD e.2]) (fun later e => t.foldl (fun later f => better later (if bs then e.1 + f.1 else 0) (e.2.1 + f.2.1) (e.2.2 ++ [f.2.2])) later) (weekTab t bs i) (fun s ρ μ => (∃ y1 y2 y3 y4 y5 y6 y7 y8, ρ = [some (dctE (encP pairD) (inK t)), some (.bl bs), some (dctE (encP weekD) (inK (weekTab t bs i))), y1, some (.adr p), y2, y3, y4, y5, y6, y7, y8]) ∧ μ = [(p, moE (encP weekD) (inK s))] ∧ WT_ (i + 1) s) PassesOwn.never ?_ ⟨⟨_, _, _, _, _, _, _, _, rfl⟩, rfl, hW.mono (by omega)⟩ (fun e he s ρ μ hP => ?_) (fun ρ μ hP => ?_)
    · rw [← items_inK (encP weekD)]
      exact di_items (de_var 2 rfl)
    · obtain ⟨⟨y1, y2, y3, y4, y5, y6, y7, y8, rfl⟩, rfl, hs⟩ := hP
      obtain ⟨a1, a2, a3, a4⟩ := hW.rg e he
      refine ⟨_, _, [some (dctE (encP pairD) (inK t)), some (.bl bs), some (dctE (encP weekD) (inK (weekTab t bs i))), y1, some (.adr p), none, none, none, none, none, none, none], _, dg_tup (dgs_cons (dg_name (i := 5) nd) (dgs_cons (dg_tup (dgs_cons (dg_name (i := 6) nd) (dgs_cons (dg_name (i := 7) nd) dgs_nil)) rfl) dgs_nil)) rfl, ?_, ⟨_, _, _, _, _, _, _, _, rfl⟩, rfl, ?_⟩
      · refine dss_forF t (fun f => .tup [.int f.1, encP pairD f.2]) (fun later f => better later (if bs then e.1 + f.1 else 0) (e.2.1 + f.2.1) (e.2.2 ++ [f.2.2])) s (fun s ρ μ => (∃ y5 y6 y7 y8, ρ = [some (dctE (encP pairD) (inK t)), some (.bl bs), some (dctE (encP weekD) (inK (weekTab t bs i))), y1, some (.adr p), some (.int e.1), some (.int e.2.1), some (weekD e.2.2), y5, y6, y7, y8]) ∧ μ = [(p, moE (encP weekD) (inK s))] ∧ WT_ (i + 1) s) PassesOwn.never ?_ ⟨⟨_, _, _, _, rfl⟩, rfl, hs⟩ (fun f hf s ρ μ hP => ?_) (fun ρ μ hP => ?_)
        · rw [← items_inK (encP pairD)]
          exact di_items (de_var 0 rfl)
        · obtain ⟨⟨y5, y6, y7, y8, rfl⟩, rfl, hs⟩ := hP
          obtain ⟨b1, b2, b3⟩ := ht.rg f hf
          refine ⟨_, _, _, _, dg_tup (dgs_cons (dg_name (i := 8) nd) (dgs_cons (dg_tup (dgs_cons (dg_name (i := 9) nd) (dgs_cons (dg_name (i := 10) nd) dgs_nil)) rfl) dgs_nil)) rfl, dss_cons (ds_set (i := 11) (d := .int (if bs then e.1 + f.1 else 0)) (de_ifP (dt_val (de_var 1 rfl)) (fun h => ?_) (fun h => ?_)) nd) (dss_better (enc := weekD) (x := e.2.2 ++ [f.2.2]) hu (de_var 11 rfl) (de_var 11 rfl) (de_var 11 rfl) (de_var 4 rfl) (de_var 4 rfl) (de_var 4 rfl) (de_add (de_var 6 rfl) (de_var 9 rfl)) (da_cons (de_add (de_var 6 rfl) (de_var 9 rfl)) (da_cons ((de_catT (de_var 7 rfl) (de_tup (da_cons (de_var 10 rfl) da_nil)) (by simp; omega)).cast (weekD_app _ _)) da_nil)) (by simp) (by have := hs.len; omega) dss_nil), ⟨_, _, _, _, rfl⟩, rfl, ?_⟩
          · rw [h]; exact de_add (de_var 5 rfl) (de_var 8 rfl)
          · rw [h]; exact de_int
          · refine hs.better (key_step ⟨a1, a2⟩ ⟨b1, b2⟩) ⟨by simp; omega, fun q hq => ?_⟩
            rcases List.mem_append.mp hq with hq | hq
            · exact a4 q hq
            · have : q = f.2.2 := by simpa using hq
              rw [this]; exact b3
        · obtain ⟨⟨y5, y6, y7, y8, rfl⟩, rfl, hs⟩ := hP
          exact dss_drop (a := p) (new := .adr p) (.keep (.keep (.keep (.keep (.keep (.drop (.drop (.drop (.drop (.drop (.drop (.drop .nil)))))))))))) dss_nil
      · exact fold_inv hs fun f hf s hs => by
          obtain ⟨b1, b2, b3⟩ := ht.rg f hf
          refine hs.better (key_step ⟨a1, a2⟩ ⟨b1, b2⟩) ⟨by simp; omega, fun q hq => ?_⟩
          rcases List.mem_append.mp hq with hq | hq
          · exact a4 q hq
          · have : q = f.2.2 := by simpa using hq
            rw [this]; exact b3
    · obtain ⟨⟨y1, y2, y3, y4, y5, y6, y7, y8, rfl⟩, rfl, hs⟩ := hP
      refine dss_cons (ds_set (i := 2) (de_var 4 rfl) nd) ?_
      exact dss_lockD (.keep (.keep (.chg (.drop (.drop (.drop (.drop (.drop (.drop (.drop (.drop (.drop .nil)))))))))))) (by simp) dss_nil
  · obtain ⟨⟨y1, y2, y3, y4, y5, y6, y7, y8, y9, rfl⟩, rfl⟩ := hP
    exact dss_ret (de_var 2 rfl) rfl (fun _ z => z)
theorem sc_lead_of : FnScope ["one", "other", "best", "weight", "weeks", "total", "amount", "week", "lead"] ["one", "other"] (defScope s_lead_of) := ⟨rfl, rfl, rfl, by decide +kernel, rfl, by decide +kernel, by decide +kernel⟩
theorem c_lead_of (B : Bi K mg) (k_best_days : Cal P w K mg base "best_days" 5 (Pure R_best_days)) (k_best_weeks : Cal P w K mg base "best_weeks" 1 (Pure R_best_weeks)) (k_paid_of : Cal P w K mg base "paid_of" 4 (Pure R_paid_of)) (C : Df K mg "lead_of" s_lead_of) : Cal P w K mg base "lead_of" 6 (Pure R_lead_of) := by
  refine cal_mk C (fun _ _ _ _ _ _ us hl => match us, hl with | [_, _], _ => rfl) fun f fd F => fn_ret F sc_lead_of (fun ds μ d μ' h => by obtain ⟨_, _, _, _, rfl, _⟩ := h; rfl) (fun cdv A outer s H E b ds μ d μ' hr hR hb => ?_)
  obtain ⟨rfl, rfl, m, n, rfl, hmn, rfl⟩ := hR
  have nd := sc_lead_of.nd
  have ew : ∀ o : Option Int, D.bl (!(optD o).isNon) = .bl o.isSome := fun o => by cases o <;> rfl
  refine dss_cons (ds_set (i := 2) (d := .tup [.int (0, ([] : Week)).1, weekD (0, ([] : Week)).2]) (de_tup (da_cons de_int (da_cons (de_tup da_nil) da_nil))) nd) ?_
  refine dss_forF (wtsR m.week) D.int (fun best wt => (weekTab (bestDaysR m n wt) n.week.isSome 5).foldl (leadStep m n) best) ((0 : Int), ([] : Week)) (fun s ρ μ => (∃ y1 y2 y3 y4 y5 y6, ρ = [some m.d, some n.d, some (.tup [.int s.1, weekD s.2]), y1, y2, y3, y4, y5, y6]) ∧ μ = []) PassesOwn.never (di_tup (de_ifP (dt_isN (de_ixT (de_var 0 rfl) de_int rfl)) (fun h => ?_) (fun h => ?_))) ⟨⟨_, _, _, _, _, _, rfl⟩, rfl⟩ (fun wt hwt s ρ μ hP => ?_) (fun ρ μ hP => ?_)
  · cases hd : m.week with
    | none => exact de_tup (da_cons de_int da_nil) (by simp [wtsR])
    | some x => rw [hd] at h; cases h
  · cases hd : m.week with
    | none => rw [hd] at h; cases h
    | some x => exact de_tup (da_cons de_int (da_cons de_int da_nil)) (by simp [wtsR])
  · obtain ⟨⟨y1, y2, y3, y4, y5, y6, rfl⟩, rfl⟩ := hP
    refine ⟨_, _, [some m.d, some n.d, some (.tup [.int ((weekTab (bestDaysR m n wt) n.week.isSome 5).foldl (leadStep m n) s).1, weekD ((weekTab (bestDaysR m n wt) n.week.isSome 5).foldl (leadStep m n) s).2]), none, none, none, none, none, none], [], dg_name (i := 3) nd, ?_, ⟨_, _, _, _, _, _, rfl⟩, rfl⟩
    refine dss_cons (ds_set (i := 4) (de_call k_best_weeks (hr.mono (by decide)) (da_cons (de_call k_best_days hr (da_cons (de_var 0 rfl) (da_cons (de_var 1 rfl) (da_cons (de_var 3 rfl) da_nil))) ⟨m, n, wt, rfl, hmn, rfl⟩) (da_cons ((de_notN (de_ixT (de_var 1 rfl) de_int rfl)).cast (ew n.week)) da_nil)) ⟨bestDaysR m n wt, n.week.isSome, rfl, bestDays_ok hmn.2, rfl⟩) nd) ?_
    refine dss_forF (weekTab (bestDaysR m n wt) n.week.isSome 5) (fun e => .tup [.int e.1, encP weekD e.2]) (leadStep m n) s (fun s ρ μ => (∃ y1 y2 y3 y4 y5 y6, ρ = [some m.d, some n.d, some (.tup [.int s.1, weekD s.2]), y1, y2, y3, y4, y5, y6]) ∧ μ = []) PassesOwn.never ?_ ⟨⟨_, _, _, _, _, _, rfl⟩, rfl⟩ (fun e he s ρ μ hP => ?_) (fun ρ μ hP => ?_)
    · rw [← items_inK (encP weekD)]
      exact di_items (de_var 4 rfl)
    · obtain ⟨⟨y1, y2, y3, y4, y5, y6, rfl⟩, rfl⟩ := hP
      have rg := (weekTab_ok (bs := n.week.isSome) (bestDays_ok (m := m) hmn.2 (wt := wt)) 5).rg e he
      have hl : e.2.2.length ≤ 1000 := Nat.le_trans rg.2.2.1 (by decide)
      refine ⟨_, _, [some m.d, some n.d, some (.tup [.int (leadStep m n s e).1, weekD (leadStep m n s e).2]), none, none, none, none, none, none], [], dg_tup (dgs_cons (dg_name (i := 5) nd) (dgs_cons (dg_tup (dgs_cons (dg_name (i := 6) nd) (dgs_cons (dg_name (i := 7) nd) dgs_nil)) rfl) dgs_nil)) rfl, ?_, ⟨_, _, _, _, _, _, rfl⟩, rfl⟩
      refine dss_cons (ds_set (i := 8) (de_sub (de_call k_paid_of (hr.mono (by decide)) (da_cons (de_var 0 rfl) (da_cons (de_var 7 rfl) da_nil)) ⟨m, e.2.2, rfl, hmn.1, hl, rfl⟩) (de_call k_paid_of (hr.mono (by decide)) (da_cons (de_var 1 rfl) (da_cons (de_var 7 rfl) da_nil)) ⟨n, e.2.2, rfl, hmn.2, hl, rfl⟩)) nd) ?_
      refine dss_if (dt_gt (de_var 8 rfl) (de_ixT (de_var 2 rfl) de_int rfl)) (fun h => .go (dss_one (ds_set (i := 2) (de_tup (da_cons (de_var 8 rfl) (da_cons (de_var 7 rfl) da_nil))) nd)) ?_) (fun h => .go dss_nil ?_)
      · have e1 : leadStep m n s e = (paidR m e.2.2 - paidR n e.2.2, e.2.2) := if_pos (of_decide_eq_true h)
        rw [e1]
        exact dss_drop (a := 0) (new := .adr 0) (.keep (.keep (.keep (.drop (.drop (.drop (.drop (.drop (.drop .nil))))))))) dss_nil
      · have e1 : leadStep m n s e = s := if_neg (of_decide_eq_false h)
        rw [e1]
        exact dss_drop (a := 0) (new := .adr 0) (.keep (.keep (.keep (.drop (.drop (.drop (.drop (.drop (.drop .nil))))))))) dss_nil
    · obtain ⟨⟨y1, y2, y3, y4, y5, y6, rfl⟩, rfl⟩ := hP
      exact dss_drop (a := 0) (new := .adr 0) (.keep (.keep (.keep (.drop (.drop (.drop (.drop (.drop (.drop .nil))))))))) dss_nil
  · obtain ⟨⟨y1, y2, y3, y4, y5, y6, rfl⟩, rfl⟩ := hP
    exact dss_ret (de_var 2 rfl) rfl (fun _ z => z)
theorem sc_greatest_lead : FnScope ["one", "other"] ["one", "other"] (defScope s_greatest_lead) := ⟨rfl, rfl, rfl, by decide +kernel, rfl, by decide +kernel, by decide +kernel⟩
theorem c_greatest_lead (B : Bi K mg) (k_need_manners : Cal P w K mg base "need_manners" 5 (Pure R_need_manners)) (k_lead_of : Cal P w K mg base "lead_of" 6 (Pure R_lead_of)) (C : Df K mg "greatest_lead" s_greatest_lead) : Cal P w K mg base "greatest_lead" 7 (Pure R_greatest_lead) := by
  refine cal_mk C (fun _ _ _ _ _ _ us hl => match us, hl with | [_, _], _ => rfl) fun f fd F => fn_ret F sc_greatest_lead (fun ds μ d μ' h => by obtain ⟨_, _, _, _, rfl, _⟩ := h; rfl) (fun cdv A outer s H E b ds μ d μ' hr hR hb => ?_)
  obtain ⟨rfl, rfl, m, n, rfl, hmn, rfl⟩ := hR
  have nd := sc_greatest_lead.nd
  refine dss_cons (ds_drop (de_call k_need_manners (hr.mono (by decide)) (da_cons (de_var 0 rfl) (da_cons (de_var 1 rfl) da_nil)) ⟨m, n, rfl, hmn, rfl⟩)) ?_
  exact dss_ret (de_ixT (de_call k_lead_of hr (da_cons (de_var 0 rfl) (da_cons (de_var 1 rfl) da_nil)) ⟨m, n, rfl, hmn, rfl⟩) de_int rfl) rfl (fun _ z => z)
end
end CC


/-! The walk of the laws' deck. -/
namespace CC
open PySem PySem.Spec PyProof.Rows L2 PD
def R_law_deck : List D → MO → Prop := fun ds m => ∃ cell turn, ds = [.int cell, .int turn] ∧ m = (deckR cell turn).mo
def R_law_pick : List D → Addr → MO → D → MO → Prop := fun ds a m d m' => ∃ k lim, ds = [.adr a, .int lim] ∧ (k.Ok 1000000 ∧ 0 < lim ∧ lim < 1073741824) ∧ m = k.mo ∧ d = .int (pickR k lim).1 ∧ m' = (pickR k lim).2.mo
def R_law_rounding : List D → Addr → MO → D → MO → Prop := fun ds a m d m' => ∃ k, ds = [.adr a] ∧ k.Ok 900000 ∧ m = k.mo ∧ d = (roundR k).1.d ∧ m' = (roundR k).2.mo
def R_law_manner : List D → Addr → MO → D → MO → Prop := fun ds a m d m' => ∃ k, ds = [.adr a] ∧ k.Ok 800000 ∧ m = k.mo ∧ d = (mannerR k).1.d ∧ m' = (mannerR k).2.mo
theorem pow_ok {i : Int} (h : -(2 ^ 63) < i ∧ i < 2 ^ 63) : ∀ j : Int, 0 ≤ j → j ≤ 1000000 → CPow i j := fun j h1 h2 => ⟨h1, h2, by omega⟩
section
variable {P : Program} {w : World} {K : PySem.W.Frag} {mg : Str → Option Value} {base : Heap}
theorem sc_law_deck : FnScope ["_law_cell", "_law_turn"] ["_law_cell", "_law_turn"] (defScope s_law_deck) := ⟨rfl, rfl, rfl, by decide +kernel, rfl, by decide +kernel, by decide +kernel⟩
theorem c_law_deck (B : Bi K mg) (C : Df K mg "_law_deck" s_law_deck) : CalN P w K mg base "_law_deck" 1 R_law_deck := by
  refine calN_mk C (fun _ _ _ _ _ _ us hl => match us, hl with | [_, _], _ => rfl) fun f fd F => fn_new F sc_law_deck (fun ds m h => by obtain ⟨_, _, rfl, _⟩ := h; rfl) (fun cdv A outer s H E ds m hr hR => ?_)
  obtain ⟨cell, turn, rfl, rfl⟩ := hR
  refine dsn_if (dt_ge (de_var 0 rfl) (de_pow de_int de_int ⟨by decide, by decide, by decide⟩)) (fun h => ?_) (fun h => ?_)
  · have e : deckR cell turn = ⟨cell - 10 ^ 18, cell % 2147483579, turn⟩ := if_pos (of_decide_eq_true h)
    rw [e]
    exact dsn_ret (da_cons (de_sub (de_var 0 rfl) (de_pow de_int de_int ⟨by decide, by decide, by decide⟩)) (da_cons (de_mod (de_intI B.b_int (de_var 0 rfl)) de_int (by decide)) (da_cons (de_var 1 rfl) da_nil)))
  · have e : deckR cell turn = ⟨0, cell % 2147483579, turn⟩ := if_neg (of_decide_eq_false h)
    rw [e]
    exact dsn_ret (da_cons de_int (da_cons (de_mod (de_intI B.b_int (de_var 0 rfl)) de_int (by decide)) (da_cons (de_var 1 rfl) da_nil)))
theorem sc_law_pick : FnScope ["_law_deck_here", "_law_limit", "_law_found", "_law_number"] ["_law_deck_here", "_law_limit"] (defScope s_law_pick) := ⟨rfl, rfl, rfl, by decide +kernel, rfl, by decide +kernel, by decide +kernel⟩
theorem c_law_pick (B : Bi K mg) (C : Df K mg "_law_pick" s_law_pick) : Cal P w K mg base "_law_pick" 1 (One R_law_pick) := by
  refine cal_mk C (fun _ _ _ _ _ _ us hl => match us, hl with | [_, _], _ => rfl) fun f fd F => fn_ret F sc_law_pick (fun ds μ d μ' h => by obtain ⟨_, _, _, _, _, _, _, rfl, _⟩ := h; rfl) (fun cdv A outer s H E b ds μ d μ' hr hR hb => ?_)
  obtain ⟨adr, m0, m1, rfl, rfl, k, lim, rfl, ⟨hk, hl⟩, rfl, rfl, rfl⟩ := hR
  have nd := sc_law_pick.nd
  have hm : (adr, MO.l [.int k.c, .int k.n, .int k.t]) ∈ [(adr, MO.l [.int k.c, .int k.n, .int k.t])] := List.mem_cons_self
  obtain ⟨⟨n0, n1⟩, t0, t1⟩ := hk
  refine dss_if (dt_gt (de_ixM (d := .int k.c) (de_var 0 rfl) de_int hm rfl) de_int) (fun h => ?_) (fun h => .go dss_nil ?_)
  · have e : pickR k lim = (k.c % lim, ⟨k.c / lim, k.n, k.t⟩) := if_pos (of_decide_eq_true h)
    rw [e]
    refine .stop (dss_cons (ds_set (i := 2) (de_mod (de_intI B.b_int (de_ixM (d := .int k.c) (de_var 0 rfl) de_int hm rfl)) (de_var 1 rfl) hl.1) nd) (dss_cons (ds_lput (j := 0) (de_fdiv (de_ixM (d := .int k.c) (de_var 0 rfl) de_int hm rfl) (de_var 1 rfl) hl) (de_var 0 rfl) de_int rfl (by simp)) (dss_ret (de_var 2 rfl) rfl (fun _ z => z)))) rfl
  · have e : pickR k lim = (num2 k % lim, ⟨k.c, k.n, k.t + 1⟩) := if_neg (of_decide_eq_false h)
    rw [e]
    have r1 := num1_rng k
    refine dss_cons (ds_lput (j := 2) (de_add (de_ixM (d := .int k.t) (de_var 0 rfl) de_int hm rfl) de_int) (de_var 0 rfl) de_int rfl (by simp)) ?_
    have hm2 : (adr, MO.l [.int k.c, .int k.n, .int (k.t + 1)]) ∈ [(adr, MO.l [.int k.c, .int k.n, .int (k.t + 1)])] := List.mem_cons_self
    refine dss_cons (ds_set (i := 3) (d := .int (num1 k)) (de_mod (de_intI B.b_int (de_pow (de_intI B.b_int (de_add (de_ixM (d := .int k.n) (de_var 0 rfl) de_int hm2 rfl) (de_mul de_int (de_ixM (d := .int (k.t + 1)) (de_var 0 rfl) de_int hm2 rfl) (.inl ⟨by decide, by decide⟩)))) de_int (pow_ok (by omega) _ (by decide) (by decide)))) de_int (by decide)) nd) ?_
    refine dss_cons (ds_set (i := 2) (d := .int (num2 k)) (de_fdiv (de_mod (de_intI B.b_int (de_pow (de_intI B.b_int (de_add (de_var 3 rfl) (de_mul de_int (de_ixM (d := .int (k.t + 1)) (de_var 0 rfl) de_int hm2 rfl) (.inl ⟨by decide, by decide⟩)))) de_int (pow_ok (by omega) _ (by decide) (by decide)))) de_int (by decide)) de_int (by decide)) nd) ?_
    exact dss_ret (de_mod (de_intI B.b_int (de_var 2 rfl)) (de_var 1 rfl) hl.1) rfl (fun _ z => z)
theorem sc_law_rounding : FnScope ["_law_deck_here", "_law_step"] ["_law_deck_here"] (defScope s_law_rounding) := ⟨rfl, rfl, rfl, by decide +kernel, rfl, by decide +kernel, by decide +kernel⟩
theorem c_law_rounding (B : Bi K mg) (k_law_pick : Cal P w K mg base "_law_pick" 1 (One R_law_pick)) (C : Df K mg "_law_rounding" s_law_rounding) : Cal P w K mg base "_law_rounding" 2 (One R_law_rounding) := by
  refine cal_mk C (fun _ _ _ _ _ _ us hl => match us, hl with | [_], _ => rfl) fun f fd F => fn_ret F sc_law_rounding (fun ds μ d μ' h => by obtain ⟨_, _, _, _, _, _, rfl, _⟩ := h; rfl) (fun cdv A outer s H E b ds μ d μ' hr hR hb => ?_)
  obtain ⟨adr, m0, m1, rfl, rfl, k, rfl, hk, rfl, rfl, rfl⟩ := hR
  have nd := sc_law_rounding.nd
  have p1 := pick_rng (k := k) (lim := 7) (by decide)
  have p2 := pick_rng (k := (pickR k 7).2) (lim := 3) (by decide)
  have s1 : stepsL.getD (pickR k 7).1.toNat 1 ∈ stepsL := getD_mem (by show _ < 7; omega)
  have sp := steps_pos s1
  have k1 := pick_ok (lim := 7) hk
  have k2 := pick_ok (lim := 3) k1
  refine dss_cons (ds_set (i := 1) (de_ixL (l := stepsL.map D.int) (de_lst (da_cons de_int (da_cons de_int (da_cons de_int (da_cons de_int (da_cons de_int (da_cons de_int (da_cons de_int da_nil))))))) (by decide)) (de_call1 k_law_pick hr (da_cons (de_var 0 rfl) (da_cons de_int da_nil)) ⟨k, 7, rfl, ⟨hk.mono (by decide), by decide, by decide⟩, rfl, rfl, rfl⟩ (by simp)) (getD_at (d := 1) D.int p1)) nd) ?_
  exact dss_ret (de_tup (da_cons (de_var 1 rfl) (da_cons (de_ixL (l := sidesL.map D.str) (de_lst (da_cons de_str (da_cons de_str (da_cons de_str da_nil))) (by decide)) (de_call1 k_law_pick hr (da_cons (de_var 0 rfl) (da_cons de_int da_nil)) ⟨(pickR k 7).2, 3, rfl, ⟨k1.mono (by decide), by decide, by decide⟩, rfl, rfl, rfl⟩ (by simp)) (getD_at (α := Str) (d := "down") D.str p2)) (da_cons (de_call1 k_law_pick hr (da_cons (de_var 0 rfl) (da_cons (de_var 1 rfl) da_nil)) ⟨(pickR (pickR k 7).2 3).2, stepsL.getD (pickR k 7).1.toNat 1, rfl, ⟨k2.mono (by decide), sp.1, by omega⟩, rfl, rfl, rfl⟩ (by simp)) da_nil)))) rfl (fun _ z => z)
theorem sc_law_manner : FnScope ["_law_deck_here", "_law_breaks", "_law_start", "_law_turn", "_law_limit", "_law_most"] ["_law_deck_here"] (defScope s_law_manner) := ⟨rfl, rfl, rfl, by decide +kernel, rfl, by decide +kernel, by decide +kernel⟩
theorem c_law_manner (B : Bi K mg) (k_law_pick : Cal P w K mg base "_law_pick" 1 (One R_law_pick)) (k_law_rounding : Cal P w K mg base "_law_rounding" 2 (One R_law_rounding)) (C : Df K mg "_law_manner" s_law_manner) : Cal P w K mg base "_law_manner" 3 (One R_law_manner) := by
  refine cal_mk C (fun _ _ _ _ _ _ us hl => match us, hl with | [_], _ => rfl) fun f fd F => fn_ret F sc_law_manner (fun ds μ d μ' h => by obtain ⟨_, _, _, _, _, _, rfl, _⟩ := h; rfl) (fun cdv A outer s H E b ds μ d μ' hr hR hb => ?_)
  obtain ⟨adr, m0, m1, rfl, rfl, k, rfl, hk, rfl, rfl, rfl⟩ := hR
  have nd := sc_law_manner.nd
  have p := pick_rng (k := k) (lim := 3) (by decide)
  have k0 := pick_ok (lim := 3) hk
  have bk := brk_it k0
  have hr1 := hr.mono (j := 1) (by decide)
  refine dss_cons (ds_asg (de_tup (da_cons (de_tup da_nil) (da_cons de_int da_nil))) (dg_tup (dgs_cons (dg_name (i := 1) nd) (dgs_cons (dg_name (i := 2) nd) dgs_nil)) rfl)) ?_
  refine dss_forI (P := fun i ρ μ => (∃ y1 y2 y3, ρ = [some (.adr adr), some (.tup ((brkIt (pickR k 3).2 i).1.map pairD)), some (.int (brkIt (pickR k 3).2 i).2.1), y1, y2, y3]) ∧ μ = [(adr, (brkIt (pickR k 3).2 i).2.2.mo)]) PassesOwn.never (di_rg1 B.b_range (de_call1 k_law_pick hr1 (da_cons (de_var 0 rfl) (da_cons de_int da_nil)) ⟨k, 3, rfl, ⟨hk.mono (by decide), by decide, by decide⟩, rfl, rfl, rfl⟩ (by simp)) (by omega)) ⟨⟨_, _, _, rfl⟩, rfl⟩ (fun i x ρ μ hx hP => ?_) (fun ρ μ hP => ?_)
  · obtain ⟨⟨y1, y2, y3, rfl⟩, rfl⟩ := hP
    have hi : i < (pickR k 3).1.toNat := by
      have := (List.getElem?_eq_some_iff.mp hx).1
      rw [rgD_len] at this
      exact this
    have b := bk i
    have b5 := b.k
    have q1 := pick_rng (k := (brkIt (pickR k 3).2 i).2.2) (lim := 40) (by decide)
    have b6 := pick_ok (lim := 40) b5
    refine ⟨_, _, _, _, dg_name (i := 3) nd, dss_cons (ds_set (i := 2) (de_add (de_add (de_var 2 rfl) de_int) (de_call1 k_law_pick hr1 (da_cons (de_var 0 rfl) (da_cons de_int da_nil)) ⟨(brkIt (pickR k 3).2 i).2.2, 40, rfl, ⟨b5.mono (by omega), by decide, by decide⟩, rfl, rfl, rfl⟩ (by simp))) nd) (dss_one (ds_set (i := 1) (d := .tup ((brkIt (pickR k 3).2 (i + 1)).1.map pairD)) ((de_catT (de_var 1 rfl) (de_tup (da_cons (de_tup (da_cons (de_var 2 rfl) (da_cons (de_add de_int (de_call1 k_law_pick hr1 (da_cons (de_var 0 rfl) (da_cons de_int da_nil)) ⟨(pickR (brkIt (pickR k 3).2 i).2.2 40).2, 8, rfl, ⟨b6.mono (by omega), by decide, by decide⟩, rfl, rfl, rfl⟩ (by simp))) da_nil))) da_nil)) (by rw [List.length_map, b.len]; simp; omega)).cast ?_) nd)), ⟨_, _, _, rfl⟩, rfl⟩
    show _ = D.tup (((brkIt (pickR k 3).2 i).1 ++ [((brkIt (pickR k 3).2 i).2.1 + 1 + (pickR (brkIt (pickR k 3).2 i).2.2 40).1, 1 + (pickR (pickR (brkIt (pickR k 3).2 i).2.2 40).2 8).1)]).map pairD)
    rw [List.map_append]
    rfl
  · rw [rgD_len] at hP
    obtain ⟨⟨y1, y2, y3, rfl⟩, rfl⟩ := hP
    have b := bk (pickR k 3).1.toNat
    have b5 := b.k
    generalize hs : brkIt (pickR k 3).2 (pickR k 3).1.toNat = s at b b5 ⊢
    have o1 := opt_ok (hi := 60) b5 (by decide)
    have o2 := opt_ok (hi := 300) o1.2 (by decide)
    have r1 := round_ok o2.2
    have eM : mannerR k = (⟨(roundR (optR (optR s.2.2 60).2 300).2).1, (roundR (roundR (optR (optR s.2.2 60).2 300).2).2).1, s.1, (optR s.2.2 60).1, (optR (optR s.2.2 60).2 300).1⟩, (roundR (roundR (optR (optR s.2.2 60).2 300).2).2).2) := by
      rw [← hs]; rfl
    rw [eM]
    have q1 := pick_rng (k := s.2.2) (lim := 2) (by decide)
    have kA := pick_ok (lim := 2) b5
    have kB := pick_ok (lim := 60) kA
    refine dss_cons (ds_set (i := 4) (μ1 := [(adr, (optR s.2.2 60).2.mo)]) (d := optD (optR s.2.2 60).1) (de_if (dt_eqI (de_call1 k_law_pick hr1 (da_cons (de_var 0 rfl) (da_cons de_int da_nil)) ⟨s.2.2, 2, rfl, ⟨b5.mono (by omega), by decide, by decide⟩, rfl, rfl, rfl⟩ (by simp)) de_int) (fun h => ?_) (fun h => ?_)) nd) ?_
    · have e : optR s.2.2 60 = (none, (pickR s.2.2 2).2) := if_pos (of_decide_eq_true h)
      rw [e]
      exact de_non
    · have e : optR s.2.2 60 = (some (1 + (pickR (pickR s.2.2 2).2 60).1), (pickR (pickR s.2.2 2).2 60).2) := if_neg (of_decide_eq_false h)
      rw [e]
      exact de_add de_int (de_call1 k_law_pick hr1 (da_cons (de_var 0 rfl) (da_cons de_int da_nil)) ⟨(pickR s.2.2 2).2, 60, rfl, ⟨kA.mono (by omega), by decide, by decide⟩, rfl, rfl, rfl⟩ (by simp))
    have o12 := o1.2
    generalize (optR s.2.2 60) = u at o1 o12 o2 r1 ⊢
    have kC := pick_ok (lim := 2) o12
    refine dss_cons (ds_set (i := 5) (μ1 := [(adr, (optR u.2 300).2.mo)]) (d := optD (optR u.2 300).1) (de_if (dt_eqI (de_call1 k_law_pick hr1 (da_cons (de_var 0 rfl) (da_cons de_int da_nil)) ⟨u.2, 2, rfl, ⟨o12.mono (by omega), by decide, by decide⟩, rfl, rfl, rfl⟩ (by simp)) de_int) (fun h => ?_) (fun h => ?_)) nd) ?_
    · have e : optR u.2 300 = (none, (pickR u.2 2).2) := if_pos (of_decide_eq_true h)
      rw [e]
      exact de_non
    · have e : optR u.2 300 = (some (1 + (pickR (pickR u.2 2).2 300).1), (pickR (pickR u.2 2).2 300).2) := if_neg (of_decide_eq_false h)
      rw [e]
      exact de_add de_int (de_call1 k_law_pick hr1 (da_cons (de_var 0 rfl) (da_cons de_int da_nil)) ⟨(pickR u.2 2).2, 300, rfl, ⟨kC.mono (by omega), by decide, by decide⟩, rfl, rfl, rfl⟩ (by simp))
    exact dss_ret (de_tup (da_cons (de_call1 k_law_rounding hr (da_cons (de_var 0 rfl) da_nil) ⟨(optR u.2 300).2, rfl, o2.2.mono (by omega), rfl, rfl, rfl⟩ (by simp)) (da_cons (de_call1 k_law_rounding hr (da_cons (de_var 0 rfl) da_nil) ⟨(roundR (optR u.2 300).2).2, rfl, r1.2.mono (by omega), rfl, rfl, rfl⟩ (by simp)) (da_cons (de_var 1 rfl) (da_cons (de_var 4 rfl) (da_cons (de_var 5 rfl) da_nil)))))) rfl (fun _ z => z)
end
end CC


/-! The walk of the laws' own reckoning. -/
namespace CC
open PySem PySem.Spec PyProof.Rows L2 PD
def R_law_one : List D → Addr → MO → D → MO → Prop := fun ds a m d m' => ∃ k l x, ds = [.adr a, .lst l] ∧ (k.Ok 900000 ∧ 0 < l.length ∧ l.length < 1000 ∧ atI l (pickR k l.length).1 = some x) ∧ m = k.mo ∧ d = x ∧ m' = (pickR k l.length).2.mo
def R_law_punch : List D → D → Prop := fun ds d => ∃ r t bb, ds = [Rd.d r, .int t, .bl bb] ∧ r.Ok ∧ d = .int (punchR r t bb)
def R_law_split : List D → D → Prop := fun ds d => ∃ m q, ds = [Mn.d m, .int q] ∧ m.Ok ∧ d = pairD (splitR m q)
def R_law_splits : List D → D → Prop := fun ds d => ∃ m, ds = [Mn.d m] ∧ m.Ok ∧ d = .lst ((allParts m).map pairD)
theorem leftL_none {q : Int} : ∀ {l : List (Int × Int)}, l.all (fun p => !decide (p.1 ≤ q)) = true → leftL l q = q
  | [], _ => rfl
  | p :: l, h => by
    rw [List.all_cons, Bool.and_eq_true] at h
    have h1 : ¬ p.1 ≤ q := by simpa using h.1
    show (if decide (p.1 ≤ q) = true then _ else leftL l q) = q
    rw [if_neg (by simpa using h1)]
    exact leftL_none h.2
theorem leftL_at {q : Int} {p : Int × Int} (hp : p.1 ≤ q) : ∀ {l : List (Int × Int)} {k : Nat}, l[k]? = some p → (∀ j y, j < k → l[j]? = some y → (!decide (y.1 ≤ q)) = true) → leftL l q = if decide (p.2 < q) = true then q - p.2 else 0
  | [], _, h, _ => by simp at h
  | a :: l, 0, h, _ => by
    have : a = p := by simpa using h
    subst this
    show (if decide (a.1 ≤ q) = true then _ else leftL l q) = _
    rw [if_pos (by simpa using hp)]
  | a :: l, k + 1, h, hb => by
    have h1 : ¬ a.1 ≤ q := by simpa using hb 0 a (by omega) rfl
    show (if decide (a.1 ≤ q) = true then _ else leftL l q) = _
    rw [if_neg (by simpa using h1)]
    exact leftL_at hp (by simpa using h) fun j y hj e => hb (j + 1) y (by omega) (by simpa using e)
section
variable {P : Program} {w : World} {K : PySem.W.Frag} {mg : Str → Option Value} {base : Heap}
theorem sc_law_one : FnScope ["_law_deck_here", "_law_some"] ["_law_deck_here", "_law_some"] (defScope s_law_one) := ⟨rfl, rfl, rfl, by decide +kernel, rfl, by decide +kernel, by decide +kernel⟩
theorem c_law_one (B : Bi K mg) (k_law_pick : Cal P w K mg base "_law_pick" 1 (One R_law_pick)) (C : Df K mg "_law_one" s_law_one) : Cal P w K mg base "_law_one" 2 (One R_law_one) := by
  refine cal_mk C (fun _ _ _ _ _ _ us hl => match us, hl with | [_, _], _ => rfl) fun f fd F => fn_ret F sc_law_one (fun ds μ d μ' h => by obtain ⟨_, _, _, _, _, _, _, _, rfl, _⟩ := h; rfl) (fun cdv A outer s H E b ds μ d μ' hr hR hb => ?_)
  obtain ⟨adr, m0, m1, rfl, rfl, k, l, x, rfl, ⟨hk, h0, h1, hx⟩, rfl, rfl, rfl⟩ := hR
  have nd := sc_law_one.nd
  exact dss_ret (de_ixL (de_var 1 rfl) (de_call1 k_law_pick hr (da_cons (de_var 0 rfl) (da_cons (de_lenL B.b_len (de_var 1 rfl)) da_nil)) ⟨k, l.length, rfl, ⟨hk.mono (by decide), by omega, by omega⟩, rfl, rfl, rfl⟩ (by simp)) hx) rfl (fun _ z => z)
theorem sc_law_punch : FnScope ["_law_rounding_here", "_law_at", "_law_is_in", "_law_step", "_law_side", "_law_grace", "_law_low", "_law_high"] ["_law_rounding_here", "_law_at", "_law_is_in"] (defScope s_law_punch) := ⟨rfl, rfl, rfl, by decide +kernel, rfl, by decide +kernel, by decide +kernel⟩
theorem c_law_punch (B : Bi K mg) (C : Df K mg "_law_punch" s_law_punch) : Cal P w K mg base "_law_punch" 1 (Pure R_law_punch) := by
  refine cal_mk C (fun _ _ _ _ _ _ us hl => match us, hl with | [_, _, _], _ => rfl) fun f fd F => fn_ret F sc_law_punch (fun ds μ d μ' h => by obtain ⟨_, _, _, _, _, rfl, _⟩ := h; rfl) (fun cdv A outer s H E b ds μ d μ' hr hR hb => ?_)
  obtain ⟨rfl, rfl, r, t, bb, rfl, hrr, rfl⟩ := hR
  have nd := sc_law_punch.nd
  refine dss_cons (ds_asg (de_var 0 rfl) (dg_tup (dgs_cons (dg_name (i := 3) nd) (dgs_cons (dg_name (i := 4) nd) (dgs_cons (dg_name (i := 5) nd) dgs_nil))) rfl)) ?_
  refine dss_cons (ds_set (i := 6) (d := .int (lowR r t)) (de_sub (de_var 1 rfl) (de_mod (de_intI B.b_int (de_var 1 rfl)) (de_var 3 rfl) hrr.pos)) nd) ?_
  refine dss_cons (ds_set (i := 7) (d := .int (highR r t)) (de_ifP (dt_eqI (de_var 6 rfl) (de_var 1 rfl)) (fun h => ?_) (fun h => ?_)) nd) ?_
  · have e : highR r t = lowR r t := if_pos h
    rw [e]
    exact de_var 6 rfl
  · have e : highR r t = lowR r t + r.step := if_neg (by rw [h]; decide)
    rw [e]
    exact de_add (de_var 6 rfl) (de_var 3 rfl)
  refine dss_if (dw_or (dw_and (dt_val (de_var 2 rfl)) fun _ => dw_and1 (dt_le (de_sub (de_var 1 rfl) (de_var 6 rfl)) (de_var 5 rfl))).dt fun _ => dw_or1 (dw_and (dt_not (dt_val (de_var 2 rfl))) fun _ => dw_and1 (dt_le (de_sub (de_var 7 rfl) (de_var 1 rfl)) (de_var 5 rfl))).dt).dt (fun h => ?_) (fun h => .go dss_nil ?_)
  · have e : punchR r t bb = if bb = true then lowR r t else highR r t := if_pos h
    rw [e]
    exact .stop (dss_ret (de_ifP (d := .int (if bb = true then lowR r t else highR r t)) (dt_val (de_var 2 rfl)) (fun z => by rw [if_pos z]; exact de_var 6 rfl) (fun z => by rw [if_neg (by rw [z]; decide)]; exact de_var 7 rfl)) rfl (fun _ z => z)) rfl
  have e0 : punchR r t bb = if decide (r.side = "near") = true then (if decide (t - lowR r t < highR r t - t) = true then lowR r t else highR r t) else (if decide (r.side = "down") = true then lowR r t else highR r t) := if_neg (by rw [h]; decide)
  refine dss_if (dt_eqS (de_var 4 rfl) de_str) (fun h2 => ?_) (fun h2 => .go dss_nil ?_)
  · have e : punchR r t bb = if decide (t - lowR r t < highR r t - t) = true then lowR r t else highR r t := e0.trans (if_pos h2)
    rw [e]
    exact .stop (dss_ret (de_ifP (d := .int (if decide (t - lowR r t < highR r t - t) = true then lowR r t else highR r t)) (dt_lt (de_sub (de_var 1 rfl) (de_var 6 rfl)) (de_sub (de_var 7 rfl) (de_var 1 rfl))) (fun z => by rw [if_pos z]; exact de_var 6 rfl) (fun z => by rw [if_neg (by rw [z]; decide)]; exact de_var 7 rfl)) rfl (fun _ z => z)) rfl
  · have e : punchR r t bb = if decide (r.side = "down") = true then lowR r t else highR r t := e0.trans (if_neg (by rw [h2]; decide))
    rw [e]
    exact dss_ret (de_ifP (d := .int (if decide (r.side = "down") = true then lowR r t else highR r t)) (dt_eqS (de_var 4 rfl) de_str) (fun z => by rw [if_pos z]; exact de_var 6 rfl) (fun z => by rw [if_neg (by rw [z]; decide)]; exact de_var 7 rfl)) rfl (fun _ z => z)
theorem sc_law_split : FnScope ["_law_r", "_law_many", "_law_start", "_law_less"] ["_law_r", "_law_many"] (defScope s_law_split) := ⟨rfl, rfl, rfl, by decide +kernel, rfl, by decide +kernel, by decide +kernel⟩
theorem c_law_split (B : Bi K mg) (C : Df K mg "_law_split" s_law_split) : Cal P w K mg base "_law_split" 1 (Pure R_law_split) := by
  refine cal_mk C (fun _ _ _ _ _ _ us hl => match us, hl with | [_, _], _ => rfl) fun f fd F => fn_ret F sc_law_split (fun ds μ d μ' h => by obtain ⟨_, _, _, _, rfl, _⟩ := h; rfl) (fun cdv A outer s H E b ds μ d μ' hr hR hb => ?_)
  obtain ⟨rfl, rfl, m, q, rfl, hm, rfl⟩ := hR
  have nd := sc_law_split.nd
  rw [← splitL_eq hm]
  have hrev : (m.brk.map pairD).reverse = m.brk.reverse.map pairD := List.map_reverse.symm
  have fin : ∀ y2 y3 : Option D, DSs (cxOf CX0 P w K mg base ["_law_r", "_law_many", "_law_start", "_law_less"] "_law_split" (defScope s_law_split) f cdv A outer s H E).nox b [some m.d, some (.int (leftL m.brk.reverse q)), y2, y3] [] ((defBody s_law_split).drop 1) (.ret (pairD (splitL m q)) []) := fun y2 y3 => by
    cases hd : m.day with
    | none =>
      have e : splitL m q = (leftL m.brk.reverse q, 0) := by unfold splitL; rw [hd]
      rw [e]
      refine dss_if (dw_or (k2 := true) (dt_isN (d := .non) (de_ixT (de_var 0 rfl) de_int (by show some (optD m.day) = _; rw [hd]; rfl))) (fun h => by cases h)).dt (fun _ => .stop (dss_ret (de_tup (da_cons (de_var 1 rfl) (da_cons de_int da_nil))) rfl (fun _ z => z)) rfl) (fun h => by cases h)
    | some x =>
      refine dss_if (dw_or (dt_isN (d := .int x) (de_ixT (de_var 0 rfl) de_int (by show some (optD m.day) = _; rw [hd]; rfl))) (fun _ => dw_or1 (dt_le (de_var 1 rfl) (de_ixT (de_var 0 rfl) de_int (by show some (optD m.day) = _; rw [hd]; rfl))))).dt (fun h => ?_) (fun h => .go dss_nil ?_)
      · have e : splitL m q = (leftL m.brk.reverse q, 0) := by unfold splitL; rw [hd]; exact if_pos h
        rw [e]
        exact .stop (dss_ret (de_tup (da_cons (de_var 1 rfl) (da_cons de_int da_nil))) rfl (fun _ z => z)) rfl
      · have e : splitL m q = (x, leftL m.brk.reverse q - x) := by unfold splitL; rw [hd]; exact if_neg (by intro z; have h' : decide (leftL m.brk.reverse q ≤ x) = false := h; rw [h'] at z; cases z)
        rw [e]
        exact dss_ret (de_tup (da_cons (de_ixT (de_var 0 rfl) de_int (by show some (optD m.day) = _; rw [hd]; rfl)) (da_cons (de_sub (de_var 1 rfl) (de_ixT (de_var 0 rfl) de_int (by show some (optD m.day) = _; rw [hd]; rfl))) da_nil))) rfl (fun _ z => z)
  cases ha : m.brk.reverse.all (fun p => !decide (p.1 ≤ q)) with
  | true =>
    refine dss_forI (xs := m.brk.reverse.map pairD) (P := fun i ρ μ => (∃ y2 y3, ρ = [some m.d, some (.int q), y2, y3]) ∧ μ = []) PassesOwn.never (hrev ▸ di_tup (de_revT (de_ixT (de_var 0 rfl) de_int rfl))) ⟨⟨_, _, rfl⟩, rfl⟩ (fun i x ρ μ hx hP => ?_) (fun ρ μ hP => ?_)
    · obtain ⟨⟨y2, y3, rfl⟩, rfl⟩ := hP
      obtain ⟨p, hp, rfl⟩ := List.mem_map.mp (List.mem_of_getElem? hx)
      have hn : decide (p.1 ≤ q) = false := by simpa using List.all_eq_true.mp ha p hp
      exact ⟨_, _, _, _, dg_tup (dgs_cons (dg_name (i := 2) nd) (dgs_cons (dg_name (i := 3) nd) dgs_nil)) rfl, dss_if (dt_le (de_var 2 rfl) (de_var 1 rfl)) (fun h => by rw [hn] at h; cases h) (fun _ => .go dss_nil dss_nil), ⟨_, _, rfl⟩, rfl⟩
    · obtain ⟨⟨y2, y3, rfl⟩, rfl⟩ := hP
      have := fin y2 y3
      rw [leftL_none ha] at this
      exact this
  | false =>
    obtain ⟨k, p, hk, hf, hbe⟩ := first_false ha
    have hp : p.1 ≤ q := by simpa using hf
    have hpd : decide (p.1 ≤ q) = true := by simpa using hp
    have hl := leftL_at hp hk hbe
    have := fin (some (.int p.1)) (some (.int p.2))
    refine dss_forB (xs := m.brk.reverse.map pairD) (x := pairD p) (k := k) (ρ2 := [some m.d, some (.int (leftL m.brk.reverse q)), some (.int p.1), some (.int p.2)]) (μ2 := []) (P := fun i ρ μ => (∃ y2 y3, ρ = [some m.d, some (.int q), y2, y3]) ∧ μ = []) PassesOwn.never (hrev ▸ di_tup (de_revT (de_ixT (de_var 0 rfl) de_int rfl))) (by rw [List.getElem?_map, hk]; rfl) ⟨⟨_, _, rfl⟩, rfl⟩ (fun i x ρ μ hi hx hP => ?_) (fun ρ μ hP => ?_) this
    · obtain ⟨⟨y2, y3, rfl⟩, rfl⟩ := hP
      rw [List.getElem?_map] at hx
      cases e : m.brk.reverse[i]? with
      | none => rw [e] at hx; cases hx
      | some y =>
        rw [e] at hx
        have hx' : pairD y = x := by simpa using hx
        subst hx'
        have hn : decide (y.1 ≤ q) = false := by simpa using hbe i y hi e
        exact ⟨_, _, _, _, dg_tup (dgs_cons (dg_name (i := 2) nd) (dgs_cons (dg_name (i := 3) nd) dgs_nil)) rfl, dss_if (dt_le (de_var 2 rfl) (de_var 1 rfl)) (fun h => by rw [hn] at h; cases h) (fun _ => .go dss_nil dss_nil), ⟨_, _, rfl⟩, rfl⟩
    · obtain ⟨⟨y2, y3, rfl⟩, rfl⟩ := hP
      refine ⟨_, _, dg_tup (dgs_cons (dg_name (i := 2) nd) (dgs_cons (dg_name (i := 3) nd) dgs_nil)) rfl, ?_⟩
      rw [hl]
      exact dss_if (dt_le (de_var 2 rfl) (de_var 1 rfl)) (fun _ => .stop (dss_cons (ds_set (i := 1) (d := .int (if decide (p.2 < q) = true then q - p.2 else 0)) (de_ifP (dt_gt (de_var 1 rfl) (de_var 3 rfl)) (fun z => by rw [if_pos z]; exact de_sub (de_var 1 rfl) (de_var 3 rfl)) (fun z => by rw [if_neg (by rw [z]; decide)]; exact de_int)) nd) (dss_one ds_brk)) rfl) (fun h => by rw [hpd] at h; cases h)
theorem sc_law_splits : FnScope ["_law_r", "_law_ins", "_law_at", "_law_outs", "_law_table", "_law_many", "_law_found", "_law_start", "_law_end"] ["_law_r"] (defScope s_law_splits) := ⟨rfl, rfl, rfl, by decide +kernel, rfl, by decide +kernel, by decide +kernel⟩
theorem c_law_splits (B : Bi K mg) (k_law_punch : Cal P w K mg base "_law_punch" 1 (Pure R_law_punch)) (k_law_split : Cal P w K mg base "_law_split" 1 (Pure R_law_split)) (C : Df K mg "_law_splits" s_law_splits) : Cal P w K mg base "_law_splits" 2 (Pure R_law_splits) := by
  refine cal_mk C (fun _ _ _ _ _ _ us hl => match us, hl with | [_], _ => rfl) fun f fd F => fn_ret F sc_law_splits (fun ds μ d μ' h => by obtain ⟨_, _, _, rfl, _⟩ := h; rfl) (fun cdv A outer s H E b ds μ d μ' hr hR hb => ?_)
  obtain ⟨rfl, rfl, m, rfl, hm, rfl⟩ := hR
  have nd := sc_law_splits.nd
  have hz : ∀ {α : Type} (g : Nat → α), ((List.range 97).map g).length ≤ 100000 := fun g => by rw [List.length_map, List.length_range]; decide
  have rg : ∀ {x : D}, x ∈ rgD 0 97 → ∃ t, x = .int t := fun {x} hx => by
    obtain ⟨i, _, rfl⟩ := List.mem_map.mp hx
    exact ⟨_, rfl⟩
  refine dss_cons (ds_set (i := 1) (de_lc (own := [("_law_at", 2)]) (out := (List.range 97).map fun i => D.int (punchR m.ins (0 + (i : Nat)) true)) (di_rg1 (i := 97) B.b_range de_int (by decide)) ?_ (hz _) nd (blkOk_by (N := ["_law_r", "_law_ins", "_law_at", "_law_outs", "_law_table", "_law_many", "_law_found", "_law_start", "_law_end"]) (sc := defScope s_law_splits) (by decide +kernel)) rfl (fun _ => rfl) rfl) nd) ?_
  · have e : (List.range 97).map (fun i => D.int (punchR m.ins (0 + (i : Nat)) true)) = (rgD 0 97).map (onInt fun t => .int (punchR m.ins t true)) := by unfold rgD; rw [List.map_map]; rfl
    rw [e]
    refine CLoop.map _ fun x hx => ?_
    obtain ⟨t, rfl⟩ := rg hx
    exact ⟨_, _, fun _ _ _ _ _ => dg_name (i := 2) nd, by decide, fun _ _ _ _ _ => de_call k_law_punch hr (da_cons (de_ixT (de_var 0 rfl) de_int rfl) (da_cons (de_var 2 rfl) (da_cons de_bl da_nil))) ⟨m.ins, t, true, rfl, hm.ins, rfl⟩⟩
  refine dss_cons (ds_set (i := 3) (de_lc (own := [("_law_at", 2)]) (out := (List.range 97).map fun i => D.int (punchR m.outs (0 + (i : Nat)) false)) (di_rg1 (i := 97) B.b_range de_int (by decide)) ?_ (hz _) nd (blkOk_by (N := ["_law_r", "_law_ins", "_law_at", "_law_outs", "_law_table", "_law_many", "_law_found", "_law_start", "_law_end"]) (sc := defScope s_law_splits) (by decide +kernel)) rfl (fun _ => rfl) rfl) nd) ?_
  · have e : (List.range 97).map (fun i => D.int (punchR m.outs (0 + (i : Nat)) false)) = (rgD 0 97).map (onInt fun t => .int (punchR m.outs t false)) := by unfold rgD; rw [List.map_map]; rfl
    rw [e]
    refine CLoop.map _ fun x hx => ?_
    obtain ⟨t, rfl⟩ := rg hx
    exact ⟨_, _, fun _ _ _ _ _ => dg_name (i := 2) nd, by decide, fun _ _ _ _ _ => de_call k_law_punch hr (da_cons (de_ixT (de_var 0 rfl) de_int rfl) (da_cons (de_var 2 rfl) (da_cons de_bl da_nil))) ⟨m.outs, t, false, rfl, hm.outs, rfl⟩⟩
  refine dss_cons (ds_set (i := 4) (de_lc (own := [("_law_many", 5)]) (out := (List.range 97).map fun i => pairD (splitR m (0 + (i : Nat)))) (di_rg1 (i := 97) B.b_range de_int (by decide)) ?_ (hz _) nd (blkOk_by (N := ["_law_r", "_law_ins", "_law_at", "_law_outs", "_law_table", "_law_many", "_law_found", "_law_start", "_law_end"]) (sc := defScope s_law_splits) (by decide +kernel)) rfl (fun _ => rfl) rfl) nd) ?_
  · have e : (List.range 97).map (fun i => pairD (splitR m (0 + (i : Nat)))) = (rgD 0 97).map (onInt fun t => pairD (splitR m t)) := by unfold rgD; rw [List.map_map]; rfl
    rw [e]
    refine CLoop.map _ fun x hx => ?_
    obtain ⟨t, rfl⟩ := rg hx
    exact ⟨_, _, fun _ _ _ _ _ => dg_name (i := 5) nd, by decide, fun _ _ _ _ _ => de_call k_law_split hr (da_cons (de_var 0 rfl) (da_cons (de_var 5 rfl) da_nil)) ⟨m, t, rfl, hm, rfl⟩⟩
  refine dss_cons (ds_set (i := 6) (de_lst da_nil) nd) ?_
  refine dss_forI (xs := rgD 0 96) (P := fun i ρ μ => (∃ y2 y5 y7 y8, ρ = [some m.d, some (.lst ((List.range 97).map fun i => D.int (punchR m.ins (0 + (i : Nat)) true))), y2, some (.lst ((List.range 97).map fun i => D.int (punchR m.outs (0 + (i : Nat)) false))), some (.lst ((List.range 97).map fun i => pairD (splitR m (0 + (i : Nat))))), y5, some (.lst ((daysTo i).map fun p => pairD (partsR m p))), y7, y8]) ∧ μ = []) PassesOwn.never (di_rg1 (i := 96) B.b_range de_int (by decide)) ⟨⟨_, _, _, _, rfl⟩, rfl⟩ (fun i x ρ μ hx hP => ?_) (fun ρ μ hP => ?_)
  · obtain ⟨⟨y2, y5, y7, y8, rfl⟩, rfl⟩ := hP
    have hi : i < 96 := by
      have := (List.getElem?_eq_some_iff.mp hx).1
      rw [rgD_len] at this
      exact this
    have ex : x = .int ((i : Nat) : Int) := by
      rw [rgD_get hi] at hx
      have : D.int (0 + ((i : Nat) : Int)) = x := by simpa using hx
      rw [← this, Int.zero_add]
    subst ex
    have l1 := daysTo_len i
    have l2 := daysTo_len (i + 1)
    rw [daysTo_succ, List.length_append] at l2
    have rl : (rowD i).length = 96 - i := by unfold rowD; rw [List.length_map, List.length_range]
    refine ⟨_, _, _, _, dg_name (i := 7) nd, dss_one (ds_set (i := 6) (d := .lst ((daysTo (i + 1)).map fun p => pairD (partsR m p))) ((de_catL (de_var 6 rfl) (de_lc (out := (rowD i).map fun p => pairD (partsR m p)) (own := [("_law_end", 8)]) (di_rg2 B.b_range (da_cons (de_add (de_var 7 rfl) de_int) (da_cons de_int da_nil)) (by omega)) ?_ (by rw [List.length_map, rl]; omega) nd (blkOk_by (N := ["_law_r", "_law_ins", "_law_at", "_law_outs", "_law_table", "_law_many", "_law_found", "_law_start", "_law_end"]) (sc := defScope s_law_splits) (by decide +kernel)) rfl (fun _ => rfl) rfl) (by rw [List.length_map, List.length_map, rl]; omega)).cast (by rw [daysTo_succ, List.map_append])) nd), ⟨_, _, _, _, rfl⟩, rfl⟩
    have e : (rowD i).map (fun p => pairD (partsR m p)) = (rgD (((i : Nat) : Int) + 1) (97 - (((i : Nat) : Int) + 1)).toNat).map (onInt fun t => pairD (partsR m (((i : Nat) : Int), t))) := by
      have e0 : (97 - (((i : Nat) : Int) + 1)).toNat = 96 - i := by omega
      unfold rowD rgD
      rw [e0, List.map_map, List.map_map]
      rfl
    rw [e]
    refine CLoop.map _ fun y hy => ?_
    obtain ⟨j, hj, rfl⟩ := List.mem_map.mp hy
    have hj' := List.mem_range.mp hj
    have dk : dayOk (((i : Nat) : Int), (((i : Nat) : Int) + 1) + (j : Nat)) := by unfold dayOk; simp only; omega
    have cr := count_rng hm dk
    refine ⟨_, _, fun _ _ _ _ _ => dg_name (i := 8) nd, by decide, fun _ _ _ _ _ => ?_⟩
    refine de_ixL (de_var 4 rfl) (de_max2 B.b_max (da_cons de_int (da_cons (de_sub (de_ixL (de_var 3 rfl) (de_var 8 rfl) (at_rg (by omega) (by omega))) (de_ixL (de_var 1 rfl) (de_var 7 rfl) (at_rg (by omega) (by omega)))) da_nil))) ?_
    have e1 : (0 : Int) + (((((i : Nat) : Int)).toNat : Nat) : Int) = (i : Nat) := by omega
    have e2 : (0 : Int) + ((((((i : Nat) : Int) + 1) + (j : Nat)).toNat : Nat) : Int) = (((i : Nat) : Int) + 1) + (j : Nat) := by omega
    rw [e1, e2, punch_in hm.ins, punch_out hm.outs]
    show atI _ (countR m (((i : Nat) : Int), (((i : Nat) : Int) + 1) + (j : Nat))) = _
    rw [at_rg cr.1 (by omega)]
    have e3 : (0 : Int) + (((countR m (((i : Nat) : Int), (((i : Nat) : Int) + 1) + (j : Nat))).toNat : Nat) : Int) = countR m (((i : Nat) : Int), (((i : Nat) : Int) + 1) + (j : Nat)) := by omega
    rw [e3]
    rfl
  · obtain ⟨⟨y2, y5, y7, y8, rfl⟩, rfl⟩ := hP
    refine dss_ret (de_var 6 rfl) ?_ (fun _ z => z)
    show D.lst ((daysTo (rgD 0 96).length).map _) = _
    rw [rgD_len, days_96]
    unfold allParts
    rw [List.map_map]
    rfl
end
end CC


/-! The walk of a manner with one part changed. -/
namespace CC
open PySem PySem.Spec PyProof.Rows L2 PD
def R_law_bent : List D → Addr → MO → D → MO → Prop := fun ds a m d m' => ∃ k n, ds = [.adr a, Mn.d n] ∧ (k.Ok 800000 ∧ n.Ok) ∧ m = k.mo ∧ d = (bentR k n).1.d ∧ m' = (bentR k n).2.mo
section
variable {P : Program} {w : World} {K : PySem.W.Frag} {mg : Str → Option Value} {base : Heap}
theorem sc_law_bent : FnScope ["_law_deck_here", "_law_r", "_law_way", "_law_step", "_law_side", "_law_grace", "_law_new"] ["_law_deck_here", "_law_r"] (defScope s_law_bent) := ⟨rfl, rfl, rfl, by decide +kernel, rfl, by decide +kernel, by decide +kernel⟩
theorem c_law_bent (B : Bi K mg) (k_law_pick : Cal P w K mg base "_law_pick" 1 (One R_law_pick)) (k_law_one : Cal P w K mg base "_law_one" 2 (One R_law_one)) (k_law_rounding : Cal P w K mg base "_law_rounding" 2 (One R_law_rounding)) (C : Df K mg "_law_bent" s_law_bent) : Cal P w K mg base "_law_bent" 3 (One R_law_bent) := by
  refine cal_mk C (fun _ _ _ _ _ _ us hl => match us, hl with | [_, _], _ => rfl) fun f fd F => fn_ret F sc_law_bent (fun ds μ d μ' h => by obtain ⟨_, _, _, _, _, _, _, rfl, _⟩ := h; rfl) (fun cdv A outer s H E b ds μ d μ' hr hR hb => ?_)
  obtain ⟨adr, m0, m1, rfl, rfl, k, m, rfl, ⟨hk, hm⟩, rfl, rfl, rfl⟩ := hR
  have nd := sc_law_bent.nd
  have p6 := pick_rng (k := k) (lim := 6) (by decide)
  have k1 := pick_ok (lim := 6) hk
  have hr1 := hr.mono (j := 1) (by decide)
  refine dss_cons (ds_set (i := 2) (de_call1 k_law_pick hr1 (da_cons (de_var 0 rfl) (da_cons de_int da_nil)) ⟨k, 6, rfl, ⟨hk.mono (by decide), by decide, by decide⟩, rfl, rfl, rfl⟩ (by simp)) nd) ?_
  by_cases c : (pickR k 6).1 = 0
  · have e : bentR k m = (⟨(bendR m.ins (pickR k 6).2).1, m.outs, m.brk, m.day, m.week⟩, (bendR m.ins (pickR k 6).2).2) := by
      unfold bentR
      rw [c]
      rfl
    rw [e]
    have bk := bend_ok hm.ins k1
    have p1 := pick_ok (lim := m.ins.step) k1
    have rk := round_ok p1
    have sp := steps_pos hm.ins.step
    have s3 := pick_rng (k := bendK m.ins (pickR k 6).2) (lim := 3) (by decide)
    refine dss_if (dt_lt (de_var 2 (by show some (some (D.int (pickR k 6).1)) = _; rw [c])) (de_int (i := 2))) (fun _ => .stop ?_ rfl) (fun h => by cases h)
    refine dss_cons (ds_asg (de_ixT (i := 0) (d := m.ins.d) (de_var 1 rfl) (de_var 2 (by show some (some (D.int (pickR k 6).1)) = _; rw [c])) rfl) (dg_tup (dgs_cons (dg_name (i := 3) nd) (dgs_cons (dg_name (i := 4) nd) (dgs_cons (dg_name (i := 5) nd) dgs_nil))) rfl)) ?_
    refine dss_cons (ds_set (i := 6) (d := (bendR m.ins (pickR k 6).2).1.d) (de_call1 k_law_one hr (da_cons (de_var 0 rfl) (da_cons (de_lst (ds := (bendL m.ins (pickR k 6).2).map Rd.d) (da_cons (de_tup (da_cons (de_var 3 rfl) (da_cons (de_var 4 rfl) (da_cons (de_call1 k_law_pick (hr.mono (by decide)) (da_cons (de_var 0 rfl) (da_cons (de_var 3 rfl) da_nil)) ⟨(pickR k 6).2, m.ins.step, rfl, ⟨k1.mono (by decide), sp.1, by omega⟩, rfl, rfl, rfl⟩ (by simp)) da_nil)))) (da_cons (de_tup (da_cons (de_var 3 rfl) (da_cons de_str (da_cons (de_var 5 rfl) da_nil)))) (da_cons (de_call1 k_law_rounding hr (da_cons (de_var 0 rfl) da_nil) ⟨(pickR (pickR k 6).2 m.ins.step).2, rfl, p1.mono (by decide), rfl, rfl, rfl⟩ (by simp)) da_nil))) (by show 3 ≤ 100000; decide)) da_nil)) ⟨bendK m.ins (pickR k 6).2, (bendL m.ins (pickR k 6).2).map Rd.d, _, rfl, ⟨bk.2.2.mono (by decide), (by show 0 < 3; decide), (by show 3 < 1000; decide), getD_at (d := m.ins) Rd.d s3⟩, rfl, rfl, rfl⟩ (by simp)) nd) ?_
    exact dss_ret ((de_catT (de_catT (de_slT (de_var 1 rfl) do_none (do_some (i := 0) (de_var 2 (by show some (some (D.int (pickR k 6).1)) = _; rw [c])))) (de_tup (da_cons (de_var 6 rfl) da_nil)) (by show 0 + 1 ≤ 100000; decide)) (de_slT (de_var 1 rfl) (do_some (i := 0 + 1) (de_add (de_var 2 (by show some (some (D.int (pickR k 6).1)) = _; rw [c])) de_int)) do_none) (by show 1 + 4 ≤ 100000; decide)).cast rfl) rfl (fun _ z => z)
  have n0 := c
  clear c
  by_cases c : (pickR k 6).1 = 1
  · have e : bentR k m = (⟨m.ins, (bendR m.outs (pickR k 6).2).1, m.brk, m.day, m.week⟩, (bendR m.outs (pickR k 6).2).2) := by
      unfold bentR
      rw [c]
      rfl
    rw [e]
    have bk := bend_ok hm.outs k1
    have p1 := pick_ok (lim := m.outs.step) k1
    have rk := round_ok p1
    have sp := steps_pos hm.outs.step
    have s3 := pick_rng (k := bendK m.outs (pickR k 6).2) (lim := 3) (by decide)
    refine dss_if (dt_lt (de_var 2 (by show some (some (D.int (pickR k 6).1)) = _; rw [c])) (de_int (i := 2))) (fun _ => .stop ?_ rfl) (fun h => by cases h)
    refine dss_cons (ds_asg (de_ixT (i := 1) (d := m.outs.d) (de_var 1 rfl) (de_var 2 (by show some (some (D.int (pickR k 6).1)) = _; rw [c])) rfl) (dg_tup (dgs_cons (dg_name (i := 3) nd) (dgs_cons (dg_name (i := 4) nd) (dgs_cons (dg_name (i := 5) nd) dgs_nil))) rfl)) ?_
    refine dss_cons (ds_set (i := 6) (d := (bendR m.outs (pickR k 6).2).1.d) (de_call1 k_law_one hr (da_cons (de_var 0 rfl) (da_cons (de_lst (ds := (bendL m.outs (pickR k 6).2).map Rd.d) (da_cons (de_tup (da_cons (de_var 3 rfl) (da_cons (de_var 4 rfl) (da_cons (de_call1 k_law_pick (hr.mono (by decide)) (da_cons (de_var 0 rfl) (da_cons (de_var 3 rfl) da_nil)) ⟨(pickR k 6).2, m.outs.step, rfl, ⟨k1.mono (by decide), sp.1, by omega⟩, rfl, rfl, rfl⟩ (by simp)) da_nil)))) (da_cons (de_tup (da_cons (de_var 3 rfl) (da_cons de_str (da_cons (de_var 5 rfl) da_nil)))) (da_cons (de_call1 k_law_rounding hr (da_cons (de_var 0 rfl) da_nil) ⟨(pickR (pickR k 6).2 m.outs.step).2, rfl, p1.mono (by decide), rfl, rfl, rfl⟩ (by simp)) da_nil))) (by show 3 ≤ 100000; decide)) da_nil)) ⟨bendK m.outs (pickR k 6).2, (bendL m.outs (pickR k 6).2).map Rd.d, _, rfl, ⟨bk.2.2.mono (by decide), (by show 0 < 3; decide), (by show 3 < 1000; decide), getD_at (d := m.outs) Rd.d s3⟩, rfl, rfl, rfl⟩ (by simp)) nd) ?_
    exact dss_ret ((de_catT (de_catT (de_slT (de_var 1 rfl) do_none (do_some (i := 1) (de_var 2 (by show some (some (D.int (pickR k 6).1)) = _; rw [c])))) (de_tup (da_cons (de_var 6 rfl) da_nil)) (by show 1 + 1 ≤ 100000; decide)) (de_slT (de_var 1 rfl) (do_some (i := 1 + 1) (de_add (de_var 2 (by show some (some (D.int (pickR k 6).1)) = _; rw [c])) de_int)) do_none) (by show 2 + 3 ≤ 100000; decide)).cast rfl) rfl (fun _ z => z)
  have n1 := c
  clear c
  have n2 : decide ((pickR k 6).1 < 2) = false := decide_eq_false (by omega)
  refine dss_if (dt_lt (de_var 2 rfl) de_int) (fun h => by rw [n2] at h; cases h) (fun _ => .go dss_nil ?_)
  by_cases c : (pickR k 6).1 = 2
  · have e : bentR k m = (⟨m.ins, m.outs, m.brk.drop 1, m.day, m.week⟩, (pickR k 6).2) := by
      unfold bentR
      rw [if_neg n0, if_neg n1, if_pos c]
    rw [e]
    refine dss_if (dt_eqI (de_var 2 rfl) de_int) (fun _ => .stop ?_ rfl) (fun h => by rw [decide_eq_true c] at h; cases h)
    have hl := hm.len
    have eb' : ∀ l : List (Int × Int), l.length ≤ 2 → cut (l.map pairD) (some 1) none = (l.drop 1).map pairD := fun l hl => by
      rcases l with _ | ⟨a, _ | ⟨c2, _ | ⟨_, _⟩⟩⟩ <;> first | rfl | (simp at hl)
    have eb := eb' m.brk hl
    exact dss_ret ((de_catT (de_catT (de_slT (de_var 1 rfl) do_none (do_some de_int)) (de_tup (da_cons ((de_slT (de_ixT (de_var 1 rfl) de_int rfl) (do_some de_int) do_none).cast (congrArg D.tup eb)) da_nil)) (by show 2 + 1 ≤ 100000; decide)) (de_slT (de_var 1 rfl) (do_some de_int) do_none) (by show 3 + 2 ≤ 100000; decide)).cast rfl) rfl (fun _ z => z)
  have n3 := c
  clear c
  refine dss_if (dt_eqI (de_var 2 rfl) de_int) (fun h => by rw [decide_eq_false n3] at h; cases h) (fun _ => .go dss_nil ?_)
  by_cases c : (pickR k 6).1 = 3
  · have e : bentR k m = (⟨m.ins, m.outs, m.brk, (limR 96 (pickR k 6).2).1, m.week⟩, (limR 96 (pickR k 6).2).2) := by
      unfold bentR
      rw [if_neg n0, if_neg n1, if_neg n3, if_pos c]
    rw [e]
    have p1 := pick_ok (lim := 96) k1
    have s3 := pick_rng (k := (pickR (pickR k 6).2 96).2) (lim := 3) (by decide)
    refine dss_if (dt_eqI (de_var 2 rfl) de_int) (fun _ => .stop ?_ rfl) (fun h => by rw [decide_eq_true c] at h; cases h)
    exact dss_ret ((de_catT (de_slT (de_var 1 rfl) do_none (do_some de_int)) (de_tup (da_cons (de_call1 k_law_one hr (da_cons (de_var 0 rfl) (da_cons (de_lst (ds := (limL 96 (pickR k 6).2).map optD) (da_cons de_non (da_cons de_int (da_cons (de_add de_int (de_call1 k_law_pick hr1 (da_cons (de_var 0 rfl) (da_cons de_int da_nil)) ⟨(pickR k 6).2, 96, rfl, ⟨k1.mono (by decide), by decide, by decide⟩, rfl, rfl, rfl⟩ (by simp))) da_nil))) (by show 3 ≤ 100000; decide)) da_nil)) ⟨(pickR (pickR k 6).2 96).2, (limL 96 (pickR k 6).2).map optD, _, rfl, ⟨p1.mono (by decide), (by show 0 < 3; decide), (by show 3 < 1000; decide), getD_at (d := none) optD s3⟩, rfl, rfl, rfl⟩ (by simp)) (da_cons (de_ixT (de_var 1 rfl) de_int rfl) da_nil))) (by show 3 + 2 ≤ 100000; decide)).cast rfl) rfl (fun _ z => z)
  have n4 := c
  clear c
  refine dss_if (dt_eqI (de_var 2 rfl) de_int) (fun h => by rw [decide_eq_false n4] at h; cases h) (fun _ => .go dss_nil ?_)
  have e : bentR k m = (⟨m.ins, m.outs, m.brk, m.day, (limR 480 (pickR k 6).2).1⟩, (limR 480 (pickR k 6).2).2) := by
    unfold bentR
    rw [if_neg n0, if_neg n1, if_neg n3, if_neg n4]
  rw [e]
  have p1 := pick_ok (lim := 480) k1
  have s3 := pick_rng (k := (pickR (pickR k 6).2 480).2) (lim := 3) (by decide)
  exact dss_ret ((de_catT (de_slT (de_var 1 rfl) do_none (do_some de_int)) (de_tup (da_cons (de_call1 k_law_one hr (da_cons (de_var 0 rfl) (da_cons (de_lst (ds := (limL 480 (pickR k 6).2).map optD) (da_cons de_non (da_cons de_int (da_cons (de_add de_int (de_call1 k_law_pick hr1 (da_cons (de_var 0 rfl) (da_cons de_int da_nil)) ⟨(pickR k 6).2, 480, rfl, ⟨k1.mono (by decide), by decide, by decide⟩, rfl, rfl, rfl⟩ (by simp))) da_nil))) (by show 3 ≤ 100000; decide)) da_nil)) ⟨(pickR (pickR k 6).2 480).2, (limL 480 (pickR k 6).2).map optD, _, rfl, ⟨p1.mono (by decide), (by show 0 < 3; decide), (by show 3 < 1000; decide), getD_at (d := none) optD s3⟩, rfl, rfl, rfl⟩ (by simp)) da_nil)) (by show 4 + 1 ≤ 100000; decide)).cast rfl) rfl (fun _ z => z)
end
end CC


/-! The walk of manners compared. -/
namespace CC
open PySem PySem.Spec PyProof.Rows L2 PD
def W5' (w : Week) : Prop := w.length ≤ 5 ∧ ∀ p ∈ w, dayOk p
def R_is_day_of : List D → D → Prop := fun ds d => ∃ p, ds = [pairD p] ∧ dayOk p ∧ d = .bl true
def R_is_week_of : List D → D → Prop := fun ds d => ∃ w, ds = [weekD w] ∧ W5' w ∧ d = .bl true
def R_need_week : List D → D → Prop := fun ds d => ∃ w, ds = [weekD w] ∧ W5' w ∧ d = .non
def R_paid : List D → D → Prop := fun ds d => ∃ m w, ds = [Mn.d m, weekD w] ∧ (m.Ok ∧ W5' w) ∧ d = .int (paidR m w)
def R_lead_week : List D → D → Prop := fun ds d => ∃ m n, ds = [Mn.d m, Mn.d n] ∧ (m.Ok ∧ n.Ok) ∧ d = weekD (leadR m n).2
def R_same_for_all : List D → D → Prop := fun ds d => ∃ m n, ds = [Mn.d m, Mn.d n] ∧ (m.Ok ∧ n.Ok) ∧ d = .bl (alikeR m n)
def R_alike : List D → D → Prop := fun ds d => ∃ m n, ds = [Mn.d m, Mn.d n] ∧ (m.Ok ∧ n.Ok) ∧ d = .bl (alikeR m n)
def R_first_day : List D → D → Prop := fun ds d => ∃ m n, ds = [Mn.d m, Mn.d n] ∧ (m.Ok ∧ n.Ok) ∧ d = dayO (firstDayR m n)
def R_parting_day : List D → D → Prop := fun ds d => ∃ m n, ds = [Mn.d m, Mn.d n] ∧ (m.Ok ∧ n.Ok) ∧ d = dayO (firstDayR m n)
def R_parting_week : List D → D → Prop := fun ds d => ∃ m n, ds = [Mn.d m, Mn.d n] ∧ ((m.Ok ∧ n.Ok) ∧ m.week = none ∧ n.week = none) ∧ d = weekO (firstDayR m n)
section
variable {P : Program} {w : World} {K : PySem.W.Frag} {mg : Str → Option Value} {base : Heap}
theorem sc_is_day_of : FnScope ["value", "one"] ["value"] (defScope s_is_day_of) := ⟨rfl, rfl, rfl, by decide +kernel, rfl, by decide +kernel, by decide +kernel⟩
theorem c_is_day_of (B : Bi K mg) (k_is_from : Cal P w K mg base "is_from" 1 (Pure R_is_from)) (C : Df K mg "is_day_of" s_is_day_of) : Cal P w K mg base "is_day_of" 2 (Pure R_is_day_of) := by
  refine cal_mk C (fun _ _ _ _ _ _ us hl => match us, hl with | [_], _ => rfl) fun f fd F => fn_ret F sc_is_day_of (fun ds μ d μ' h => by obtain ⟨_, _, _, rfl, _⟩ := h; rfl) (fun cdv A outer s H E b ds μ d μ' hr hR hb => ?_)
  obtain ⟨rfl, rfl, p, rfl, hp, rfl⟩ := hR
  have nd := sc_is_day_of.nd
  obtain ⟨h0, h1, h2⟩ := hp
  refine dss_if (dw_or (dt_not (dt_val (de_isTup B.b_isinstance B.b_tuple (de_var 0 rfl) rfl))) fun _ => dw_or1 (dt_neI (de_lenT B.b_len (de_var 0 rfl)) de_int)).dt (fun h => by cases h) (fun _ => .go dss_nil ?_)
  refine dss_ret (de_and (k2 := decide (p.1 < p.2)) (de_allL B.b_all (bs := [true, true]) (de_lc (out := ([.int p.1, .int p.2] : List D).map fun _ => .bl true) (own := [("one", 1)]) (di_tup (de_var 0 rfl)) (CLoop.map _ fun x hx => ?_) (by show 2 ≤ 100000; decide) nd (blkOk_by (N := ["value", "one"]) (sc := defScope s_is_day_of) (by decide +kernel)) rfl (fun _ => rfl) rfl)) fun _ => de_one (de_lt (de_ixT (de_var 0 rfl) de_int rfl) (de_ixT (de_var 0 rfl) de_int rfl))) (by rw [decide_eq_true h1]; rfl) (fun _ z => z)
  obtain ⟨i, rfl, hi⟩ : ∃ i, x = .int i ∧ 0 ≤ i ∧ i ≤ 96 := by
    have : x = .int p.1 ∨ x = .int p.2 := by simpa using hx
    rcases this with e | e
    · exact ⟨p.1, e, by omega⟩
    · exact ⟨p.2, e, by omega⟩
  exact ⟨_, _, fun _ _ _ _ _ => dg_name (i := 1) nd, by decide, fun _ _ _ _ _ => (de_call k_is_from hr (da_cons (de_var 1 rfl) (da_cons de_int (da_cons (de_kint B.k_LAST) da_nil))) ⟨.int i, 0, 96, rfl, rfl, rfl⟩).cast (congrArg D.bl (isFrom_ok hi))⟩
theorem sc_is_week_of : FnScope ["value", "one"] ["value"] (defScope s_is_week_of) := ⟨rfl, rfl, rfl, by decide +kernel, rfl, by decide +kernel, by decide +kernel⟩
theorem c_is_week_of (B : Bi K mg) (k_is_day_of : Cal P w K mg base "is_day_of" 2 (Pure R_is_day_of)) (C : Df K mg "is_week_of" s_is_week_of) : Cal P w K mg base "is_week_of" 3 (Pure R_is_week_of) := by
  refine cal_mk C (fun _ _ _ _ _ _ us hl => match us, hl with | [_], _ => rfl) fun f fd F => fn_ret F sc_is_week_of (fun ds μ d μ' h => by obtain ⟨_, _, _, rfl, _⟩ := h; rfl) (fun cdv A outer s H E b ds μ d μ' hr hR hb => ?_)
  obtain ⟨rfl, rfl, w, rfl, hw, rfl⟩ := hR
  have nd := sc_is_week_of.nd
  have hl : (w.map fun _ => true).all id = true := by simp
  refine dss_ret (de_and (k2 := true) (de_isTup B.b_isinstance B.b_tuple (de_var 0 rfl) rfl) fun _ => (de_and (k2 := true) (de_le (de_lenT B.b_len (de_var 0 rfl)) (de_kint B.k_MOST_DAYS)) fun _ => de_one ((de_allL B.b_all (bs := w.map fun _ => true) (de_lc (out := (w.map fun _ => true).map D.bl) (own := [("one", 1)]) (di_tup (de_var 0 rfl)) ?_ (by simp; have := hw.1; omega) nd (blkOk_by (N := ["value", "one"]) (sc := defScope s_is_week_of) (by decide +kernel)) rfl (fun _ => rfl) rfl)).cast (congrArg D.bl hl))).cast ?_) rfl (fun _ z => z)
  · have e : (w.map fun _ => true).map D.bl = (w.map pairD).map (fun _ => D.bl true) := by rw [List.map_map, List.map_map]; rfl
    rw [e]
    refine CLoop.map _ fun x hx => ?_
    obtain ⟨p, hp, rfl⟩ := List.mem_map.mp hx
    exact ⟨_, _, fun _ _ _ _ _ => dg_name (i := 1) nd, by decide, fun _ _ _ _ _ => de_call k_is_day_of hr (da_cons (de_var 1 rfl) da_nil) ⟨p, rfl, hw.2 p hp, rfl⟩⟩
  · have h5 : ((w.map pairD).length : Int) ≤ 5 := by rw [List.length_map]; have := hw.1; omega
    rw [decide_eq_true h5]
    rfl
theorem sc_need_week : FnScope ["value"] ["value"] (defScope s_need_week) := ⟨rfl, rfl, rfl, by decide +kernel, rfl, by decide +kernel, by decide +kernel⟩
theorem c_need_week (B : Bi K mg) (k_is_week_of : Cal P w K mg base "is_week_of" 3 (Pure R_is_week_of)) (C : Df K mg "need_week" s_need_week) : Cal P w K mg base "need_week" 4 (Pure R_need_week) := by
  refine cal_mk C (fun _ _ _ _ _ _ us hl => match us, hl with | [_], _ => rfl) fun f fd F => fn_non F sc_need_week (fun ds μ d μ' h => by obtain ⟨_, _, _, rfl, _⟩ := h; rfl) (fun ds μ d μ' h => by obtain ⟨_, _, _, rfl, _, h⟩ := h; first | exact h | exact h.2 | exact h.2.2) (fun cdv A outer s H E b ds μ d μ' hr hR hb => ?_)
  obtain ⟨rfl, rfl, w, rfl, hw, rfl⟩ := hR
  have nd := sc_need_week.nd
  exact ⟨_, dss_if (dt_not (dt_val (de_call k_is_week_of hr (da_cons (de_var 0 rfl) da_nil) ⟨w, rfl, hw, rfl⟩))) (fun h => by cases h) (fun h => .go dss_nil dss_nil)⟩
theorem sc_paid : FnScope ["manner", "week"] ["manner", "week"] (defScope s_paid) := ⟨rfl, rfl, rfl, by decide +kernel, rfl, by decide +kernel, by decide +kernel⟩
theorem c_paid (B : Bi K mg) (k_need_manner : Cal P w K mg base "need_manner" 4 (Pure R_need_manner)) (k_need_week : Cal P w K mg base "need_week" 4 (Pure R_need_week)) (k_paid_of : Cal P w K mg base "paid_of" 4 (Pure R_paid_of)) (C : Df K mg "paid" s_paid) : Cal P w K mg base "paid" 5 (Pure R_paid) := by
  refine cal_mk C (fun _ _ _ _ _ _ us hl => match us, hl with | [_, _], _ => rfl) fun f fd F => fn_ret F sc_paid (fun ds μ d μ' h => by obtain ⟨_, _, _, _, rfl, _⟩ := h; rfl) (fun cdv A outer s H E b ds μ d μ' hr hR hb => ?_)
  obtain ⟨rfl, rfl, m, w, rfl, hmw, rfl⟩ := hR
  have nd := sc_paid.nd
  refine dss_cons (ds_drop (de_call k_need_manner hr (da_cons (de_var 0 rfl) da_nil) ⟨m, rfl, hmw.1, rfl⟩)) (dss_cons (ds_drop (de_call k_need_week hr (da_cons (de_var 1 rfl) da_nil) ⟨w, rfl, hmw.2, rfl⟩)) ?_)
  exact dss_ret (de_call k_paid_of hr (da_cons (de_var 0 rfl) (da_cons (de_var 1 rfl) da_nil)) ⟨m, w, rfl, hmw.1, Nat.le_trans hmw.2.1 (by decide), rfl⟩) rfl (fun _ z => z)
theorem sc_lead_week : FnScope ["one", "other"] ["one", "other"] (defScope s_lead_week) := ⟨rfl, rfl, rfl, by decide +kernel, rfl, by decide +kernel, by decide +kernel⟩
theorem c_lead_week (B : Bi K mg) (k_need_manners : Cal P w K mg base "need_manners" 5 (Pure R_need_manners)) (k_lead_of : Cal P w K mg base "lead_of" 6 (Pure R_lead_of)) (C : Df K mg "lead_week" s_lead_week) : Cal P w K mg base "lead_week" 7 (Pure R_lead_week) := by
  refine cal_mk C (fun _ _ _ _ _ _ us hl => match us, hl with | [_, _], _ => rfl) fun f fd F => fn_ret F sc_lead_week (fun ds μ d μ' h => by obtain ⟨_, _, _, _, rfl, _⟩ := h; rfl) (fun cdv A outer s H E b ds μ d μ' hr hR hb => ?_)
  obtain ⟨rfl, rfl, m, n, rfl, hmn, rfl⟩ := hR
  have nd := sc_lead_week.nd
  refine dss_cons (ds_drop (de_call k_need_manners (hr.mono (by decide)) (da_cons (de_var 0 rfl) (da_cons (de_var 1 rfl) da_nil)) ⟨m, n, rfl, hmn, rfl⟩)) ?_
  exact dss_ret (de_ixT (de_call k_lead_of hr (da_cons (de_var 0 rfl) (da_cons (de_var 1 rfl) da_nil)) ⟨m, n, rfl, hmn, rfl⟩) de_int rfl) rfl (fun _ z => z)
theorem sc_same_for_all : FnScope ["one", "other"] ["one", "other"] (defScope s_same_for_all) := ⟨rfl, rfl, rfl, by decide +kernel, rfl, by decide +kernel, by decide +kernel⟩
theorem c_same_for_all (B : Bi K mg) (k_lead_of : Cal P w K mg base "lead_of" 6 (Pure R_lead_of)) (C : Df K mg "same_for_all" s_same_for_all) : Cal P w K mg base "same_for_all" 7 (Pure R_same_for_all) := by
  refine cal_mk C (fun _ _ _ _ _ _ us hl => match us, hl with | [_, _], _ => rfl) fun f fd F => fn_ret F sc_same_for_all (fun ds μ d μ' h => by obtain ⟨_, _, _, _, rfl, _⟩ := h; rfl) (fun cdv A outer s H E b ds μ d μ' hr hR hb => ?_)
  obtain ⟨rfl, rfl, m, n, rfl, hmn, rfl⟩ := hR
  have nd := sc_same_for_all.nd
  exact dss_ret (de_and (de_eqI (de_ixT (de_call k_lead_of hr (da_cons (de_var 0 rfl) (da_cons (de_var 1 rfl) da_nil)) ⟨m, n, rfl, hmn, rfl⟩) de_int rfl) de_int) fun _ => de_one (de_eqI (de_ixT (de_call k_lead_of hr (da_cons (de_var 1 rfl) (da_cons (de_var 0 rfl) da_nil)) ⟨n, m, rfl, hmn.symm, rfl⟩) de_int rfl) de_int)) rfl (fun _ z => z)
theorem sc_alike : FnScope ["one", "other"] ["one", "other"] (defScope s_alike) := ⟨rfl, rfl, rfl, by decide +kernel, rfl, by decide +kernel, by decide +kernel⟩
theorem c_alike (B : Bi K mg) (k_need_manners : Cal P w K mg base "need_manners" 5 (Pure R_need_manners)) (k_same_for_all : Cal P w K mg base "same_for_all" 7 (Pure R_same_for_all)) (C : Df K mg "alike" s_alike) : Cal P w K mg base "alike" 8 (Pure R_alike) := by
  refine cal_mk C (fun _ _ _ _ _ _ us hl => match us, hl with | [_, _], _ => rfl) fun f fd F => fn_ret F sc_alike (fun ds μ d μ' h => by obtain ⟨_, _, _, _, rfl, _⟩ := h; rfl) (fun cdv A outer s H E b ds μ d μ' hr hR hb => ?_)
  obtain ⟨rfl, rfl, m, n, rfl, hmn, rfl⟩ := hR
  have nd := sc_alike.nd
  refine dss_cons (ds_drop (de_call k_need_manners (hr.mono (by decide)) (da_cons (de_var 0 rfl) (da_cons (de_var 1 rfl) da_nil)) ⟨m, n, rfl, hmn, rfl⟩)) ?_
  exact dss_ret (de_call k_same_for_all hr (da_cons (de_var 0 rfl) (da_cons (de_var 1 rfl) da_nil)) ⟨m, n, rfl, hmn, rfl⟩) rfl (fun _ z => z)
theorem sc_first_day : FnScope ["one", "other", "day"] ["one", "other"] (defScope s_first_day) := ⟨rfl, rfl, rfl, by decide +kernel, rfl, by decide +kernel, by decide +kernel⟩
theorem c_first_day (B : Bi K mg) (k_every_day : Cal P w K mg base "every_day" 1 (Pure R_every_day)) (k_paid_of : Cal P w K mg base "paid_of" 4 (Pure R_paid_of)) (C : Df K mg "first_day" s_first_day) : Cal P w K mg base "first_day" 5 (Pure R_first_day) := by
  refine cal_mk C (fun _ _ _ _ _ _ us hl => match us, hl with | [_, _], _ => rfl) fun f fd F => fn_ret F sc_first_day (fun ds μ d μ' h => by obtain ⟨_, _, _, _, rfl, _⟩ := h; rfl) (fun cdv A outer s H E b ds μ d μ' hr hR hb => ?_)
  obtain ⟨rfl, rfl, m, n, rfl, hmn, rfl⟩ := hR
  have nd := sc_first_day.nd
  have hr1 := hr.mono (j := 1) (by decide)
  cases ha : daysR.all (fun p => decide (paidR m [p] = paidR n [p])) with
  | true =>
    have e : firstDayR m n = none := first_none ha
    rw [e]
    refine dss_forI (xs := daysR.map pairD) (P := fun i ρ μ => (∃ y, ρ = [some m.d, some n.d, y]) ∧ μ = []) PassesOwn.never (di_lst (de_call0 k_every_day hr1 ⟨rfl, rfl⟩)) ⟨⟨_, rfl⟩, rfl⟩ (fun i x ρ μ hx hP => ?_) (fun ρ μ hP => ?_)
    · obtain ⟨⟨y, rfl⟩, rfl⟩ := hP
      obtain ⟨p, hp, rfl⟩ := List.mem_map.mp (List.mem_of_getElem? hx)
      have he := List.all_eq_true.mp ha p hp
      refine ⟨_, _, _, _, dg_name (i := 2) nd, dss_if (dt_neI (de_call k_paid_of hr (da_cons (de_var 0 rfl) (da_cons (de_tup (da_cons (de_var 2 rfl) da_nil)) da_nil)) ⟨m, [p], rfl, hmn.1, by simp, rfl⟩) (de_call k_paid_of hr (da_cons (de_var 1 rfl) (da_cons (de_tup (da_cons (de_var 2 rfl) da_nil)) da_nil)) ⟨n, [p], rfl, hmn.2, by simp, rfl⟩)) (fun h => ?_) (fun _ => .go dss_nil dss_nil), ⟨_, rfl⟩, rfl⟩
      rw [he] at h; cases h
    · obtain ⟨⟨y, rfl⟩, rfl⟩ := hP
      exact dss_ret de_non rfl (fun _ z => z)
  | false =>
    obtain ⟨k, p, hk, hf, hbe⟩ := first_false ha
    have e : firstDayR m n = some p := first_some hk hf hbe
    rw [e]
    refine dss_forR (xs := daysR.map pairD) (x := pairD p) (k := k) (P := fun i ρ μ => (∃ y, ρ = [some m.d, some n.d, y]) ∧ μ = []) PassesOwn.never (di_lst (de_call0 k_every_day hr1 ⟨rfl, rfl⟩)) (by rw [List.getElem?_map, hk]; rfl) ⟨⟨_, rfl⟩, rfl⟩ (fun i x ρ μ hi hx hP => ?_) (fun ρ μ hP => ?_)
    · obtain ⟨⟨y, rfl⟩, rfl⟩ := hP
      rw [List.getElem?_map] at hx
      cases e2 : daysR[i]? with
      | none => rw [e2] at hx; cases hx
      | some q =>
        rw [e2] at hx
        have hx' : pairD q = x := by simpa using hx
        subst hx'
        have he := hbe i q hi e2
        refine ⟨_, _, _, _, dg_name (i := 2) nd, dss_if (dt_neI (de_call k_paid_of hr (da_cons (de_var 0 rfl) (da_cons (de_tup (da_cons (de_var 2 rfl) da_nil)) da_nil)) ⟨m, [q], rfl, hmn.1, by simp, rfl⟩) (de_call k_paid_of hr (da_cons (de_var 1 rfl) (da_cons (de_tup (da_cons (de_var 2 rfl) da_nil)) da_nil)) ⟨n, [q], rfl, hmn.2, by simp, rfl⟩)) (fun h => ?_) (fun _ => .go dss_nil dss_nil), ⟨_, rfl⟩, rfl⟩
        rw [he] at h; cases h
    · obtain ⟨⟨y, rfl⟩, rfl⟩ := hP
      refine ⟨_, _, dg_name (i := 2) nd, dss_if (dt_neI (de_call k_paid_of hr (da_cons (de_var 0 rfl) (da_cons (de_tup (da_cons (de_var 2 rfl) da_nil)) da_nil)) ⟨m, [p], rfl, hmn.1, by simp, rfl⟩) (de_call k_paid_of hr (da_cons (de_var 1 rfl) (da_cons (de_tup (da_cons (de_var 2 rfl) da_nil)) da_nil)) ⟨n, [p], rfl, hmn.2, by simp, rfl⟩)) (fun _ => .stop (dss_ret (de_var 2 rfl) rfl (fun _ z => z)) rfl) (fun h => ?_)⟩
      rw [hf] at h; cases h
theorem sc_parting_day : FnScope ["one", "other"] ["one", "other"] (defScope s_parting_day) := ⟨rfl, rfl, rfl, by decide +kernel, rfl, by decide +kernel, by decide +kernel⟩
theorem c_parting_day (B : Bi K mg) (k_need_manners : Cal P w K mg base "need_manners" 5 (Pure R_need_manners)) (k_first_day : Cal P w K mg base "first_day" 5 (Pure R_first_day)) (C : Df K mg "parting_day" s_parting_day) : Cal P w K mg base "parting_day" 6 (Pure R_parting_day) := by
  refine cal_mk C (fun _ _ _ _ _ _ us hl => match us, hl with | [_, _], _ => rfl) fun f fd F => fn_ret F sc_parting_day (fun ds μ d μ' h => by obtain ⟨_, _, _, _, rfl, _⟩ := h; rfl) (fun cdv A outer s H E b ds μ d μ' hr hR hb => ?_)
  obtain ⟨rfl, rfl, m, n, rfl, hmn, rfl⟩ := hR
  have nd := sc_parting_day.nd
  refine dss_cons (ds_drop (de_call k_need_manners (hr.mono (by decide)) (da_cons (de_var 0 rfl) (da_cons (de_var 1 rfl) da_nil)) ⟨m, n, rfl, hmn, rfl⟩)) ?_
  exact dss_ret (de_call k_first_day hr (da_cons (de_var 0 rfl) (da_cons (de_var 1 rfl) da_nil)) ⟨m, n, rfl, hmn, rfl⟩) rfl (fun _ z => z)
theorem sc_parting_week : FnScope ["one", "other", "day", "first", "second", "lead", "week"] ["one", "other"] (defScope s_parting_week) := ⟨rfl, rfl, rfl, by decide +kernel, rfl, by decide +kernel, by decide +kernel⟩
theorem c_parting_week (B : Bi K mg) (k_need_manners : Cal P w K mg base "need_manners" 5 (Pure R_need_manners)) (k_first_day : Cal P w K mg base "first_day" 5 (Pure R_first_day)) (k_lead_of : Cal P w K mg base "lead_of" 6 (Pure R_lead_of)) (C : Df K mg "parting_week" s_parting_week) : Cal P w K mg base "parting_week" 7 (Pure R_parting_week) := by
  refine cal_mk C (fun _ _ _ _ _ _ us hl => match us, hl with | [_, _], _ => rfl) fun f fd F => fn_ret F sc_parting_week (fun ds μ d μ' h => by obtain ⟨_, _, _, _, rfl, _⟩ := h; rfl) (fun cdv A outer s H E b ds μ d μ' hr hR hb => ?_)
  obtain ⟨rfl, rfl, m, n, rfl, ⟨hmn, wm, wn⟩, rfl⟩ := hR
  have nd := sc_parting_week.nd
  refine dss_cons (ds_drop (de_call k_need_manners (hr.mono (by decide)) (da_cons (de_var 0 rfl) (da_cons (de_var 1 rfl) da_nil)) ⟨m, n, rfl, hmn, rfl⟩)) ?_
  refine dss_cons (ds_set (i := 2) (de_call k_first_day (hr.mono (by decide)) (da_cons (de_var 0 rfl) (da_cons (de_var 1 rfl) da_nil)) ⟨m, n, rfl, hmn, rfl⟩) nd) ?_
  cases hf : firstDayR m n with
  | some p =>
    exact dss_if (dt_notN (de_var 2 rfl)) (fun _ => .stop (dss_ret (de_tup (da_cons (de_var 2 rfl) da_nil)) rfl (fun _ z => z)) rfl) (fun h => by cases h)
  | none =>
    have z1 := lead_zero hmn.1 hmn.2 wm wn hf
    have z2 := lead_zero' hmn.1 hmn.2 wm wn hf
    refine dss_if (dt_notN (de_var 2 rfl)) (fun h => by cases h) (fun _ => .go dss_nil ?_)
    refine dss_forF [true, false] (fun bb => cond bb (D.tup [m.d, n.d]) (.tup [n.d, m.d])) (fun u _ => u) () (fun _ ρ μ => (∃ y1 y2 y3 y4, ρ = [some m.d, some n.d, some .non, y1, y2, y3, y4]) ∧ μ = []) PassesOwn.never (di_tup (de_tup (da_cons (de_tup (da_cons (de_var 0 rfl) (da_cons (de_var 1 rfl) da_nil))) (da_cons (de_tup (da_cons (de_var 1 rfl) (da_cons (de_var 0 rfl) da_nil))) da_nil)))) ⟨⟨_, _, _, _, rfl⟩, rfl⟩ (fun bb _ _ ρ μ hP => ?_) (fun ρ μ hP => ?_)
    · obtain ⟨⟨y1, y2, y3, y4, rfl⟩, rfl⟩ := hP
      cases bb with
      | true =>
        exact ⟨_, _, _, _, dg_tup (dgs_cons (dg_name (i := 3) nd) (dgs_cons (dg_name (i := 4) nd) dgs_nil)) rfl, dss_cons (ds_asg (de_call k_lead_of hr (da_cons (de_var 3 rfl) (da_cons (de_var 4 rfl) da_nil)) ⟨m, n, rfl, hmn, rfl⟩) (dg_tup (dgs_cons (dg_name (i := 5) nd) (dgs_cons (dg_name (i := 6) nd) dgs_nil)) rfl)) (dss_if (dt_gt (de_var 5 rfl) de_int) (fun h => by rw [z1] at h; cases h) (fun _ => .go dss_nil dss_nil)), ⟨_, _, _, _, rfl⟩, rfl⟩
      | false =>
        exact ⟨_, _, _, _, dg_tup (dgs_cons (dg_name (i := 3) nd) (dgs_cons (dg_name (i := 4) nd) dgs_nil)) rfl, dss_cons (ds_asg (de_call k_lead_of hr (da_cons (de_var 3 rfl) (da_cons (de_var 4 rfl) da_nil)) ⟨n, m, rfl, hmn.symm, rfl⟩) (dg_tup (dgs_cons (dg_name (i := 5) nd) (dgs_cons (dg_name (i := 6) nd) dgs_nil)) rfl)) (dss_if (dt_gt (de_var 5 rfl) de_int) (fun h => by rw [z2] at h; cases h) (fun _ => .go dss_nil dss_nil)), ⟨_, _, _, _, rfl⟩, rfl⟩
    · obtain ⟨⟨y1, y2, y3, y4, rfl⟩, rfl⟩ := hP
      exact dss_ret de_non rfl (fun _ z => z)
end
end CC


/-! The law's own walk: weeks without limits. -/
namespace CC
open PySem PySem.Spec PyProof.Rows L2 PD
def R_law : List D → D → Prop := fun ds d => ∃ ns : List Int, ds = [.lst (ns.map D.int)] ∧ ns.length ≤ 63 ∧ d = .bl true
theorem zipD_map {α : Type} (f g : α → D) : ∀ l : List α, zipD (l.map f) (l.map g) = l.map fun a => .tup [f a, g a]
  | [] => rfl
  | a :: l => congrArg (_ :: ·) (zipD_map f g l)
theorem de_mostL {X : Cx} {ρ : Rho} {μ μ1 : Mus} {a : Expr} {p pos : Pos} (m : Mn) (hm : X.mg "max" = none) (ha : DE X ρ μ a (.lst (((allParts m).map (·.1)).map D.int)) μ1) (hc : X.calm = true := by rfl) (hg : Gl X "max" := by rfl) (he : starEach [a] X.env = (false, eval a X.env) :: starEach [] X.env := by rfl) :
    DE X ρ μ (.Call (.Name "max" p) [a] [] pos) (.int (mostR m)) μ1 := by
  unfold mostR
  exact de_maxL hm ha (parts_ne m) hc hg he
theorem eqvB (a c : Bool) : D.eqv (.bl a) (.bl c) = (a == c) := by cases a <;> cases c <;> rfl
section
variable {P : Program} {w : World} {K : PySem.W.Frag} {mg : Str → Option Value} {base : Heap}
theorem sc_law : FnScope ["_law_script", "_law_k", "_law_deck_here", "_law_r", "_law_two", "_law_gains", "_law_first", "_law_second", "_law_days_here", "_law_limit", "_law_split_here"] ["_law_script"] (defScope s_law) := ⟨rfl, rfl, rfl, by decide +kernel, rfl, by decide +kernel, by decide +kernel⟩
theorem ok_law (B : Bi K mg) (k_law_deck : CalN P w K mg base "_law_deck" 1 R_law_deck) (k_law_manner : Cal P w K mg base "_law_manner" 3 (One R_law_manner)) (k_law_bent : Cal P w K mg base "_law_bent" 3 (One R_law_bent)) (k_law_splits : Cal P w K mg base "_law_splits" 2 (Pure R_law_splits)) (k_law_pick : Cal P w K mg base "_law_pick" 1 (One R_law_pick)) (k_alike : Cal P w K mg base "alike" 8 (Pure R_alike)) (k_parting_day : Cal P w K mg base "parting_day" 6 (Pure R_parting_day)) (k_parting_week : Cal P w K mg base "parting_week" 7 (Pure R_parting_week)) (k_greatest_lead : Cal P w K mg base "greatest_lead" 7 (Pure R_greatest_lead)) (k_lead_week : Cal P w K mg base "lead_week" 7 (Pure R_lead_week)) (k_paid : Cal P w K mg base "paid" 5 (Pure R_paid)) {f : Addr} {fd : FuncData} (F : Fun K "law" "law" s_law f fd) : FnOk P w K mg base CX0 9 f fd ["_law_script"] (spM K (Pure R_law)) := by
  refine fn_ret F sc_law (fun ds μ d μ' h => by obtain ⟨_, _, _, rfl, _⟩ := h; rfl) (fun cdv A outer s H E b ds μ d μ' hr hR hb => ?_)
  obtain ⟨rfl, rfl, ns, rfl, hns, rfl⟩ := hR
  have nd := sc_law.nd
  have hr1 := hr.mono (j := 1) (by decide)
  have hr2 := hr.mono (j := 2) (by decide)
  have hr3 := hr.mono (j := 3) (by decide)
  have hr5 := hr.mono (j := 5) (by decide)
  have hr6 := hr.mono (j := 6) (by decide)
  have hr7 := hr.mono (j := 7) (by decide)
  refine dss_forI (xs := rgD 0 3) (P := fun i ρ μ => (∃ y1 y2 y3 y4 y5 y6 y7 y8 y9 y10, ρ = [some (.lst (ns.map D.int)), y1, y2, y3, y4, y5, y6, y7, y8, y9, y10]) ∧ μ = []) PassesOwn.never (di_rg1 (i := 3) B.b_range de_int (by decide)) ⟨⟨_, _, _, _, _, _, _, _, _, _, rfl⟩, rfl⟩ (fun i x ρ μ hx hP => ?_) (fun ρ μ hP => ?_)
  · obtain ⟨⟨y1, y2, y3, y4, y5, y6, y7, y8, y9, y10, rfl⟩, rfl⟩ := hP
    have hi : i < 3 := by
      have := (List.getElem?_eq_some_iff.mp hx).1
      rw [rgD_len] at this
      exact this
    have ex : x = .int ((i : Nat) : Int) := by
      rw [rgD_get hi] at hx
      have : D.int (0 + ((i : Nat) : Int)) = x := by simpa using hx
      rw [← this, Int.zero_add]
    subst ex
    have h0 : atI ((ns ++ [0, 0, 0]).map D.int) ((i : Nat) : Int) = some (.int ((ns ++ [0, 0, 0]).getD ((i : Nat) : Int).toNat 0)) := getD_at D.int ⟨by omega, by rw [List.length_append]; show ((i : Nat) : Int) < ((ns.length + 3 : Nat) : Int); omega⟩
    generalize (ns ++ [0, 0, 0]).getD ((i : Nat) : Int).toNat 0 = cell at h0
    refine ⟨_, _, [some (.lst (ns.map D.int)), none, none, none, none, none, none, none, none, none, none], [], dg_name (i := 1) nd, ?_, ⟨_, _, _, _, _, _, _, _, _, _, rfl⟩, rfl⟩
    refine dss_newF (j := 2) k_law_deck hr1 (da_cons (de_ixL ((de_catL (de_var 0 rfl) (de_rep (n := 3) (da_cons de_int da_nil) (by decide) (by decide)) (by show (ns.map D.int).length + 3 ≤ 100000; rw [List.length_map]; omega)).cast (d1 := .lst ((ns ++ [0, 0, 0]).map D.int)) (by rw [List.map_append]; rfl)) (de_var 1 rfl) h0) (da_cons (de_var 1 rfl) da_nil)) ⟨cell, ((i : Nat) : Int), rfl, rfl⟩ (fun q hq => ?_) nd
    have dk := deck_ok (cell := cell) (turn := ((i : Nat) : Int)) (T := 2) ⟨by omega, by omega⟩
    have mo := manner_ok dk
    refine dss_cons (ds_set (i := 3) (d := ((mannerR (deckR cell ((i : Nat) : Int))).1.wl none).d) ((de_catT (de_slT (de_call1 k_law_manner hr3 (da_cons (de_var 2 rfl) da_nil) ⟨deckR cell ((i : Nat) : Int), rfl, dk.mono (by decide), rfl, rfl, rfl⟩ (by simp)) do_none (do_some de_int)) (de_tup (da_cons de_non da_nil)) (by show 4 + 1 ≤ 100000; decide)).cast rfl) nd) ?_
    have hm : ((mannerR (deckR cell ((i : Nat) : Int))).1.wl none).Ok := wl_ok mo.1 lim_none
    have wm : ((mannerR (deckR cell ((i : Nat) : Int))).1.wl none).week = none := rfl
    have ka := mo.2
    generalize (mannerR (deckR cell ((i : Nat) : Int))).1.wl none = m at hm wm ⊢
    generalize (mannerR (deckR cell ((i : Nat) : Int))).2 = k2 at ka ⊢
    clear mo
    have bo := bent_ok hm ka
    refine dss_cons (ds_set (i := 4) (d := ((bentR k2 m).1.wl none).d) ((de_catT (de_slT (de_call1 k_law_bent hr3 (da_cons (de_var 2 rfl) (da_cons (de_var 3 rfl) da_nil)) ⟨k2, m, rfl, ⟨ka.mono (by decide), hm⟩, rfl, rfl, rfl⟩ (by simp)) do_none (do_some de_int)) (de_tup (da_cons de_non da_nil)) (by show 4 + 1 ≤ 100000; decide)).cast rfl) nd) ?_
    have hn : ((bentR k2 m).1.wl none).Ok := wl_ok bo.1 lim_none
    have wn : ((bentR k2 m).1.wl none).week = none := rfl
    have kb := bo.2
    generalize (bentR k2 m).1.wl none = n at hn wn ⊢
    generalize (bentR k2 m).2 = k3 at kb ⊢
    clear bo
    have f1 := alike_first hm hn wm wn
    have f2 := lead_gains hm hn wm wn
    have f3 := lead_gains' hm hn wm wn
    have f4 := lead_is hm hn
    refine dss_if (dt_neD hr.units (de_call k_alike hr (da_cons (de_var 3 rfl) (da_cons (de_var 4 rfl) da_nil)) ⟨m, n, rfl, ⟨hm, hn⟩, rfl⟩) (de_isN (de_call k_parting_day hr6 (da_cons (de_var 3 rfl) (da_cons (de_var 4 rfl) da_nil)) ⟨m, n, rfl, ⟨hm, hn⟩, rfl⟩)) (cm_bl (k := 0)).ok (cm_bl (k := 0)).ok) (fun h => ?_) (fun _ => .go dss_nil ?_)
    · rw [eqvB, f1] at h
      cases e : firstDayR m n <;> (rw [e] at h; cases h)
    refine dss_if (dt_neD hr.units (de_isN (de_call k_parting_week hr7 (da_cons (de_var 3 rfl) (da_cons (de_var 4 rfl) da_nil)) ⟨m, n, rfl, ⟨⟨hm, hn⟩, wm, wn⟩, rfl⟩)) (de_isN (de_call k_parting_day hr6 (da_cons (de_var 3 rfl) (da_cons (de_var 4 rfl) da_nil)) ⟨m, n, rfl, ⟨hm, hn⟩, rfl⟩)) (cm_bl (k := 0)).ok (cm_bl (k := 0)).ok) (fun h => ?_) (fun _ => .go dss_nil ?_)
    · rw [eqvB] at h
      cases e : firstDayR m n <;> (rw [e] at h; cases h)
    refine dss_newL (j := 5) (da_cons de_int da_nil) (fun p hp => ?_) nd
    refine dss_forI (xs := daysR.map fun a => .tup [pairD (partsR m a), pairD (partsR n a)]) (P := fun j ρ μ => (∃ y6 y7 y8 y9 y10, ρ = [some (.lst (ns.map D.int)), some (.int ((i : Nat) : Int)), some (.adr q), some m.d, some n.d, some (.adr p), y6, y7, y8, y9, y10]) ∧ μ = [(p, .l ((0 :: (daysR.take j).map (gain0 m n)).map D.int)), (q, k3.mo)]) PassesOwn.never ?_ ⟨⟨_, _, _, _, _, rfl⟩, rfl⟩ (fun j x ρ μ hx hP => ?_) (fun ρ μ hP => ?_)
    · rw [← zipD_map]
      exact di_zip B.b_zip (da_cons ((de_call k_law_splits hr2 (da_cons (de_var 3 rfl) da_nil) ⟨m, rfl, hm, rfl⟩).cast (by unfold allParts; rw [List.map_map]; rfl)) (da_cons ((de_call k_law_splits hr2 (da_cons (de_var 4 rfl) da_nil) ⟨n, rfl, hn, rfl⟩).cast (by unfold allParts; rw [List.map_map]; rfl)) da_nil)) (by simp)
    · obtain ⟨⟨y6, y7, y8, y9, y10, rfl⟩, rfl⟩ := hP
      rw [List.getElem?_map] at hx
      cases e : daysR[j]? with
      | none => rw [e] at hx; cases hx
      | some a =>
        rw [e] at hx
        have hx' : D.tup [pairD (partsR m a), pairD (partsR n a)] = x := by simpa using hx
        subst hx'
        have hz : ((0 :: (daysR.take j).map (gain0 m n)).map D.int).length < 100000 := by
          have : (daysR.take j).length ≤ 4656 := by rw [List.length_take, days_len]; omega
          rw [List.length_map, List.length_cons, List.length_map]
          omega
        have el : (0 :: (daysR.take j).map (gain0 m n)).map D.int ++ [.int (gain0 m n a)] = (0 :: (daysR.take (j + 1)).map (gain0 m n)).map D.int := by
          rw [List.take_add_one, e]
          simp
        refine ⟨_, _, _, _, dg_tup (dgs_cons (dg_name (i := 6) nd) (dgs_cons (dg_name (i := 7) nd) dgs_nil)) rfl, dss_one (ds_append (d := .int (gain0 m n a)) (de_var 5 rfl) List.mem_cons_self (de_sub (de_sub (de_add (de_mul de_int (de_ixT (de_var 6 rfl) de_int rfl) (.inl ⟨by decide, by decide⟩)) (de_mul de_int (de_ixT (de_var 6 rfl) de_int rfl) (.inl ⟨by decide, by decide⟩))) (de_mul de_int (de_ixT (de_var 7 rfl) de_int rfl) (.inl ⟨by decide, by decide⟩))) (de_mul de_int (de_ixT (de_var 7 rfl) de_int rfl) (.inl ⟨by decide, by decide⟩))) hp hz), ⟨_, _, _, _, _, rfl⟩, by rw [el]⟩
    · obtain ⟨⟨y6, y7, y8, y9, y10, rfl⟩, rfl⟩ := hP
      have et : daysR.take (daysR.map fun a => D.tup [pairD (partsR m a), pairD (partsR n a)]).length = daysR := by rw [List.length_map, List.take_length]
      rw [et]
      have hG : (0 :: daysR.map (gain0 m n)) = gainsR m n := rfl
      rw [hG]
      have hne := gains_ne m n
      generalize gainsR m n = G at f2 f3 hne ⊢
      refine dss_lockL (.keep (.keep (.keep (.keep (.keep (.chg (.keep (.keep (.keep (.keep (.keep .nil))))))))))) hp ?_
      refine dss_if (dw_or (dt_neI (de_call k_greatest_lead hr7 (da_cons (de_var 3 rfl) (da_cons (de_var 4 rfl) da_nil)) ⟨m, n, rfl, ⟨hm, hn⟩, rfl⟩) (de_mul de_int (de_maxL B.b_max (ns := G) (de_var 5 rfl) hne) (.inl ⟨by decide, by decide⟩))) fun _ => dw_or1 (dt_neI (de_call k_greatest_lead hr7 (da_cons (de_var 4 rfl) (da_cons (de_var 3 rfl) da_nil)) ⟨n, m, rfl, ⟨hn, hm⟩, rfl⟩) (de_sub de_int (de_mul de_int (de_minL B.b_min (ns := G) (de_var 5 rfl) hne) (.inl ⟨by decide, by decide⟩))))).dt (fun h => ?_) (fun _ => .go dss_nil ?_)
      · rw [decide_eq_true f2, decide_eq_true f3] at h
        cases h
      have w5 : W5' (leadR m n).2 := ⟨f4.1.1, fun p hp => mem_days (f4.1.2 p hp)⟩
      refine dss_cons (ds_set (i := 8) (de_call k_lead_week hr7 (da_cons (de_var 3 rfl) (da_cons (de_var 4 rfl) da_nil)) ⟨m, n, rfl, ⟨hm, hn⟩, rfl⟩) nd) ?_
      refine dss_if (dt_neI (de_sub (de_call k_paid hr5 (da_cons (de_var 3 rfl) (da_cons (de_var 8 rfl) da_nil)) ⟨m, _, rfl, ⟨hm, w5⟩, rfl⟩) (de_call k_paid hr5 (da_cons (de_var 4 rfl) (da_cons (de_var 8 rfl) da_nil)) ⟨n, _, rfl, ⟨hn, w5⟩, rfl⟩)) (de_mul de_int (de_maxL B.b_max (ns := G) (de_var 5 rfl) hne) (.inl ⟨by decide, by decide⟩))) (fun h => ?_) (fun _ => .go dss_nil ?_)
      · rw [decide_eq_true (f4.2.symm.trans f2)] at h
        cases h
      have mr := most_rng hm
      have hl : ((allParts m).map (·.1)).map D.int = ((allParts m).map pairD).map (onPair fun q => .int q.1) := by rw [List.map_map, List.map_map]; rfl
      have hz : (((allParts m).map (·.1)).map D.int).length ≤ 100000 := by unfold allParts; rw [List.length_map, List.length_map, List.length_map, days_len]; decide
      refine dss_cons (ds_set (i := 9) (d := .int (5 * mostR m)) (de_mul de_int (de_mostL m B.b_max (de_lc (own := [("_law_split_here", 10)]) (di_lst (de_call k_law_splits hr2 (da_cons (de_var 3 rfl) da_nil) ⟨m, rfl, hm, rfl⟩)) ?_ hz nd (blkOk_by (N := ["_law_script", "_law_k", "_law_deck_here", "_law_r", "_law_two", "_law_gains", "_law_first", "_law_second", "_law_days_here", "_law_limit", "_law_split_here"]) (sc := defScope s_law) (by decide +kernel)) rfl (fun _ => rfl) rfl)) (.inl ⟨by decide, by decide⟩)) nd) ?_
      · rw [hl]
        refine CLoop.map _ fun x hx => ?_
        obtain ⟨p, _, rfl⟩ := List.mem_map.mp hx
        exact ⟨_, _, fun _ _ _ _ _ => dg_name (i := 10) nd, by decide, fun _ _ _ _ _ => de_ixT (de_var 10 rfl) de_int rfl⟩
      generalize hM : mostR m = M at mr ⊢
      refine dss_if (dw_and (k2 := !decide (alikeR m (m.wl (some (5 * M))) = true)) (dt_gt (de_var 9 rfl) de_int) fun h1 => dw_and1 (dt_isNB (de_call k_alike hr (da_cons (de_var 3 rfl) (da_cons ((de_catT (de_slT (de_var 3 rfl) do_none (do_some de_int)) (de_tup (da_cons (de_var 9 rfl) da_nil)) (by show 4 + 1 ≤ 100000; decide)).cast (d1 := (m.wl (some (5 * M))).d) rfl) da_nil)) ⟨m, m.wl (some (5 * M)), rfl, ⟨hm, wl_ok hm (lim_some (by have := of_decide_eq_true h1; omega))⟩, rfl⟩) de_bl)).dt (fun h => ?_) (fun _ => .go dss_nil ?_)
      · rw [Bool.and_eq_true, decide_eq_true_eq] at h
        have := wk_same hm (by rw [hM]; exact h.1) wm
        rw [hM] at this
        rw [this] at h
        cases h.2
      refine dss_if (dw_and (k2 := !decide (alikeR m (m.wl (some (5 * M - 1))) = false)) (dt_gt (de_var 9 rfl) de_int) fun h1 => dw_and1 (dt_isNB (de_call k_alike hr (da_cons (de_var 3 rfl) (da_cons ((de_catT (de_slT (de_var 3 rfl) do_none (do_some de_int)) (de_tup (da_cons (de_sub (de_var 9 rfl) de_int) da_nil)) (by show 4 + 1 ≤ 100000; decide)).cast (d1 := (m.wl (some (5 * M - 1))).d) rfl) da_nil)) ⟨m, m.wl (some (5 * M - 1)), rfl, ⟨hm, wl_ok hm (lim_some (by have := of_decide_eq_true h1; omega))⟩, rfl⟩) de_bl)).dt (fun h => ?_) (fun _ => .go dss_nil ?_)
      · rw [Bool.and_eq_true, decide_eq_true_eq] at h
        have := wk_less hm (by rw [hM]; exact h.1) wm
        rw [hM] at this
        rw [this] at h
        cases h.2
      have pr := pick_rng (k := k3) (lim := 480) (by decide)
      refine dss_if (dt_lt (de_call k_greatest_lead hr7 (da_cons ((de_catT (de_slT (de_var 3 rfl) do_none (do_some de_int)) (de_tup (da_cons (de_add de_int (de_call1 k_law_pick hr1 (da_cons (de_var 2 rfl) (da_cons de_int da_nil)) ⟨k3, 480, rfl, ⟨kb.mono (by decide), by decide, by decide⟩, rfl, rfl, rfl⟩ (by simp))) da_nil)) (by show 4 + 1 ≤ 100000; decide)).cast (d1 := (m.wl (some (1 + (pickR k3 480).1))).d) rfl) (da_cons (de_var 3 rfl) da_nil)) ⟨m.wl (some (1 + (pickR k3 480).1)), m, rfl, ⟨wl_ok hm (lim_some (by omega)), hm⟩, rfl⟩) de_int) (fun h => ?_) (fun _ => .go dss_nil ?_)
      · have := lead_ge0 (m.wl (some (1 + (pickR k3 480).1))) m
        rw [decide_eq_false (by omega)] at h
        cases h
      exact dss_drop (a := 0) (new := .adr 0) (.keep (.drop (.drop (.drop (.drop (.drop (.drop (.drop (.drop (.drop (.drop .nil))))))))))) (dss_weak (μ' := []) dss_nil rfl (fun i d e => e) (fun _ z => by cases z))
  · obtain ⟨⟨y1, y2, y3, y4, y5, y6, y7, y8, y9, y10, rfl⟩, rfl⟩ := hP
    exact dss_ret de_bl rfl (fun _ z => z)
end
end CC


/-! All defs in a row; what the top has written; the law's own head. -/
namespace CC
open PySem PySem.Spec PyProof.Rows L2 PD
theorem df_mk {x : Str} {st : Stmt} {K : PySem.W.Frag} {h : Heap} {mg : Str → Option Value} {f : Addr} {oc : Value} {od an : Option Addr} {osl : Array (Option Value)} {kV doc pm cdv ct : Value} (X : K.In h) (G : h.Ns mainGlobals mg) (a : PySem.W.nsIn K mainGlobals x = some (some (.ref f)))
    (l : K.lookup f = some ⟨oc, od, .func (PySem.W.fnOf x x (defArgs st) (defBody st) (defScope st) .none kV doc pm an cdv ct), osl⟩) (c : PySem.W.codeIn K cdv x = true) (k : PySem.W.keepIn K (.ref f) = true) : Df K mg x st := ⟨f, _, fun_mk (st := st) l c k, PySem.W.mg_of X G a⟩
theorem kint_mk {x : Str} {i : Int} {t : Tok} {K : PySem.W.Frag} {h : Heap} {mg : Str → Option Value} (X : K.In h) (G : h.Ns mainGlobals mg) (a : PySem.W.nsIn K mainGlobals x = some (some (.int i t))) : KInt mg x i := ⟨t, PySem.W.mg_of X G a⟩
theorem head_sp {K : PySem.W.Frag} {H : Hp} {a : Addr} {ns : List Int} (hl : ns.length ≤ 63) (hO : Only H) (hS : SqL K H a (ns.map V.int)) (E : XK) : spM K (Pure R_law) [.ref a] H (fun v _ => v = .bl true) E := by
  have fz : ∃ o, FzL K H a o (ns.map V.int) := by
    rcases hS with (h | ⟨o, h⟩) | ⟨o, its, n, h1, h2, h3, h4, h5, h6⟩
    · rcases hO a with z | ⟨o, xs, z⟩
      · rw [z] at h; cases h
      · rw [z] at h; cases h
    · exact ⟨o, .inl h⟩
    · exact ⟨o, .inr ⟨h1, h2, h3, its, n, h4, h5, h6⟩⟩
  obtain ⟨o, fz⟩ := fz
  exact ⟨[.lst (ns.map D.int)], [], .bl true, [], Rps.cn (rp_lst.mpr ⟨a, o, _, rfl, fz, rps_ints⟩) Rps.nl, Mu.nl, ⟨rfl, rfl, ns, rfl, hl, rfl⟩, fun v H' _ _ r => rp_bl.mp r⟩
theorem law_fn {P : Program} {w : World} {K : PySem.W.Frag} {mg : Str → Option Value} {base : Heap} (B : Bi K mg)
    (d_is_from : Df K mg "is_from" s_is_from)
    (d_came : Df K mg "came" s_came)
    (d_went : Df K mg "went" s_went)
    (d_counted_of : Df K mg "counted_of" s_counted_of)
    (d_is_rounding_of : Df K mg "is_rounding_of" s_is_rounding_of)
    (d_left_of : Df K mg "left_of" s_left_of)
    (d_split_of : Df K mg "split_of" s_split_of)
    (d_parts_of : Df K mg "parts_of" s_parts_of)
    (d_lists_of : Df K mg "lists_of" s_lists_of)
    (d_every_day : Df K mg "every_day" s_every_day)
    (d_are_breaks_of : Df K mg "are_breaks_of" s_are_breaks_of)
    (d_is_manner_of : Df K mg "is_manner_of" s_is_manner_of)
    (d_need_manner : Df K mg "need_manner" s_need_manner)
    (d_need_manners : Df K mg "need_manners" s_need_manners)
    (d_all_parts : Df K mg "all_parts" s_all_parts)
    (d_paid_of : Df K mg "paid_of" s_paid_of)
    (d_best_days : Df K mg "best_days" s_best_days)
    (d_best_weeks : Df K mg "best_weeks" s_best_weeks)
    (d_lead_of : Df K mg "lead_of" s_lead_of)
    (d_greatest_lead : Df K mg "greatest_lead" s_greatest_lead)
    (d_law_deck : Df K mg "_law_deck" s_law_deck)
    (d_law_pick : Df K mg "_law_pick" s_law_pick)
    (d_law_rounding : Df K mg "_law_rounding" s_law_rounding)
    (d_law_manner : Df K mg "_law_manner" s_law_manner)
    (d_law_one : Df K mg "_law_one" s_law_one)
    (d_law_punch : Df K mg "_law_punch" s_law_punch)
    (d_law_split : Df K mg "_law_split" s_law_split)
    (d_law_splits : Df K mg "_law_splits" s_law_splits)
    (d_law_bent : Df K mg "_law_bent" s_law_bent)
    (d_is_day_of : Df K mg "is_day_of" s_is_day_of)
    (d_is_week_of : Df K mg "is_week_of" s_is_week_of)
    (d_need_week : Df K mg "need_week" s_need_week)
    (d_paid : Df K mg "paid" s_paid)
    (d_lead_week : Df K mg "lead_week" s_lead_week)
    (d_same_for_all : Df K mg "same_for_all" s_same_for_all)
    (d_alike : Df K mg "alike" s_alike)
    (d_first_day : Df K mg "first_day" s_first_day)
    (d_parting_day : Df K mg "parting_day" s_parting_day)
    (d_parting_week : Df K mg "parting_week" s_parting_week)
    {f : Addr} {fd : FuncData} (F : Fun K "law" "law" s_law f fd) : FnOk P w K mg base CX0 9 f fd ["_law_script"] (spM K (Pure R_law)) := by
  have k_is_from : Cal P w K mg base "is_from" 1 (Pure R_is_from) := c_is_from B d_is_from
  have k_came : Cal P w K mg base "came" 1 (Pure R_came) := c_came B d_came
  have k_went : Cal P w K mg base "went" 1 (Pure R_went) := c_went B d_went
  have k_counted_of : Cal P w K mg base "counted_of" 2 (Pure R_counted_of) := c_counted_of B k_went k_came d_counted_of
  have k_is_rounding_of : Cal P w K mg base "is_rounding_of" 2 (Pure R_is_rounding_of) := c_is_rounding_of B k_is_from d_is_rounding_of
  have k_left_of : Cal P w K mg base "left_of" 1 (Pure R_left_of) := c_left_of B d_left_of
  have k_split_of : Cal P w K mg base "split_of" 2 (Pure R_split_of) := c_split_of B k_left_of d_split_of
  have k_parts_of : Cal P w K mg base "parts_of" 3 (Pure R_parts_of) := c_parts_of B k_split_of k_counted_of d_parts_of
  have k_lists_of : Cal P w K mg base "lists_of" 3 (Pure R_lists_of) := c_lists_of B k_split_of k_came k_went d_lists_of
  have k_every_day : Cal P w K mg base "every_day" 1 (Pure R_every_day) := c_every_day B d_every_day
  have k_are_breaks_of : Cal P w K mg base "are_breaks_of" 2 (Pure R_are_breaks_of) := c_are_breaks_of B k_is_from d_are_breaks_of
  have k_is_manner_of : Cal P w K mg base "is_manner_of" 3 (Pure R_is_manner_of) := c_is_manner_of B k_is_rounding_of k_are_breaks_of k_is_from d_is_manner_of
  have k_need_manner : Cal P w K mg base "need_manner" 4 (Pure R_need_manner) := c_need_manner B k_is_manner_of d_need_manner
  have k_need_manners : Cal P w K mg base "need_manners" 5 (Pure R_need_manners) := c_need_manners B k_need_manner d_need_manners
  have k_all_parts : Cal P w K mg base "all_parts" 4 (Pure R_all_parts) := c_all_parts B k_lists_of d_all_parts
  have k_paid_of : Cal P w K mg base "paid_of" 4 (Pure R_paid_of) := c_paid_of B k_parts_of d_paid_of
  have k_best_days : Cal P w K mg base "best_days" 5 (Pure R_best_days) := c_best_days B k_every_day k_all_parts d_best_days
  have k_best_weeks : Cal P w K mg base "best_weeks" 1 (Pure R_best_weeks) := c_best_weeks B d_best_weeks
  have k_lead_of : Cal P w K mg base "lead_of" 6 (Pure R_lead_of) := c_lead_of B k_best_days k_best_weeks k_paid_of d_lead_of
  have k_greatest_lead : Cal P w K mg base "greatest_lead" 7 (Pure R_greatest_lead) := c_greatest_lead B k_need_manners k_lead_of d_greatest_lead
  have k_law_deck : CalN P w K mg base "_law_deck" 1 R_law_deck := c_law_deck B d_law_deck
  have k_law_pick : Cal P w K mg base "_law_pick" 1 (One R_law_pick) := c_law_pick B d_law_pick
  have k_law_rounding : Cal P w K mg base "_law_rounding" 2 (One R_law_rounding) := c_law_rounding B k_law_pick d_law_rounding
  have k_law_manner : Cal P w K mg base "_law_manner" 3 (One R_law_manner) := c_law_manner B k_law_pick k_law_rounding d_law_manner
  have k_law_one : Cal P w K mg base "_law_one" 2 (One R_law_one) := c_law_one B k_law_pick d_law_one
  have k_law_punch : Cal P w K mg base "_law_punch" 1 (Pure R_law_punch) := c_law_punch B d_law_punch
  have k_law_split : Cal P w K mg base "_law_split" 1 (Pure R_law_split) := c_law_split B d_law_split
  have k_law_splits : Cal P w K mg base "_law_splits" 2 (Pure R_law_splits) := c_law_splits B k_law_punch k_law_split d_law_splits
  have k_law_bent : Cal P w K mg base "_law_bent" 3 (One R_law_bent) := c_law_bent B k_law_pick k_law_one k_law_rounding d_law_bent
  have k_is_day_of : Cal P w K mg base "is_day_of" 2 (Pure R_is_day_of) := c_is_day_of B k_is_from d_is_day_of
  have k_is_week_of : Cal P w K mg base "is_week_of" 3 (Pure R_is_week_of) := c_is_week_of B k_is_day_of d_is_week_of
  have k_need_week : Cal P w K mg base "need_week" 4 (Pure R_need_week) := c_need_week B k_is_week_of d_need_week
  have k_paid : Cal P w K mg base "paid" 5 (Pure R_paid) := c_paid B k_need_manner k_need_week k_paid_of d_paid
  have k_lead_week : Cal P w K mg base "lead_week" 7 (Pure R_lead_week) := c_lead_week B k_need_manners k_lead_of d_lead_week
  have k_same_for_all : Cal P w K mg base "same_for_all" 7 (Pure R_same_for_all) := c_same_for_all B k_lead_of d_same_for_all
  have k_alike : Cal P w K mg base "alike" 8 (Pure R_alike) := c_alike B k_need_manners k_same_for_all d_alike
  have k_first_day : Cal P w K mg base "first_day" 5 (Pure R_first_day) := c_first_day B k_every_day k_paid_of d_first_day
  have k_parting_day : Cal P w K mg base "parting_day" 6 (Pure R_parting_day) := c_parting_day B k_need_manners k_first_day d_parting_day
  have k_parting_week : Cal P w K mg base "parting_week" 7 (Pure R_parting_week) := c_parting_week B k_need_manners k_first_day k_lead_of d_parting_week
  exact ok_law B k_law_deck k_law_manner k_law_bent k_law_splits k_law_pick k_alike k_parting_day k_parting_week k_greatest_lead k_lead_week k_paid F
theorem all_mk {l : PySem.W.OpenLaw} {w : World} {K : PySem.W.Frag} {h : Heap} {mg : Str → Option Value} {fa f0 f1 f2 f3 f4 f5 f6 f7 f8 f9 f10 f11 f12 f13 f14 f15 f16 f17 f18 f19 f20 f21 f22 f23 f24 f25 f26 f27 f28 f29 f30 f31 f32 f33 f34 f35 f36 f37 f38 f39 g_STEPS g_SIDES : Addr} (X : K.In h) (G : h.Ns mainGlobals mg) (hfa : mg "law" = some (.ref fa))
    {od0 an0 od1 an1 od2 an2 od3 an3 od4 an4 od5 an5 od6 an6 od7 an7 od8 an8 od9 an9 od10 an10 od11 an11 od12 an12 od13 an13 od14 an14 od15 an15 od16 an16 od17 an17 od18 an18 od19 an19 od20 an20 od21 an21 od22 an22 od23 an23 od24 an24 od25 an25 od26 an26 od27 an27 od28 an28 od29 an29 od30 an30 od31 an31 od32 an32 od33 an33 od34 an34 od35 an35 od36 an36 od37 an37 od38 an38 od39 an39 god_STEPS god_SIDES : Option Addr} {sl0 sl1 sl2 sl3 sl4 sl5 sl6 sl7 sl8 sl9 sl10 sl11 sl12 sl13 sl14 sl15 sl16 sl17 sl18 sl19 sl20 sl21 sl22 sl23 sl24 sl25 sl26 sl27 sl28 sl29 sl30 sl31 sl32 sl33 sl34 sl35 sl36 sl37 sl38 sl39 gsl_STEPS gsl_SIDES : Array (Option Value)} {oc0 kV0 dc0 pm0 cd0 ct0 oc1 kV1 dc1 pm1 cd1 ct1 oc2 kV2 dc2 pm2 cd2 ct2 oc3 kV3 dc3 pm3 cd3 ct3 oc4 kV4 dc4 pm4 cd4 ct4 oc5 kV5 dc5 pm5 cd5 ct5 oc6 kV6 dc6 pm6 cd6 ct6 oc7 kV7 dc7 pm7 cd7 ct7 oc8 kV8 dc8 pm8 cd8 ct8 oc9 kV9 dc9 pm9 cd9 ct9 oc10 kV10 dc10 pm10 cd10 ct10 oc11 kV11 dc11 pm11 cd11 ct11 oc12 kV12 dc12 pm12 cd12 ct12 oc13 kV13 dc13 pm13 cd13 ct13 oc14 kV14 dc14 pm14 cd14 ct14 oc15 kV15 dc15 pm15 cd15 ct15 oc16 kV16 dc16 pm16 cd16 ct16 oc17 kV17 dc17 pm17 cd17 ct17 oc18 kV18 dc18 pm18 cd18 ct18 oc19 kV19 dc19 pm19 cd19 ct19 oc20 kV20 dc20 pm20 cd20 ct20 oc21 kV21 dc21 pm21 cd21 ct21 oc22 kV22 dc22 pm22 cd22 ct22 oc23 kV23 dc23 pm23 cd23 ct23 oc24 kV24 dc24 pm24 cd24 ct24 oc25 kV25 dc25 pm25 cd25 ct25 oc26 kV26 dc26 pm26 cd26 ct26 oc27 kV27 dc27 pm27 cd27 ct27 oc28 kV28 dc28 pm28 cd28 ct28 oc29 kV29 dc29 pm29 cd29 ct29 oc30 kV30 dc30 pm30 cd30 ct30 oc31 kV31 dc31 pm31 cd31 ct31 oc32 kV32 dc32 pm32 cd32 ct32 oc33 kV33 dc33 pm33 cd33 ct33 oc34 kV34 dc34 pm34 cd34 ct34 oc35 kV35 dc35 pm35 cd35 ct35 oc36 kV36 dc36 pm36 cd36 ct36 oc37 kV37 dc37 pm37 cd37 ct37 oc38 kV38 dc38 pm38 cd38 ct38 oc39 kV39 dc39 pm39 cd39 ct39 : Value} {ti_LAST ti_MOST_MINUS ti_MOST_DAYS tt_STEPS0 tt_STEPS1 tt_STEPS2 tt_STEPS3 tt_STEPS4 tt_STEPS5 tt_STEPS6 tt_SIDES0 tt_SIDES1 tt_SIDES2 : Tok} {gn_STEPS gn_SIDES : Nat}
    (a0 : PySem.W.nsIn K mainGlobals "is_from" = some (some (.ref f0))) (l0 : K.lookup f0 = some ⟨oc0, od0, .func (PySem.W.fnOf "is_from" "is_from" (defArgs s_is_from) (defBody s_is_from) (defScope s_is_from) .none kV0 dc0 pm0 an0 cd0 ct0), sl0⟩) (c0 : PySem.W.codeIn K cd0 "is_from" = true) (k0 : PySem.W.keepIn K (.ref f0) = true)
    (a1 : PySem.W.nsIn K mainGlobals "came" = some (some (.ref f1))) (l1 : K.lookup f1 = some ⟨oc1, od1, .func (PySem.W.fnOf "came" "came" (defArgs s_came) (defBody s_came) (defScope s_came) .none kV1 dc1 pm1 an1 cd1 ct1), sl1⟩) (c1 : PySem.W.codeIn K cd1 "came" = true) (k1 : PySem.W.keepIn K (.ref f1) = true)
    (a2 : PySem.W.nsIn K mainGlobals "went" = some (some (.ref f2))) (l2 : K.lookup f2 = some ⟨oc2, od2, .func (PySem.W.fnOf "went" "went" (defArgs s_went) (defBody s_went) (defScope s_went) .none kV2 dc2 pm2 an2 cd2 ct2), sl2⟩) (c2 : PySem.W.codeIn K cd2 "went" = true) (k2 : PySem.W.keepIn K (.ref f2) = true)
    (a3 : PySem.W.nsIn K mainGlobals "counted_of" = some (some (.ref f3))) (l3 : K.lookup f3 = some ⟨oc3, od3, .func (PySem.W.fnOf "counted_of" "counted_of" (defArgs s_counted_of) (defBody s_counted_of) (defScope s_counted_of) .none kV3 dc3 pm3 an3 cd3 ct3), sl3⟩) (c3 : PySem.W.codeIn K cd3 "counted_of" = true) (k3 : PySem.W.keepIn K (.ref f3) = true)
    (a4 : PySem.W.nsIn K mainGlobals "is_rounding_of" = some (some (.ref f4))) (l4 : K.lookup f4 = some ⟨oc4, od4, .func (PySem.W.fnOf "is_rounding_of" "is_rounding_of" (defArgs s_is_rounding_of) (defBody s_is_rounding_of) (defScope s_is_rounding_of) .none kV4 dc4 pm4 an4 cd4 ct4), sl4⟩) (c4 : PySem.W.codeIn K cd4 "is_rounding_of" = true) (k4 : PySem.W.keepIn K (.ref f4) = true)
    (a5 : PySem.W.nsIn K mainGlobals "left_of" = some (some (.ref f5))) (l5 : K.lookup f5 = some ⟨oc5, od5, .func (PySem.W.fnOf "left_of" "left_of" (defArgs s_left_of) (defBody s_left_of) (defScope s_left_of) .none kV5 dc5 pm5 an5 cd5 ct5), sl5⟩) (c5 : PySem.W.codeIn K cd5 "left_of" = true) (k5 : PySem.W.keepIn K (.ref f5) = true)
    (a6 : PySem.W.nsIn K mainGlobals "split_of" = some (some (.ref f6))) (l6 : K.lookup f6 = some ⟨oc6, od6, .func (PySem.W.fnOf "split_of" "split_of" (defArgs s_split_of) (defBody s_split_of) (defScope s_split_of) .none kV6 dc6 pm6 an6 cd6 ct6), sl6⟩) (c6 : PySem.W.codeIn K cd6 "split_of" = true) (k6 : PySem.W.keepIn K (.ref f6) = true)
    (a7 : PySem.W.nsIn K mainGlobals "parts_of" = some (some (.ref f7))) (l7 : K.lookup f7 = some ⟨oc7, od7, .func (PySem.W.fnOf "parts_of" "parts_of" (defArgs s_parts_of) (defBody s_parts_of) (defScope s_parts_of) .none kV7 dc7 pm7 an7 cd7 ct7), sl7⟩) (c7 : PySem.W.codeIn K cd7 "parts_of" = true) (k7 : PySem.W.keepIn K (.ref f7) = true)
    (a8 : PySem.W.nsIn K mainGlobals "lists_of" = some (some (.ref f8))) (l8 : K.lookup f8 = some ⟨oc8, od8, .func (PySem.W.fnOf "lists_of" "lists_of" (defArgs s_lists_of) (defBody s_lists_of) (defScope s_lists_of) .none kV8 dc8 pm8 an8 cd8 ct8), sl8⟩) (c8 : PySem.W.codeIn K cd8 "lists_of" = true) (k8 : PySem.W.keepIn K (.ref f8) = true)
    (a9 : PySem.W.nsIn K mainGlobals "every_day" = some (some (.ref f9))) (l9 : K.lookup f9 = some ⟨oc9, od9, .func (PySem.W.fnOf "every_day" "every_day" (defArgs s_every_day) (defBody s_every_day) (defScope s_every_day) .none kV9 dc9 pm9 an9 cd9 ct9), sl9⟩) (c9 : PySem.W.codeIn K cd9 "every_day" = true) (k9 : PySem.W.keepIn K (.ref f9) = true)
    (a10 : PySem.W.nsIn K mainGlobals "are_breaks_of" = some (some (.ref f10))) (l10 : K.lookup f10 = some ⟨oc10, od10, .func (PySem.W.fnOf "are_breaks_of" "are_breaks_of" (defArgs s_are_breaks_of) (defBody s_are_breaks_of) (defScope s_are_breaks_of) .none kV10 dc10 pm10 an10 cd10 ct10), sl10⟩) (c10 : PySem.W.codeIn K cd10 "are_breaks_of" = true) (k10 : PySem.W.keepIn K (.ref f10) = true)
    (a11 : PySem.W.nsIn K mainGlobals "is_manner_of" = some (some (.ref f11))) (l11 : K.lookup f11 = some ⟨oc11, od11, .func (PySem.W.fnOf "is_manner_of" "is_manner_of" (defArgs s_is_manner_of) (defBody s_is_manner_of) (defScope s_is_manner_of) .none kV11 dc11 pm11 an11 cd11 ct11), sl11⟩) (c11 : PySem.W.codeIn K cd11 "is_manner_of" = true) (k11 : PySem.W.keepIn K (.ref f11) = true)
    (a12 : PySem.W.nsIn K mainGlobals "need_manner" = some (some (.ref f12))) (l12 : K.lookup f12 = some ⟨oc12, od12, .func (PySem.W.fnOf "need_manner" "need_manner" (defArgs s_need_manner) (defBody s_need_manner) (defScope s_need_manner) .none kV12 dc12 pm12 an12 cd12 ct12), sl12⟩) (c12 : PySem.W.codeIn K cd12 "need_manner" = true) (k12 : PySem.W.keepIn K (.ref f12) = true)
    (a13 : PySem.W.nsIn K mainGlobals "need_manners" = some (some (.ref f13))) (l13 : K.lookup f13 = some ⟨oc13, od13, .func (PySem.W.fnOf "need_manners" "need_manners" (defArgs s_need_manners) (defBody s_need_manners) (defScope s_need_manners) .none kV13 dc13 pm13 an13 cd13 ct13), sl13⟩) (c13 : PySem.W.codeIn K cd13 "need_manners" = true) (k13 : PySem.W.keepIn K (.ref f13) = true)
    (a14 : PySem.W.nsIn K mainGlobals "all_parts" = some (some (.ref f14))) (l14 : K.lookup f14 = some ⟨oc14, od14, .func (PySem.W.fnOf "all_parts" "all_parts" (defArgs s_all_parts) (defBody s_all_parts) (defScope s_all_parts) .none kV14 dc14 pm14 an14 cd14 ct14), sl14⟩) (c14 : PySem.W.codeIn K cd14 "all_parts" = true) (k14 : PySem.W.keepIn K (.ref f14) = true)
    (a15 : PySem.W.nsIn K mainGlobals "paid_of" = some (some (.ref f15))) (l15 : K.lookup f15 = some ⟨oc15, od15, .func (PySem.W.fnOf "paid_of" "paid_of" (defArgs s_paid_of) (defBody s_paid_of) (defScope s_paid_of) .none kV15 dc15 pm15 an15 cd15 ct15), sl15⟩) (c15 : PySem.W.codeIn K cd15 "paid_of" = true) (k15 : PySem.W.keepIn K (.ref f15) = true)
    (a16 : PySem.W.nsIn K mainGlobals "best_days" = some (some (.ref f16))) (l16 : K.lookup f16 = some ⟨oc16, od16, .func (PySem.W.fnOf "best_days" "best_days" (defArgs s_best_days) (defBody s_best_days) (defScope s_best_days) .none kV16 dc16 pm16 an16 cd16 ct16), sl16⟩) (c16 : PySem.W.codeIn K cd16 "best_days" = true) (k16 : PySem.W.keepIn K (.ref f16) = true)
    (a17 : PySem.W.nsIn K mainGlobals "best_weeks" = some (some (.ref f17))) (l17 : K.lookup f17 = some ⟨oc17, od17, .func (PySem.W.fnOf "best_weeks" "best_weeks" (defArgs s_best_weeks) (defBody s_best_weeks) (defScope s_best_weeks) .none kV17 dc17 pm17 an17 cd17 ct17), sl17⟩) (c17 : PySem.W.codeIn K cd17 "best_weeks" = true) (k17 : PySem.W.keepIn K (.ref f17) = true)
    (a18 : PySem.W.nsIn K mainGlobals "lead_of" = some (some (.ref f18))) (l18 : K.lookup f18 = some ⟨oc18, od18, .func (PySem.W.fnOf "lead_of" "lead_of" (defArgs s_lead_of) (defBody s_lead_of) (defScope s_lead_of) .none kV18 dc18 pm18 an18 cd18 ct18), sl18⟩) (c18 : PySem.W.codeIn K cd18 "lead_of" = true) (k18 : PySem.W.keepIn K (.ref f18) = true)
    (a19 : PySem.W.nsIn K mainGlobals "greatest_lead" = some (some (.ref f19))) (l19 : K.lookup f19 = some ⟨oc19, od19, .func (PySem.W.fnOf "greatest_lead" "greatest_lead" (defArgs s_greatest_lead) (defBody s_greatest_lead) (defScope s_greatest_lead) .none kV19 dc19 pm19 an19 cd19 ct19), sl19⟩) (c19 : PySem.W.codeIn K cd19 "greatest_lead" = true) (k19 : PySem.W.keepIn K (.ref f19) = true)
    (a20 : PySem.W.nsIn K mainGlobals "_law_deck" = some (some (.ref f20))) (l20 : K.lookup f20 = some ⟨oc20, od20, .func (PySem.W.fnOf "_law_deck" "_law_deck" (defArgs s_law_deck) (defBody s_law_deck) (defScope s_law_deck) .none kV20 dc20 pm20 an20 cd20 ct20), sl20⟩) (c20 : PySem.W.codeIn K cd20 "_law_deck" = true) (k20 : PySem.W.keepIn K (.ref f20) = true)
    (a21 : PySem.W.nsIn K mainGlobals "_law_pick" = some (some (.ref f21))) (l21 : K.lookup f21 = some ⟨oc21, od21, .func (PySem.W.fnOf "_law_pick" "_law_pick" (defArgs s_law_pick) (defBody s_law_pick) (defScope s_law_pick) .none kV21 dc21 pm21 an21 cd21 ct21), sl21⟩) (c21 : PySem.W.codeIn K cd21 "_law_pick" = true) (k21 : PySem.W.keepIn K (.ref f21) = true)
    (a22 : PySem.W.nsIn K mainGlobals "_law_rounding" = some (some (.ref f22))) (l22 : K.lookup f22 = some ⟨oc22, od22, .func (PySem.W.fnOf "_law_rounding" "_law_rounding" (defArgs s_law_rounding) (defBody s_law_rounding) (defScope s_law_rounding) .none kV22 dc22 pm22 an22 cd22 ct22), sl22⟩) (c22 : PySem.W.codeIn K cd22 "_law_rounding" = true) (k22 : PySem.W.keepIn K (.ref f22) = true)
    (a23 : PySem.W.nsIn K mainGlobals "_law_manner" = some (some (.ref f23))) (l23 : K.lookup f23 = some ⟨oc23, od23, .func (PySem.W.fnOf "_law_manner" "_law_manner" (defArgs s_law_manner) (defBody s_law_manner) (defScope s_law_manner) .none kV23 dc23 pm23 an23 cd23 ct23), sl23⟩) (c23 : PySem.W.codeIn K cd23 "_law_manner" = true) (k23 : PySem.W.keepIn K (.ref f23) = true)
    (a24 : PySem.W.nsIn K mainGlobals "_law_one" = some (some (.ref f24))) (l24 : K.lookup f24 = some ⟨oc24, od24, .func (PySem.W.fnOf "_law_one" "_law_one" (defArgs s_law_one) (defBody s_law_one) (defScope s_law_one) .none kV24 dc24 pm24 an24 cd24 ct24), sl24⟩) (c24 : PySem.W.codeIn K cd24 "_law_one" = true) (k24 : PySem.W.keepIn K (.ref f24) = true)
    (a25 : PySem.W.nsIn K mainGlobals "_law_punch" = some (some (.ref f25))) (l25 : K.lookup f25 = some ⟨oc25, od25, .func (PySem.W.fnOf "_law_punch" "_law_punch" (defArgs s_law_punch) (defBody s_law_punch) (defScope s_law_punch) .none kV25 dc25 pm25 an25 cd25 ct25), sl25⟩) (c25 : PySem.W.codeIn K cd25 "_law_punch" = true) (k25 : PySem.W.keepIn K (.ref f25) = true)
    (a26 : PySem.W.nsIn K mainGlobals "_law_split" = some (some (.ref f26))) (l26 : K.lookup f26 = some ⟨oc26, od26, .func (PySem.W.fnOf "_law_split" "_law_split" (defArgs s_law_split) (defBody s_law_split) (defScope s_law_split) .none kV26 dc26 pm26 an26 cd26 ct26), sl26⟩) (c26 : PySem.W.codeIn K cd26 "_law_split" = true) (k26 : PySem.W.keepIn K (.ref f26) = true)
    (a27 : PySem.W.nsIn K mainGlobals "_law_splits" = some (some (.ref f27))) (l27 : K.lookup f27 = some ⟨oc27, od27, .func (PySem.W.fnOf "_law_splits" "_law_splits" (defArgs s_law_splits) (defBody s_law_splits) (defScope s_law_splits) .none kV27 dc27 pm27 an27 cd27 ct27), sl27⟩) (c27 : PySem.W.codeIn K cd27 "_law_splits" = true) (k27 : PySem.W.keepIn K (.ref f27) = true)
    (a28 : PySem.W.nsIn K mainGlobals "_law_bent" = some (some (.ref f28))) (l28 : K.lookup f28 = some ⟨oc28, od28, .func (PySem.W.fnOf "_law_bent" "_law_bent" (defArgs s_law_bent) (defBody s_law_bent) (defScope s_law_bent) .none kV28 dc28 pm28 an28 cd28 ct28), sl28⟩) (c28 : PySem.W.codeIn K cd28 "_law_bent" = true) (k28 : PySem.W.keepIn K (.ref f28) = true)
    (a29 : PySem.W.nsIn K mainGlobals "is_day_of" = some (some (.ref f29))) (l29 : K.lookup f29 = some ⟨oc29, od29, .func (PySem.W.fnOf "is_day_of" "is_day_of" (defArgs s_is_day_of) (defBody s_is_day_of) (defScope s_is_day_of) .none kV29 dc29 pm29 an29 cd29 ct29), sl29⟩) (c29 : PySem.W.codeIn K cd29 "is_day_of" = true) (k29 : PySem.W.keepIn K (.ref f29) = true)
    (a30 : PySem.W.nsIn K mainGlobals "is_week_of" = some (some (.ref f30))) (l30 : K.lookup f30 = some ⟨oc30, od30, .func (PySem.W.fnOf "is_week_of" "is_week_of" (defArgs s_is_week_of) (defBody s_is_week_of) (defScope s_is_week_of) .none kV30 dc30 pm30 an30 cd30 ct30), sl30⟩) (c30 : PySem.W.codeIn K cd30 "is_week_of" = true) (k30 : PySem.W.keepIn K (.ref f30) = true)
    (a31 : PySem.W.nsIn K mainGlobals "need_week" = some (some (.ref f31))) (l31 : K.lookup f31 = some ⟨oc31, od31, .func (PySem.W.fnOf "need_week" "need_week" (defArgs s_need_week) (defBody s_need_week) (defScope s_need_week) .none kV31 dc31 pm31 an31 cd31 ct31), sl31⟩) (c31 : PySem.W.codeIn K cd31 "need_week" = true) (k31 : PySem.W.keepIn K (.ref f31) = true)
    (a32 : PySem.W.nsIn K mainGlobals "paid" = some (some (.ref f32))) (l32 : K.lookup f32 = some ⟨oc32, od32, .func (PySem.W.fnOf "paid" "paid" (defArgs s_paid) (defBody s_paid) (defScope s_paid) .none kV32 dc32 pm32 an32 cd32 ct32), sl32⟩) (c32 : PySem.W.codeIn K cd32 "paid" = true) (k32 : PySem.W.keepIn K (.ref f32) = true)
    (a33 : PySem.W.nsIn K mainGlobals "lead_week" = some (some (.ref f33))) (l33 : K.lookup f33 = some ⟨oc33, od33, .func (PySem.W.fnOf "lead_week" "lead_week" (defArgs s_lead_week) (defBody s_lead_week) (defScope s_lead_week) .none kV33 dc33 pm33 an33 cd33 ct33), sl33⟩) (c33 : PySem.W.codeIn K cd33 "lead_week" = true) (k33 : PySem.W.keepIn K (.ref f33) = true)
    (a34 : PySem.W.nsIn K mainGlobals "same_for_all" = some (some (.ref f34))) (l34 : K.lookup f34 = some ⟨oc34, od34, .func (PySem.W.fnOf "same_for_all" "same_for_all" (defArgs s_same_for_all) (defBody s_same_for_all) (defScope s_same_for_all) .none kV34 dc34 pm34 an34 cd34 ct34), sl34⟩) (c34 : PySem.W.codeIn K cd34 "same_for_all" = true) (k34 : PySem.W.keepIn K (.ref f34) = true)
    (a35 : PySem.W.nsIn K mainGlobals "alike" = some (some (.ref f35))) (l35 : K.lookup f35 = some ⟨oc35, od35, .func (PySem.W.fnOf "alike" "alike" (defArgs s_alike) (defBody s_alike) (defScope s_alike) .none kV35 dc35 pm35 an35 cd35 ct35), sl35⟩) (c35 : PySem.W.codeIn K cd35 "alike" = true) (k35 : PySem.W.keepIn K (.ref f35) = true)
    (a36 : PySem.W.nsIn K mainGlobals "first_day" = some (some (.ref f36))) (l36 : K.lookup f36 = some ⟨oc36, od36, .func (PySem.W.fnOf "first_day" "first_day" (defArgs s_first_day) (defBody s_first_day) (defScope s_first_day) .none kV36 dc36 pm36 an36 cd36 ct36), sl36⟩) (c36 : PySem.W.codeIn K cd36 "first_day" = true) (k36 : PySem.W.keepIn K (.ref f36) = true)
    (a37 : PySem.W.nsIn K mainGlobals "parting_day" = some (some (.ref f37))) (l37 : K.lookup f37 = some ⟨oc37, od37, .func (PySem.W.fnOf "parting_day" "parting_day" (defArgs s_parting_day) (defBody s_parting_day) (defScope s_parting_day) .none kV37 dc37 pm37 an37 cd37 ct37), sl37⟩) (c37 : PySem.W.codeIn K cd37 "parting_day" = true) (k37 : PySem.W.keepIn K (.ref f37) = true)
    (a38 : PySem.W.nsIn K mainGlobals "parting_week" = some (some (.ref f38))) (l38 : K.lookup f38 = some ⟨oc38, od38, .func (PySem.W.fnOf "parting_week" "parting_week" (defArgs s_parting_week) (defBody s_parting_week) (defScope s_parting_week) .none kV38 dc38 pm38 an38 cd38 ct38), sl38⟩) (c38 : PySem.W.codeIn K cd38 "parting_week" = true) (k38 : PySem.W.keepIn K (.ref f38) = true)
    (a39 : PySem.W.nsIn K mainGlobals "law" = some (some (.ref f39))) (l39 : K.lookup f39 = some ⟨oc39, od39, .func (PySem.W.fnOf "law" "law" (defArgs s_law) (defBody s_law) (defScope s_law) .none kV39 dc39 pm39 an39 cd39 ct39), sl39⟩) (c39 : PySem.W.codeIn K cd39 "law" = true) (k39 : PySem.W.keepIn K (.ref f39) = true)
    (z_max : PySem.W.nsIn K mainGlobals "max" = some none)
    (z_min : PySem.W.nsIn K mainGlobals "min" = some none)
    (z_len : PySem.W.nsIn K mainGlobals "len" = some none)
    (z_sum : PySem.W.nsIn K mainGlobals "sum" = some none)
    (z_all : PySem.W.nsIn K mainGlobals "all" = some none)
    (z_isinstance : PySem.W.nsIn K mainGlobals "isinstance" = some none)
    (z_range : PySem.W.nsIn K mainGlobals "range" = some none)
    (z_list : PySem.W.nsIn K mainGlobals "list" = some none)
    (z_zip : PySem.W.nsIn K mainGlobals "zip" = some none)
    (z_dict : PySem.W.nsIn K mainGlobals "dict" = some none)
    (z_int : PySem.W.nsIn K mainGlobals "int" = some none)
    (z_tuple : PySem.W.nsIn K mainGlobals "tuple" = some none)
    (z_str : PySem.W.nsIn K mainGlobals "str" = some none)
    (z_bool : PySem.W.nsIn K mainGlobals "bool" = some none)
    (i_LAST : PySem.W.nsIn K mainGlobals "LAST" = some (some (.int 96 ti_LAST)))
    (i_MOST_MINUS : PySem.W.nsIn K mainGlobals "MOST_MINUS" = some (some (.int 8 ti_MOST_MINUS)))
    (i_MOST_DAYS : PySem.W.nsIn K mainGlobals "MOST_DAYS" = some (some (.int 5 ti_MOST_DAYS)))
    (p_STEPS : PySem.W.nsIn K mainGlobals "STEPS" = some (some (.ref g_STEPS))) (q_STEPS : K.lookup g_STEPS = some ⟨.type "tuple", god_STEPS, .seq #[.int 1 tt_STEPS0, .int 2 tt_STEPS1, .int 3 tt_STEPS2, .int 4 tt_STEPS3, .int 6 tt_STEPS4, .int 8 tt_STEPS5, .int 12 tt_STEPS6] gn_STEPS, gsl_STEPS⟩)
    (p_SIDES : PySem.W.nsIn K mainGlobals "SIDES" = some (some (.ref g_SIDES))) (q_SIDES : K.lookup g_SIDES = some ⟨.type "tuple", god_SIDES, .seq #[.str "down" tt_SIDES0, .str "near" tt_SIDES1, .str "up" tt_SIDES2] gn_SIDES, gsl_SIDES⟩)
    : ∃ fd : FuncData, (∀ (s : Shared) (v : Value), BindsTo s fd ⟨[v], []⟩ [("_law_script", v)]) ∧ ∀ base : Heap, K.In base → base.Ns mainGlobals mg → FnOk l.prog w K mg base CX0 9 fa fd ["_law_script"] (spM K (Pure R_law)) := by
  have e := hfa.symm.trans (PySem.W.mg_of X G a39)
  cases e
  have B : Bi K mg := { b_max := PySem.W.mg_none_of X G z_max, b_min := PySem.W.mg_none_of X G z_min, b_len := PySem.W.mg_none_of X G z_len, b_sum := PySem.W.mg_none_of X G z_sum, b_all := PySem.W.mg_none_of X G z_all, b_isinstance := PySem.W.mg_none_of X G z_isinstance, b_range := PySem.W.mg_none_of X G z_range, b_list := PySem.W.mg_none_of X G z_list, b_zip := PySem.W.mg_none_of X G z_zip, b_dict := PySem.W.mg_none_of X G z_dict, b_int := PySem.W.mg_none_of X G z_int, b_tuple := PySem.W.mg_none_of X G z_tuple, b_str := PySem.W.mg_none_of X G z_str, b_bool := PySem.W.mg_none_of X G z_bool, k_LAST := kint_mk X G i_LAST, k_MOST_MINUS := kint_mk X G i_MOST_MINUS, k_MOST_DAYS := kint_mk X G i_MOST_DAYS, k_STEPS := ktup_mk (PySem.W.mg_of X G p_STEPS) q_STEPS rfl rfl (by show 7 ≤ sizeLine; decide) rfl (.cons ⟨_, rfl⟩ (.cons ⟨_, rfl⟩ (.cons ⟨_, rfl⟩ (.cons ⟨_, rfl⟩ (.cons ⟨_, rfl⟩ (.cons ⟨_, rfl⟩ (.cons ⟨_, rfl⟩ (.nil)))))))), k_SIDES := ktup_mk (PySem.W.mg_of X G p_SIDES) q_SIDES rfl rfl (by show 3 ≤ sizeLine; decide) rfl (.cons ⟨_, rfl⟩ (.cons ⟨_, rfl⟩ (.cons ⟨_, rfl⟩ (.nil)))) }
  exact ⟨PySem.W.fnOf "law" "law" (defArgs s_law) (defBody s_law) (defScope s_law) .none kV39 dc39 pm39 an39 cd39 ct39, fun s v => .of_eq rfl, fun base _ _ => law_fn B (df_mk X G a0 l0 c0 k0) (df_mk X G a1 l1 c1 k1) (df_mk X G a2 l2 c2 k2) (df_mk X G a3 l3 c3 k3) (df_mk X G a4 l4 c4 k4) (df_mk X G a5 l5 c5 k5) (df_mk X G a6 l6 c6 k6) (df_mk X G a7 l7 c7 k7) (df_mk X G a8 l8 c8 k8) (df_mk X G a9 l9 c9 k9) (df_mk X G a10 l10 c10 k10) (df_mk X G a11 l11 c11 k11) (df_mk X G a12 l12 c12 k12) (df_mk X G a13 l13 c13 k13) (df_mk X G a14 l14 c14 k14) (df_mk X G a15 l15 c15 k15) (df_mk X G a16 l16 c16 k16) (df_mk X G a17 l17 c17 k17) (df_mk X G a18 l18 c18 k18) (df_mk X G a19 l19 c19 k19) (df_mk X G a20 l20 c20 k20) (df_mk X G a21 l21 c21 k21) (df_mk X G a22 l22 c22 k22) (df_mk X G a23 l23 c23 k23) (df_mk X G a24 l24 c24 k24) (df_mk X G a25 l25 c25 k25) (df_mk X G a26 l26 c26 k26) (df_mk X G a27 l27 c27 k27) (df_mk X G a28 l28 c28 k28) (df_mk X G a29 l29 c29 k29) (df_mk X G a30 l30 c30 k30) (df_mk X G a31 l31 c31 k31) (df_mk X G a32 l32 c32 k32) (df_mk X G a33 l33 c33 k33) (df_mk X G a34 l34 c34 k34) (df_mk X G a35 l35 c35 k35) (df_mk X G a36 l36 c36 k36) (df_mk X G a37 l37 c37 k37) (df_mk X G a38 l38 c38 k38) (fun_mk (st := s_law) l39 c39 k39)⟩
end CC
open PySem PySem.W PyProof.Rows
set_option maxHeartbeats 0 in
theorem PySem.Challenge.cw_clockcards_k18_whole_weeks_without_limit_holds : PySem.Challenge.rw_clockcards_k18_whole_weeks_without_limit.Holds := by
  w_on; o_law; k_head; (case hw => w_witness2)
  k_fill
  refine L2.walk_of (l := PySem.Challenge.rw_clockcards_k18_whole_weeks_without_limit) (n := 63) (k := 9) (x := "_law_script") (CX := fun _ => L2.CX0) (sp := fun w => PD.spM _ (PD.Pure CC.R_law)) rfl (by decide) rfl ⟨rfl, by decide, by decide⟩ (fun w h Y => PySem.W.kIn_of Y) ?F (fun _ _ a ns hl hO hS => CC.head_sp hl hO hS _) (fun _ _ _ _ _ h => h)
  case F =>
    intro w mg fa h KX G hmg
    refine' CC.all_mk KX G hmg ?a0 ?l0 ?c0 ?k0 ?a1 ?l1 ?c1 ?k1 ?a2 ?l2 ?c2 ?k2 ?a3 ?l3 ?c3 ?k3 ?a4 ?l4 ?c4 ?k4 ?a5 ?l5 ?c5 ?k5 ?a6 ?l6 ?c6 ?k6 ?a7 ?l7 ?c7 ?k7 ?a8 ?l8 ?c8 ?k8 ?a9 ?l9 ?c9 ?k9 ?a10 ?l10 ?c10 ?k10 ?a11 ?l11 ?c11 ?k11 ?a12 ?l12 ?c12 ?k12 ?a13 ?l13 ?c13 ?k13 ?a14 ?l14 ?c14 ?k14 ?a15 ?l15 ?c15 ?k15 ?a16 ?l16 ?c16 ?k16 ?a17 ?l17 ?c17 ?k17 ?a18 ?l18 ?c18 ?k18 ?a19 ?l19 ?c19 ?k19 ?a20 ?l20 ?c20 ?k20 ?a21 ?l21 ?c21 ?k21 ?a22 ?l22 ?c22 ?k22 ?a23 ?l23 ?c23 ?k23 ?a24 ?l24 ?c24 ?k24 ?a25 ?l25 ?c25 ?k25 ?a26 ?l26 ?c26 ?k26 ?a27 ?l27 ?c27 ?k27 ?a28 ?l28 ?c28 ?k28 ?a29 ?l29 ?c29 ?k29 ?a30 ?l30 ?c30 ?k30 ?a31 ?l31 ?c31 ?k31 ?a32 ?l32 ?c32 ?k32 ?a33 ?l33 ?c33 ?k33 ?a34 ?l34 ?c34 ?k34 ?a35 ?l35 ?c35 ?k35 ?a36 ?l36 ?c36 ?k36 ?a37 ?l37 ?c37 ?k37 ?a38 ?l38 ?c38 ?k38 ?a39 ?l39 ?c39 ?k39 ?z_max ?z_min ?z_len ?z_sum ?z_all ?z_isinstance ?z_range ?z_list ?z_zip ?z_dict ?z_int ?z_tuple ?z_str ?z_bool ?i_LAST ?i_MOST_MINUS ?i_MOST_DAYS ?p_STEPS ?q_STEPS ?p_SIDES ?q_SIDES
    (case a0 => k_is)
    (case l0 => k_is)
    (case c0 => k_is)
    (case k0 => k_is)
    (case a1 => k_is)
    (case l1 => k_is)
    (case c1 => k_is)
    (case k1 => k_is)
    (case a2 => k_is)
    (case l2 => k_is)
    (case c2 => k_is)
    (case k2 => k_is)
    (case a3 => k_is)
    (case l3 => k_is)
    (case c3 => k_is)
    (case k3 => k_is)
    (case a4 => k_is)
    (case l4 => k_is)
    (case c4 => k_is)
    (case k4 => k_is)
    (case a5 => k_is)
    (case l5 => k_is)
    (case c5 => k_is)
    (case k5 => k_is)
    (case a6 => k_is)
    (case l6 => k_is)
    (case c6 => k_is)
    (case k6 => k_is)
    (case a7 => k_is)
    (case l7 => k_is)
    (case c7 => k_is)
    (case k7 => k_is)
    (case a8 => k_is)
    (case l8 => k_is)
    (case c8 => k_is)
    (case k8 => k_is)
    (case a9 => k_is)
    (case l9 => k_is)
    (case c9 => k_is)
    (case k9 => k_is)
    (case a10 => k_is)
    (case l10 => k_is)
    (case c10 => k_is)
    (case k10 => k_is)
    (case a11 => k_is)
    (case l11 => k_is)
    (case c11 => k_is)
    (case k11 => k_is)
    (case a12 => k_is)
    (case l12 => k_is)
    (case c12 => k_is)
    (case k12 => k_is)
    (case a13 => k_is)
    (case l13 => k_is)
    (case c13 => k_is)
    (case k13 => k_is)
    (case a14 => k_is)
    (case l14 => k_is)
    (case c14 => k_is)
    (case k14 => k_is)
    (case a15 => k_is)
    (case l15 => k_is)
    (case c15 => k_is)
    (case k15 => k_is)
    (case a16 => k_is)
    (case l16 => k_is)
    (case c16 => k_is)
    (case k16 => k_is)
    (case a17 => k_is)
    (case l17 => k_is)
    (case c17 => k_is)
    (case k17 => k_is)
    (case a18 => k_is)
    (case l18 => k_is)
    (case c18 => k_is)
    (case k18 => k_is)
    (case a19 => k_is)
    (case l19 => k_is)
    (case c19 => k_is)
    (case k19 => k_is)
    (case a20 => k_is)
    (case l20 => k_is)
    (case c20 => k_is)
    (case k20 => k_is)
    (case a21 => k_is)
    (case l21 => k_is)
    (case c21 => k_is)
    (case k21 => k_is)
    (case a22 => k_is)
    (case l22 => k_is)
    (case c22 => k_is)
    (case k22 => k_is)
    (case a23 => k_is)
    (case l23 => k_is)
    (case c23 => k_is)
    (case k23 => k_is)
    (case a24 => k_is)
    (case l24 => k_is)
    (case c24 => k_is)
    (case k24 => k_is)
    (case a25 => k_is)
    (case l25 => k_is)
    (case c25 => k_is)
    (case k25 => k_is)
    (case a26 => k_is)
    (case l26 => k_is)
    (case c26 => k_is)
    (case k26 => k_is)
    (case a27 => k_is)
    (case l27 => k_is)
    (case c27 => k_is)
    (case k27 => k_is)
    (case a28 => k_is)
    (case l28 => k_is)
    (case c28 => k_is)
    (case k28 => k_is)
    (case a29 => k_is)
    (case l29 => k_is)
    (case c29 => k_is)
    (case k29 => k_is)
    (case a30 => k_is)
    (case l30 => k_is)
    (case c30 => k_is)
    (case k30 => k_is)
    (case a31 => k_is)
    (case l31 => k_is)
    (case c31 => k_is)
    (case k31 => k_is)
    (case a32 => k_is)
    (case l32 => k_is)
    (case c32 => k_is)
    (case k32 => k_is)
    (case a33 => k_is)
    (case l33 => k_is)
    (case c33 => k_is)
    (case k33 => k_is)
    (case a34 => k_is)
    (case l34 => k_is)
    (case c34 => k_is)
    (case k34 => k_is)
    (case a35 => k_is)
    (case l35 => k_is)
    (case c35 => k_is)
    (case k35 => k_is)
    (case a36 => k_is)
    (case l36 => k_is)
    (case c36 => k_is)
    (case k36 => k_is)
    (case a37 => k_is)
    (case l37 => k_is)
    (case c37 => k_is)
    (case k37 => k_is)
    (case a38 => k_is)
    (case l38 => k_is)
    (case c38 => k_is)
    (case k38 => k_is)
    (case a39 => k_is)
    (case l39 => k_is)
    (case c39 => k_is)
    (case k39 => k_is)
    (case z_max => k_is)
    (case z_min => k_is)
    (case z_len => k_is)
    (case z_sum => k_is)
    (case z_all => k_is)
    (case z_isinstance => k_is)
    (case z_range => k_is)
    (case z_list => k_is)
    (case z_zip => k_is)
    (case z_dict => k_is)
    (case z_int => k_is)
    (case z_tuple => k_is)
    (case z_str => k_is)
    (case z_bool => k_is)
    (case i_LAST => k_is)
    (case i_MOST_MINUS => k_is)
    (case i_MOST_DAYS => k_is)
    (case p_STEPS => k_is)
    (case q_STEPS => k_is)
    (case p_SIDES => k_is)
    (case q_SIDES => k_is)
