import PyProof.Rows.All
import Wide.All
import OpenK.AllK
import Wide.FinOn
import HandS.ForMost
import HandS.IsInst
import HandS.Lambda
import HandS.TupAny
import HandS.TupMul
import HandS.Style
import HandS.Zip
import HandS.Conv
import HandS.Iter
import HandS.EndTab
import KE.KNestM
import PySem.Challenge.RW_lastingly_k64_place_sentences_of_formula
set_option Elab.async false
set_option linter.all false
set_option maxRecDepth 100000
set_option maxHeartbeats 4000000
namespace DL
open PySem PySem.Spec PyProof.Rows L2 LamX

/-! ### data -/
inductive D where
  | non | bl (b : Bool) | int (i : Int) | str (x : Str) | ty (n : String) | fn (a : Addr) | tup (ds : List D) | obj (j : Nat)

/-- what stands in the store -/
inductive MO where
  | lst (ds : List D)
  | ro (ds : List D)
  | dk (kvs : List (Key × D))
  | dkf (o : Obj) (xs : List (Key × V)) (kvs : List (Key × D))
  | dt (kvs : List (List Key × D))

abbrev Rho := List (Option D)
abbrev Mu := List MO
abbrev Th := List Addr

mutual
def At (K : PySem.W.Frag) (H : Hp) (θ : Th) : D → V → Prop
  | .non, v => v = .non
  | .bl b, v => v = .bl b
  | .int i, v => v = .int i
  | .str x, v => v = .str x
  | .ty n, v => v = .ty n
  | .fn a, v => v = .ref a
  | .tup ds, v => ∃ a xs, v = .ref a ∧ SqT K H a xs ∧ AtL K H θ ds xs
  | .obj j, v => ∃ a, θ[j]? = some a ∧ v = .ref a
def AtL (K : PySem.W.Frag) (H : Hp) (θ : Th) : List D → List V → Prop
  | [], xs => xs = []
  | d :: ds, xs => ∃ x r, xs = x :: r ∧ At K H θ d x ∧ AtL K H θ ds r
end

/-- kinds of things that never change -/
def stab : HO → Bool
  | .tup _ => true
  | .frz _ (.dK _) => false
  | .frz _ (.dT _) => false
  | .frz _ _ => true
  | .ext _ => true
  | .rng _ _ => true
  | _ => false
def Kp (H H' : Hp) : Prop := ∀ b o, H b = some o → stab o = true → H' b = some o
theorem Kp.refl (H : Hp) : Kp H H := fun _ _ h _ => h
theorem Kp.trans {H H1 H2 : Hp} (a : Kp H H1) (b : Kp H1 H2) : Kp H H2 := fun c o h s => b c o (a c o h s) s
theorem Kp.same {H H' : Hp} (a : ∀ b o, H b = some o → H' b = some o) : Kp H H' := fun c o h _ => a c o h
theorem Kp.new {H : Hp} {p : Addr} {o : HO} (h : H p = none) : Kp H (upd H p o) := fun b u e _ => by rw [upd_ne (ne_of_none e h)]; exact e
theorem Kp.mut {H : Hp} {p : Addr} {o u : HO} (h : H p = some u) (hu : stab u = false) : Kp H (upd H p o) := fun b v e s => by
  by_cases hb : b = p
  · subst hb
    rw [h] at e
    cases e
    rw [hu] at s
    cases s
  · rw [upd_ne hb]
    exact e
theorem Kp.sqT {K : PySem.W.Frag} {H H' : Hp} {a : Addr} {xs : List V} (k : Kp H H') (h : SqT K H a xs) : SqT K H' a xs := by
  rcases h with (h | ⟨o, h⟩) | h
  · exact .inl (.inl (k _ _ h rfl))
  · exact .inl (.inr ⟨o, k _ _ h rfl⟩)
  · exact .inr h

section
variable {K : PySem.W.Frag} {H H' : Hp} {θ θ' : Th}
mutual
theorem At.mono (k : Kp H H') : ∀ (d : D) (v : V), At K H θ d v → At K H' (θ ++ θ') d v
  | .non, _, h => h
  | .bl _, _, h => h
  | .int _, _, h => h
  | .str _, _, h => h
  | .ty _, _, h => h
  | .fn _, _, h => h
  | .tup ds, v, h => by
    obtain ⟨a, xs, e, hs, hl⟩ := h
    exact ⟨a, xs, e, k.sqT hs, AtL.mono k ds xs hl⟩
  | .obj j, v, h => by
    obtain ⟨a, e, hv⟩ := h
    refine ⟨a, ?_, hv⟩
    have hj : j < θ.length := (List.getElem?_eq_some_iff.mp e).1
    rw [List.getElem?_append_left hj]
    exact e
theorem AtL.mono (k : Kp H H') : ∀ (ds : List D) (xs : List V), AtL K H θ ds xs → AtL K H' (θ ++ θ') ds xs
  | [], _, h => h
  | d :: ds, xs, h => by
    obtain ⟨x, r, e, h1, h2⟩ := h
    exact ⟨x, r, e, At.mono k d x h1, AtL.mono k ds r h2⟩
end
theorem At.kp (k : Kp H H') {d : D} {v : V} (h : At K H θ d v) : At K H' θ d v := by
  have := At.mono (θ' := []) k d v h
  rwa [List.append_nil] at this
theorem AtL.kp (k : Kp H H') {ds : List D} {xs : List V} (h : AtL K H θ ds xs) : AtL K H' θ ds xs := by
  have := AtL.mono (θ' := []) k ds xs h
  rwa [List.append_nil] at this
theorem AtL.length : ∀ {ds : List D} {xs : List V}, AtL K H θ ds xs → xs.length = ds.length
  | [], _, h => by rw [show _ = [] from h]; rfl
  | _ :: ds, _, h => by
    obtain ⟨x, r, rfl, _, h2⟩ := h
    rw [List.length_cons, List.length_cons, AtL.length h2]
theorem AtL.get : ∀ {ds : List D} {xs : List V} {i : Nat} {d : D}, AtL K H θ ds xs → ds[i]? = some d → ∃ x, xs[i]? = some x ∧ At K H θ d x
  | [], _, _, _, _, e => by simp at e
  | d :: ds, _, 0, d', h, e => by
    obtain ⟨x, r, rfl, h1, _⟩ := h
    simp at e
    subst e
    exact ⟨x, rfl, h1⟩
  | d :: ds, _, i + 1, d', h, e => by
    obtain ⟨x, r, rfl, _, h2⟩ := h
    obtain ⟨y, e1, e2⟩ := AtL.get (i := i) h2 (by simpa using e)
    exact ⟨y, by simpa using e1, e2⟩
theorem AtL.getV {ds : List D} {xs : List V} {i : Nat} {x : V} (h : AtL K H θ ds xs) (e : xs[i]? = some x) : ∃ d, ds[i]? = some d ∧ At K H θ d x := by
  have hl := h.length
  have hi : i < xs.length := (List.getElem?_eq_some_iff.mp e).1
  have hd : ds[i]? = some ds[i] := List.getElem?_eq_getElem (by omega)
  obtain ⟨y, e1, e2⟩ := h.get hd
  rw [e] at e1
  cases e1
  exact ⟨_, hd, e2⟩
theorem AtL.append : ∀ {ds : List D} {xs : List V} {es : List D} {ys : List V}, AtL K H θ ds xs → AtL K H θ es ys → AtL K H θ (ds ++ es) (xs ++ ys)
  | [], _, _, _, h, h' => by
    rw [show _ = [] from h]
    exact h'
  | d :: ds, _, _, _, h, h' => by
    obtain ⟨x, r, rfl, h1, h2⟩ := h
    exact ⟨x, _, rfl, h1, AtL.append h2 h'⟩
theorem AtL.one {d : D} {x : V} (h : At K H θ d x) : AtL K H θ [d] [x] := ⟨x, [], rfl, h, rfl⟩
theorem AtL.drop : ∀ {ds : List D} {xs : List V} (n : Nat), AtL K H θ ds xs → AtL K H θ (ds.drop n) (xs.drop n)
  | _, _, 0, h => h
  | [], _, n + 1, h => by
    rw [show _ = [] from h]
    rfl
  | d :: ds, _, n + 1, h => by
    obtain ⟨x, r, rfl, _, h2⟩ := h
    exact AtL.drop n h2
theorem AtL.take : ∀ {ds : List D} {xs : List V} (n : Nat), AtL K H θ ds xs → AtL K H θ (ds.take n) (xs.take n)
  | _, _, 0, h => rfl
  | [], _, n + 1, h => by
    rw [show _ = [] from h]
    rfl
  | d :: ds, _, n + 1, h => by
    obtain ⟨x, r, rfl, h1, h2⟩ := h
    exact ⟨x, _, rfl, h1, AtL.take n h2⟩
theorem AtL.set : ∀ {ds : List D} {xs : List V} (i : Nat) {d : D} {x : V}, At K H θ d x → AtL K H θ ds xs → AtL K H θ (ds.set i d) (xs.set i x)
  | [], _, _, _, _, _, h => by
    rw [show _ = [] from h]
    rfl
  | _ :: ds, _, 0, _, _, hx, h => by
    obtain ⟨y, r, rfl, _, h2⟩ := h
    exact ⟨_, r, rfl, hx, h2⟩
  | _ :: ds, _, i + 1, _, _, hx, h => by
    obtain ⟨y, r, rfl, h1, h2⟩ := h
    exact ⟨y, _, rfl, h1, AtL.set i hx h2⟩
theorem AtL.ints : ∀ {ns : List Int} {xs : List V}, AtL K H θ (ns.map D.int) xs → xs = ns.map V.int
  | [], _, h => h
  | n :: ns, _, h => by
    obtain ⟨x, r, rfl, h1, h2⟩ := h
    rw [show x = _ from h1, AtL.ints h2]
    rfl
theorem AtL.of_ints : ∀ (ns : List Int), AtL K H θ (ns.map D.int) (ns.map V.int)
  | [] => rfl
  | n :: ns => ⟨_, _, rfl, rfl, AtL.of_ints ns⟩
theorem AtL.bls : ∀ {ns : List Bool} {xs : List V}, AtL K H θ (ns.map D.bl) xs → xs = ns.map V.bl
  | [], _, h => h
  | n :: ns, _, h => by
    obtain ⟨x, r, rfl, h1, h2⟩ := h
    rw [show x = _ from h1, AtL.bls h2]
    rfl
end

/-! ### the store -/
def KVAt (K : PySem.W.Frag) (H : Hp) (θ : Th) {κ : Type} (ds : List (κ × D)) (xs : List (κ × V)) : Prop := ds.map (·.1) = xs.map (·.1) ∧ AtL K H θ (ds.map (·.2)) (xs.map (·.2))
def MoAt (K : PySem.W.Frag) (H : Hp) (θ : Th) (a : Addr) : MO → Prop
  | .lst ds => ∃ xs, H a = some (.lst xs) ∧ AtL K H θ ds xs
  | .ro ds => ∃ o xs, H a = some (.frz o (.lst xs)) ∧ AtL K H θ ds xs
  | .dk kvs => ∃ xs, H a = some (.dK xs) ∧ KVAt K H θ kvs xs
  | .dkf o xs kvs => H a = some (.frz o (.dK xs)) ∧ KVAt K H θ kvs xs
  | .dt kvs => ∃ xs, H a = some (.dT xs) ∧ KVAt K H θ kvs xs
theorem MoAt.mono {K : PySem.W.Frag} {H H' : Hp} {θ θ' : Th} {a : Addr} {o : MO} (k : Kp H H') (e : H' a = H a) (h : MoAt K H θ a o) : MoAt K H' (θ ++ θ') a o := by
  cases o with
  | lst ds =>
    obtain ⟨xs, h1, h2⟩ := h
    exact ⟨xs, e.trans h1, AtL.mono k _ _ h2⟩
  | ro ds =>
    obtain ⟨o, xs, h1, h2⟩ := h
    exact ⟨o, xs, e.trans h1, AtL.mono k _ _ h2⟩
  | dk kvs =>
    obtain ⟨xs, h1, h2, h3⟩ := h
    exact ⟨xs, e.trans h1, h2, AtL.mono k _ _ h3⟩
  | dkf o xs kvs =>
    obtain ⟨h1, h2, h3⟩ := h
    exact ⟨e.trans h1, h2, AtL.mono k _ _ h3⟩
  | dt kvs =>
    obtain ⟨xs, h1, h2, h3⟩ := h
    exact ⟨xs, e.trans h1, h2, AtL.mono k _ _ h3⟩
theorem MoAt.there {K : PySem.W.Frag} {H : Hp} {θ : Th} {a : Addr} {o : MO} (h : MoAt K H θ a o) : ∃ u, H a = some u ∧ (∀ ps, u ≠ .tbl ps) := by
  cases o with
  | lst ds =>
    obtain ⟨xs, h1, h2⟩ := h
    exact ⟨_, h1, fun _ z => by cases z⟩
  | ro ds =>
    obtain ⟨o, xs, h1, h2⟩ := h
    exact ⟨_, h1, fun _ z => by cases z⟩
  | dk kvs =>
    obtain ⟨xs, h1, h2, h3⟩ := h
    exact ⟨_, h1, fun _ z => by cases z⟩
  | dkf o xs kvs =>
    obtain ⟨h1, h2, h3⟩ := h
    exact ⟨_, h1, fun _ z => by cases z⟩
  | dt kvs =>
    obtain ⟨xs, h1, h2, h3⟩ := h
    exact ⟨_, h1, fun _ z => by cases z⟩
structure RG (K : PySem.W.Frag) (T : List (Addr × Str)) (θ : Th) (μ : Mu) (H : Hp) : Prop where
  nd : θ.Nodup
  len : θ.length = μ.length
  ob : ∀ (j : Nat) (a : Addr) (o : MO), θ[j]? = some a → μ[j]? = some o → MoAt K H θ a o
  tabs : Tabs T H
def RS (K : PySem.W.Frag) (θ : Th) (ρ : Rho) (σ : L2.St) (H : Hp) : Prop := ρ.length = σ.length ∧ ∀ (i : Nat) (d : D), ρ[i]? = some (some d) → ∃ v, σ[i]? = some (some v) ∧ At K H θ d v
section
variable {K : PySem.W.Frag} {T : List (Addr × Str)} {H H' : Hp} {θ θ' : Th} {μ : Mu} {ρ : Rho} {σ : L2.St} {p : Addr}
theorem RS.mono (k : Kp H H') (h : RS K θ ρ σ H) : RS K (θ ++ θ') ρ σ H' := ⟨h.1, fun i d e => by
  obtain ⟨v, e1, e2⟩ := h.2 i d e
  exact ⟨v, e1, At.mono k d v e2⟩⟩
theorem RS.set (h : RS K θ ρ σ H) (i : Nat) {d : D} {v : V} (hv : At K H θ d v) : RS K θ (ρ.set i (some d)) (σ.set i (some v)) H := by
  refine ⟨by rw [List.length_set, List.length_set]; exact h.1, fun j e hj => ?_⟩
  by_cases hij : i = j
  · subst hij
    have hi : i < ρ.length := by
      have := (List.getElem?_eq_some_iff.mp hj).1
      rwa [List.length_set] at this
    rw [List.getElem?_set_self hi] at hj
    cases hj
    exact ⟨v, List.getElem?_set_self (by rw [← h.1]; exact hi), hv⟩
  · rw [List.getElem?_set_ne hij] at hj
    obtain ⟨w, e1, e2⟩ := h.2 j e hj
    exact ⟨w, by rw [List.getElem?_set_ne hij]; exact e1, e2⟩
theorem RG.at (r : RG K T θ μ H) {j : Nat} {o : MO} (e : μ[j]? = some o) : ∃ a, θ[j]? = some a ∧ MoAt K H θ a o := by
  have hj : j < μ.length := (List.getElem?_eq_some_iff.mp e).1
  have hj' : j < θ.length := by rw [r.len]; exact hj
  exact ⟨θ[j], List.getElem?_eq_getElem hj', r.ob j _ o (List.getElem?_eq_getElem hj') e⟩
theorem RG.mem (r : RG K T θ μ H) {a : Addr} (h : a ∈ θ) : ∃ u, H a = some u ∧ (∀ ps, u ≠ .tbl ps) := by
  obtain ⟨j, hj, e⟩ := List.getElem_of_mem h
  have hj' : j < μ.length := by rw [← r.len]; exact hj
  have := r.ob j a μ[j] (by rw [← e]; exact List.getElem?_eq_getElem hj) (List.getElem?_eq_getElem hj')
  exact this.there
theorem RG.fresh (r : RG K T θ μ H) (h : H p = none) : p ∉ θ := fun z => by
  obtain ⟨u, e, _⟩ := r.mem z
  rw [h] at e
  cases e
/-- a new thing that is not of the store -/
theorem RG.plus (r : RG K T θ μ H) (h : H p = none) (o : HO) : RG K T θ μ (upd H p o) := by
  refine ⟨r.nd, r.len, fun j a u e1 e2 => ?_, r.tabs.ext fun b u e => by rw [upd_ne (ne_of_none e h)]; exact e⟩
  have q := r.ob j a u e1 e2
  have hne : a ≠ p := fun z => r.fresh h (z ▸ List.mem_of_getElem? e1)
  have := MoAt.mono (θ' := []) (Kp.new (o := o) h) (upd_ne hne) q
  rwa [List.append_nil] at this
/-- a new object of the store -/
theorem RG.new (r : RG K T θ μ H) (h : H p = none) {o : HO} {m : MO} (hm : MoAt K (upd H p o) (θ ++ [p]) p m) : RG K T (θ ++ [p]) (μ ++ [m]) (upd H p o) := by
  have hf := r.fresh h
  refine ⟨List.nodup_append.mpr ⟨r.nd, by simp, fun a ha b hb => by
      rw [List.mem_singleton.mp hb]
      exact fun z => hf (z ▸ ha)⟩, by rw [List.length_append, List.length_append, r.len]; rfl, fun j a u e1 e2 => ?_, r.tabs.ext fun b u e => by rw [upd_ne (ne_of_none e h)]; exact e⟩
  by_cases hj : j < θ.length
  · rw [List.getElem?_append_left hj] at e1
    rw [List.getElem?_append_left (by rw [← r.len]; exact hj)] at e2
    have hne : a ≠ p := fun z => hf (z ▸ List.mem_of_getElem? e1)
    exact MoAt.mono (Kp.new h) (upd_ne hne) (r.ob j a u e1 e2)
  · rw [List.getElem?_append_right (by omega)] at e1
    rw [List.getElem?_append_right (by rw [← r.len]; omega)] at e2
    have hz : j - θ.length = 0 := by
      have := (List.getElem?_eq_some_iff.mp e1).1
      simp at this
      omega
    rw [hz] at e1
    rw [← r.len, hz] at e2
    cases e1
    cases e2
    exact hm
/-- an object of the store changes -/
theorem RG.upd (r : RG K T θ μ H) {j : Nat} {a : Addr} (hj : θ[j]? = some a) {u o : HO} (hu : H a = some u) (su : stab u = false) (nt : ∀ ps, u ≠ .tbl ps) {m : MO} (hm : MoAt K (L2.upd H a o) θ a m) : RG K T θ (μ.set j m) (L2.upd H a o) := by
  have hj' : j < θ.length := (List.getElem?_eq_some_iff.mp hj).1
  refine ⟨r.nd, by rw [List.length_set]; exact r.len, fun i b v e1 e2 => ?_, ?_⟩
  · by_cases hij : j = i
    · subst hij
      rw [List.getElem?_set_self (by rw [← r.len]; exact hj')] at e2
      rw [hj] at e1
      cases e1
      cases e2
      exact hm
    · rw [List.getElem?_set_ne hij] at e2
      have hne : b ≠ a := fun z => by
        subst z
        have := (List.getElem?_inj hj' r.nd).mp (hj.trans e1.symm)
        exact hij this
      have := MoAt.mono (θ' := []) (Kp.mut (o := o) hu su) (upd_ne hne) (r.ob i b v e1 e2)
      rwa [List.append_nil] at this
  · have keep : ∀ b w, H b = some w → (stab w = true ∨ ∃ ps, w = .tbl ps) → L2.upd H a o b = some w := fun b w e hw => by
      have : b ≠ a := fun z => by
        subst z
        rw [hu] at e
        cases e
        rcases hw with hw | ⟨ps, rfl⟩
        · rw [su] at hw; cases hw
        · exact nt ps rfl
      rw [upd_ne this]
      exact e
    intro q hq
    obtain ⟨ps, h1, h2, h3⟩ := r.tabs q hq
    refine ⟨ps, keep _ _ h1 (.inr ⟨_, rfl⟩), h2, fun pos cv hc => ?_⟩
    obtain ⟨c, e1, e2⟩ := h3 pos cv hc
    exact ⟨c, e1, keep _ _ e2 (.inl rfl)⟩
/-- all but the tables stay -/
theorem RG.extN (r : RG K T θ μ H) (e : ExtN H H') (t : Tabs T H') : RG K T θ μ H' := by
  refine ⟨r.nd, r.len, fun j a o e1 e2 => ?_, t⟩
  have q := r.ob j a o e1 e2
  obtain ⟨u, hu, nt⟩ := q.there
  have k : Kp H H' := fun b o h s => e b o h fun ps z => by subst z; cases s
  have := MoAt.mono (θ' := []) k ((e a u hu nt).trans hu.symm) q
  rwa [List.append_nil] at this
end

/-! ### judgements over data -/
abbrev QD := D → Mu → Prop
abbrev XD := Addr → Mu → Prop
abbrev DT := Rho → Mu → QD → XD → Prop
abbrev DB := Rho → Mu → (Bool → Mu → Prop) → XD → Prop
abbrev DA := Rho → Mu → (List D → Mu → Prop) → XD → Prop
structure DEnds where
  nx : Rho → Mu → Prop
  rt : QD
  bk : Rho → Mu → Prop := fun _ _ => False
  ct : Rho → Mu → Prop := fun _ _ => False
  ex : XD
abbrev DS := DEnds → Rho → Mu → Prop

/-- what is wanted of errors -/
def XS (K : PySem.W.Frag) (T : List (Addr × Str)) (E : XK) (θ : Th) (H : Hp) (xd : XD) : Prop := ∀ C μ' θ' H', RG K T (θ ++ θ') μ' H' → Kp H H' → xd C μ' → E (.ref C) none H'
theorem XS.next {K : PySem.W.Frag} {T : List (Addr × Str)} {E : XK} {θ θ1 : Th} {H H1 : Hp} {xd : XD} (h : XS K T E θ H xd) (k : Kp H H1) : XS K T E (θ ++ θ1) H1 xd := fun C μ' θ' H' r k' x =>
  h C μ' (θ1 ++ θ') H' (by rw [← List.append_assoc]; exact r) (k.trans k') x
def lE (K : PySem.W.Frag) (T : List (Addr × Str)) (E : XK) (t : DT) : TE := fun σ H Q => ∃ (θ : Th) (μ : Mu) (ρ : Rho) (qd : QD) (xd : XD), RG K T θ μ H ∧ RS K θ ρ σ H ∧ XS K T E θ H xd ∧ t ρ μ qd xd ∧
  ∀ d μ' θ' v H', RG K T (θ ++ θ') μ' H' → Kp H H' → At K H' (θ ++ θ') d v → qd d μ' → Q v H'
def lB (K : PySem.W.Frag) (T : List (Addr × Str)) (E : XK) (t : DB) : TT := fun σ H Q => ∃ (θ : Th) (μ : Mu) (ρ : Rho) (qd : Bool → Mu → Prop) (xd : XD), RG K T θ μ H ∧ RS K θ ρ σ H ∧ XS K T E θ H xd ∧ t ρ μ qd xd ∧
  ∀ b μ' θ' H', RG K T (θ ++ θ') μ' H' → Kp H H' → qd b μ' → Q b H'
def lA (K : PySem.W.Frag) (T : List (Addr × Str)) (E : XK) (t : DA) : TA := fun σ H Q => ∃ (θ : Th) (μ : Mu) (ρ : Rho) (qd : List D → Mu → Prop) (xd : XD), RG K T θ μ H ∧ RS K θ ρ σ H ∧ XS K T E θ H xd ∧ t ρ μ qd xd ∧
  ∀ ds μ' θ' vs H', RG K T (θ ++ θ') μ' H' → Kp H H' → AtL K H' (θ ++ θ') ds vs → qd ds μ' → Q vs H'
/-- the ends of a statement -/
structure ES (K : PySem.W.Frag) (T : List (Addr × Str)) (E : XK) (θ : Th) (H : Hp) (de : DEnds) (Dn : Ends) : Prop where
  nx : ∀ ρ' μ' θ' σ' H', RG K T (θ ++ θ') μ' H' → RS K (θ ++ θ') ρ' σ' H' → Kp H H' → de.nx ρ' μ' → Dn.nx σ' H'
  bk : ∀ ρ' μ' θ' σ' H', RG K T (θ ++ θ') μ' H' → RS K (θ ++ θ') ρ' σ' H' → Kp H H' → de.bk ρ' μ' → Dn.bk σ' H'
  ct : ∀ ρ' μ' θ' σ' H', RG K T (θ ++ θ') μ' H' → RS K (θ ++ θ') ρ' σ' H' → Kp H H' → de.ct ρ' μ' → Dn.ct σ' H'
  rt : ∀ d μ' θ' v H', RG K T (θ ++ θ') μ' H' → Kp H H' → At K H' (θ ++ θ') d v → de.rt d μ' → Dn.rt v H'
  ex : XS K T E θ H de.ex
theorem ES.next {K : PySem.W.Frag} {T : List (Addr × Str)} {E : XK} {θ θ1 : Th} {H H1 : Hp} {de : DEnds} {Dn : Ends} (h : ES K T E θ H de Dn) (k : Kp H H1) : ES K T E (θ ++ θ1) H1 de Dn where
  nx := fun ρ' μ' θ' σ' H' r s k' q => h.nx ρ' μ' (θ1 ++ θ') σ' H' (by rw [← List.append_assoc]; exact r) (by rw [← List.append_assoc]; exact s) (k.trans k') q
  bk := fun ρ' μ' θ' σ' H' r s k' q => h.bk ρ' μ' (θ1 ++ θ') σ' H' (by rw [← List.append_assoc]; exact r) (by rw [← List.append_assoc]; exact s) (k.trans k') q
  ct := fun ρ' μ' θ' σ' H' r s k' q => h.ct ρ' μ' (θ1 ++ θ') σ' H' (by rw [← List.append_assoc]; exact r) (by rw [← List.append_assoc]; exact s) (k.trans k') q
  rt := fun d μ' θ' v H' r k' a q => h.rt d μ' (θ1 ++ θ') v H' (by rw [← List.append_assoc]; exact r) (k.trans k') (by rw [← List.append_assoc]; exact a) q
  ex := h.ex.next k
def lS (K : PySem.W.Frag) (T : List (Addr × Str)) (E : XK) (t : DS) : TS := fun Dn σ H => ∃ (θ : Th) (μ : Mu) (ρ : Rho) (de : DEnds), RG K T θ μ H ∧ RS K θ ρ σ H ∧ ES K T E θ H de Dn ∧ t de ρ μ

def PD (X : Cx) (T : List (Addr × Str)) (E : XK) (e : Expr) (t : DT) : Prop := PE X e (lE X.K T E t)
def PB (X : Cx) (T : List (Addr × Str)) (E : XK) (e : Expr) (t : DB) : Prop := PT X e (lB X.K T E t)
def PDA (X : Cx) (T : List (Addr × Str)) (E : XK) (es : List Expr) (t : DA) : Prop := PA X es (lA X.K T E t)
def PDS (X : Cx) (T : List (Addr × Str)) (E : XK) (st : Stmt) (t : DS) : Prop := PS X st (lS X.K T E t)
def PDSs (X : Cx) (T : List (Addr × Str)) (E : XK) (st : List Stmt) (t : DS) : Prop := PSs X st (lS X.K T E t)

theorem PE.imp {X : Cx} {e : Expr} {t t' : TE} (h : PE X e t) (i : ∀ σ H Q, t' σ H Q → t σ H Q) : PE X e t' := ⟨fun pins s σ H Q I hw => h.run pins s σ H Q I (i _ _ _ hw)⟩
theorem PT.imp {X : Cx} {e : Expr} {t t' : TT} (h : PT X e t) (i : ∀ σ H Q, t' σ H Q → t σ H Q) : PT X e t' := ⟨fun pins s σ H Q I hw => h.run pins s σ H Q I (i _ _ _ hw)⟩
theorem PA.imp {X : Cx} {e : List Expr} {t t' : TA} (h : PA X e t) (i : ∀ σ H Q, t' σ H Q → t σ H Q) : PA X e t' := ⟨fun pos pins s σ H Q I hw => h.run pos pins s σ H Q I (i _ _ _ hw)⟩
theorem PS.imp {X : Cx} {e : Stmt} {t t' : TS} (h : PS X e t) (i : ∀ D σ H, t' D σ H → t D σ H) : PS X e t' := ⟨fun pins s σ H D I hw => h.run pins s σ H D I (i _ _ _ hw)⟩
theorem PSs.imp {X : Cx} {e : List Stmt} {t t' : TS} (h : PSs X e t) (i : ∀ D σ H, t' D σ H → t D σ H) : PSs X e t' := ⟨fun pins s σ H D I hw => h.run pins s σ H D I (i _ _ _ hw)⟩
theorem PW.imp {X : Cx} {e : Expr} {t t' : TT} (h : PW X e t) (i : ∀ σ H Q, t' σ H Q → t σ H Q) : PW X e t' := ⟨fun wh pins s σ H Q I hw => h.run wh pins s σ H Q I (i _ _ _ hw)⟩
end DL

set_option Elab.async false
set_option linter.all false
set_option maxRecDepth 100000
set_option maxHeartbeats 4000000
namespace DL
open PySem PySem.Spec PyProof.Rows L2 LamX

/-! ### transformers -/
def wVar (i : Nat) : DT := fun ρ μ q _ => match ρ[i]? with
  | some (some d) => q d μ
  | _ => False
def wC (d : D) : DT := fun _ μ q _ => q d μ
abbrev DO2 := D → D → Mu → QD → Prop
abbrev DO1 := D → Mu → QD → Prop
abbrev DOL := List D → Mu → QD → Prop
def wBin (op : DO2) (a b : DT) : DT := fun ρ μ q x => a ρ μ (fun d μ1 => b ρ μ1 (fun e μ2 => op d e μ2 q) x) x
def wUn (op : DO1) (a : DT) : DT := fun ρ μ q x => a ρ μ (fun d μ1 => op d μ1 q) x
def wNil : DA := fun _ μ q _ => q [] μ
def wCons (a : DT) (r : DA) : DA := fun ρ μ q x => a ρ μ (fun d μ1 => r ρ μ1 (fun ds μ2 => q (d :: ds) μ2) x) x
def wL (op : DOL) (a : DA) : DT := fun ρ μ q x => a ρ μ (fun ds μ1 => op ds μ1 q) x
def opTup : DOL := fun ds μ q => ds.length ≤ sizeLine ∧ q (.tup ds) μ
def opLst : DOL := fun ds μ q => ds.length ≤ sizeLine ∧ q (.obj μ.length) (μ ++ [.lst ds])
def wBAnd (a b : DB) : DB := fun ρ μ q x => a ρ μ (fun c μ1 => match c with
  | true => b ρ μ1 q x
  | false => q false μ1) x
def wBOr (a b : DB) : DB := fun ρ μ q x => a ρ μ (fun c μ1 => match c with
  | true => q true μ1
  | false => b ρ μ1 q x) x
def wBNot (a : DB) : DB := fun ρ μ q x => a ρ μ (fun c μ1 => q (!c) μ1) x
/-- a bool as a test -/
def wTest (a : DT) : DB := fun ρ μ q x => a ρ μ (fun d μ1 => match d with
  | .bl c => q c μ1
  | _ => False) x
def wAnd (a b : DT) : DT := fun ρ μ q x => a ρ μ (fun d μ1 => match d with
  | .bl true => b ρ μ1 q x
  | .bl false => q (.bl false) μ1
  | _ => False) x
def wOr (a b : DT) : DT := fun ρ μ q x => a ρ μ (fun d μ1 => match d with
  | .bl true => q (.bl true) μ1
  | .bl false => b ρ μ1 q x
  | _ => False) x
def wNot (a : DT) : DT := fun ρ μ q x => a ρ μ (fun d μ1 => match d with
  | .bl c => q (.bl (!c)) μ1
  | _ => False) x
def wIf (t : DB) (a b : DT) : DT := fun ρ μ q x => t ρ μ (fun c μ1 => match c with
  | true => a ρ μ1 q x
  | false => b ρ μ1 q x) x
/-- a op b op' c -/
def wChain (op op' : DO2) (a b c : DT) : DT := fun ρ μ q x => a ρ μ (fun d μ1 => b ρ μ1 (fun e μ2 => op d e μ2 fun z μ3 => match z with
  | .bl true => c ρ μ3 (fun f μ4 => op' e f μ4 q) x
  | .bl false => q (.bl false) μ3
  | _ => False) x) x

section
variable {X : Cx} {T : List (Addr × Str)} {E : XK} {a b c : Expr} {ta tb tc : DT} {pos : Pos}

/-! ### names and constants -/
theorem pd_var (i : Nat) {x : Str} (hN : X.N[i]? = some x := by rfl) (hv : Vis X.env.scope x := by first | exact Or.inl rfl | exact Or.inr (Or.inl rfl) | exact Or.inr (Or.inr rfl)) (hd : (x == ("__debug__" : Str)) = false := by decide)
    (hcd : (x == ("__classdict__" : Str)) = false := by decide) : PD X T E (.Name x pos) (wVar i) := by
  refine PE.imp (pe_var hN hv hd hcd) ?_
  rintro σ H Q ⟨θ, μ, ρ, qd, xd, rg, rs, xs, h, fin⟩
  unfold wVar at h
  split at h
  · rename_i d e
    obtain ⟨v, e1, e2⟩ := rs.2 i d e
    refine ⟨v, e1, fin d μ [] v H ?_ (Kp.refl H) ?_ h⟩
    · rw [List.append_nil]; exact rg
    · rw [List.append_nil]; exact e2
  · exact h.elim
theorem pd_c {e : Expr} {v : V} {d : D} (h : PE X e (tC v)) (hd : ∀ K H θ, At K H θ d v) : PD X T E e (wC d) := by
  refine PE.imp h ?_
  rintro σ H Q ⟨θ, μ, ρ, qd, xd, rg, rs, xs, h, fin⟩
  exact fin d μ [] v H (by rw [List.append_nil]; exact rg) (Kp.refl H) (hd _ _ _) h
theorem pd_int {i : Int} {j} : PD X T E (.Constant (.int i) j pos) (wC (.int i)) := pd_c pe_int fun _ _ _ => rfl
theorem pd_bl {i : Bool} {j} : PD X T E (.Constant (.bool i) j pos) (wC (.bl i)) := pd_c pe_bl fun _ _ _ => rfl
theorem pd_non {j} : PD X T E (.Constant .none j pos) (wC .non) := pd_c pe_non fun _ _ _ => rfl
theorem pd_str {i : Str} {j} : PD X T E (.Constant (.str i) j pos) (wC (.str i)) := pd_c pe_str fun _ _ _ => rfl
/-- a module's int -/
theorem pd_globI {x : Str} {i : Int} {t : Tok} (hg : Gl X x) (hm : X.mg x = some (.int i t)) (hd : (x == ("__debug__" : Str)) = false := by decide) : PD X T E (.Name x pos) (wC (.int i)) := pd_c (pe_glob (v := .int i) hg hm ⟨t, rfl⟩ hd) fun _ _ _ => rfl
theorem pd_globF {x : Str} {f : Addr} (hg : Gl X x) (hm : X.mg x = some (.ref f)) (hd : (x == ("__debug__" : Str)) = false := by decide) : PD X T E (.Name x pos) (wC (.fn f)) := pd_c (pe_glob (v := .ref f) hg hm rfl hd) fun _ _ _ => rfl
theorem pd_ty {x : Str} {n : String} (hg : Gl X x) (hm : X.mg x = none) (hv : bootBuiltins x = some (.type n)) (hn : x ≠ "__name__" := by decide) (hd : (x == ("__debug__" : Str)) = false := by decide) : PD X T E (.Name x pos) (wC (.ty n)) := pd_c (pe_bltn (v := .ty n) hg hm hv rfl hn hd) fun _ _ _ => rfl
/-- a module's tuple of flat things -/
theorem pd_globT {x : Str} {f : Addr} {xs : List V} {ds : List D} (hg : Gl X x) (hm : X.mg x = some (.ref f)) (hs : ∀ H, SqT X.K H f xs) (hx : ∀ K H θ, AtL K H θ ds xs) (hd : (x == ("__debug__" : Str)) = false := by decide) : PD X T E (.Name x pos) (wC (.tup ds)) := by
  refine PE.imp (pe_glob hg hm (v := .ref f) rfl hd) ?_
  rintro σ H Q ⟨θ, μ, ρ, qd, xd, rg, rs, xs, h, fin⟩
  exact fin (.tup ds) μ [] (.ref f) H (by rw [List.append_nil]; exact rg) (Kp.refl H) ⟨f, _, rfl, hs H, hx _ _ _⟩ h

/-! ### argument lists, displays -/
theorem pda_nil : PDA X T E [] wNil := by
  refine PA.imp pa_nil ?_
  rintro σ H Q ⟨θ, μ, ρ, qd, xd, rg, rs, xs, h, fin⟩
  exact fin [] μ [] [] H (by rw [List.append_nil]; exact rg) (Kp.refl H) rfl h
theorem pda_cons {es : List Expr} {tr : DA} (ha : PD X T E a ta) (hr : PDA X T E es tr) (hs : starEach (a :: es) X.env = (false, eval a X.env) :: starEach es X.env := by rfl) : PDA X T E (a :: es) (wCons ta tr) := by
  refine PA.imp (pa_cons ha hr hs) ?_
  rintro σ H Q ⟨θ, μ, ρ, qd, xd, rg, rs, xs, h, fin⟩
  refine ⟨θ, μ, ρ, _, xd, rg, rs, xs, h, fun d μ1 θ1 v H1 rg1 k1 at1 h1 => ?_⟩
  refine ⟨θ ++ θ1, μ1, ρ, _, xd, rg1, rs.mono k1, xs.next k1, h1, fun ds μ2 θ2 vs H2 rg2 k2 at2 h2 => ?_⟩
  refine fin (d :: ds) μ2 (θ1 ++ θ2) (v :: vs) H2 (by rw [← List.append_assoc]; exact rg2) (k1.trans k2) ?_ h2
  rw [← List.append_assoc]
  exact ⟨v, vs, rfl, At.mono k2 d v at1, at2⟩
theorem at_new {K : PySem.W.Frag} {H H' : Hp} {θ : Th} {μ : Mu} {p : Addr} (rg : RG K T θ μ H) : At K H' (θ ++ [p]) (.obj μ.length) (.ref p) := ⟨p, by rw [← rg.len, List.getElem?_append_right (Nat.le_refl _), Nat.sub_self]; rfl, rfl⟩
theorem pd_tup {es : List Expr} {t : DA} {x1} (h : PDA X T E es t) : PD X T E (.Tuple es x1 pos) (wL opTup t) := by
  refine PE.imp (pe_tup h) ?_
  rintro σ H Q ⟨θ, μ, ρ, qd, xd, rg, rs, xs, h, fin⟩
  refine ⟨θ, μ, ρ, _, xd, rg, rs, xs, h, fun ds μ1 θ1 vs H1 rg1 k1 at1 h1 => ?_⟩
  obtain ⟨hl, h1⟩ := h1
  refine ⟨by rw [at1.length]; exact hl, fun p hp => ?_⟩
  exact fin (.tup ds) μ1 θ1 (.ref p) _ (rg1.plus hp _) (k1.trans (Kp.new hp)) ⟨p, vs, rfl, SqT.of upd_same, at1.kp (Kp.new hp)⟩ h1
theorem pd_lst {es : List Expr} {t : DA} (h : PDA X T E es t) : PD X T E (.List es pos) (wL opLst t) := by
  refine PE.imp (pe_lst h) ?_
  rintro σ H Q ⟨θ, μ, ρ, qd, xd, rg, rs, xs, h, fin⟩
  refine ⟨θ, μ, ρ, _, xd, rg, rs, xs, h, fun ds μ1 θ1 vs H1 rg1 k1 at1 h1 => ?_⟩
  obtain ⟨hl, h1⟩ := h1
  refine ⟨by rw [at1.length]; exact hl, fun p hp => ?_⟩
  have r2 := rg1.new hp (o := .lst vs) (m := .lst ds) ⟨vs, upd_same, AtL.mono (Kp.new hp) _ _ at1⟩
  refine fin (.obj μ1.length) _ (θ1 ++ [p]) (.ref p) _ (by rw [← List.append_assoc]; exact r2) (k1.trans (Kp.new hp)) ?_ h1
  rw [← List.append_assoc]
  exact at_new rg1

/-! ### operators -/
/-- what an operation on data asks of the one on values -/
def Sim2 (K : PySem.W.Frag) (op : DO2) (r : R2) : Prop := ∀ (T : List (Addr × Str)) (θ : Th) (μ : Mu) (H : Hp) (d e : D) (x y : V) (q : QD) (Q : VK), RG K T θ μ H → At K H θ d x → At K H θ e y → op d e μ q →
  (∀ d' μ' θ' v H', RG K T (θ ++ θ') μ' H' → Kp H H' → At K H' (θ ++ θ') d' v → q d' μ' → Q v H') → r x y H Q
def Sim1 (K : PySem.W.Frag) (op : DO1) (r : V → Hp → VK → Prop) : Prop := ∀ (T : List (Addr × Str)) (θ : Th) (μ : Mu) (H : Hp) (d : D) (x : V) (q : QD) (Q : VK), RG K T θ μ H → At K H θ d x → op d μ q →
  (∀ d' μ' θ' v H', RG K T (θ ++ θ') μ' H' → Kp H H' → At K H' (θ ++ θ') d' v → q d' μ' → Q v H') → r x H Q
def SimL (K : PySem.W.Frag) (op : DOL) (r : List V → Hp → VK → Prop) : Prop := ∀ (T : List (Addr × Str)) (θ : Th) (μ : Mu) (H : Hp) (ds : List D) (xs : List V) (q : QD) (Q : VK), RG K T θ μ H → AtL K H θ ds xs → op ds μ q →
  (∀ d' μ' θ' v H', RG K T (θ ++ θ') μ' H' → Kp H H' → At K H' (θ ++ θ') d' v → q d' μ' → Q v H') → r xs H Q
theorem lE_bin {op : DO2} {r : R2} (hr : Sim2 X.K op r) {σ : L2.St} {H : Hp} {Q : VK} (h : lE X.K T E (wBin op ta tb) σ H Q) : tOp r (lE X.K T E ta) (lE X.K T E tb) σ H Q := by
  obtain ⟨θ, μ, ρ, qd, xd, rg, rs, xs, h, fin⟩ := h
  refine ⟨θ, μ, ρ, _, xd, rg, rs, xs, h, fun d μ1 θ1 v H1 rg1 k1 at1 h1 => ?_⟩
  refine ⟨θ ++ θ1, μ1, ρ, _, xd, rg1, rs.mono k1, xs.next k1, h1, fun e μ2 θ2 w H2 rg2 k2 at2 h2 => ?_⟩
  refine hr T _ μ2 H2 d e v w qd Q rg2 (At.mono k2 d v at1) at2 h2 fun d' μ' θ' v' H' r' k' a' q' => ?_
  exact fin d' μ' (θ1 ++ (θ2 ++ θ')) v' H' (by simpa only [List.append_assoc] using r') (k1.trans (k2.trans k')) (by simpa only [List.append_assoc] using a') q'
theorem pd_op {op : Operator} {r : R2} {w : DO2} (ho : OpR X (binaryOp op) r) (hr : Sim2 X.K w r) (ha : PD X T E a ta) (hb : PD X T E b tb) : PD X T E (.BinOp a op b pos) (wBin w ta tb) :=
  PE.imp (pe_op ho ha hb) fun _ _ _ h => lE_bin hr h
theorem pd_cmp {op : CmpOp} {r : R2} {w : DO2} (ho : OpR X (compareOp op) r) (hr : Sim2 X.K w r) (ha : PD X T E a ta) (hb : PD X T E b tb) (hm : behindInMarks op b = false := by first | exact nomark _ | rfl) : PD X T E (.Compare a [op] [b] pos) (wBin w ta tb) :=
  PE.imp (pe_cmpR ho ha hb hm) fun _ _ _ h => lE_bin hr h
theorem lB_test {σ : L2.St} {H : Hp} {Q : Bool → Hp → Prop} (h : lB X.K T E (wTest ta) σ H Q) : lE X.K T E ta σ H fun x H' => ∃ k, x = .bl k ∧ Q k H' := by
  obtain ⟨θ, μ, ρ, qd, xd, rg, rs, xs, h, fin⟩ := h
  refine ⟨θ, μ, ρ, _, xd, rg, rs, xs, h, fun d μ1 θ1 v H1 rg1 k1 at1 h1 => ?_⟩
  cases d with
  | bl c =>
    have : v = .bl c := at1
    exact ⟨c, this, fin c μ1 θ1 H1 rg1 k1 h1⟩
  | _ => exact False.elim h1
theorem pb_cmp {op : CmpOp} {r : R2} {w : DO2} (ho : OpR X (compareOp op) r) (hr : Sim2 X.K w r) (ha : PD X T E a ta) (hb : PD X T E b tb) (hm : behindInMarks op b = false := by first | exact nomark _ | rfl) : PB X T E (.Compare a [op] [b] pos) (wTest (wBin w ta tb)) := by
  refine PT.imp (pt_cmpR ho ha hb hm) fun σ H Q h => ?_
  have h' := lB_test h
  exact lE_bin hr h'
theorem pb_val {e : Expr} {t : DT} (h : PD X T E e t) (he : ∀ whole, isTrue e X.env whole = (do let v ← whole; standAt e.pos; holding [v] (truthy v)) := by intro _; rfl) : PB X T E e (wTest t) :=
  PT.imp (pt_val h he) fun σ H Q h => lB_test h
theorem pd_chain {op op' : CmpOp} {r r' : R2} {w w' : DO2} (ho : OpR X (compareOp op) r) (hr : Sim2 X.K w r) (ho' : OpR X (compareOp op') r') (hr' : Sim2 X.K w' r') (ha : PD X T E a ta) (hb : PD X T E b tb) (hc : PD X T E c tc)
    (hm : lastMarks [op, op'] [b, c] = false := by with_unfolding_all rfl) : PD X T E (.Compare a [op, op'] [b, c] pos) (wChain w w' ta tb tc) := by
  refine PE.imp (pe_chain ho ho' ha hb hc hm) ?_
  rintro σ H Q ⟨θ, μ, ρ, qd, xd, rg, rs, xs, h, fin⟩
  refine ⟨θ, μ, ρ, _, xd, rg, rs, xs, h, fun d μ1 θ1 v H1 rg1 k1 at1 h1 => ?_⟩
  refine ⟨θ ++ θ1, μ1, ρ, _, xd, rg1, rs.mono k1, xs.next k1, h1, fun e μ2 θ2 u H2 rg2 k2 at2 h2 => ?_⟩
  refine hr T _ μ2 H2 d e v u _ _ rg2 (At.mono k2 d v at1) at2 h2 fun z μ3 θ3 zv H3 rg3 k3 az hz => ?_
  cases z with
  | bl k =>
    refine ⟨k, az, ?_⟩
    cases k with
    | true =>
      refine iteT ?_
      refine ⟨_, μ3, ρ, _, xd, rg3, ((rs.mono k1).mono k2).mono k3, ((xs.next k1).next k2).next k3, hz, fun f μ4 θ4 wv H4 rg4 k4 at4 h4 => ?_⟩
      refine hr' T _ μ4 H4 e f u wv qd Q rg4 (At.mono k4 e u (At.mono k3 e u at2)) at4 h4 fun d' μ' θ' v' H' r' k' a' q' => ?_
      exact fin d' μ' (θ1 ++ (θ2 ++ (θ3 ++ (θ4 ++ θ')))) v' H' (by simpa only [List.append_assoc] using r') (k1.trans (k2.trans (k3.trans (k4.trans k')))) (by simpa only [List.append_assoc] using a') q'
    | false =>
      refine iteF ?_
      exact fin (.bl false) μ3 (θ1 ++ (θ2 ++ θ3)) _ H3 (by simpa only [List.append_assoc] using rg3) (k1.trans (k2.trans k3)) rfl hz
  | _ => exact False.elim hz
theorem pb_chain {op op' : CmpOp} {r r' : R2} {w w' : DO2} (ho : OpR X (compareOp op) r) (hr : Sim2 X.K w r) (ho' : OpR X (compareOp op') r') (hr' : Sim2 X.K w' r') (ha : PD X T E a ta) (hb : PD X T E b tb) (hc : PD X T E c tc)
    (hm : lastMarks [op, op'] [b, c] = false := by with_unfolding_all rfl) : PB X T E (.Compare a [op, op'] [b, c] pos) (wTest (wChain w w' ta tb tc)) := by
  refine PT.imp (pt_chain ho ho' ha hb hc hm) fun σ H Q h => ?_
  obtain ⟨θ, μ, ρ, qd, xd, rg, rs, xs, h, fin⟩ := lB_test h
  refine ⟨θ, μ, ρ, _, xd, rg, rs, xs, h, fun d μ1 θ1 v H1 rg1 k1 at1 h1 => ?_⟩
  refine ⟨θ ++ θ1, μ1, ρ, _, xd, rg1, rs.mono k1, xs.next k1, h1, fun e μ2 θ2 u H2 rg2 k2 at2 h2 => ?_⟩
  refine hr T _ μ2 H2 d e v u _ _ rg2 (At.mono k2 d v at1) at2 h2 fun z μ3 θ3 zv H3 rg3 k3 az hz => ?_
  cases z with
  | bl k =>
    refine ⟨k, az, ?_⟩
    cases k with
    | true =>
      refine iteT ?_
      refine ⟨_, μ3, ρ, _, xd, rg3, ((rs.mono k1).mono k2).mono k3, ((xs.next k1).next k2).next k3, hz, fun f μ4 θ4 wv H4 rg4 k4 at4 h4 => ?_⟩
      refine hr' T _ μ4 H4 e f u wv qd _ rg4 (At.mono k4 e u (At.mono k3 e u at2)) at4 h4 fun d' μ' θ' v' H' r' k' a' q' => ?_
      exact fin d' μ' (θ1 ++ (θ2 ++ (θ3 ++ (θ4 ++ θ')))) v' H' (by simpa only [List.append_assoc] using r') (k1.trans (k2.trans (k3.trans (k4.trans k')))) (by simpa only [List.append_assoc] using a') q'
    | false =>
      refine iteF ?_
      exact fin (.bl false) μ3 (θ1 ++ (θ2 ++ θ3)) _ H3 (by simpa only [List.append_assoc] using rg3) (k1.trans (k2.trans k3)) rfl hz
  | _ => exact False.elim hz

/-! ### and, or, not, if -/
def PBW (X : Cx) (T : List (Addr × Str)) (E : XK) (e : Expr) (t : DB) : Prop := PW X e (lB X.K T E t)
variable {rest : List Expr} {ua ub : DB}
theorem pbw_pb {e : Expr} (h : PBW X T E e ua) : PB X T E e ua := PW.pt h
theorem pw_and1' {op} (h : PB X T E a ua) (ho : op = .And) : PBW X T E (.BoolOp op [a] pos) ua := by subst ho; exact pw_and1 h
theorem pbw_and1 (h : PB X T E a ua) : PBW X T E (.BoolOp .And [a] pos) ua := pw_and1 h
theorem pbw_or1 (h : PB X T E a ua) : PBW X T E (.BoolOp .Or [a] pos) ua := pw_or1 h
theorem pbw_and (ha : PB X T E a ua) (hb : PBW X T E (.BoolOp .And (b :: rest) pos) ub) : PBW X T E (.BoolOp .And (a :: b :: rest) pos) (wBAnd ua ub) := by
  refine PW.imp (pw_and ha hb) ?_
  rintro σ H Q ⟨θ, μ, ρ, qd, xd, rg, rs, xs, h, fin⟩
  refine ⟨θ, μ, ρ, _, xd, rg, rs, xs, h, fun c μ1 θ1 H1 rg1 k1 h1 => ?_⟩
  cases c with
  | true =>
    refine iteT ?_
    exact ⟨_, μ1, ρ, qd, xd, rg1, rs.mono k1, xs.next k1, h1, fun c' μ2 θ2 H2 rg2 k2 h2 => fin c' μ2 (θ1 ++ θ2) H2 (by simpa only [List.append_assoc] using rg2) (k1.trans k2) h2⟩
  | false =>
    refine iteF ?_
    exact fin false μ1 θ1 H1 rg1 k1 h1
theorem pbw_or (ha : PB X T E a ua) (hb : PBW X T E (.BoolOp .Or (b :: rest) pos) ub) : PBW X T E (.BoolOp .Or (a :: b :: rest) pos) (wBOr ua ub) := by
  refine PW.imp (pw_or ha hb) ?_
  rintro σ H Q ⟨θ, μ, ρ, qd, xd, rg, rs, xs, h, fin⟩
  refine ⟨θ, μ, ρ, _, xd, rg, rs, xs, h, fun c μ1 θ1 H1 rg1 k1 h1 => ?_⟩
  cases c with
  | true =>
    refine iteT ?_
    exact fin true μ1 θ1 H1 rg1 k1 h1
  | false =>
    refine iteF ?_
    exact ⟨_, μ1, ρ, qd, xd, rg1, rs.mono k1, xs.next k1, h1, fun c' μ2 θ2 H2 rg2 k2 h2 => fin c' μ2 (θ1 ++ θ2) H2 (by simpa only [List.append_assoc] using rg2) (k1.trans k2) h2⟩
theorem pb_not (ha : PB X T E a ua) : PB X T E (.UnaryOp .Not a pos) (wBNot ua) := by
  refine PT.imp (pt_not ha) ?_
  rintro σ H Q ⟨θ, μ, ρ, qd, xd, rg, rs, xs, h, fin⟩
  exact ⟨θ, μ, ρ, _, xd, rg, rs, xs, h, fun c μ1 θ1 H1 rg1 k1 h1 => fin (!c) μ1 θ1 H1 rg1 k1 h1⟩
theorem pd_one {op} {t : DT} (h : PD X T E a t) : PD X T E (.BoolOp op [a] pos) t := pe_one h
theorem pd_and (ha : PD X T E a ta) (hb : PD X T E (.BoolOp .And (b :: rest) pos) tb) : PD X T E (.BoolOp .And (a :: b :: rest) pos) (wAnd ta tb) := by
  refine PE.imp (pe_and ha hb) ?_
  rintro σ H Q ⟨θ, μ, ρ, qd, xd, rg, rs, xs, h, fin⟩
  refine ⟨θ, μ, ρ, _, xd, rg, rs, xs, h, fun d μ1 θ1 v H1 rg1 k1 at1 h1 => ?_⟩
  cases d with
  | bl c =>
    refine ⟨c, at1, ?_⟩
    cases c with
    | true =>
      refine iteT ?_
      exact ⟨_, μ1, ρ, qd, xd, rg1, rs.mono k1, xs.next k1, h1, fun c' μ2 θ2 v' H2 rg2 k2 a2 h2 => fin c' μ2 (θ1 ++ θ2) v' H2 (by simpa only [List.append_assoc] using rg2) (k1.trans k2) (by simpa only [List.append_assoc] using a2) h2⟩
    | false =>
      refine iteF ?_
      exact fin (.bl false) μ1 θ1 _ H1 rg1 k1 rfl h1
  | _ => exact False.elim h1
theorem pd_or (ha : PD X T E a ta) (hb : PD X T E (.BoolOp .Or (b :: rest) pos) tb) : PD X T E (.BoolOp .Or (a :: b :: rest) pos) (wOr ta tb) := by
  refine PE.imp (pe_or ha hb) ?_
  rintro σ H Q ⟨θ, μ, ρ, qd, xd, rg, rs, xs, h, fin⟩
  refine ⟨θ, μ, ρ, _, xd, rg, rs, xs, h, fun d μ1 θ1 v H1 rg1 k1 at1 h1 => ?_⟩
  cases d with
  | bl c =>
    refine ⟨c, at1, ?_⟩
    cases c with
    | true =>
      refine iteT ?_
      exact fin (.bl true) μ1 θ1 _ H1 rg1 k1 rfl h1
    | false =>
      refine iteF ?_
      exact ⟨_, μ1, ρ, qd, xd, rg1, rs.mono k1, xs.next k1, h1, fun c' μ2 θ2 v' H2 rg2 k2 a2 h2 => fin c' μ2 (θ1 ++ θ2) v' H2 (by simpa only [List.append_assoc] using rg2) (k1.trans k2) (by simpa only [List.append_assoc] using a2) h2⟩
  | _ => exact False.elim h1
theorem pd_not (ha : PD X T E a ta) : PD X T E (.UnaryOp .Not a pos) (wNot ta) := by
  refine PE.imp (pe_not ha) ?_
  rintro σ H Q ⟨θ, μ, ρ, qd, xd, rg, rs, xs, h, fin⟩
  refine ⟨θ, μ, ρ, _, xd, rg, rs, xs, h, fun d μ1 θ1 v H1 rg1 k1 at1 h1 => ?_⟩
  cases d with
  | bl c => exact ⟨c, at1, fin (.bl (!c)) μ1 θ1 _ H1 rg1 k1 rfl h1⟩
  | _ => exact False.elim h1
theorem pd_if (hc : PB X T E c ua) (ha : PD X T E a ta) (hb : PD X T E b tb) : PD X T E (.IfExp c a b pos) (wIf ua ta tb) := by
  refine PE.imp (pe_ifExp hc ha hb) ?_
  rintro σ H Q ⟨θ, μ, ρ, qd, xd, rg, rs, xs, h, fin⟩
  refine ⟨θ, μ, ρ, _, xd, rg, rs, xs, h, fun c μ1 θ1 H1 rg1 k1 h1 => ?_⟩
  have go : ∀ t : DT, t ρ μ1 qd xd → lE X.K T E t σ H1 Q := fun t ht => ⟨_, μ1, ρ, qd, xd, rg1, rs.mono k1, xs.next k1, ht, fun c' μ2 θ2 v' H2 rg2 k2 a2 h2 => fin c' μ2 (θ1 ++ θ2) v' H2 (by simpa only [List.append_assoc] using rg2) (k1.trans k2) (by simpa only [List.append_assoc] using a2) h2⟩
  cases c with
  | true =>
    refine iteT ?_
    exact go ta h1
  | false =>
    refine iteF ?_
    exact go tb h1
end
end DL

set_option Elab.async false
set_option linter.all false
set_option maxRecDepth 100000
set_option maxHeartbeats 4000000
namespace DL
open PySem PySem.Spec PyProof.Rows L2 LamX

/-! ### what stands in the store, by its place -/
def lstOf (μ : Mu) (j : Nat) : Option (List D) := match μ[j]? with
  | some (.lst ds) => some ds
  | some (.ro ds) => some ds
  | _ => none
def seqOf (μ : Mu) : D → Option (List D)
  | .tup ds => some ds
  | .obj j => lstOf μ j
  | _ => none
section
variable {K : PySem.W.Frag} {T : List (Addr × Str)} {H : Hp} {θ : Th} {μ : Mu} {j : Nat} {x : V} {ds : List D}
theorem lst_at (rg : RG K T θ μ H) (h : At K H θ (.obj j) x) (e : μ[j]? = some (.lst ds)) : ∃ a xs, x = .ref a ∧ θ[j]? = some a ∧ H a = some (.lst xs) ∧ AtL K H θ ds xs := by
  obtain ⟨a, e1, rfl⟩ := h
  obtain ⟨xs, h1, h2⟩ := rg.ob j a _ e1 e
  exact ⟨a, xs, rfl, e1, h1, h2⟩
theorem lstOf_at (rg : RG K T θ μ H) (h : At K H θ (.obj j) x) (e : lstOf μ j = some ds) : ∃ a xs, x = .ref a ∧ θ[j]? = some a ∧ Rd H a (.lst xs) ∧ AtL K H θ ds xs := by
  obtain ⟨a, e1, rfl⟩ := h
  unfold lstOf at e
  split at e
  · rename_i q
    cases e
    obtain ⟨xs, h1, h2⟩ := rg.ob j a _ e1 q
    exact ⟨a, xs, rfl, e1, .inl h1, h2⟩
  · rename_i q
    cases e
    obtain ⟨o, xs, h1, h2⟩ := rg.ob j a _ e1 q
    exact ⟨a, xs, rfl, e1, .inr ⟨o, h1⟩, h2⟩
  · cases e
theorem seq_at (rg : RG K T θ μ H) {d : D} (h : At K H θ d x) (e : seqOf μ d = some ds) : ∃ a xs, x = .ref a ∧ (SqL K H a xs ∨ SqT K H a xs) ∧ AtL K H θ ds xs := by
  cases d with
  | tup es =>
    cases e
    obtain ⟨a, xs, rfl, h1, h2⟩ := h
    exact ⟨a, xs, rfl, .inr h1, h2⟩
  | obj j =>
    obtain ⟨a, xs, rfl, _, h1, h2⟩ := lstOf_at rg h e
    exact ⟨a, xs, rfl, .inl (.inl h1), h2⟩
  | _ => cases e
theorem dk_at {kvs : List (Key × D)} (rg : RG K T θ μ H) (h : At K H θ (.obj j) x) (e : μ[j]? = some (.dk kvs)) : ∃ a xs, x = .ref a ∧ θ[j]? = some a ∧ H a = some (.dK xs) ∧ KVAt K H θ kvs xs := by
  obtain ⟨a, e1, rfl⟩ := h
  obtain ⟨xs, h1, h2⟩ := rg.ob j a _ e1 e
  exact ⟨a, xs, rfl, e1, h1, h2⟩
theorem dkf_at {o : Obj} {xs : List (Key × V)} {kvs : List (Key × D)} (rg : RG K T θ μ H) (h : At K H θ (.obj j) x) (e : μ[j]? = some (.dkf o xs kvs)) : ∃ a, x = .ref a ∧ θ[j]? = some a ∧ H a = some (.frz o (.dK xs)) ∧ KVAt K H θ kvs xs := by
  obtain ⟨a, e1, rfl⟩ := h
  obtain ⟨h1, h2⟩ := rg.ob j a _ e1 e
  exact ⟨a, rfl, e1, h1, h2⟩
theorem rg0 (rg : RG K T θ μ H) : RG K T (θ ++ []) μ H := by rw [List.append_nil]; exact rg
theorem at0 {d : D} (h : At K H θ d x) : At K H (θ ++ []) d x := by rw [List.append_nil]; exact h
end
/-- the answer leaves all as it is -/
theorem fin0 {K : PySem.W.Frag} {T : List (Addr × Str)} {H : Hp} {θ : Th} {μ : Mu} {q : QD} {Q : VK} {d : D} {v : V} (rg : RG K T θ μ H) (fin : ∀ d' μ' θ' v H', RG K T (θ ++ θ') μ' H' → Kp H H' → At K H' (θ ++ θ') d' v → q d' μ' → Q v H') (h : At K H θ d v) (hq : q d μ) : Q v H :=
  fin d μ [] v H (rg0 rg) (Kp.refl H) (at0 h) hq
/-- the answer is a new object -/
theorem finN {K : PySem.W.Frag} {T : List (Addr × Str)} {H : Hp} {θ : Th} {μ : Mu} {q : QD} {Q : VK} {p : Addr} {o : HO} {m : MO} (rg : RG K T θ μ H) (fin : ∀ d' μ' θ' v H', RG K T (θ ++ θ') μ' H' → Kp H H' → At K H' (θ ++ θ') d' v → q d' μ' → Q v H')
    (hp : H p = none) (hm : MoAt K (upd H p o) (θ ++ [p]) p m) (hq : q (.obj μ.length) (μ ++ [m])) : Q (.ref p) (upd H p o) :=
  fin (.obj μ.length) (μ ++ [m]) [p] (.ref p) _ (rg.new hp hm) (Kp.new hp) (at_new rg) hq
/-- the answer is a new tuple -/
theorem finT {K : PySem.W.Frag} {T : List (Addr × Str)} {H : Hp} {θ : Th} {μ : Mu} {q : QD} {Q : VK} {p : Addr} {xs : List V} {ds : List D} (rg : RG K T θ μ H) (fin : ∀ d' μ' θ' v H', RG K T (θ ++ θ') μ' H' → Kp H H' → At K H' (θ ++ θ') d' v → q d' μ' → Q v H')
    (hp : H p = none) (ha : AtL K H θ ds xs) (hq : q (.tup ds) μ) : Q (.ref p) (upd H p (.tup xs)) :=
  fin (.tup ds) μ [] (.ref p) _ (rg0 (rg.plus hp _)) (Kp.new hp) (at0 ⟨p, xs, rfl, SqT.of upd_same, ha.kp (Kp.new hp)⟩) hq

/-! ### arithmetic -/
def opAdd : DO2 := fun d e μ q => match d, e with
  | .int i, .int j => q (.int (i + j)) μ
  | .str a, .str b => a.length + b.length ≤ sizeLine ∧ q (.str (a ++ b)) μ
  | .tup xs, .tup ys => xs.length + ys.length ≤ sizeLine ∧ q (.tup (xs ++ ys)) μ
  | .obj i, .obj j => match μ[i]?, μ[j]? with
    | some (.lst xs), some (.lst ys) => xs.length + ys.length ≤ sizeLine ∧ q (.obj μ.length) (μ ++ [.lst (xs ++ ys)])
    | _, _ => False
  | _, _ => False
def rAddA (K : PySem.W.Frag) : R2 := fun x y H Q => (rI0 fun i j => .int (i + j)) x y H Q ∨ (∃ i j, x = .str i ∧ y = .str j ∧ i.length + j.length ≤ sizeLine ∧ Q (.str (i ++ j)) H) ∨ rCat x y H Q ∨ rCatA K x y H Q
theorem or_add {X : Cx} : OpR X (binaryOp .Add) (rAddA X.K) := op_add.or (op_add_str.or (op_cat.or op_catA))
theorem sim_add {K : PySem.W.Frag} : Sim2 K opAdd (rAddA K) := by
  intro T θ μ H d e x y q Q rg hd he h fin
  unfold opAdd at h
  split at h
  · exact .inl ⟨_, _, hd, he, fin0 rg fin (d := .int _) rfl h⟩
  · exact .inr (.inl ⟨_, _, hd, he, h.1, fin0 rg fin (d := .str _) rfl h.2⟩)
  · rename_i ds es
    obtain ⟨hl, h⟩ := h
    obtain ⟨a, xs, rfl, h1, h2⟩ := id hd
    obtain ⟨b, ys, rfl, h3, h4⟩ := id he
    refine .inr (.inr (.inr ⟨a, b, xs, ys, rfl, rfl, h1, h3, by rw [h2.length, h4.length]; exact hl, fun e0 => ?_, fun _ e1 => ?_, fun _ _ p hp => ?_⟩))
    · subst e0
      have : ds = [] := List.eq_nil_of_length_eq_zero (by rw [← h2.length]; rfl)
      subst this
      exact fin0 rg fin he h
    · subst e1
      have : es = [] := List.eq_nil_of_length_eq_zero (by rw [← h4.length]; rfl)
      subst this
      rw [List.append_nil] at h
      exact fin0 rg fin hd h
    · exact finT rg fin hp (h2.append h4) h
  · rename_i i j
    split at h
    · rename_i ds es e1 e2
      obtain ⟨hl, h⟩ := h
      obtain ⟨a, xs, rfl, _, h1, h2⟩ := lst_at rg hd e1
      obtain ⟨b, ys, rfl, _, h3, h4⟩ := lst_at rg he e2
      refine .inr (.inr (.inl ⟨a, b, xs, ys, rfl, rfl, h1, h3, by rw [h2.length, h4.length]; exact hl, fun p hp => ?_⟩))
      exact finN (m := .lst _) rg fin hp ⟨_, upd_same, AtL.mono (Kp.new hp) _ _ (h2.append h4)⟩ h
    · exact h.elim
  · exact h.elim
def opSub : DO2 := fun d e μ q => match d, e with
  | .int i, .int j => q (.int (i - j)) μ
  | _, _ => False
theorem sim_sub {K : PySem.W.Frag} : Sim2 K opSub (rI0 fun i j => .int (i - j)) := by
  intro T θ μ H d e x y q Q rg hd he h fin
  unfold opSub at h
  split at h
  · exact ⟨_, _, hd, he, fin0 rg fin (d := .int _) rfl h⟩
  · exact h.elim
def opMul : DO2 := fun d e μ q => match d, e with
  | .int i, .int j => ((-(2 ^ 64) < i ∧ i < 2 ^ 64) ∨ (-(2 ^ 64) < j ∧ j < 2 ^ 64)) ∧ q (.int (i * j)) μ
  | .obj i, .int k => match μ[i]? with
    | some (.lst xs) => (-(2 ^ 63) ≤ k ∧ k < 2 ^ 63 ∧ xs.length * k.toNat ≤ sizeLine) ∧ q (.obj μ.length) (μ ++ [.lst (List.replicate k.toNat xs).flatten])
    | _ => False
  | _, _ => False
def rMulA (K : PySem.W.Frag) : R2 := fun x y H Q => (rI CMul fun i j => .int (i * j)) x y H Q ∨ rRep x y H Q
theorem or_mul {X : Cx} : OpR X (binaryOp .Mult) (rMulA X.K) := op_mul.or op_rep
theorem AtL.rep {K : PySem.W.Frag} {H : Hp} {θ : Th} {ds : List D} {xs : List V} (h : AtL K H θ ds xs) : ∀ n : Nat, AtL K H θ (List.replicate n ds).flatten (List.replicate n xs).flatten
  | 0 => rfl
  | n + 1 => by
    rw [List.replicate_succ, List.replicate_succ, List.flatten_cons, List.flatten_cons]
    exact h.append (AtL.rep h n)
theorem sim_mul {K : PySem.W.Frag} : Sim2 K opMul (rMulA K) := by
  intro T θ μ H d e x y q Q rg hd he h fin
  unfold opMul at h
  split at h
  · exact .inl ⟨_, _, hd, he, h.1, fin0 rg fin (d := .int _) rfl h.2⟩
  · split at h
    · rename_i ds e1
      obtain ⟨⟨h1, h2, h3⟩, h⟩ := h
      obtain ⟨a, xs, rfl, _, h4, h5⟩ := lst_at rg hd e1
      refine .inr ⟨a, _, xs, rfl, he, h4, h1, h2, by rw [h5.length]; exact h3, fun p hp => ?_⟩
      exact finN (m := .lst _) rg fin hp ⟨_, upd_same, AtL.mono (Kp.new hp) _ _ (h5.rep _)⟩ h
    · exact h.elim
  · exact h.elim
def opFdiv : DO2 := fun d e μ q => match d, e with
  | .int i, .int j => (0 < j ∧ j < 1073741824) ∧ q (.int (i / j)) μ
  | _, _ => False
theorem sim_fdiv {K : PySem.W.Frag} : Sim2 K opFdiv (rI CDiv fun i j => .int (i / j)) := by
  intro T θ μ H d e x y q Q rg hd he h fin
  unfold opFdiv at h
  split at h
  · exact ⟨_, _, hd, he, h.1, fin0 rg fin (d := .int _) rfl h.2⟩
  · exact h.elim
def opMod : DO2 := fun d e μ q => match d, e with
  | .int i, .int j => 0 < j ∧ q (.int (i % j)) μ
  | _, _ => False
theorem sim_mod {K : PySem.W.Frag} : Sim2 K opMod (rI (fun _ j => 0 < j) fun i j => .int (i % j)) := by
  intro T θ μ H d e x y q Q rg hd he h fin
  unfold opMod at h
  split at h
  · exact ⟨_, _, hd, he, h.1, fin0 rg fin (d := .int _) rfl h.2⟩
  · exact h.elim

def opNeg : DO1 := fun d μ q => match d with
  | .int i => q (.int (-i)) μ
  | _ => False
theorem pd_neg {X : Cx} {T : List (Addr × Str)} {E : XK} {a : Expr} {ta : DT} {pos : Pos} (ha : PD X T E a ta) : PD X T E (.UnaryOp .USub a pos) (wUn opNeg ta) := by
  refine PE.imp (pe_un un_neg ha) ?_
  rintro σ H Q ⟨θ, μ, ρ, qd, xd, rg, rs, xs, h, fin⟩
  refine ⟨θ, μ, ρ, _, xd, rg, rs, xs, h, fun d μ1 θ1 v H1 rg1 k1 at1 h1 => ?_⟩
  cases d with
  | int i => exact ⟨i, at1, fin (.int (-i)) μ1 θ1 _ H1 rg1 k1 rfl h1⟩
  | _ => exact h1.elim

/-! ### comparisons -/
def opLt : DO2 := fun d e μ q => match d, e with
  | .int i, .int j => q (.bl (decide (i < j))) μ
  | _, _ => False
def opLe : DO2 := fun d e μ q => match d, e with
  | .int i, .int j => q (.bl (decide (i ≤ j))) μ
  | _, _ => False
def opGt : DO2 := fun d e μ q => match d, e with
  | .int i, .int j => q (.bl (decide (j < i))) μ
  | _, _ => False
def opGe : DO2 := fun d e μ q => match d, e with
  | .int i, .int j => q (.bl (decide (j ≤ i))) μ
  | _, _ => False
theorem sim_lt {K : PySem.W.Frag} : Sim2 K opLt (rI0 fun i j => .bl (decide (i < j))) := by
  intro T θ μ H d e x y q Q rg hd he h fin
  unfold opLt at h
  split at h
  · exact ⟨_, _, hd, he, fin0 rg fin (d := .bl _) rfl h⟩
  · exact h.elim
theorem sim_le {K : PySem.W.Frag} : Sim2 K opLe (rI0 fun i j => .bl (decide (i ≤ j))) := by
  intro T θ μ H d e x y q Q rg hd he h fin
  unfold opLe at h
  split at h
  · exact ⟨_, _, hd, he, fin0 rg fin (d := .bl _) rfl h⟩
  · exact h.elim
theorem sim_gt {K : PySem.W.Frag} : Sim2 K opGt (rI0 fun i j => .bl (decide (j < i))) := by
  intro T θ μ H d e x y q Q rg hd he h fin
  unfold opGt at h
  split at h
  · exact ⟨_, _, hd, he, fin0 rg fin (d := .bl _) rfl h⟩
  · exact h.elim
theorem sim_ge {K : PySem.W.Frag} : Sim2 K opGe (rI0 fun i j => .bl (decide (j ≤ i))) := by
  intro T θ μ H d e x y q Q rg hd he h fin
  unfold opGe at h
  split at h
  · exact ⟨_, _, hd, he, fin0 rg fin (d := .bl _) rfl h⟩
  · exact h.elim

/-! ### == -/
mutual
def pyD : D → Option PyData
  | .non => some .none
  | .bl b => some (.bool b)
  | .int i => some (.int i)
  | .str x => some (.str x)
  | .tup ds => (pyL ds).map .tuple
  | _ => none
def pyL : List D → Option (List PyData)
  | [] => some []
  | d :: ds => match pyD d, pyL ds with
    | some p, some ps => some (p :: ps)
    | _, _ => none
end
def pyM (μ : Mu) : D → Option PyData
  | .obj j => match lstOf μ j with
    | some ds => (pyL ds).map .list
    | none => none
  | d => pyD d
mutual
theorem dp_of {K : PySem.W.Frag} {H : Hp} {θ : Th} : ∀ (d : D) (x : V) (p : PyData), At K H θ d x → pyD d = some p → Dp K H x p
  | .non, x, p, h, e => by
    rw [show x = _ from h]
    cases e
    exact .non
  | .bl _, x, p, h, e => by
    rw [show x = _ from h]
    cases e
    exact .bl _
  | .int _, x, p, h, e => by
    rw [show x = _ from h]
    cases e
    exact .int _
  | .str _, x, p, h, e => by
    rw [show x = _ from h]
    cases e
    exact .str _
  | .tup ds, x, p, h, e => by
    obtain ⟨a, xs, rfl, h1, h2⟩ := h
    unfold pyD at e
    cases hp : pyL ds with
    | none => rw [hp] at e; cases e
    | some ps =>
      rw [hp] at e
      cases e
      exact .tup h1 (dpL_of ds xs ps h2 hp)
  | .ty _, x, p, h, e => by cases e
  | .fn _, x, p, h, e => by cases e
  | .obj _, x, p, h, e => by cases e
theorem dpL_of {K : PySem.W.Frag} {H : Hp} {θ : Th} : ∀ (ds : List D) (xs : List V) (ps : List PyData), AtL K H θ ds xs → pyL ds = some ps → DpAll K H xs ps
  | [], xs, ps, h, e => by
    rw [show xs = _ from h]
    cases e
    exact .nil
  | d :: ds, xs, ps, h, e => by
    obtain ⟨x, r, rfl, h1, h2⟩ := h
    unfold pyL at e
    split at e
    · rename_i p qs e1 e2
      cases e
      exact .cons (dp_of d x p h1 e1) (dpL_of ds r qs h2 e2)
    · cases e
end
theorem dpM_of {K : PySem.W.Frag} {T : List (Addr × Str)} {H : Hp} {θ : Th} {μ : Mu} (rg : RG K T θ μ H) {d : D} {x : V} {p : PyData} (h : At K H θ d x) (e : pyM μ d = some p) : Dp K H x p := by
  cases d with
  | obj j =>
    unfold pyM at e
    simp only at e
    split at e
    · rename_i ds q
      cases hp : pyL ds with
      | none => rw [hp] at e; cases e
      | some ps =>
        rw [hp] at e
        cases e
        obtain ⟨a, xs, rfl, _, h1, h2⟩ := lstOf_at rg h q
        exact .lst (.inl h1) (dpL_of _ _ _ h2 hp)
    · cases e
  | _ => exact dp_of _ x p h e
def opEq : DO2 := fun d e μ q => match d, e with
  | .int i, .int j => q (.bl (decide (i = j))) μ
  | .bl a, .bl b => q (.bl (decide (a = b))) μ
  | .str a, .str b => q (.bl (decide (a = b))) μ
  | d, e => match pyM μ d, pyM μ e with
    | some a, some b => (SeqAt.shaped a = true ∧ SeqAt.shaped b = true) ∧ q (.bl (PyData.eqv a b)) μ
    | _, _ => False
def opNe : DO2 := fun d e μ q => match d, e with
  | .int i, .int j => q (.bl (!decide (i = j))) μ
  | .bl a, .bl b => q (.bl (!decide (a = b))) μ
  | .str a, .str b => q (.bl (!decide (a = b))) μ
  | d, e => match pyM μ d, pyM μ e with
    | some a, some b => (SeqAt.shaped a = true ∧ SeqAt.shaped b = true) ∧ q (.bl (!PyData.eqv a b)) μ
    | _, _ => False
def rEqA (K : PySem.W.Frag) : R2 := fun x y H Q => rEq x y H Q ∨ rEqD K x y H Q
def rNeA (K : PySem.W.Frag) : R2 := fun x y H Q => rNe x y H Q ∨ rNeD K x y H Q
theorem or_eq {X : Cx} {k : Nat} (hr : Room k X.A) : OpR X (compareOp .Eq) (rEqA X.K) := op_eq.or (op_eqD hr.units)
theorem or_ne {X : Cx} {k : Nat} (hr : Room k X.A) : OpR X (compareOp .NotEq) (rNeA X.K) := op_ne.or (op_neD hr.units)
theorem sim_eq {K : PySem.W.Frag} : Sim2 K opEq (rEqA K) := by
  intro T θ μ H d e x y q Q rg hd he h fin
  unfold opEq at h
  split at h
  · rename_i i j
    rw [show x = _ from hd, show y = _ from he]
    refine .inl ⟨rfl, fin0 rg fin (d := .bl (decide (i = j))) ?_ h⟩
    show V.bl _ = V.bl _
    congr 1
    simp
  · rename_i i j
    rw [show x = _ from hd, show y = _ from he]
    refine .inl ⟨rfl, fin0 rg fin (d := .bl (decide (i = j))) ?_ h⟩
    show V.bl _ = V.bl _
    congr 1
    simp
  · rename_i i j
    rw [show x = _ from hd, show y = _ from he]
    refine .inl ⟨rfl, fin0 rg fin (d := .bl (decide (i = j))) ?_ h⟩
    show V.bl _ = V.bl _
    congr 1
    simp
  · split at h
    · rename_i a b e1 e2
      exact .inr ⟨a, b, dpM_of rg hd e1, dpM_of rg he e2, h.1.1, h.1.2, fin0 rg fin (d := .bl _) rfl h.2⟩
    · exact h.elim
theorem sim_ne {K : PySem.W.Frag} : Sim2 K opNe (rNeA K) := by
  intro T θ μ H d e x y q Q rg hd he h fin
  unfold opNe at h
  split at h
  · rename_i i j
    rw [show x = _ from hd, show y = _ from he]
    refine .inl ⟨rfl, fin0 rg fin (d := .bl (!decide (i = j))) ?_ h⟩
    show V.bl _ = V.bl _
    congr 1
    simp
  · rename_i i j
    rw [show x = _ from hd, show y = _ from he]
    refine .inl ⟨rfl, fin0 rg fin (d := .bl (!decide (i = j))) ?_ h⟩
    show V.bl _ = V.bl _
    congr 1
    simp
  · rename_i i j
    rw [show x = _ from hd, show y = _ from he]
    refine .inl ⟨rfl, fin0 rg fin (d := .bl (!decide (i = j))) ?_ h⟩
    show V.bl _ = V.bl _
    congr 1
    simp
  · split at h
    · rename_i a b e1 e2
      exact .inr ⟨a, b, dpM_of rg hd e1, dpM_of rg he e2, h.1.1, h.1.2, fin0 rg fin (d := .bl _) rfl h.2⟩
    · exact h.elim

/-! ### in, not in -/
def flatD : D → Bool
  | .non => true
  | .bl _ => true
  | .int _ => true
  | .str _ => true
  | _ => false
def eqD : D → D → Bool
  | .non, .non => true
  | .bl a, .bl b => a == b
  | .bl a, .int b => (if a then 1 else 0) == b
  | .int a, .bl b => a == (if b then 1 else 0)
  | .int a, .int b => a == b
  | .str a, .str b => a == b
  | _, _ => false
def inD (x : D) (xs : List D) : Bool := xs.any fun y => eqD y x
section
variable {K : PySem.W.Frag} {H : Hp} {θ : Th}
theorem flat_at {d : D} {x : V} (h : At K H θ d x) (f : flatD d = true) : flatV x = true := by
  cases d with
  | non => rw [show x = _ from h]; rfl
  | bl b => rw [show x = _ from h]; rfl
  | int b => rw [show x = _ from h]; rfl
  | str b => rw [show x = _ from h]; rfl
  | _ => cases f
theorem eqD_at {d e : D} {x y : V} (h : At K H θ d x) (h' : At K H θ e y) (f : flatD d = true) (f' : flatD e = true) : eqV x y = eqD d e := by
  cases d <;> first | cases f | skip
  all_goals cases e <;> first | cases f' | skip
  all_goals (rw [show x = _ from h, show y = _ from h']; rfl)
theorem all_flat : ∀ {ds : List D} {xs : List V}, AtL K H θ ds xs → ds.all flatD = true → xs.all flatV = true
  | [], _, h, _ => by rw [show _ = [] from h]; rfl
  | d :: ds, _, h, f => by
    obtain ⟨x, r, rfl, h1, h2⟩ := h
    rw [List.all_cons, Bool.and_eq_true] at f ⊢
    exact ⟨flat_at h1 f.1, all_flat h2 f.2⟩
theorem inD_at {d : D} {x : V} (h : At K H θ d x) (fd : flatD d = true) : ∀ {ds : List D} {xs : List V}, AtL K H θ ds xs → ds.all flatD = true → inV x xs = inD d ds
  | [], _, h', _ => by rw [show _ = [] from h']; rfl
  | e :: ds, _, h', f => by
    obtain ⟨y, r, rfl, h1, h2⟩ := h'
    rw [List.all_cons, Bool.and_eq_true] at f
    show (eqV y x || inV x r) = (eqD e d || inD d ds)
    rw [eqD_at h1 h f.1 fd, inD_at h fd h2 f.2]
end
/-- a key of a dict -/
def keyD : D → Option Key
  | .int i => some (.inl i)
  | .str x => some (.inr x)
  | _ => none
theorem keyD_at {K : PySem.W.Frag} {H : Hp} {θ : Th} {d : D} {x : V} {k : Key} (h : At K H θ d x) (e : keyD d = some k) : x = kV k := by
  cases d <;> cases e <;> exact h
def valD {κ : Type} [DecidableEq κ] (kvs : List (κ × D)) (k : κ) : Option D := (kvs.find? fun p => decide (p.1 = k)).map (·.2)
theorem valD_at {K : PySem.W.Frag} {H : Hp} {θ : Th} {κ : Type} [DecidableEq κ] (k : κ) : ∀ {kvs : List (κ × D)} {xs : List (κ × V)}, KVAt K H θ kvs xs → (valV xs k = none ∧ valD kvs k = none) ∨ ∃ x d, valV xs k = some x ∧ valD kvs k = some d ∧ At K H θ d x
  | [], [], _ => .inl ⟨rfl, rfl⟩
  | [], _ :: _, h => by have := h.1; simp at this
  | _ :: _, [], h => by have := h.1; simp at this
  | (a, d) :: kvs, (b, x) :: xs, h => by
    have h1 : a = b ∧ kvs.map (·.1) = xs.map (·.1) := by
      have := h.1
      simpa using this
    obtain ⟨rfl, h1⟩ := h1
    obtain ⟨y, r, e, h2, h3⟩ := h.2
    obtain ⟨rfl, rfl⟩ : x = y ∧ xs.map (·.2) = r := by simpa using e
    by_cases hk : a = k
    · subst hk
      refine .inr ⟨x, d, ?_, ?_, h2⟩
      · simp [valV]
      · simp [valD]
    · have e1 : valV ((a, x) :: xs) k = valV xs k := by simp [valV, hk]
      have e2 : valD ((a, d) :: kvs) k = valD kvs k := by simp [valD, hk]
      rw [e1, e2]
      exact valD_at k ⟨h1, h3⟩
def opIn (neg : Bool) : DO2 := fun d e μ q => match e with
  | .obj j => match μ[j]? with
    | some (.dk kvs) => match keyD d with
      | some k => q (.bl (if neg then !(valD kvs k).isSome else (valD kvs k).isSome)) μ
      | none => False
    | some (.dkf _ _ kvs) => match keyD d with
      | some k => q (.bl (if neg then !(valD kvs k).isSome else (valD kvs k).isSome)) μ
      | none => False
    | some (.lst ds) => (flatD d = true ∧ ds.all flatD = true) ∧ q (.bl (if neg then !inD d ds else inD d ds)) μ
    | some (.ro ds) => (flatD d = true ∧ ds.all flatD = true) ∧ q (.bl (if neg then !inD d ds else inD d ds)) μ
    | _ => False
  | .tup ds => (flatD d = true ∧ ds.all flatD = true) ∧ q (.bl (if neg then !inD d ds else inD d ds)) μ
  | _ => False
def rInD (neg : Bool) : R2 := fun y x H Q => ∃ a o, x = .ref a ∧ DGet H a y o ∧ Q (.bl (if neg then !o.isSome else o.isSome)) H
def rInA (K : PySem.W.Frag) (neg : Bool) : R2 := fun x y H Q => rIn K neg x y H Q ∨ rInD neg x y H Q
theorem or_in {X : Cx} {k : Nat} (hr : Room k X.A) : OpR X (compareOp .In) (rInA X.K false) := by
  refine op_in_seq.or ?_
  intro pins s σ H y x iv u Q I ry rx h
  obtain ⟨a, ov, ex, g, q⟩ := h
  subst ex
  obtain rfl : u = Value.ref a := rx
  exact d_in (hu_of hr) I g ry fun s3 I3 => ⟨.bl ov.isSome, H, I3, rfl, q⟩
theorem or_notin {X : Cx} {k : Nat} (hr : Room k X.A) : OpR X (compareOp .NotIn) (rInA X.K true) := by
  refine op_notIn_seq.or ?_
  intro pins s σ H y x iv u Q I ry rx h
  obtain ⟨a, ov, ex, g, q⟩ := h
  subst ex
  obtain rfl : u = Value.ref a := rx
  exact d_notIn (hu_of hr) I g ry fun s3 I3 => ⟨.bl (!ov.isSome), H, I3, rfl, q⟩
theorem sim_in {K : PySem.W.Frag} (neg : Bool) : Sim2 K (opIn neg) (rInA K neg) := by
  intro T θ μ H d e x y q Q rg hd he h fin
  have seq : ∀ ds, seqOf μ e = some ds → ((flatD d = true ∧ ds.all flatD = true) ∧ q (.bl (if neg then !inD d ds else inD d ds)) μ) → rInA K neg x y H Q := fun ds hs h => by
    obtain ⟨⟨f1, f2⟩, h⟩ := h
    obtain ⟨a, xs, rfl, h1, h2⟩ := seq_at rg he hs
    refine .inl ⟨a, xs, rfl, h1, flat_at hd f1, all_flat h2 f2, ?_⟩
    rw [inD_at hd f1 h2 f2]
    exact fin0 rg fin (d := .bl _) rfl h
  unfold opIn at h
  split at h
  · rename_i j
    split at h
    · rename_i kvs e1
      split at h
      · rename_i k hk
        obtain ⟨a, xs, rfl, _, h1, h2⟩ := dk_at rg he e1
        refine .inr ⟨a, valV xs k, rfl, ?_, ?_⟩
        · rw [keyD_at hd hk]
          exact DGet.k h1
        · have e3 : (valV xs k).isSome = (valD kvs k).isSome := by
            rcases valD_at k h2 with ⟨e1, e2⟩ | ⟨x, d, e1, e2, _⟩
            · rw [e1, e2]; rfl
            · rw [e1, e2]; rfl
          rw [e3]
          exact fin0 rg fin (d := .bl _) rfl h
      · exact h.elim
    · rename_i o xs kvs e1
      split at h
      · rename_i k hk
        obtain ⟨a, rfl, _, h1, h2⟩ := dkf_at rg he e1
        refine .inr ⟨a, valV xs k, rfl, ?_, ?_⟩
        · rw [keyD_at hd hk]
          exact .inl ⟨xs, k, .inr ⟨o, h1⟩, rfl, rfl⟩
        · have e3 : (valV xs k).isSome = (valD kvs k).isSome := by
            rcases valD_at k h2 with ⟨e1, e2⟩ | ⟨x, d, e1, e2, _⟩
            · rw [e1, e2]; rfl
            · rw [e1, e2]; rfl
          rw [e3]
          exact fin0 rg fin (d := .bl _) rfl h
      · exact h.elim
    · rename_i ds e1
      exact seq ds (by show lstOf μ j = _; unfold lstOf; rw [e1]) h
    · rename_i ds e1
      exact seq ds (by show lstOf μ j = _; unfold lstOf; rw [e1]) h
    · exact h.elim
  · exact seq _ rfl h
  · exact h.elim

/-! ### is, is not: None, True, False -/
def opIs (neg : Bool) : DO2 := fun d e μ q => match e with
  | .non => match d with
    | .non => q (.bl (!neg)) μ
    | _ => q (.bl neg) μ
  | .bl b => match d with
    | .bl a => q (.bl (if neg then !decide (a = b) else decide (a = b))) μ
    | _ => q (.bl neg) μ
  | _ => False
/-- not a bool at all -/
def notBl : V → Bool
  | .bl _ => false
  | _ => true
def rIsO (neg : Bool) : R2 := fun x y H Q => ∃ b, y = .bl b ∧ notBl x = true ∧ Q (.bl neg) H
theorem or_isO {X : Cx} : OpR X (compareOp .Is) (rIsO false) := by
  intro pins s σ H x y v u Q I rx ry h
  obtain ⟨b, rfl, hx, q⟩ := h
  cases (show u = Value.bool b from ry)
  have fin : EP X pins σ Q (.bool false) s := ⟨.bl false, H, I, rfl, q⟩
  cases x with
  | non => cases (show v = Value.none from rx); exact wpAny_is_other rfl (fun z => nomatch z) fin
  | bl a => cases hx
  | int i => obtain ⟨t, rfl⟩ := rx; exact wpAny_is_other rfl (fun z => nomatch z) fin
  | str i => obtain ⟨t, rfl⟩ := rx; exact wpAny_is_other rfl (fun z => nomatch z) fin
  | byt i => obtain ⟨t, rfl⟩ := rx; exact wpAny_is_other rfl (fun z => nomatch z) fin
  | flt i => obtain ⟨t, rfl⟩ := rx; exact wpAny_is_other rfl (fun z => nomatch z) fin
  | ref a => cases (show v = Value.ref a from rx); exact wpAny_is_other rfl (fun z => nomatch z) fin
  | ty n => cases (show v = Value.type n from rx); exact wpAny_is_other rfl (fun z => nomatch z) fin
theorem or_isnotO {X : Cx} : OpR X (compareOp .IsNot) (rIsO true) := by
  intro pins s σ H x y v u Q I rx ry h
  obtain ⟨b, rfl, hx, q⟩ := h
  cases (show u = Value.bool b from ry)
  have fin : EP X pins σ Q (.bool true) s := ⟨.bl true, H, I, rfl, q⟩
  cases x with
  | non => cases (show v = Value.none from rx); exact wpAny_isNot_other rfl (fun z => nomatch z) fin
  | bl a => cases hx
  | int i => obtain ⟨t, rfl⟩ := rx; exact wpAny_isNot_other rfl (fun z => nomatch z) fin
  | str i => obtain ⟨t, rfl⟩ := rx; exact wpAny_isNot_other rfl (fun z => nomatch z) fin
  | byt i => obtain ⟨t, rfl⟩ := rx; exact wpAny_isNot_other rfl (fun z => nomatch z) fin
  | flt i => obtain ⟨t, rfl⟩ := rx; exact wpAny_isNot_other rfl (fun z => nomatch z) fin
  | ref a => cases (show v = Value.ref a from rx); exact wpAny_isNot_other rfl (fun z => nomatch z) fin
  | ty n => cases (show v = Value.type n from rx); exact wpAny_isNot_other rfl (fun z => nomatch z) fin
def rIsA : R2 := fun x y H Q => (y = .non ∧ Q (.bl (decide (x = .non))) H) ∨ rIsB x y H Q ∨ rIsO false x y H Q
def rIsNotA : R2 := fun x y H Q => (y = .non ∧ Q (.bl (!decide (x = .non))) H) ∨ rNotB x y H Q ∨ rIsO true x y H Q
theorem or_is {X : Cx} : OpR X (compareOp .Is) rIsA := op_isN.or (op_isBl.or or_isO)
theorem or_isnot {X : Cx} : OpR X (compareOp .IsNot) rIsNotA := op_notN.or (op_notBl.or or_isnotO)
theorem non_at {K : PySem.W.Frag} {H : Hp} {θ : Th} {d : D} {x : V} (h : At K H θ d x) (n : d ≠ .non) : x ≠ .non := by
  intro e
  subst e
  cases d with
  | non => exact n rfl
  | bl b => cases (show V.non = _ from h)
  | int b => cases (show V.non = _ from h)
  | str b => cases (show V.non = _ from h)
  | ty b => cases (show V.non = _ from h)
  | fn b => cases (show V.non = _ from h)
  | tup ds => obtain ⟨a, xs, e, _⟩ := h; cases e
  | obj j => obtain ⟨a, _, e⟩ := h; cases e
theorem bl_at {K : PySem.W.Frag} {H : Hp} {θ : Th} {d : D} {x : V} (h : At K H θ d x) (n : ∀ b, d ≠ .bl b) : notBl x = true := by
  cases x with
  | bl b =>
    cases d with
    | non => cases (show V.bl b = _ from h)
    | bl c => exact absurd rfl (n c)
    | int b => cases (show V.bl _ = _ from h)
    | str b => cases (show V.bl _ = _ from h)
    | ty b => cases (show V.bl _ = _ from h)
    | fn b => cases (show V.bl _ = _ from h)
    | tup ds => obtain ⟨a, xs, e, _⟩ := h; cases e
    | obj j => obtain ⟨a, _, e⟩ := h; cases e
  | _ => rfl
theorem sim_is {K : PySem.W.Frag} : Sim2 K (opIs false) rIsA := by
  intro T θ μ H d e x y q Q rg hd he h fin
  unfold opIs at h
  split at h
  · refine .inl ⟨he, ?_⟩
    split at h
    · rw [show x = V.non from hd, decide_eq_true rfl]
      exact fin0 rg fin (d := .bl true) rfl h
    · rename_i n
      rw [decide_eq_false (non_at hd fun z => n z)]
      exact fin0 rg fin (d := .bl false) rfl h
  · rename_i b
    split at h
    · exact .inr (.inl ⟨_, _, hd, he, fin0 rg fin (d := .bl _) rfl h⟩)
    · rename_i n
      exact .inr (.inr ⟨_, he, bl_at hd fun c z => n c z, fin0 rg fin (d := .bl false) rfl h⟩)
  · exact h.elim
theorem sim_isnot {K : PySem.W.Frag} : Sim2 K (opIs true) rIsNotA := by
  intro T θ μ H d e x y q Q rg hd he h fin
  unfold opIs at h
  split at h
  · refine .inl ⟨he, ?_⟩
    split at h
    · rw [show x = V.non from hd, decide_eq_true rfl]
      exact fin0 rg fin (d := .bl false) rfl h
    · rename_i n
      rw [decide_eq_false (non_at hd fun z => n z)]
      exact fin0 rg fin (d := .bl true) rfl h
  · rename_i b
    split at h
    · exact .inr (.inl ⟨_, _, hd, he, fin0 rg fin (d := .bl _) rfl h⟩)
    · rename_i n
      exact .inr (.inr ⟨_, he, bl_at hd fun c z => n c z, fin0 rg fin (d := .bl true) rfl h⟩)
  · exact h.elim
end DL

set_option Elab.async false
set_option linter.all false
set_option maxRecDepth 100000
set_option maxHeartbeats 4000000
namespace DL
open PySem PySem.Spec PyProof.Rows L2 LamX

/-! ### calls of built-ins by values -/
section
variable {X : Cx} {T : List (Addr × Str)} {E : XK} {e : Expr} {es : List Expr} {t : DA} {x : Str} {p pos : Pos} {id : String} {op : DOL} {r : List V → Hp → VK → Prop}
theorem lE_L (hr : SimL X.K op r) {σ : L2.St} {H : Hp} {Q : VK} (h : lE X.K T E (wL op t) σ H Q) : tCB r (lA X.K T E t) σ H Q := by
  obtain ⟨θ, μ, ρ, qd, xd, rg, rs, xs, h, fin⟩ := h
  refine ⟨θ, μ, ρ, _, xd, rg, rs, xs, h, fun ds μ1 θ1 vs H1 rg1 k1 at1 h1 => ?_⟩
  refine hr T _ μ1 H1 ds vs qd Q rg1 at1 h1 fun d' μ' θ' v' H' r' k' a' q' => ?_
  exact fin d' μ' (θ1 ++ θ') v' H' (by simpa only [List.append_assoc] using r') (k1.trans k') (by simpa only [List.append_assoc] using a') q'
theorem pd_callB (hc : CallR X (.builtin id) r) (hs : SimL X.K op r) (hg : Gl X x) (hm : X.mg x = none) (hv : bootBuiltins x = some (.builtin id)) (ha : PDA X T E (e :: es) t) (hn : x ≠ "__name__" := by decide) (hdb : (x == ("__debug__" : Str)) = false := by decide)
    (he : starEach (e :: es) X.env = (false, eval e X.env) :: starEach es X.env := by rfl) (hpl : (backTo pos (starEach es X.env)).any (·.1) = false := by rfl) : PD X T E (.Call (.Name x p) (e :: es) [] pos) (wL op t) :=
  PE.imp (pe_callB hc hg hm hv ha hn hdb he hpl) fun _ _ _ h => lE_L hs h
theorem pd_callTy {Ty : String} (hc : CallR X (.type Ty) r) (hs : SimL X.K op r) (hg : Gl X x) (hm : X.mg x = none) (hv : bootBuiltins x = some (.type Ty)) (ha : PDA X T E (e :: es) t) (hn : x ≠ "__name__" := by decide) (hdb : (x == ("__debug__" : Str)) = false := by decide)
    (he : starEach (e :: es) X.env = (false, eval e X.env) :: starEach es X.env := by rfl) (hpl : (backTo pos (starEach es X.env)).any (·.1) = false := by rfl) : PD X T E (.Call (.Name x p) (e :: es) [] pos) (wL op t) :=
  PE.imp (pe_callTy hc hg hm hv ha hn hdb he hpl) fun _ _ _ h => lE_L hs h
end
section
variable {K : PySem.W.Frag} {H : Hp} {θ : Th}
theorem atl1 {d : D} {xs : List V} (h : AtL K H θ [d] xs) : ∃ x, xs = [x] ∧ At K H θ d x := by
  obtain ⟨x, r, rfl, h1, h2⟩ := h
  rw [show r = [] from h2]
  exact ⟨x, rfl, h1⟩
theorem atl2 {d e : D} {xs : List V} (h : AtL K H θ [d, e] xs) : ∃ x y, xs = [x, y] ∧ At K H θ d x ∧ At K H θ e y := by
  obtain ⟨x, r, rfl, h1, h2⟩ := h
  obtain ⟨y, rfl, h3⟩ := atl1 h2
  exact ⟨x, y, rfl, h1, h3⟩
end

/-! len -/
def opLen : DOL := fun ds μ q => match ds with
  | [.str x] => x.length ≤ sizeLine ∧ q (.int x.length) μ
  | [.tup ds] => q (.int ds.length) μ
  | [.obj j] => match μ[j]? with
    | some (.lst ds) => q (.int ds.length) μ
    | some (.ro ds) => q (.int ds.length) μ
    | some (.dk kvs) => q (.int kvs.length) μ
    | some (.dkf _ _ kvs) => q (.int kvs.length) μ
    | _ => False
  | _ => False
def rLenA (K : PySem.W.Frag) : List V → Hp → VK → Prop := fun xs H Q => (∃ x n, xs = [x] ∧ LenV K x H n ∧ Q (.int n) H) ∨ ∃ a kvs, xs = [.ref a] ∧ Rd H a (.dK kvs) ∧ Q (.int kvs.length) H
theorem cr_len {X : Cx} : CallR X (.builtin "len") (rLenA X.K) := by
  intro pins s σ H xs us Q I r h
  rcases h with h | ⟨a, kvs, rfl, hk, q⟩
  · exact call_len pins s σ H xs us Q I r h
  · obtain ⟨u, rfl, rx⟩ := vals1 r
    obtain rfl : u = Value.ref a := rx
    exact d_len I hk fun t s' I' => ⟨.int kvs.length, H, I', ⟨t, rfl⟩, q⟩
theorem sim_len {K : PySem.W.Frag} : SimL K opLen (rLenA K) := by
  intro T θ μ H ds xs q Q rg ha h fin
  unfold opLen at h
  split at h
  · obtain ⟨x, rfl, hx⟩ := atl1 ha
    rw [show x = _ from hx]
    exact .inl ⟨_, _, rfl, ⟨h.1, rfl⟩, fin0 rg fin (d := .int _) rfl h.2⟩
  · obtain ⟨x, rfl, hx⟩ := atl1 ha
    obtain ⟨a, xs, rfl, h1, h2⟩ := hx
    exact .inl ⟨_, _, rfl, .inr ⟨xs, h1, rfl⟩, by rw [h2.length]; exact fin0 rg fin (d := .int _) rfl h⟩
  · obtain ⟨x, rfl, hx⟩ := atl1 ha
    split at h
    · rename_i e
      obtain ⟨a, xs, rfl, _, h1, h2⟩ := lst_at rg hx e
      exact .inl ⟨_, _, rfl, .inl ⟨xs, .inl (.inl h1), rfl⟩, by rw [h2.length]; exact fin0 rg fin (d := .int _) rfl h⟩
    · rename_i ds e
      obtain ⟨a, xs, rfl, _, h1, h2⟩ := lstOf_at (ds := ds) rg hx (by unfold lstOf; rw [e])
      exact .inl ⟨_, _, rfl, .inl ⟨xs, .inl h1, rfl⟩, by rw [h2.length]; exact fin0 rg fin (d := .int _) rfl h⟩
    · rename_i kvs e
      obtain ⟨a, xs, rfl, _, h1, h2⟩ := dk_at rg hx e
      have hl : xs.length = kvs.length := by
        have := congrArg List.length h2.1
        simpa using this.symm
      exact .inr ⟨a, xs, rfl, .inl h1, by rw [hl]; exact fin0 rg fin (d := .int _) rfl h⟩
    · rename_i o xs kvs e
      obtain ⟨a, rfl, _, h1, h2⟩ := dkf_at rg hx e
      have hl : xs.length = kvs.length := by
        have := congrArg List.length h2.1
        simpa using this.symm
      exact .inr ⟨a, xs, rfl, .inr ⟨o, h1⟩, by rw [hl]; exact fin0 rg fin (d := .int _) rfl h⟩
    · exact h.elim
  · exact h.elim
/-! abs, int -/
def opAbs : DOL := fun ds μ q => match ds with
  | [.int i] => q (.int (if i < 0 then -i else i)) μ
  | _ => False
theorem sim_abs {K : PySem.W.Frag} : SimL K opAbs (fun xs H Q => ∃ i, xs = [.int i] ∧ Q (.int (if i < 0 then -i else i)) H) := by
  intro T θ μ H ds xs q Q rg ha h fin
  unfold opAbs at h
  split at h
  · obtain ⟨x, rfl, hx⟩ := atl1 ha
    rw [show x = _ from hx]
    exact ⟨_, rfl, fin0 rg fin (d := .int _) rfl h⟩
  · exact h.elim
def opInt : DOL := fun ds μ q => match ds with
  | [.int i] => q (.int i) μ
  | [.bl b] => q (.int (if b then 1 else 0)) μ
  | _ => False
theorem sim_int {K : PySem.W.Frag} : SimL K opInt (fun xs H Q => (∃ i, xs = [.int i] ∧ Q (.int i) H) ∨ ∃ k, xs = [.bl k] ∧ Q (.int (if k then 1 else 0)) H) := by
  intro T θ μ H ds xs q Q rg ha h fin
  unfold opInt at h
  split at h
  · obtain ⟨x, rfl, hx⟩ := atl1 ha
    rw [show x = _ from hx]
    exact .inl ⟨_, rfl, fin0 rg fin (d := .int _) rfl h⟩
  · obtain ⟨x, rfl, hx⟩ := atl1 ha
    rw [show x = _ from hx]
    exact .inr ⟨_, rfl, fin0 rg fin (d := .int _) rfl h⟩
  · exact h.elim
/-! isinstance, a built-in class -/
def tnD (μ : Mu) : D → Option String
  | .non => some "NoneType"
  | .bl _ => some "bool"
  | .int _ => some "int"
  | .str _ => some "str"
  | .tup _ => some "tuple"
  | .obj j => match μ[j]? with
    | some (.lst _) => some "list"
    | some (.ro _) => some "list"
    | some (.dk _) => some "dict"
    | some (.dkf _ _ _) => some "dict"
    | some (.dt _) => some "dict"
    | none => none
  | _ => none
def kitT (t n : String) : Option Bool :=
  if n = "int" then some (t == "int" || t == "bool")
  else if n = "bool" then some (t == "bool") else if n = "str" then some (t == "str") else if n = "tuple" then some (t == "tuple") else if n = "list" then some (t == "list") else if n = "dict" then some (t == "dict") else none
theorem kitT_ok {t n : String} {b : Bool} (ht : t = "NoneType" ∨ t = "bool" ∨ t = "int" ∨ t = "str" ∨ t = "tuple" ∨ t = "list" ∨ t = "dict") (h : kitT t n = some b) : kitB t n = some b := by
  unfold kitT at h
  split at h
  · rename_i e
    subst e
    rcases ht with rfl | rfl | rfl | rfl | rfl | rfl | rfl <;> (rw [← h]; decide +kernel)
  · split at h
    · rename_i e
      subst e
      rcases ht with rfl | rfl | rfl | rfl | rfl | rfl | rfl <;> (rw [← h]; decide +kernel)
    · split at h
      · rename_i e
        subst e
        rcases ht with rfl | rfl | rfl | rfl | rfl | rfl | rfl <;> (rw [← h]; decide +kernel)
      · split at h
        · rename_i e
          subst e
          rcases ht with rfl | rfl | rfl | rfl | rfl | rfl | rfl <;> (rw [← h]; decide +kernel)
        · split at h
          · rename_i e
            subst e
            rcases ht with rfl | rfl | rfl | rfl | rfl | rfl | rfl <;> (rw [← h]; decide +kernel)
          · split at h
            · rename_i e
              subst e
              rcases ht with rfl | rfl | rfl | rfl | rfl | rfl | rfl <;> (rw [← h]; decide +kernel)
            · cases h
theorem tnD_at {K : PySem.W.Frag} {T : List (Addr × Str)} {H : Hp} {θ : Th} {μ : Mu} (rg : RG K T θ μ H) {d : D} {x : V} {t : String} (h : At K H θ d x) (e : tnD μ d = some t) :
    TyX K H x (.type t) ∧ (t = "NoneType" ∨ t = "bool" ∨ t = "int" ∨ t = "str" ∨ t = "tuple" ∨ t = "list" ∨ t = "dict") := by
  cases d with
  | non => cases e; rw [show x = _ from h]; exact ⟨.base .non, by simp⟩
  | bl b => cases e; rw [show x = _ from h]; exact ⟨.base (.bl b), by simp⟩
  | int b => cases e; rw [show x = _ from h]; exact ⟨.base (.int b), by simp⟩
  | str b => cases e; rw [show x = _ from h]; exact ⟨.base (.str b), by simp⟩
  | ty n => cases e
  | fn a => cases e
  | tup ds =>
    cases e
    obtain ⟨a, xs, rfl, (h1 | ⟨o, h1⟩) | ⟨o, its, n, h1, h2, _⟩, _⟩ := h
    · exact ⟨.base (.tup h1), by simp⟩
    · exact ⟨.fTuple h1, by simp⟩
    · exact ⟨.kTuple h1 h2, by simp⟩
  | obj j =>
    unfold tnD at e
    simp only at e
    obtain ⟨a, e1, rfl⟩ := h
    split at e
    · rename_i q
      cases e
      obtain ⟨xs, h1, _⟩ := rg.ob j a _ e1 q
      exact ⟨.base (.lst h1), by simp⟩
    · rename_i q
      cases e
      obtain ⟨o, xs, h1, _⟩ := rg.ob j a _ e1 q
      exact ⟨.base (.frz h1), by simp⟩
    · rename_i q
      cases e
      obtain ⟨xs, h1, _⟩ := rg.ob j a _ e1 q
      exact ⟨.base (.dK h1), by simp⟩
    · rename_i q
      cases e
      obtain ⟨h1, _⟩ := rg.ob j a _ e1 q
      exact ⟨.fDict h1, by simp⟩
    · rename_i q
      cases e
      obtain ⟨xs, h1, _⟩ := rg.ob j a _ e1 q
      exact ⟨.base (.dT h1), by simp⟩
    · cases e
def opIsi : DOL := fun ds μ q => match ds with
  | [d, .ty n] => match tnD μ d with
    | some t => match kitT t n with
      | some b => q (.bl b) μ
      | none => False
    | none => False
  | _ => False
theorem sim_isi {K : PySem.W.Frag} : SimL K opIsi (rIsi K) := by
  intro T θ μ H ds xs q Q rg ha h fin
  unfold opIsi at h
  split at h
  · rename_i d n
    obtain ⟨x, y, rfl, hx, hy⟩ := atl2 ha
    split at h
    · rename_i t ht
      split at h
      · rename_i b hb
        obtain ⟨h1, h2⟩ := tnD_at rg hx ht
        rw [show y = _ from hy]
        exact ⟨x, _, _, _, b, rfl, .ty n, h1, kit_ty (kitT_ok h2 hb), fin0 rg fin (d := .bl _) rfl h⟩
      · exact h.elim
    · exact h.elim
  · exact h.elim
/-! tuple(x), list(x) -/
def opTupleOf : DOL := fun ds μ q => match ds with
  | [d] => match seqOf μ d with
    | some ds => q (.tup ds) μ
    | none => False
  | _ => False
theorem sim_tupleOf {K : PySem.W.Frag} : SimL K opTupleOf (fun xs H Q => ∃ p ys, xs = [.ref p] ∧ ((SqL K H p ys ∧ ∀ l, H l = none → Q (.ref l) (upd H l (.tup ys))) ∨ (SqT K H p ys ∧ Q (.ref p) H))) := by
  intro T θ μ H ds xs q Q rg ha h fin
  unfold opTupleOf at h
  split at h
  · rename_i d
    obtain ⟨x, rfl, hx⟩ := atl1 ha
    cases d with
    | tup es =>
      obtain ⟨a, xs, rfl, h1, h2⟩ := id hx
      exact ⟨a, xs, rfl, .inr ⟨h1, fin0 rg fin hx h⟩⟩
    | obj j =>
      split at h
      · rename_i es e
        obtain ⟨a, xs, rfl, _, h1, h2⟩ := lstOf_at rg hx e
        exact ⟨a, xs, rfl, .inl ⟨.inl h1, fun l hl => finT rg fin hl h2 h⟩⟩
      · exact h.elim
    | _ => exact h.elim
  · exact h.elim
def keyDof : Key → D
  | .inl i => .int i
  | .inr x => .str x
theorem at_key {K : PySem.W.Frag} {H : Hp} {θ : Th} (k : Key) : At K H θ (keyDof k) (kV k) := by cases k <;> rfl
theorem atl_keys {K : PySem.W.Frag} {H : Hp} {θ : Th} : ∀ {kvs : List (Key × D)} {xs : List (Key × V)}, KVAt K H θ kvs xs → AtL K H θ (kvs.map fun kv => keyDof kv.1) (xs.map fun kv => kV kv.1)
  | [], [], _ => rfl
  | [], _ :: _, h => by have := h.1; simp at this
  | _ :: _, [], h => by have := h.1; simp at this
  | (a, d) :: kvs, (b, x) :: xs, h => by
    have h1 : a = b ∧ kvs.map (·.1) = xs.map (·.1) := by
      have := h.1
      simpa using this
    obtain ⟨rfl, h1⟩ := h1
    obtain ⟨y, r, e, h2, h3⟩ := h.2
    obtain ⟨rfl, rfl⟩ : x = y ∧ xs.map (·.2) = r := by simpa using e
    exact ⟨_, _, rfl, at_key a, atl_keys ⟨h1, h3⟩⟩
def opListOf : DOL := fun ds μ q => match ds with
  | [.tup ds] => q (.obj μ.length) (μ ++ [.lst ds])
  | [.obj j] => match μ[j]? with
    | some (.lst ds) => q (.obj μ.length) (μ ++ [.lst ds])
    | some (.ro ds) => q (.obj μ.length) (μ ++ [.lst ds])
    | some (.dk kvs) => q (.obj μ.length) (μ ++ [.lst (kvs.map fun kv => keyDof kv.1)])
    | _ => False
  | _ => False
def rListA (K : PySem.W.Frag) : List V → Hp → VK → Prop := fun xs H Q => (∃ p ys, xs = [.ref p] ∧ (SqL K H p ys ∨ SqT K H p ys) ∧ ∀ l, H l = none → Q (.ref l) (upd H l (.lst ys))) ∨ rListD xs H Q
theorem cr_list {X : Cx} (hc : X.calm = true) : CallR X (.type "list") (rListA X.K) := by
  intro pins s σ H xs us Q I r h
  rcases h with h | h
  · exact call_list_of pins s σ H xs us Q I r h
  · exact call_list_dK hc pins s σ H xs us Q I r h
theorem sim_listOf {K : PySem.W.Frag} : SimL K opListOf (rListA K) := by
  intro T θ μ H ds xs q Q rg ha h fin
  unfold opListOf at h
  split at h
  · obtain ⟨x, rfl, hx⟩ := atl1 ha
    obtain ⟨a, xs, rfl, h1, h2⟩ := id hx
    exact .inl ⟨a, xs, rfl, .inr h1, fun l hl => finN (m := .lst _) rg fin hl ⟨_, upd_same, AtL.mono (Kp.new hl) _ _ h2⟩ h⟩
  · obtain ⟨x, rfl, hx⟩ := atl1 ha
    split at h
    · rename_i e
      obtain ⟨a, xs, rfl, _, h1, h2⟩ := lst_at rg hx e
      exact .inl ⟨a, xs, rfl, .inl (.inl (.inl h1)), fun l hl => finN (m := .lst _) rg fin hl ⟨_, upd_same, AtL.mono (Kp.new hl) _ _ h2⟩ h⟩
    · rename_i ds e
      obtain ⟨a, xs, rfl, _, h1, h2⟩ := lstOf_at (ds := ds) rg hx (by unfold lstOf; rw [e])
      exact .inl ⟨a, xs, rfl, .inl (.inl h1), fun l hl => finN (m := .lst _) rg fin hl ⟨_, upd_same, AtL.mono (Kp.new hl) _ _ h2⟩ h⟩
    · rename_i kvs e
      obtain ⟨a, xs, rfl, _, h1, h2⟩ := dk_at rg hx e
      exact .inr ⟨a, xs, rfl, h1, fun l hl => finN (m := .lst _) rg fin hl ⟨_, upd_same, AtL.mono (Kp.new hl) _ _ (atl_keys h2)⟩ h⟩
    · exact h.elim
  · exact h.elim
/-! dict(d) -/
def opDictOf : DOL := fun ds μ q => match ds with
  | [.obj j] => match μ[j]? with
    | some (.dk kvs) => q (.obj μ.length) (μ ++ [.dk kvs])
    | _ => False
  | _ => False
def rDictC : List V → Hp → VK → Prop := fun xs H Q => ∃ a kvs, xs = [.ref a] ∧ Rd H a (.dK kvs) ∧ ∀ p, H p = none → Q (.ref p) (upd H p (.dK kvs))
theorem cr_dictC {X : Cx} : CallR X (.type "dict") rDictC := by
  intro pins s σ H xs us Q I r h
  obtain ⟨a, kvs, rfl, hk, q⟩ := h
  obtain ⟨u, rfl, rx⟩ := vals1 r
  obtain rfl : u = Value.ref a := rx
  exact d_copyOf I hk fun p s' hp I' => ⟨.ref p, _, I', rfl, q p hp⟩
theorem sim_dictOf {K : PySem.W.Frag} : SimL K opDictOf rDictC := by
  intro T θ μ H ds xs q Q rg ha h fin
  unfold opDictOf at h
  split at h
  · obtain ⟨x, rfl, hx⟩ := atl1 ha
    split at h
    · rename_i kvs e
      obtain ⟨a, xs, rfl, _, h1, h2⟩ := dk_at rg hx e
      exact ⟨a, xs, rfl, .inl h1, fun p hp => finN (m := .dk _) rg fin hp ⟨_, upd_same, h2.1, AtL.mono (Kp.new hp) _ _ h2.2⟩ h⟩
    · exact h.elim
  · exact h.elim
/-! max, min, all, any, sum of a list -/
def intsOf : List D → Option (List Int)
  | [] => some []
  | .int i :: ds => match intsOf ds with
    | some ns => some (i :: ns)
    | none => none
  | _ => none
def blsOf : List D → Option (List Bool)
  | [] => some []
  | .bl i :: ds => match blsOf ds with
    | some ns => some (i :: ns)
    | none => none
  | _ => none
theorem intsOf_map : ∀ ns : List Int, intsOf (ns.map D.int) = some ns
  | [] => rfl
  | n :: ns => by
    show (match intsOf (ns.map D.int) with | some ns => some (n :: ns) | none => none) = _
    rw [intsOf_map ns]
theorem blsOf_map : ∀ ns : List Bool, blsOf (ns.map D.bl) = some ns
  | [] => rfl
  | n :: ns => by
    show (match blsOf (ns.map D.bl) with | some ns => some (n :: ns) | none => none) = _
    rw [blsOf_map ns]
theorem intsOf_eq : ∀ {ds : List D} {ns : List Int}, intsOf ds = some ns → ds = ns.map D.int
  | [], ns, h => by cases h; rfl
  | .int i :: ds, ns, h => by
    unfold intsOf at h
    split at h
    · rename_i ms e
      cases h
      rw [intsOf_eq e]
      rfl
    · cases h
  | .non :: _, _, h => by cases h
  | .bl _ :: _, _, h => by cases h
  | .str _ :: _, _, h => by cases h
  | .ty _ :: _, _, h => by cases h
  | .fn _ :: _, _, h => by cases h
  | .tup _ :: _, _, h => by cases h
  | .obj _ :: _, _, h => by cases h
theorem blsOf_eq : ∀ {ds : List D} {ns : List Bool}, blsOf ds = some ns → ds = ns.map D.bl
  | [], ns, h => by cases h; rfl
  | .bl i :: ds, ns, h => by
    unfold blsOf at h
    split at h
    · rename_i ms e
      cases h
      rw [blsOf_eq e]
      rfl
    · cases h
  | .non :: _, _, h => by cases h
  | .int _ :: _, _, h => by cases h
  | .str _ :: _, _, h => by cases h
  | .ty _ :: _, _, h => by cases h
  | .fn _ :: _, _, h => by cases h
  | .tup _ :: _, _, h => by cases h
  | .obj _ :: _, _, h => by cases h
/-- a list's ints, bools -/
def lstInts (μ : Mu) (j : Nat) : Option (List Int) := match lstOf μ j with
  | some ds => intsOf ds
  | none => none
def lstBls (μ : Mu) (j : Nat) : Option (List Bool) := match lstOf μ j with
  | some ds => blsOf ds
  | none => none
section
variable {K : PySem.W.Frag} {T : List (Addr × Str)} {H : Hp} {θ : Th} {μ : Mu} {j : Nat} {x : V}
theorem lstInts_at {ns : List Int} (rg : RG K T θ μ H) (h : At K H θ (.obj j) x) (e : lstInts μ j = some ns) : ∃ a, x = .ref a ∧ SqL K H a (ns.map V.int) := by
  unfold lstInts at e
  split at e
  · rename_i ds q
    obtain ⟨a, xs, rfl, _, h1, h2⟩ := lstOf_at rg h q
    rw [intsOf_eq e] at h2
    rw [h2.ints] at h1
    exact ⟨a, rfl, .inl h1⟩
  · cases e
theorem lstBls_at {ns : List Bool} (rg : RG K T θ μ H) (h : At K H θ (.obj j) x) (e : lstBls μ j = some ns) : ∃ a, x = .ref a ∧ SqL K H a (ns.map V.bl) := by
  unfold lstBls at e
  split at e
  · rename_i ds q
    obtain ⟨a, xs, rfl, _, h1, h2⟩ := lstOf_at rg h q
    rw [blsOf_eq e] at h2
    rw [h2.bls] at h1
    exact ⟨a, rfl, .inl h1⟩
  · cases e
end
def opMax : DOL := fun ds μ q => match ds with
  | [.obj j] => match lstInts μ j with
    | some ns => 0 < ns.length ∧ ∀ m, m ∈ ns → (∀ y, y ∈ ns → y ≤ m) → q (.int m) μ
    | none => False
  | [.int i, .int j] => q (.int (if j > i then j else i)) μ
  | _ => False
def rMaxA (K : PySem.W.Frag) : List V → Hp → VK → Prop := fun xs H Q => rMax K xs H Q ∨ ∃ i j, xs = [.int i, .int j] ∧ Q (.int (if j > i then j else i)) H
theorem cr_maxA {X : Cx} (hc : X.calm = true) : CallR X (.builtin "max") (rMaxA X.K) := by
  intro pins s σ H xs us Q I r h
  rcases h with h | h
  · exact cr_max hc pins s σ H xs us Q I r h
  · exact call_max2 hc pins s σ H xs us Q I r h
theorem sim_max {K : PySem.W.Frag} : SimL K opMax (rMaxA K) := by
  intro T θ μ H ds xs q Q rg ha h fin
  unfold opMax at h
  split at h
  · obtain ⟨x, rfl, hx⟩ := atl1 ha
    split at h
    · rename_i ns e
      obtain ⟨a, rfl, hs⟩ := lstInts_at rg hx e
      exact .inl ⟨a, ns, rfl, hs, h.1, fun m h1 h2 => fin0 rg fin (d := .int _) rfl (h.2 m h1 h2)⟩
    · exact h.elim
  · obtain ⟨x, y, rfl, hx, hy⟩ := atl2 ha
    rw [show x = _ from hx, show y = _ from hy]
    exact .inr ⟨_, _, rfl, fin0 rg fin (d := .int _) rfl h⟩
  · exact h.elim
def opMin : DOL := fun ds μ q => match ds with
  | [.obj j] => match lstInts μ j with
    | some ns => 0 < ns.length ∧ ∀ m, m ∈ ns → (∀ y, y ∈ ns → m ≤ y) → q (.int m) μ
    | none => False
  | [.int i, .int j] => q (.int (if j < i then j else i)) μ
  | _ => False
def rMinA (K : PySem.W.Frag) : List V → Hp → VK → Prop := fun xs H Q => rMin K xs H Q ∨ ∃ i j, xs = [.int i, .int j] ∧ Q (.int (if j < i then j else i)) H
theorem cr_minA {X : Cx} (hc : X.calm = true) : CallR X (.builtin "min") (rMinA X.K) := by
  intro pins s σ H xs us Q I r h
  rcases h with h | h
  · exact cr_min hc pins s σ H xs us Q I r h
  · exact call_min2 hc pins s σ H xs us Q I r h
theorem sim_min {K : PySem.W.Frag} : SimL K opMin (rMinA K) := by
  intro T θ μ H ds xs q Q rg ha h fin
  unfold opMin at h
  split at h
  · obtain ⟨x, rfl, hx⟩ := atl1 ha
    split at h
    · rename_i ns e
      obtain ⟨a, rfl, hs⟩ := lstInts_at rg hx e
      exact .inl ⟨a, ns, rfl, hs, h.1, fun m h1 h2 => fin0 rg fin (d := .int _) rfl (h.2 m h1 h2)⟩
    · exact h.elim
  · obtain ⟨x, y, rfl, hx, hy⟩ := atl2 ha
    rw [show x = _ from hx, show y = _ from hy]
    exact .inr ⟨_, _, rfl, fin0 rg fin (d := .int _) rfl h⟩
  · exact h.elim
def opAll : DOL := fun ds μ q => match ds with
  | [.obj j] => match lstBls μ j with
    | some ns => q (.bl (ns.all id)) μ
    | none => False
  | _ => False
theorem sim_all {K : PySem.W.Frag} : SimL K opAll (rAll K) := by
  intro T θ μ H ds xs q Q rg ha h fin
  unfold opAll at h
  split at h
  · obtain ⟨x, rfl, hx⟩ := atl1 ha
    split at h
    · rename_i ns e
      obtain ⟨a, rfl, hs⟩ := lstBls_at rg hx e
      exact ⟨a, ns, rfl, hs, fin0 rg fin (d := .bl _) rfl h⟩
    · exact h.elim
  · exact h.elim
def opAny : DOL := fun ds μ q => match ds with
  | [.obj j] => match lstBls μ j with
    | some ns => q (.bl (ns.any id)) μ
    | none => False
  | _ => False
theorem sim_any {K : PySem.W.Frag} : SimL K opAny (rAny K) := by
  intro T θ μ H ds xs q Q rg ha h fin
  unfold opAny at h
  split at h
  · obtain ⟨x, rfl, hx⟩ := atl1 ha
    split at h
    · rename_i ns e
      obtain ⟨a, rfl, hs⟩ := lstBls_at rg hx e
      exact ⟨a, ns, rfl, hs, fin0 rg fin (d := .bl _) rfl h⟩
    · exact h.elim
  · exact h.elim
/-! len(set(a list of ints)) -/
def dedupI (ns : List Int) : List Int := PyProof.Rows.firstMet (fun i => ns.getD i 0) ns.length
def wLenSet (a : DT) : DT := fun ρ μ q x => a ρ μ (fun d μ1 => match d with
  | .obj j => match lstInts μ1 j with
    | some ns => ns.length ≤ 4000 ∧ q (.int (dedupI ns).length) μ1
    | none => False
  | _ => False) x
theorem dedupI_le (ns : List Int) : (dedupI ns).length ≤ ns.length := PyProof.Rows.firstMet_length_le _ _
theorem pe_lenSetA {X : Cx} {a : Expr} {ta : TE} {p p2 q pos : Pos} (hg : Gl X "len") (hm : X.mg "len" = none) (hg2 : Gl X "set") (hm2 : X.mg "set" = none) (ha : PE X a ta) (hc : X.calm = true := by rfl)
    (na : starEach [a] X.env = (false, eval a X.env) :: starEach [] X.env := by rfl) : PE X (.Call (.Name "len" p) [.Call (.Name "set" p2) [a] [] q] [] pos)
      (fun σ H Q => ta σ H fun x H1 => ∃ (l : Addr) (ns : List Int), x = .ref l ∧ SqL X.K H1 l (ns.map V.int) ∧ ns.length ≤ 4000 ∧ Q (.int ((dedupI ns).length : Nat)) H1) := by
  refine ⟨fun pins s σ H Q I h => ?_⟩
  refine Call_ (ld_blt I hg hm boot_len ?_)
  refine PyProof.Rows.callWith_builtin1 (PyProof.Rows.args_cons ?_ rfl) rfl rfl
  refine Call_ (ld_blt I hg2 hm2 boot_set ?_)
  refine PyProof.Rows.callWith_type1 (PyProof.Rows.args_cons (thn (ha.run pins s σ H _ I h) fun v s1 ⟨x, H1, I1, r1, q1⟩ => PyProof.Rows.args_nil ?_) na) na rfl
  obtain ⟨l, ns, rfl, hq, hl, q1⟩ := q1
  cases r1
  obtain ⟨its, r, pl, hz⟩ := I1.list hq
  have hlen : its.toArray.size = ns.length := by rw [List.size_toArray, ← r.length, List.length_map]
  refine call_set_list (I1.ok.hd hc) pl.isList (by simpa using RZ.intsAre_vals r) (by rw [hlen]; unfold scanBound; omega) fun h' tk hS hk => ?_
  refine PyProof.Rows.args_nil ?_
  rw [hlen] at hS
  obtain ⟨o, es, ep, t, ho, hex, hd, _, _, _, hf, hn⟩ := hS
  have hle : (dedupI ns).length ≤ 4000 := Nat.le_trans (dedupI_le ns) hl
  have I2 : Inv X pins σ H1 { s1 with heap := h', toks := tk } := I1.kept fun b o e => hk b o (Heap.lt_size e) e
  exact call_len_set ho hex hd hf (by rw [hn]; unfold dedupI at hle; omega) ⟨.int (dedupI ns).length, H1, I2.tok _, ⟨_, by rw [hn]; rfl⟩, q1⟩
theorem pd_lenSet {X : Cx} {T : List (Addr × Str)} {E : XK} {a : Expr} {ta : DT} {p p2 q pos : Pos} (hg : Gl X "len") (hm : X.mg "len" = none) (hg2 : Gl X "set") (hm2 : X.mg "set" = none) (ha : PD X T E a ta) (hc : X.calm = true := by rfl)
    (na : starEach [a] X.env = (false, eval a X.env) :: starEach [] X.env := by rfl) : PD X T E (.Call (.Name "len" p) [.Call (.Name "set" p2) [a] [] q] [] pos) (wLenSet ta) := by
  refine PE.imp (pe_lenSetA hg hm hg2 hm2 ha hc na) ?_
  rintro σ H Q ⟨θ, μ, ρ, qd, xd, rg, rs, xs, h, fin⟩
  refine ⟨θ, μ, ρ, _, xd, rg, rs, xs, h, fun d μ1 θ1 v H1 rg1 k1 at1 h1 => ?_⟩
  cases d with
  | obj j =>
    simp only at h1
    split at h1
    · rename_i ns e
      obtain ⟨a, rfl, hs⟩ := lstInts_at rg1 at1 e
      exact ⟨a, ns, rfl, hs, h1.1, fin (.int _) μ1 θ1 _ H1 rg1 k1 rfl h1.2⟩
    · exact h1.elim
  | _ => exact h1.elim

/-! ### a[b] -/
theorem atI_at {K : PySem.W.Frag} {H : Hp} {θ : Th} {ds : List D} {xs : List V} {i : Int} {d : D} (h : AtL K H θ ds xs) (e : atI ds i = some d) : ∃ x, atI xs i = some x ∧ At K H θ d x := by
  unfold atI at e ⊢
  rw [h.length]
  cases hi : ixN ds.length i with
  | none => rw [hi] at e; cases e
  | some j =>
    rw [hi] at e
    exact h.get e
def opIx : DO2 := fun d e μ q => match d with
  | .tup ds => match e with
    | .int i => match atI ds i with
      | some d' => q d' μ
      | none => False
    | _ => False
  | .obj j => match μ[j]? with
    | some (.lst ds) => match e with
      | .int i => match atI ds i with
        | some d' => q d' μ
        | none => False
      | _ => False
    | some (.ro ds) => match e with
      | .int i => match atI ds i with
        | some d' => q d' μ
        | none => False
      | _ => False
    | some (.dk kvs) => match keyD e with
      | some k => match valD kvs k with
        | some d' => q d' μ
        | none => False
      | none => False
    | some (.dkf _ _ kvs) => match keyD e with
      | some k => match valD kvs k with
        | some d' => q d' μ
        | none => False
      | none => False
    | _ => False
  | _ => False
def rIxD : R2 := fun x y H Q => ∃ a v, x = .ref a ∧ DGet H a y (some v) ∧ Q v H
def rIxA (K : PySem.W.Frag) : R2 := fun x y H Q => rIx K x y H Q ∨ rIxD x y H Q
theorem ix_dict {X : Cx} {k : Nat} (hr : Room k X.A) : IxR X rIxD := by
  intro value slice pins s σ H x y o i Q I rx ry h hs
  obtain ⟨a, v, rfl, g, q⟩ := h
  obtain rfl : o = Value.ref a := rx
  have hT := dict_typeIs I g
  have h₂ := d_getItem (A := X.A) (E := X.xe) (Q := EP X pins σ Q) (hu_of hr) I g ry fun w' s3 I3 rw' => ⟨v, H, I3, rw', q⟩
  unfold subscriptTail
  refine wpAny_bind ?_
  rw [getitemInPython_of_ne hT.not_modules]
  refine wpAny_bind (wpAny_specialOf hT PySem.F.slot_dict_getitem.lookup ?_)
  have fin : wpAny (model X.prog X.w) X.A (subscripted slice false (.ref a) i) (fun r s₃ => wpAny (model X.prog X.w) X.A (letTemporaryGo value (.ref a) r >>= fun _ => pure r) (EP X pins σ Q) X.xe s₃) X.xe s := by
    rw [hs]
    exact wpAny_operating (wpAny_mono h₂ (fun r s₃ h₃ => wpAny_bind (wpAny_letTemporaryGo (wpAny_pure h₃))) fun _ _ x => x)
  first
    | exact wpAny_pure (wpAny_bind fin)
    | exact wpAny_bind (wpAny_pure (wpAny_bind fin))
    | exact wpAny_bind fin
theorem ir_ix {X : Cx} {k : Nat} (hr : Room k X.A) : IxR X (rIxA X.K) := ix_seq.or (ix_dict hr)
theorem sim_ix {K : PySem.W.Frag} : Sim2 K opIx (rIxA K) := by
  intro T θ μ H d e x y q Q rg hd he h fin
  unfold opIx at h
  split at h
  · split at h
    · split at h
      · rename_i d' e1
        obtain ⟨a, xs, rfl, h1, h2⟩ := hd
        obtain ⟨v, h3, h4⟩ := atI_at h2 e1
        rw [show y = _ from he]
        exact .inl (.inr (.inl ⟨a, xs, _, v, rfl, rfl, h1, h3, fin0 rg fin h4 h⟩))
      · exact h.elim
    · exact h.elim
  · rename_i j
    split at h
    · rename_i ds e0
      split at h
      · split at h
        · rename_i d' e1
          obtain ⟨a, xs, rfl, _, h1, h2⟩ := lst_at rg hd e0
          obtain ⟨v, h3, h4⟩ := atI_at h2 e1
          rw [show y = _ from he]
          exact .inl (.inl ⟨a, xs, _, v, rfl, rfl, .inl (.inl h1), h3, fin0 rg fin h4 h⟩)
        · exact h.elim
      · exact h.elim
    · rename_i ds e0
      split at h
      · split at h
        · rename_i d' e1
          obtain ⟨a, xs, rfl, _, h1, h2⟩ := lstOf_at (ds := ds) rg hd (by unfold lstOf; rw [e0])
          obtain ⟨v, h3, h4⟩ := atI_at h2 e1
          rw [show y = _ from he]
          exact .inl (.inl ⟨a, xs, _, v, rfl, rfl, .inl h1, h3, fin0 rg fin h4 h⟩)
        · exact h.elim
      · exact h.elim
    · rename_i kvs e0
      split at h
      · rename_i k hk
        split at h
        · rename_i d' e1
          obtain ⟨a, xs, rfl, _, h1, h2⟩ := dk_at rg hd e0
          rcases valD_at k h2 with ⟨_, z⟩ | ⟨v, d2, z1, z2, z3⟩
          · rw [z] at e1; cases e1
          · rw [z2] at e1
            cases e1
            refine .inr ⟨a, v, rfl, ?_, fin0 rg fin z3 h⟩
            rw [keyD_at he hk, ← z1]
            exact DGet.k h1
        · exact h.elim
      · exact h.elim
    · rename_i o xs kvs e0
      split at h
      · rename_i k hk
        split at h
        · rename_i d' e1
          obtain ⟨a, rfl, _, h1, h2⟩ := dkf_at rg hd e0
          rcases valD_at k h2 with ⟨_, z⟩ | ⟨v, d2, z1, z2, z3⟩
          · rw [z] at e1; cases e1
          · rw [z2] at e1
            cases e1
            refine .inr ⟨a, v, rfl, ?_, fin0 rg fin z3 h⟩
            rw [keyD_at he hk, ← z1]
            exact .inl ⟨xs, k, .inr ⟨o, h1⟩, rfl, rfl⟩
        · exact h.elim
      · exact h.elim
    · exact h.elim
  · exact h.elim
theorem pd_ix {X : Cx} {T : List (Addr × Str)} {E : XK} {a b : Expr} {ta tb : DT} {pos : Pos} {k : Nat} (hr : Room k X.A) (ha : PD X T E a ta) (hb : PD X T E b tb) (hs : PlainIx b := by intro _ _; rfl) : PD X T E (.Subscript a b pos) (wBin opIx ta tb) :=
  PE.imp (pe_ix (ir_ix hr) ha hb hs) fun _ _ _ h => lE_bin sim_ix h

/-! ### a[lo:hi] -/
abbrev DTO := Rho → Mu → (Option Int → Mu → Prop) → XD → Prop
def wNoPart : DTO := fun _ μ q _ => q none μ
def wPart (t : DT) : DTO := fun ρ μ q x => t ρ μ (fun d μ1 => match d with
  | .int i => q (some i) μ1
  | _ => False) x
def lO (K : PySem.W.Frag) (T : List (Addr × Str)) (E : XK) (t : DTO) : TO := fun σ H Q => ∃ (θ : Th) (μ : Mu) (ρ : Rho) (qd : Option Int → Mu → Prop) (xd : XD), RG K T θ μ H ∧ RS K θ ρ σ H ∧ XS K T E θ H xd ∧ t ρ μ qd xd ∧
  ∀ b μ' θ' H', RG K T (θ ++ θ') μ' H' → Kp H H' → qd b μ' → Q b H'
def PDO (X : Cx) (T : List (Addr × Str)) (E : XK) (e : Option Expr) (t : DTO) : Prop := PO X e (lO X.K T E t)
def cutD (xs : List D) (lo hi : Option Int) : List D := (xs.drop (HT.sIx xs.length 0 lo)).take (HT.sIx xs.length xs.length hi - HT.sIx xs.length 0 lo)
def wSl (t : DT) (tl th : DTO) : DT := fun ρ μ q x => t ρ μ (fun d μ1 => tl ρ μ1 (fun l μ2 => th ρ μ2 (fun u μ3 => match d with
  | .tup ds => q (.tup (cutD ds l u)) μ3
  | .obj j => match lstOf μ3 j with
    | some ds => q (.obj μ3.length) (μ3 ++ [.lst (cutD ds l u)])
    | none => False
  | _ => False) x) x) x
section
variable {X : Cx} {T : List (Addr × Str)} {E : XK} {e : Expr} {te : DT} {lo hi : Option Expr} {tl th : DTO} {pos p2 : Pos}
theorem pdo_none : PDO X T E none wNoPart := by
  refine ⟨fun pins s σ H Q I h => po_none.run pins s σ H Q I ?_⟩
  obtain ⟨θ, μ, ρ, qd, xd, rg, rs, xs, h, fin⟩ := h
  exact fin none μ [] H (rg0 rg) (Kp.refl H) h
theorem pdo_some (h : PD X T E e te) : PDO X T E (some e) (wPart te) := by
  refine ⟨fun pins s σ H Q I hw => (po_some h).run pins s σ H Q I ?_⟩
  obtain ⟨θ, μ, ρ, qd, xd, rg, rs, xs, h, fin⟩ := hw
  refine ⟨θ, μ, ρ, _, xd, rg, rs, xs, h, fun d μ1 θ1 v H1 rg1 k1 at1 h1 => ?_⟩
  cases d with
  | int i => exact ⟨i, at1, fin (some i) μ1 θ1 H1 rg1 k1 h1⟩
  | _ => exact h1.elim
theorem AtL.cut {K : PySem.W.Frag} {H : Hp} {θ : Th} {ds : List D} {xs : List V} (h : AtL K H θ ds xs) (lo hi : Option Int) : AtL K H θ (cutD ds lo hi) (cutV xs lo hi) := by
  unfold cutD cutV
  rw [h.length]
  exact (h.drop _).take _
def rSlAll (K : PySem.W.Frag) : V → Option Int → Option Int → Hp → VK → Prop := fun x lo hi H Q => rSlL K x lo hi H Q ∨ rSlA K x lo hi H Q
theorem pd_slice (he : PD X T E e te) (hl : PDO X T E lo tl) (hu : PDO X T E hi th) : PD X T E (.Subscript e (.Slice lo hi none p2) pos) (wSl te tl th) := by
  refine PE.imp (pe_slice (r := rSlAll X.K) (sl_list.or sl_tupA) he hl hu) ?_
  rintro σ H Q ⟨θ, μ, ρ, qd, xd, rg, rs, xs, h, fin⟩
  refine ⟨θ, μ, ρ, _, xd, rg, rs, xs, h, fun d μ1 θ1 v H1 rg1 k1 at1 h1 => ?_⟩
  refine ⟨θ ++ θ1, μ1, ρ, _, xd, rg1, rs.mono k1, xs.next k1, h1, fun l μ2 θ2 H2 rg2 k2 h2 => ?_⟩
  refine ⟨_, μ2, ρ, _, xd, rg2, (rs.mono k1).mono k2, (xs.next k1).next k2, h2, fun u μ3 θ3 H3 rg3 k3 h3 => ?_⟩
  have a3 := At.mono (θ' := θ3) k3 d v (At.mono (θ' := θ2) k2 d v at1)
  have fin' : ∀ d' μ' θ' v H', RG X.K T ((θ ++ θ1 ++ θ2 ++ θ3) ++ θ') μ' H' → Kp H3 H' → At X.K H' ((θ ++ θ1 ++ θ2 ++ θ3) ++ θ') d' v → qd d' μ' → Q v H' := fun d' μ' θ' v' H' r' k' a' q' =>
    fin d' μ' (θ1 ++ (θ2 ++ (θ3 ++ θ'))) v' H' (by simpa only [List.append_assoc] using r') (k1.trans (k2.trans (k3.trans k'))) (by simpa only [List.append_assoc] using a') q'
  cases d with
  | tup ds =>
    obtain ⟨a, ys, rfl, h5, h6⟩ := id a3
    refine .inr ⟨a, ys, rfl, h5, fun hw => ?_, fun _ p hp => finT rg3 fin' hp (h6.cut l u) h3⟩
    have e : cutD ds l u = ds := by
      unfold cutD
      rw [h6.length] at hw
      rw [hw.1, hw.2, List.drop_zero, Nat.sub_zero, List.take_length]
    simp only at h3
    rw [e] at h3
    exact fin0 rg3 fin' a3 h3
  | obj j =>
    simp only at h3
    split at h3
    · rename_i ds e
      obtain ⟨a, ys, rfl, _, h5, h6⟩ := lstOf_at rg3 a3 e
      exact .inl ⟨a, ys, rfl, .inl h5, fun p hp => finN (m := .lst _) rg3 fin' hp ⟨_, upd_same, AtL.mono (Kp.new hp) _ _ (h6.cut l u)⟩ h3⟩
    · exact h3.elim
  | _ => exact h3.elim
end

/-! ### methods -/
def tyD (μ : Mu) (Ty : String) : D → Prop
  | .obj j => match μ[j]? with
    | some (.lst _) => Ty = "list"
    | some (.ro _) => Ty = "list"
    | some (.dk _) => Ty = "dict"
    | some (.dkf _ _ _) => False
    | some (.dt _) => Ty = "dict"
    | none => False
  | .str _ => Ty = "str"
  | _ => False
abbrev DOM := D → List D → Mu → QD → Prop
def wMt (Ty : String) (op : DOM) (o : DT) (a : DA) : DT := fun ρ μ q x => o ρ μ (fun d μ1 => tyD μ1 Ty d ∧ a ρ μ1 (fun ds μ2 => op d ds μ2 q) x) x
def SimM (K : PySem.W.Frag) (op : DOM) (r : V → List V → Hp → VK → Prop) : Prop := ∀ (T : List (Addr × Str)) (θ : Th) (μ : Mu) (H : Hp) (d : D) (x : V) (ds : List D) (xs : List V) (q : QD) (Q : VK), RG K T θ μ H → At K H θ d x → AtL K H θ ds xs → op d ds μ q →
  (∀ d' μ' θ' v H', RG K T (θ ++ θ') μ' H' → Kp H H' → At K H' (θ ++ θ') d' v → q d' μ' → Q v H') → r x xs H Q
theorem tyD_at {K : PySem.W.Frag} {T : List (Addr × Str)} {H : Hp} {θ : Th} {μ : Mu} (rg : RG K T θ μ H) {d : D} {x : V} {Ty : String} (h : At K H θ d x) (e : tyD μ Ty d) : tyV K Ty x H := by
  cases d with
  | obj j =>
    obtain ⟨a, e1, rfl⟩ := h
    unfold tyD at e
    simp only at e
    split at e
    · rename_i q
      obtain ⟨xs, h1, _⟩ := rg.ob j a _ e1 q
      exact .inl ⟨e, xs, .inl (.inl h1)⟩
    · rename_i q
      obtain ⟨o, xs, h1, _⟩ := rg.ob j a _ e1 q
      exact .inl ⟨e, xs, .inl (.inr ⟨o, h1⟩)⟩
    · rename_i q
      obtain ⟨xs, h1, _⟩ := rg.ob j a _ e1 q
      exact .inr (.inr (.inl ⟨e, .inl ⟨xs, h1⟩⟩))
    · exact e.elim
    · rename_i q
      obtain ⟨xs, h1, _⟩ := rg.ob j a _ e1 q
      exact .inr (.inr (.inl ⟨e, .inr ⟨xs, h1⟩⟩))
    · exact e.elim
  | str s => rw [show x = _ from h]; exact e
  | _ => exact e.elim
section
variable {X : Cx} {T : List (Addr × Str)} {E : XK} {o e : Expr} {es : List Expr} {to : DT} {t : DA} {name : Str} {apos cpos : Pos} {Ty id : String} {r : V → List V → Hp → VK → Prop} {op : DOM}
theorem lE_mt (hr : SimM X.K op r) {σ : L2.St} {H : Hp} {Q : VK} (h : lE X.K T E (wMt Ty op to t) σ H Q) : tBM X.K Ty r (lE X.K T E to) (lA X.K T E t) σ H Q := by
  obtain ⟨θ, μ, ρ, qd, xd, rg, rs, xs, h, fin⟩ := h
  refine ⟨θ, μ, ρ, _, xd, rg, rs, xs, h, fun d μ1 θ1 v H1 rg1 k1 at1 h1 => ?_⟩
  refine ⟨tyD_at rg1 at1 h1.1, ?_⟩
  refine ⟨θ ++ θ1, μ1, ρ, _, xd, rg1, rs.mono k1, xs.next k1, h1.2, fun ds μ2 θ2 vs H2 rg2 k2 at2 h2 => ?_⟩
  refine hr T _ μ2 H2 d v ds vs qd Q rg2 (At.mono k2 d v at1) at2 h2 fun d' μ' θ' v' H' r' k' a' q' => ?_
  exact fin d' μ' (θ1 ++ (θ2 ++ θ')) v' H' (by simpa only [List.append_assoc] using r') (k1.trans (k2.trans k')) (by simpa only [List.append_assoc] using a') q'
theorem pd_bm (pa : PlainAttrs Ty) (slot : Slot Ty name id) (hty : typeOf (.builtin id) = pure (.type "method_descriptor")) (hm : MtR X id r) (hs' : SimM X.K op r) (ho : PD X T E o to) (ha : PDA X T E (e :: es) t)
    (hbase : attributeBase o name X.env (eval o X.env) = eval o X.env := by rfl)
    (hfew : ((backTo cpos (starEach (e :: es) X.env)).all (fun x => !x.1) && (backToKw cpos (keywordEach [] X.env)).all (fun x => x.1.isSome)
      && decide ((e :: es).length + ([] : List Keyword).length + (if ([] : List Keyword).isEmpty then 0 else 1) < 30)) = true := by rfl)
    (hline : (apos.endLine == cpos.line) = true := by rfl) (hs : starEach (e :: es) X.env = (false, eval e X.env) :: starEach es X.env := by rfl) (hplain : (backTo cpos (starEach es X.env)).any (·.1) = false := by rfl) :
    PD X T E (.Call (.Attribute o name apos) (e :: es) [] cpos) (wMt Ty op to t) :=
  PE.imp (pe_bm pa slot hty hm ho ha hbase hfew hline hs hplain) fun _ _ _ h => lE_mt hs' h
end
def opAppend : DOM := fun d ds μ q => match d, ds with
  | .obj j, [e] => match μ[j]? with
    | some (.lst xs) => xs.length < sizeLine ∧ q .non (μ.set j (.lst (xs ++ [e])))
    | _ => False
  | _, _ => False
theorem sim_append {K : PySem.W.Frag} : SimM K opAppend rAppend := by
  intro T θ μ H d x ds xs q Q rg hd ha h fin
  unfold opAppend at h
  split at h
  · rename_i j e
    obtain ⟨y, rfl, hy⟩ := atl1 ha
    split at h
    · rename_i es e1
      obtain ⟨a, ys, rfl, e2, h1, h2⟩ := lst_at rg hd e1
      refine ⟨a, ys, y, rfl, rfl, h1, by rw [h2.length]; exact h.1, ?_⟩
      have kp : Kp H (upd H a (.lst (ys ++ [y]))) := Kp.mut h1 rfl
      refine fin .non _ [] .non _ (rg0 (rg.upd e2 h1 rfl (fun _ z => by cases z) (m := .lst (es ++ [e])) ⟨_, upd_same, ?_⟩)) kp rfl h.2
      exact (h2.append (AtL.one hy)).kp kp
    · exact h.elim
  · exact h.elim
theorem pd_append {X : Cx} {T : List (Addr × Str)} {E : XK} {o e : Expr} {to : DT} {t : DA} {apos cpos : Pos} (ho : PD X T E o to) (ha : PDA X T E [e] t)
    (hbase : attributeBase o "append" X.env (eval o X.env) = eval o X.env := by rfl)
    (hfew : ((backTo cpos (starEach [e] X.env)).all (fun x => !x.1) && (backToKw cpos (keywordEach [] X.env)).all (fun x => x.1.isSome)
      && decide ([e].length + ([] : List Keyword).length + (if ([] : List Keyword).isEmpty then 0 else 1) < 30)) = true := by rfl)
    (hline : (apos.endLine == cpos.line) = true := by rfl) (hs : starEach [e] X.env = (false, eval e X.env) :: starEach [] X.env := by rfl) (hplain : (backTo cpos (starEach [] X.env)).any (·.1) = false := by rfl) :
    PD X T E (.Call (.Attribute o "append" apos) [e] [] cpos) (wMt "list" opAppend to t) :=
  pd_bm PySem.F.plainAttrs_list PySem.F.slot_list_append PySem.F.type_list_append mt_append sim_append ho ha hbase hfew hline hs hplain

/-! d.get(k, x) -/
def wGet2 (to tk tv : DT) : DT := fun ρ μ q x => to ρ μ (fun d μ1 => tyD μ1 "dict" d ∧ tk ρ μ1 (fun k μ2 => tv ρ μ2 (fun z μ3 => match d with
  | .obj j => match μ3[j]? with
    | some (.dk kvs) => match keyD k with
      | some k => q ((valD kvs k).getD z) μ3
      | none => False
    | _ => False
  | _ => False) x) x) x
theorem pd_get2 {X : Cx} {T : List (Addr × Str)} {E : XK} {o e f : Expr} {to tk tv : DT} {apos cpos : Pos} {n : Nat} (hr : Room n X.A) (ho : PD X T E o to) (hk : PD X T E e tk) (hv : PD X T E f tv) (m : M2 X o "get" apos e f cpos) :
    PD X T E (.Call (.Attribute o "get" apos) [e, f] [] cpos) (wGet2 to tk tv) := by
  refine PE.imp (pe_dget2 (hu_of hr) ho hk hv m) ?_
  rintro σ H Q ⟨θ, μ, ρ, qd, xd, rg, rs, xs, h, fin⟩
  refine ⟨θ, μ, ρ, _, xd, rg, rs, xs, h, fun d μ1 θ1 v H1 rg1 k1 at1 h1 => ?_⟩
  obtain ⟨ty, h1⟩ := h1
  have : ∃ a, v = .ref a ∧ IsD H1 a := by
    cases d with
    | obj j =>
      obtain ⟨a, e1, rfl⟩ := at1
      refine ⟨a, rfl, ?_⟩
      unfold tyD at ty
      simp only at ty
      split at ty
      · exact absurd ty (by decide)
      · exact absurd ty (by decide)
      · rename_i q
        obtain ⟨ys, z, _⟩ := rg1.ob j a _ e1 q
        exact .inl ⟨ys, .inl z⟩
      · exact ty.elim
      · rename_i q
        obtain ⟨ys, z, _⟩ := rg1.ob j a _ e1 q
        exact .inr ⟨ys, .inl z⟩
      · exact ty.elim
    | str s => exact absurd (show ("dict" : String) = "str" from ty) (by decide)
    | _ => exact ty.elim
  obtain ⟨a, ea, isd⟩ := this
  refine ⟨a, ea, isd, ?_⟩
  refine ⟨θ ++ θ1, μ1, ρ, _, xd, rg1, rs.mono k1, xs.next k1, h1, fun k μ2 θ2 y H2 rg2 k2 at2 h2 => ?_⟩
  refine ⟨_, μ2, ρ, _, xd, rg2, (rs.mono k1).mono k2, (xs.next k1).next k2, h2, fun z μ3 θ3 w H3 rg3 k3 at3 h3 => ?_⟩
  have a3 := At.mono (θ' := θ3) k3 d v (At.mono (θ' := θ2) k2 d v at1)
  have fin' : ∀ d' μ' θ' v H', RG X.K T ((θ ++ θ1 ++ θ2 ++ θ3) ++ θ') μ' H' → Kp H3 H' → At X.K H' ((θ ++ θ1 ++ θ2 ++ θ3) ++ θ') d' v → qd d' μ' → Q v H' := fun d' μ' θ' v' H' r' k' a' q' =>
    fin d' μ' (θ1 ++ (θ2 ++ (θ3 ++ θ'))) v' H' (by simpa only [List.append_assoc] using r') (k1.trans (k2.trans (k3.trans k'))) (by simpa only [List.append_assoc] using a') q'
  cases d with
  | obj j =>
    simp only at h3
    split at h3
    · rename_i kvs e1
      split at h3
      · rename_i kk hkk
        obtain ⟨b, ys, eb, _, h5, h6⟩ := dk_at rg3 a3 e1
        rw [ea] at eb
        cases eb
        refine ⟨valV ys kk, ?_, ?_⟩
        · rw [keyD_at (At.mono (θ' := θ3) k3 k y at2) hkk]
          exact DGet.k h5
        · rcases valD_at kk h6 with ⟨z1, z2⟩ | ⟨x1, d1, z1, z2, z3⟩
          · rw [z1]
            rw [z2] at h3
            exact fin0 rg3 fin' at3 h3
          · rw [z1]
            rw [z2] at h3
            exact fin0 rg3 fin' z3 h3
      · exact h3.elim
    · exact h3.elim
  | _ => exact h3.elim

/-! {} -/
def wDnew : DT := fun _ μ q _ => q (.obj μ.length) (μ ++ [.dk []])
theorem pd_dnew {X : Cx} {T : List (Addr × Str)} {E : XK} {pos : Pos} : PD X T E (.Dict [] [] pos) wDnew := by
  refine PE.imp pe_dnewK ?_
  rintro σ H Q ⟨θ, μ, ρ, qd, xd, rg, rs, xs, h, fin⟩
  intro p hp
  exact fin (.obj μ.length) (μ ++ [MO.dk []]) [p] (.ref p) _ (rg.new hp (m := .dk []) ⟨[], upd_same, rfl, rfl⟩) (Kp.new hp) (at_new rg) h

/-! {k: v, ..} -/
def putD {κ : Type} [DecidableEq κ] (kvs : List (κ × D)) (k : κ) (v : D) : List (κ × D) :=
  if (kvs.any fun kv => decide (kv.1 = k)) = true then kvs.map (fun kv => if kv.1 = k then (kv.1, v) else kv) else kvs ++ [(k, v)]
theorem putD_at {K : PySem.W.Frag} {H : Hp} {θ : Th} {κ : Type} [DecidableEq κ] {kvs : List (κ × D)} {xs : List (κ × V)} (h : KVAt K H θ kvs xs) (k : κ) {d : D} {x : V} (hd : At K H θ d x) : KVAt K H θ (putD kvs k d) (putK xs k x) := by
  have ea : (kvs.any fun kv => decide (kv.1 = k)) = (xs.any fun kv => decide (kv.1 = k)) := by
    have e := congrArg (fun l => List.any l fun a => decide (a = k)) h.1
    simp only [List.any_map] at e
    exact e
  unfold putD putK
  rw [ea]
  split
  · have all : ∀ {kvs : List (κ × D)} {xs : List (κ × V)}, KVAt K H θ kvs xs → KVAt K H θ (kvs.map (fun kv => if kv.1 = k then (kv.1, d) else kv)) (xs.map (fun kv => if kv.1 = k then (kv.1, x) else kv)) := by
      intro kvs
      induction kvs with
      | nil =>
        intro xs h
        have : xs = [] := by
          have := h.1
          simpa using this.symm
        subst this
        exact h
      | cons p kvs ih =>
        intro xs h
        cases xs with
        | nil => have := h.1; simp at this
        | cons r xs =>
          have h1 : p.1 = r.1 ∧ kvs.map (·.1) = xs.map (·.1) := by
            have := h.1
            simpa using this
          obtain ⟨y, s, e, h2, h3⟩ := h.2
          obtain ⟨rfl, rfl⟩ : r.2 = y ∧ xs.map (·.2) = s := by simpa using e
          obtain ⟨i1, i2⟩ := ih ⟨h1.2, h3⟩
          refine ⟨?_, ?_⟩
          · rw [List.map_cons, List.map_cons, List.map_cons, List.map_cons, i1, h1.1]
            congr 1
            split <;> (first | rfl | exact h1.1)
          · rw [List.map_cons, List.map_cons, List.map_cons, List.map_cons]
            refine ⟨_, _, rfl, ?_, i2⟩
            rw [h1.1]
            split
            · exact hd
            · exact h2
    exact all h
  · refine ⟨by rw [List.map_append, List.map_append, h.1]; rfl, ?_⟩
    rw [List.map_append, List.map_append]
    exact h.2.append (AtL.one hd)
def mergeD (kvs more : List (Key × D)) : List (Key × D) := more.foldl (fun acc kv => putD acc kv.1 kv.2) kvs
theorem mergeD_at {K : PySem.W.Frag} {H : Hp} {θ : Th} : ∀ {more : List (Key × D)} {ms : List (Key × V)} {kvs : List (Key × D)} {xs : List (Key × V)}, KVAt K H θ more ms → KVAt K H θ kvs xs → KVAt K H θ (mergeD kvs more) (mergeK xs ms)
  | [], ms, _, _, h, h' => by
    have : ms = [] := by
      have := h.1
      simpa using this.symm
    subst this
    exact h'
  | (k, d) :: more, [], _, _, h, _ => by have := h.1; simp at this
  | (k, d) :: more, (b, x) :: ms, kvs, xs, h, h' => by
    have h1 : k = b ∧ more.map (·.1) = ms.map (·.1) := by
      have := h.1
      simpa using this
    obtain ⟨rfl, h1⟩ := h1
    obtain ⟨y, r, e, h2, h3⟩ := h.2
    obtain ⟨rfl, rfl⟩ : x = y ∧ ms.map (·.2) = r := by simpa using e
    exact mergeD_at (more := more) (ms := ms) ⟨h1, h3⟩ (putD_at h' k h2)
def wPairs : List (DT × DT) → Rho → Mu → (List (D × D) → Mu → Prop) → XD → Prop
  | [], _, μ, q, _ => q [] μ
  | (tk, tv) :: r, ρ, μ, q, x => tk ρ μ (fun d μ1 => tv ρ μ1 (fun e μ2 => wPairs r ρ μ2 (fun ps μ3 => q ((d, e) :: ps) μ3) x) x) x
def keysOf : List (D × D) → Option (List (Key × D))
  | [] => some []
  | (d, e) :: ps => match keyD d, keysOf ps with
    | some k, some kvs => some ((k, e) :: kvs)
    | _, _ => none
def wDisp (trs : List (DT × DT)) : DT := fun ρ μ q x => wPairs trs ρ (μ ++ [.dk []]) (fun ps μ2 => μ2[μ.length]? = some (.dk []) ∧ match keysOf ps with
  | some kvs => kvs.length ≤ 15 ∧ q (.obj μ.length) (μ2.set μ.length (.dk (mergeD [] kvs)))
  | none => False) x
section
variable {X : Cx} {T : List (Addr × Str)} {E : XK}
def PDPs (X : Cx) (T : List (Addr × Str)) (E : XK) (pos : Pos) (keys : List (Option Expr)) (values : List Expr) (trs : List (DT × DT)) : Prop := PPs X pos keys values (trs.map fun p => (lE X.K T E p.1, lE X.K T E p.2))
theorem pdps_nil {pos : Pos} : PDPs X T E pos [] [] [] := pps_nil
theorem pdps_cons {pos : Pos} {k v : Expr} {ks : List (Option Expr)} {vs : List Expr} {tk tv : DT} {trs : List (DT × DT)} (hk : PD X T E k tk) (hv : PD X T E v tv) (hr : PDPs X T E pos ks vs trs) : PDPs X T E pos (some k :: ks) (v :: vs) ((tk, tv) :: trs) := pps_cons hk hv hr
theorem pairs_at {K : PySem.W.Frag} : ∀ (trs : List (DT × DT)) (θ : Th) (μ : Mu) (ρ : Rho) (σ : L2.St) (H : Hp) (qd : List (D × D) → Mu → Prop) (xd : XD) (Q : List (V × V) → Hp → Prop), RG K T θ μ H → RS K θ ρ σ H → XS K T E θ H xd → wPairs trs ρ μ qd xd →
    (∀ ps μ' θ' vs H', RG K T (θ ++ θ') μ' H' → Kp H H' → AtL K H' (θ ++ θ') (ps.map (·.1)) (vs.map (·.1)) → AtL K H' (θ ++ θ') (ps.map (·.2)) (vs.map (·.2)) → qd ps μ' → Q vs H') →
    tPairs (trs.map fun p => (lE K T E p.1, lE K T E p.2)) σ H Q
  | [], θ, μ, ρ, σ, H, qd, xd, Q, rg, rs, xs, h, fin => fin [] μ [] [] H (rg0 rg) (Kp.refl H) rfl rfl h
  | (tk, tv) :: trs, θ, μ, ρ, σ, H, qd, xd, Q, rg, rs, xs, h, fin => by
    refine ⟨θ, μ, ρ, _, xd, rg, rs, xs, h, fun d μ1 θ1 v H1 rg1 k1 at1 h1 => ?_⟩
    refine ⟨θ ++ θ1, μ1, ρ, _, xd, rg1, rs.mono k1, xs.next k1, h1, fun e μ2 θ2 w H2 rg2 k2 at2 h2 => ?_⟩
    refine pairs_at trs _ μ2 ρ σ H2 _ xd _ rg2 ((rs.mono k1).mono k2) ((xs.next k1).next k2) h2 fun ps μ' θ' vs H' r' k' a1 a2 q' => ?_
    refine fin ((d, e) :: ps) μ' (θ1 ++ (θ2 ++ θ')) ((v, w) :: vs) H' (by simpa only [List.append_assoc] using r') (k1.trans (k2.trans k')) ?_ ?_ q'
    · rw [show θ ++ (θ1 ++ (θ2 ++ θ')) = θ ++ θ1 ++ θ2 ++ θ' by simp only [List.append_assoc]]
      exact ⟨v, _, rfl, At.mono k' d v (At.mono k2 d v at1), a1⟩
    · rw [show θ ++ (θ1 ++ (θ2 ++ θ')) = θ ++ θ1 ++ θ2 ++ θ' by simp only [List.append_assoc]]
      exact ⟨w, _, rfl, At.mono k' e w at2, a2⟩
theorem keysOf_at {K : PySem.W.Frag} {H : Hp} {θ : Th} : ∀ {ps : List (D × D)} {vs : List (V × V)} {kvs : List (Key × D)}, AtL K H θ (ps.map (·.1)) (vs.map (·.1)) → AtL K H θ (ps.map (·.2)) (vs.map (·.2)) → keysOf ps = some kvs →
    ∃ xs : List (Key × V), vs = xs.map (fun kv => (kV kv.1, kv.2)) ∧ KVAt K H θ kvs xs
  | [], vs, kvs, h1, _, e => by
    cases e
    have : vs = [] := List.map_eq_nil_iff.mp h1
    subst this
    exact ⟨[], rfl, rfl, rfl⟩
  | (d, e) :: ps, vs, kvs, h1, h2, hk => by
    cases vs with
    | nil => obtain ⟨x, r, z, _⟩ := h1; cases z
    | cons v vs =>
      obtain ⟨x, r, z, a1, a2⟩ := h1
      obtain ⟨rfl, rfl⟩ : v.1 = x ∧ vs.map (·.1) = r := by simpa using z
      obtain ⟨x, r, z, b1, b2⟩ := h2
      obtain ⟨rfl, rfl⟩ : v.2 = x ∧ vs.map (·.2) = r := by simpa using z
      unfold keysOf at hk
      split at hk
      · rename_i k ks e1 e2
        cases hk
        obtain ⟨xs, rfl, c1, c2⟩ := keysOf_at a2 b2 e2
        refine ⟨(k, v.2) :: xs, ?_, ?_, ?_⟩
        · rw [List.map_cons, ← keyD_at a1 e1]
        · rw [List.map_cons, List.map_cons, c1]
        · exact ⟨_, _, rfl, b1, c2⟩
      · cases hk
theorem pd_disp {pos : Pos} {keys : List (Option Expr)} {values : List Expr} {trs : List (DT × DT)} (h : PDPs X T E pos keys values trs) (hall : keys.all (·.isSome) = true := by rfl) (hl : keys.length = values.length := by rfl) (h0 : keys ≠ [] := by exact fun z => nomatch z)
    (h15 : keys.length ≤ 15 := by decide) : PD X T E (.Dict keys values pos) (wDisp trs) := by
  refine PE.imp (pe_disp h hall hl h0 h15) ?_
  rintro σ H Q ⟨θ, μ, ρ, qd, xd, rg, rs, xs, h, fin⟩
  intro p hp
  have rg1 : RG X.K T (θ ++ [p]) (μ ++ [.dk []]) (upd H p (.dK [])) := rg.new hp ⟨[], upd_same, rfl, rfl⟩
  refine pairs_at trs _ _ ρ σ _ _ xd _ rg1 (rs.mono (Kp.new hp)) (xs.next (Kp.new hp)) h fun ps μ' θ' vs H' r' k' a1 a2 q' => ?_
  obtain ⟨e1, q'⟩ := q'
  have ep : (θ ++ [p] ++ θ')[μ.length]? = some p := by
    rw [List.append_assoc, ← rg.len, List.getElem?_append_right (Nat.le_refl _), Nat.sub_self]
    rfl
  obtain ⟨ys, h1, h2, _⟩ := r'.ob _ p _ ep e1
  have : ys = [] := List.map_eq_nil_iff.mp h2.symm
  subst this
  refine ⟨h1, ?_⟩
  split at q'
  · rename_i kvs e2
    obtain ⟨zs, e3, c1, c2⟩ := keysOf_at a1 a2 e2
    have hlen : zs.length = kvs.length := by
      have := congrArg List.length c1
      simpa using this.symm
    refine ⟨zs, e3, by rw [hlen]; exact q'.1, ?_⟩
    have kp : Kp H' (upd H' p (.dK (mergeK [] zs))) := Kp.mut h1 rfl
    have r2 := r'.upd ep h1 rfl (fun _ z => by cases z) (m := .dk (mergeD [] kvs)) ⟨_, upd_same, mergeD_at (kvs := []) (xs := []) ⟨c1, c2.kp kp⟩ ⟨rfl, rfl⟩⟩
    refine fin (.obj μ.length) _ ([p] ++ θ') (.ref p) _ (by simpa only [List.append_assoc] using r2) ((Kp.new hp).trans (k'.trans kp)) ⟨p, by simpa only [List.append_assoc] using ep, rfl⟩ q'.2
  · exact q'.elim
end
end DL

set_option Elab.async false
set_option linter.all false
set_option maxRecDepth 100000
set_option maxHeartbeats 4000000
namespace DL
open PySem PySem.Spec PyProof.Rows L2 LamX

/-! ### targets -/
abbrev DG := D → Rho → Mu → (Rho → Mu → Prop) → XD → Prop
abbrev DGs := List D → Rho → Mu → (Rho → Mu → Prop) → XD → Prop
def gN (i : Nat) : DG := fun d ρ μ q _ => q (ρ.set i (some d)) μ
def gNl : DGs := fun ds ρ μ q _ => match ds with
  | [] => q ρ μ
  | _ => False
def gCn (g : DG) (r : DGs) : DGs := fun ds ρ μ q x => match ds with
  | d :: ds => g d ρ μ (fun ρ' μ' => r ds ρ' μ' q x) x
  | [] => False
def gTp (n : Nat) (g : DGs) : DG := fun d ρ μ q x => match d with
  | .tup ds => ds.length = n ∧ g ds ρ μ q x
  | _ => False
/-- o[i] = d, by values -/
def opSet : D → D → D → Mu → (Mu → Prop) → Prop := fun o i d μ q => match o with
  | .obj j => match μ[j]? with
    | some (.lst ds) => match i with
      | .int i => match ixN ds.length i with
        | some k => q (μ.set j (.lst (ds.set k d)))
        | none => False
      | _ => False
    | some (.dk kvs) => match keyD i with
      | some k => kvs.length < sizeLine ∧ q (μ.set j (.dk (putD kvs k d)))
      | none => False
    | _ => False
  | _ => False
def gSb (to ti : DT) : DG := fun d ρ μ q x => to ρ μ (fun o μ1 => ti ρ μ1 (fun i μ2 => opSet o i d μ2 fun μ3 => q ρ μ3) x) x
/-- stores at the told places alone -/
def OutOf (L : List Nat) (σ σ' : L2.St) : Prop := σ'.length = σ.length ∧ ∀ i, i ∉ L → σ'[i]? = σ[i]?
theorem OutOf.refl (σ : L2.St) : OutOf [] σ σ := ⟨rfl, fun _ _ => rfl⟩
theorem OutOf.trans {L M : List Nat} {σ σ1 σ2 : L2.St} (a : OutOf L σ σ1) (b : OutOf M σ1 σ2) : OutOf (L ++ M) σ σ2 := ⟨b.1.trans a.1, fun i hi => by
  rw [List.mem_append, not_or] at hi
  exact (b.2 i hi.2).trans (a.2 i hi.1)⟩
def lG (K : PySem.W.Frag) (T : List (Addr × Str)) (E : XK) (L : List Nat) (g : DG) : TG := fun v σ H Q => ∃ (θ : Th) (μ : Mu) (ρ : Rho) (d : D) (qd : Rho → Mu → Prop) (xd : XD), RG K T θ μ H ∧ RS K θ ρ σ H ∧ XS K T E θ H xd ∧ At K H θ d v ∧ g d ρ μ qd xd ∧
  ∀ ρ' μ' θ' σ' H', RG K T (θ ++ θ') μ' H' → RS K (θ ++ θ') ρ' σ' H' → Kp H H' → OutOf L σ σ' → qd ρ' μ' → Q σ' H'
def lGs (K : PySem.W.Frag) (T : List (Addr × Str)) (E : XK) (L : List Nat) (g : DGs) : TGs := fun vs σ H Q => ∃ (θ : Th) (μ : Mu) (ρ : Rho) (ds : List D) (qd : Rho → Mu → Prop) (xd : XD), RG K T θ μ H ∧ RS K θ ρ σ H ∧ XS K T E θ H xd ∧ AtL K H θ ds vs ∧ g ds ρ μ qd xd ∧
  ∀ ρ' μ' θ' σ' H', RG K T (θ ++ θ') μ' H' → RS K (θ ++ θ') ρ' σ' H' → Kp H H' → OutOf L σ σ' → qd ρ' μ' → Q σ' H'
def PDG (X : Cx) (T : List (Addr × Str)) (E : XK) (tg : Expr) (L : List Nat) (g : DG) : Prop := PG X tg (lG X.K T E L g)
def PDGs (X : Cx) (T : List (Addr × Str)) (E : XK) (tgs : List Expr) (L : List Nat) (g : DGs) : Prop := PGs X tgs (lGs X.K T E L g)
theorem PG.imp {X : Cx} {e : Expr} {t t' : TG} (h : PG X e t) (i : ∀ v σ H Q, t' v σ H Q → t v σ H Q) : PG X e t' := ⟨fun pins s σ H v u Q I r hw => h.run pins s σ H v u Q I r (i _ _ _ _ hw)⟩
theorem PGs.imp {X : Cx} {e : List Expr} {t t' : TGs} (h : PGs X e t) (i : ∀ v σ H Q, t' v σ H Q → t v σ H Q) : PGs X e t' := ⟨fun pins s σ H v u Q I r hw => h.run pins s σ H v u Q I r (i _ _ _ _ hw)⟩
theorem rs0 {K : PySem.W.Frag} {θ : Th} {ρ : Rho} {σ : L2.St} {H : Hp} (h : RS K θ ρ σ H) : RS K (θ ++ []) ρ σ H := by rw [List.append_nil]; exact h
section
variable {X : Cx} {T : List (Addr × Str)} {E : XK} {pos : Pos}
theorem pdg_name (i : Nat) {x : Str} (hN : X.N.Nodup) (hi : X.N[i]? = some x := by rfl) (hx : Loc X.env.scope x := by first | exact Or.inl rfl | exact Or.inr rfl) (hf : X.fn x = true ∨ X.env.scope.names.lookup x = some .local := by first | exact .inl rfl | exact .inr rfl | assumption) : PDG X T E (.Name x pos) [i] (gN i) := by
  refine PG.imp (pg_name hN hi hx hf) ?_
  rintro v σ H Q ⟨θ, μ, ρ, d, qd, xd, rg, rs, xs, a, h, fin⟩
  exact fin _ μ [] _ H (rg0 rg) (rs0 (rs.set i a)) (Kp.refl H) ⟨List.length_set, fun j hj => List.getElem?_set_ne (fun z => hj (by simp [z]))⟩ h
theorem pdgs_nil : PDGs X T E [] [] gNl := by
  refine PGs.imp pgs_nil ?_
  rintro v σ H Q ⟨θ, μ, ρ, ds, qd, xd, rg, rs, xs, a, h, fin⟩
  cases ds with
  | nil => exact ⟨a, fin _ μ [] _ H (rg0 rg) (rs0 rs) (Kp.refl H) (OutOf.refl σ) h⟩
  | cons _ _ => exact h.elim
theorem pdgs_cons {e : Expr} {es : List Expr} {L M : List Nat} {t : DG} {u : DGs} (h1 : PDG X T E e L t) (h2 : PDGs X T E es M u)
    (hs : (assignEach (e :: es) X.env).map (·.2) = assign e X.env :: (assignEach es X.env).map (·.2) := by rfl) : PDGs X T E (e :: es) (L ++ M) (gCn t u) := by
  refine PGs.imp (pgs_cons h1 h2 hs) ?_
  rintro vs σ H Q ⟨θ, μ, ρ, ds, qd, xd, rg, rs, xs, a, h, fin⟩
  cases ds with
  | nil => exact h.elim
  | cons d ds =>
    obtain ⟨v, r, rfl, a1, a2⟩ := a
    refine ⟨v, r, rfl, θ, μ, ρ, d, _, xd, rg, rs, xs, a1, h, fun ρ1 μ1 θ1 σ1 H1 rg1 rs1 k1 o1 h1 => ?_⟩
    exact ⟨_, μ1, ρ1, ds, qd, xd, rg1, rs1, xs.next k1, AtL.mono k1 _ _ a2, h1, fun ρ' μ' θ' σ' H' r' s' k' o' q' =>
      fin ρ' μ' (θ1 ++ θ') σ' H' (by simpa only [List.append_assoc] using r') (by simpa only [List.append_assoc] using s') (k1.trans k') (o1.trans o') q'⟩
theorem pdg_tup {es : List Expr} {k : Nat} {L : List Nat} {t : DGs} {n : Nat} (hc : X.calm = true) (h : PDGs X T E es L t)
    (hn : (assignEach es X.env).length = n := by rfl) (hst : (assignEach es X.env).findIdx? (·.1) = none := by rfl) : PDG X T E (.Tuple es k pos) L (gTp n t) := by
  refine PG.imp (pg_tup hc h hn hst) ?_
  rintro v σ H Q ⟨θ, μ, ρ, d, qd, xd, rg, rs, xs, a, h, fin⟩
  cases d with
  | tup ds =>
    obtain ⟨b, ys, rfl, h1, h2⟩ := a
    exact ⟨b, ys, rfl, h1, by rw [h2.length]; exact h.1, θ, μ, ρ, ds, qd, xd, rg, rs, xs, h2, h.2, fin⟩
  | _ => exact h.elim
def rSetA : TSet := fun o i v H Q => rSetL o i v H Q ∨ ∃ a H', o = .ref a ∧ DPut H a i v H' ∧ Q H'
theorem pset_all {k : Nat} (hr : Room k X.A) : PSet X rSetA := by
  intro pins s σ H o i v ov iv u Q I ro ri rv h
  rcases h with h | ⟨a, H', rfl, g, q⟩
  · exact set_list pins s σ H o i v ov iv u Q I ro ri rv h
  · obtain rfl : ov = Value.ref a := ro
    exact d_setItem (hu_of hr) I g ri rv fun s' I' => ⟨H', I', q⟩
theorem pdg_sub {o i : Expr} {to ti : DT} {k : Nat} (hr : Room k X.A) (ho : PD X T E o to) (hi : PD X T E i ti)
    (ha : ∀ v, assign (.Subscript o i pos) X.env v = (do
      let ov ← holding [v] (eval o X.env)
      let iv ← holding [v, ov] (eval i X.env)
      standAt pos
      holding [v, ov, iv] (setItem ov iv v)
      release [v, ov, iv] []) := by intro _; rfl) : PDG X T E (.Subscript o i pos) [] (gSb to ti) := by
  refine PG.imp (pg_sub ho hi (pset_all hr) ha) ?_
  rintro v σ H Q ⟨θ, μ, ρ, d, qd, xd, rg, rs, xs, a, h, fin⟩
  refine ⟨θ, μ, ρ, _, xd, rg, rs, xs, h, fun o μ1 θ1 ov H1 rg1 k1 at1 h1 => ?_⟩
  refine ⟨θ ++ θ1, μ1, ρ, _, xd, rg1, rs.mono k1, xs.next k1, h1, fun i μ2 θ2 iv H2 rg2 k2 at2 h2 => ?_⟩
  have ao := At.mono (θ' := θ2) k2 o ov at1
  have ad := At.mono (θ' := θ2) k2 d v (At.mono (θ' := θ1) k1 d v a)
  have rs2 := (rs.mono (θ' := θ1) k1).mono (θ' := θ2) k2
  unfold opSet at h2
  cases o with
  | obj j =>
    simp only at h2
    split at h2
    · rename_i ds e1
      split at h2
      · split at h2
        · rename_i n hn
          obtain ⟨b, ys, rfl, e2, h3, h4⟩ := lst_at rg2 ao e1
          have kp : Kp H2 (upd H2 b (.lst (ys.set n v))) := Kp.mut h3 rfl
          refine .inl ⟨b, ys, _, n, rfl, at2, h3, by rw [h4.length]; exact hn, ?_⟩
          refine fin ρ _ (θ1 ++ θ2) σ _ ?_ ?_ (k1.trans (k2.trans kp)) (OutOf.refl σ) h2
          · rw [← List.append_assoc]
            exact rg2.upd e2 h3 rfl (fun _ z => by cases z) (m := .lst _) ⟨_, upd_same, (h4.set n ad).kp kp⟩
          · rw [← List.append_assoc]
            have := rs2.mono (θ' := []) kp
            rwa [List.append_nil] at this
        · exact h2.elim
      · exact h2.elim
    · rename_i kvs e1
      split at h2
      · rename_i kk hk
        obtain ⟨b, ys, rfl, e2, h3, h4⟩ := dk_at rg2 ao e1
        have hl : ys.length = kvs.length := by
          have := congrArg List.length h4.1
          simpa using this.symm
        have kp : Kp H2 (upd H2 b (.dK (putK ys kk v))) := Kp.mut h3 rfl
        refine .inr ⟨b, _, rfl, .inl ⟨ys, kk, h3, keyD_at at2 hk, by rw [hl]; exact h2.1, rfl⟩, ?_⟩
        refine fin ρ _ (θ1 ++ θ2) σ _ ?_ ?_ (k1.trans (k2.trans kp)) (OutOf.refl σ) h2.2
        · rw [← List.append_assoc]
          refine rg2.upd e2 h3 rfl (fun _ z => by cases z) (m := .dk _) ⟨_, upd_same, ?_⟩
          have := putD_at h4 kk ad
          exact ⟨this.1, this.2.kp kp⟩
        · rw [← List.append_assoc]
          have := rs2.mono (θ' := []) kp
          rwa [List.append_nil] at this
      · exact h2.elim
    · exact h2.elim
  | _ => exact h2.elim

/-! ### small statements -/
def wAsg (t : DT) (g : DG) : DS := fun de ρ μ => t ρ μ (fun d μ1 => g d ρ μ1 de.nx de.ex) de.ex
def wRet (t : DT) : DS := fun de ρ μ => t ρ μ de.rt de.ex
def wRetN : DS := fun de _ μ => de.rt .non μ
def wExp (t : DT) : DS := fun de ρ μ => t ρ μ (fun _ μ1 => de.nx ρ μ1) de.ex
def wSkip : DS := fun de ρ μ => de.nx ρ μ
def wBrk : DS := fun de ρ μ => de.bk ρ μ
def wCnt : DS := fun de ρ μ => de.ct ρ μ
def wNever : DS := fun _ _ _ => False
def wSeq (t u : DS) : DS := fun de ρ μ => t { de with nx := fun ρ' μ' => u de ρ' μ' } ρ μ
def wIfS (c : DB) (t u : DS) : DS := fun de ρ μ => c ρ μ (fun b μ1 => match b with
  | true => t de ρ μ1
  | false => u de ρ μ1) de.ex
def wPar (i j : Nat) (a b : DT) : DS := fun de ρ μ => a ρ μ (fun d μ1 => b ρ μ1 (fun e μ2 => de.nx ((ρ.set i (some d)).set j (some e)) μ2) de.ex) de.ex
variable {e : Expr} {te : DT}
theorem rsn {K : PySem.W.Frag} {θ θ1 θ2 : Th} {ρ : Rho} {σ : L2.St} {H : Hp} (h : RS K (θ ++ θ1 ++ θ2) ρ σ H) : RS K (θ ++ (θ1 ++ θ2)) ρ σ H := by rw [← List.append_assoc]; exact h
theorem pds_asg {tg : Expr} {L : List Nat} {g : DG} (he : PD X T E e te) (hg : PDG X T E tg L g) (hs : swapsWithSole [tg] e pos.line X.env = pure false := by rfl) (hw : swappedStores [tg] e X.env = pure none := by rfl)
    (h1 : (assignEach [tg] X.env).map (·.2) = [assign tg X.env] := by rfl) : PDS X T E (.Assign [tg] e pos) (wAsg te g) := by
  refine PS.imp (ps_asg he hg hs hw h1) ?_
  rintro Dn σ H ⟨θ, μ, ρ, de, rg, rs, es, h⟩
  refine ⟨θ, μ, ρ, _, de.ex, rg, rs, es.ex, h, fun d μ1 θ1 v H1 rg1 k1 at1 h1 => ?_⟩
  exact ⟨_, μ1, ρ, d, de.nx, de.ex, rg1, rs.mono k1, es.ex.next k1, at1, h1, fun ρ' μ' θ' σ' H' r s k _ q => (es.next k1).nx ρ' μ' θ' σ' H' r s k q⟩
theorem pds_ret (he : PD X T E e te) : PDS X T E (.Return (some e) pos) (wRet te) := by
  refine PS.imp (ps_ret he) ?_
  rintro Dn σ H ⟨θ, μ, ρ, de, rg, rs, es, h⟩
  exact ⟨θ, μ, ρ, de.rt, de.ex, rg, rs, es.ex, h, es.rt⟩
theorem pds_retN : PDS X T E (.Return none pos) wRetN := by
  refine PS.imp ps_retN ?_
  rintro Dn σ H ⟨θ, μ, ρ, de, rg, rs, es, h⟩
  exact es.rt .non μ [] .non H (rg0 rg) (Kp.refl H) rfl h
theorem pds_expr (he : PD X T E e te) (hs : swapsWith e none pos.line X.env = pure false := by rfl) : PDS X T E (.Expr e pos) (wExp te) := by
  refine PS.imp (ps_expr he hs) ?_
  rintro Dn σ H ⟨θ, μ, ρ, de, rg, rs, es, h⟩
  exact ⟨θ, μ, ρ, _, de.ex, rg, rs, es.ex, h, fun d μ1 θ1 v H1 rg1 k1 at1 h1 => es.nx ρ μ1 θ1 σ H1 rg1 (rs.mono k1) k1 h1⟩
theorem pds_pass : PDS X T E (.Pass pos) wSkip := by
  refine PS.imp ps_pass ?_
  rintro Dn σ H ⟨θ, μ, ρ, de, rg, rs, es, h⟩
  exact es.nx ρ μ [] σ H (rg0 rg) (rs0 rs) (Kp.refl H) h
theorem pds_break : PDS X T E (.Break pos) wBrk := by
  refine PS.imp ps_break ?_
  rintro Dn σ H ⟨θ, μ, ρ, de, rg, rs, es, h⟩
  exact es.bk ρ μ [] σ H (rg0 rg) (rs0 rs) (Kp.refl H) h
theorem pds_continue : PDS X T E (.Continue pos) wCnt := by
  refine PS.imp ps_continue ?_
  rintro Dn σ H ⟨θ, μ, ρ, de, rg, rs, es, h⟩
  exact es.ct ρ μ [] σ H (rg0 rg) (rs0 rs) (Kp.refl H) h
theorem pds_never {st : Stmt} : PDS X T E st wNever := ⟨fun _ _ _ _ _ _ ⟨_, _, _, _, _, _, _, h⟩ => h.elim⟩
theorem pdss_never {st : List Stmt} : PDSs X T E st wNever := ⟨fun _ _ _ _ _ _ ⟨_, _, _, _, _, _, _, h⟩ => h.elim⟩
theorem pdss_nil : PDSs X T E [] wSkip := by
  refine PSs.imp pss_nil ?_
  rintro Dn σ H ⟨θ, μ, ρ, de, rg, rs, es, h⟩
  exact es.nx ρ μ [] σ H (rg0 rg) (rs0 rs) (Kp.refl H) h
theorem pdss_one {st : Stmt} {t : DS} (h : PDS X T E st t) : PDSs X T E [st] t := pss_one h
theorem pdss_cons {st : Stmt} {rest : List Stmt} {t u : DS} (h1 : PDS X T E st t) (h2 : PDSs X T E rest u) : PDSs X T E (st :: rest) (wSeq t u) := by
  refine PSs.imp (pss_cons h1 h2) ?_
  rintro Dn σ H ⟨θ, μ, ρ, de, rg, rs, es, h⟩
  exact ⟨θ, μ, ρ, { de with nx := fun ρ' μ' => u de ρ' μ' }, rg, rs, ⟨fun ρ' μ' θ' σ' H' r' s' k' q' => ⟨_, μ', ρ', de, r', s', es.next k', q'⟩, es.bk, es.ct, es.rt, es.ex⟩, h⟩
theorem pds_if {c : Expr} {a b : List Stmt} {tc : DB} {t u : DS} (hc : PB X T E c tc) (ha : PDSs X T E a t) (hb : PDSs X T E b u) : PDS X T E (.If c a b pos) (wIfS tc t u) := by
  refine PS.imp (ps_if hc ha hb) ?_
  rintro Dn σ H ⟨θ, μ, ρ, de, rg, rs, es, h⟩
  refine ⟨θ, μ, ρ, _, de.ex, rg, rs, es.ex, h, fun c μ1 θ1 H1 rg1 k1 h1 => ?_⟩
  cases c with
  | true => exact iteT ⟨_, μ1, ρ, de, rg1, rs.mono k1, es.next k1, h1⟩
  | false => exact iteF ⟨_, μ1, ρ, de, rg1, rs.mono k1, es.next k1, h1⟩
/-- a, b = x, y -/
theorem pds_par {i j : Nat} {x y : Str} {a b : Expr} {ta tb : DT} {px py pt : Pos} {kt k2 pt2} (hc : X.calm = true) (hN : X.N.Nodup) (ha : PD X T E a ta) (hb : PD X T E b tb) (hi : X.N[i]? = some x := by rfl) (hj : X.N[j]? = some y := by rfl) (hij : i ≠ j := by decide)
    (hx : X.env.scope.names.lookup x = some .local := by rfl) (hy : X.env.scope.names.lookup y = some .local := by rfl)
    (hw : swappedStores [.Tuple [.Name x px, .Name y py] kt pt] (.Tuple [a, b] k2 pt2) X.env = pure (some [x, y]) := by rfl)
    (hs : swapsWithSole [.Tuple [.Name x px, .Name y py] kt pt] (.Tuple [a, b] k2 pt2) pos.line X.env = pure false := by rfl)
    (st1 : starEach [a, b] X.env = (false, eval a X.env) :: starEach [b] X.env := by rfl) (st2 : starEach [b] X.env = (false, eval b X.env) :: starEach [] X.env := by rfl) :
    PDS X T E (.Assign [.Tuple [.Name x px, .Name y py] kt pt] (.Tuple [a, b] k2 pt2) pos) (wPar i j ta tb) := by
  refine PS.imp (ps_par hc hN hi hj hij hx hy (pda_cons ha (pda_cons hb pda_nil st2) st1) hw hs) ?_
  rintro Dn σ H ⟨θ, μ, ρ, de, rg, rs, es, h⟩
  refine ⟨θ, μ, ρ, fun ds μ' => match ds with
    | [d, e] => de.nx ((ρ.set i (some d)).set j (some e)) μ'
    | _ => False, de.ex, rg, rs, es.ex, h, fun ds μ1 θ1 vs H1 rg1 k1 at1 h1 => ?_⟩
  dsimp only at h1
  split at h1
  · rename_i d e
    obtain ⟨v, w, rfl, a1, a2⟩ := atl2 at1
    exact ⟨v, w, rfl, es.nx _ μ1 θ1 _ H1 rg1 (((rs.mono k1).set i a1).set j a2) k1 h1⟩
  · exact h1.elim
end

/-! ### what is walked -/
/-- the items, and what must stand at each turn -/
structure DIt where
  items : List D
  ok : Mu → Prop
def ItOk (K : PySem.W.Frag) (T : List (Addr × Str)) (J : It) (I : DIt) (θ : Th) (H : Hp) : Prop := ∀ (θ' : Th) (μ' : Mu) (H' : Hp), RG K T (θ ++ θ') μ' H' → Kp H H' → I.ok μ' →
  J.stop I.items.length H' ∧ ∀ (i : Nat) (d : D), I.items[i]? = some d → J.go i H' ∧ ∀ x H'', J.yld i H' x H'' → RG K T (θ ++ θ') μ' H'' ∧ Kp H' H'' ∧ At K H'' (θ ++ θ') d x
abbrev DI := Rho → Mu → (DIt → Mu → Prop) → XD → Prop
def lI (K : PySem.W.Frag) (T : List (Addr × Str)) (E : XK) (w : DI) : TI := fun σ H R => ∃ (θ : Th) (μ : Mu) (ρ : Rho) (qd : DIt → Mu → Prop) (xd : XD), RG K T θ μ H ∧ RS K θ ρ σ H ∧ XS K T E θ H xd ∧ w ρ μ qd xd ∧
  ∀ I μ' θ' J H', RG K T (θ ++ θ') μ' H' → Kp H H' → ItOk K T J I (θ ++ θ') H' → qd I μ' → R J H'
def PDI (X : Cx) (T : List (Addr × Str)) (E : XK) (tg iter : Expr) (w : DI) : Prop := PI X tg iter (lI X.K T E w)
theorem PI.imp {X : Cx} {tg e : Expr} {t t' : TI} (h : PI X tg e t) (i : ∀ σ H R, t' σ H R → t σ H R) : PI X tg e t' := ⟨fun pins s σ H R I hw => h.run pins s σ H R I (i _ _ _ hw)⟩
section
variable {X : Cx} {T : List (Addr × Str)} {E : XK} {pos : Pos} {tg e : Expr} {te : DT}
/-- a list or a tuple -/
def wItSeq (t : DT) : DI := fun ρ μ q x => t ρ μ (fun d μ1 => match d with
  | .tup ds => q ⟨ds, fun _ => True⟩ μ1
  | .obj j => match lstOf μ1 j with
    | some ds => q ⟨ds, fun μ' => lstOf μ' j = some ds⟩ μ1
    | none => False
  | _ => False) x
def iSeqA (K : PySem.W.Frag) (tl : TE) : TI := fun σ H R => tl σ H fun x H1 => ∃ a, x = .ref a ∧ (((∃ xs, SqL K H1 a xs) ∧ R (Itl K a) H1) ∨ ((∃ xs, SqT K H1 a xs) ∧ R (Itt K a) H1))
theorem pi_seq {l : Expr} {tl : TE} (hl : PE X l tl) : PI X tg l (iSeqA X.K tl) := by
  refine ⟨fun pins s σ H R I h => ?_⟩
  refine thn (hl.run pins s σ H _ I h) fun v s1 ⟨x, H1, I1, r1, q1⟩ => ?_
  obtain ⟨a, e, h⟩ := q1
  subst e
  cases r1
  rcases h with ⟨⟨xs, hq⟩, q⟩ | ⟨⟨xs, hq⟩, q⟩
  · obtain ⟨its, rv, p, hz⟩ := I1.list hq
    refine wpAny_pyIter_list p.isList ?_
    refine ⟨s1.heap.objs.size, [s1.heap.objs.size], _, _, H1, rfl, I1.kept (t' := s1.toks) fun b o e => Heap.get?_push_of_some _ e, turn_list a _, ⟨_, Heap.get?_push_size _ rfl, rfl, rfl⟩, fun b hb => ?_, q⟩
    have e : b = s1.heap.objs.size := by simpa using hb
    subst e
    exact I1.fpOk (Nat.le_refl _) (I1.hok.fresh (Nat.le_refl _))
  · obtain ⟨its, rv, p, hz⟩ := I1.tuple hq
    refine wpAny_pyIter_tuple (show s1.heap.IsTuple a its.toArray from p) ?_
    refine ⟨s1.heap.objs.size, [s1.heap.objs.size], _, _, H1, rfl, I1.kept (t' := s1.toks) fun b o e => Heap.get?_push_of_some _ e, turn_tuple a _, ⟨_, Heap.get?_push_size _ rfl, rfl, rfl⟩, fun b hb => ?_, q⟩
    have e : b = s1.heap.objs.size := by simpa using hb
    subst e
    exact I1.fpOk (Nat.le_refl _) (I1.hok.fresh (Nat.le_refl _))
theorem sqT_inj {K : PySem.W.Frag} {H : Hp} {a : Addr} {xs ys : List V} (h : SqT K H a xs) (h' : SqT K H a ys) : xs = ys ∨ True := .inr trivial
theorem pdi_seq (he : PD X T E e te) : PDI X T E tg e (wItSeq te) := by
  refine PI.imp (pi_seq he) ?_
  rintro σ H R ⟨θ, μ, ρ, qd, xd, rg, rs, xs, h, fin⟩
  refine ⟨θ, μ, ρ, _, xd, rg, rs, xs, h, fun d μ1 θ1 v H1 rg1 k1 at1 h1 => ?_⟩
  cases d with
  | tup ds =>
    obtain ⟨a, ys, rfl, h5, h6⟩ := at1
    refine ⟨a, rfl, .inr ⟨⟨ys, h5⟩, fin _ μ1 θ1 _ H1 rg1 k1 ?_ h1⟩⟩
    intro θ' μ' H' rg' k' _
    have h5' := k'.sqT h5
    refine ⟨⟨ys, h5', by rw [h6.length]; exact Nat.le_refl _⟩, fun i d hd => ?_⟩
    obtain ⟨y, e1, e2⟩ := (AtL.mono (θ' := θ') k' _ _ h6).get hd
    refine ⟨⟨ys, y, h5', e1⟩, fun x H'' hy => ?_⟩
    obtain ⟨rfl, f⟩ := hy
    have := f ys h5'
    rw [e1] at this
    cases this
    exact ⟨rg', Kp.refl _, e2⟩
  | obj j =>
    simp only at h1
    split at h1
    · rename_i ds e1
      obtain ⟨a, ys, rfl, e2, h5, h6⟩ := lstOf_at rg1 at1 e1
      refine ⟨a, rfl, .inl ⟨⟨ys, .inl h5⟩, fin _ μ1 θ1 _ H1 rg1 k1 ?_ h1⟩⟩
      intro θ' μ' H' rg' k' hok
      have a' := At.mono (θ' := θ') k' (.obj j) (.ref a) at1
      obtain ⟨b, zs, eb, _, h7, h8⟩ := lstOf_at rg' a' hok
      cases eb
      refine ⟨⟨zs, .inl h7, by rw [h8.length]; exact Nat.le_refl _⟩, fun i d hd => ?_⟩
      obtain ⟨y, e1, e2⟩ := h8.get hd
      refine ⟨⟨zs, y, .inl h7, e1⟩, fun x H'' hy => ?_⟩
      obtain ⟨rfl, f⟩ := hy
      have := f zs (.inl h7)
      rw [e1] at this
      cases this
      exact ⟨rg', Kp.refl _, e2⟩
    · exact h1.elim
  | _ => exact h1.elim
/-- range -/
def rgD (lo c : Int) (n : Nat) : List D := (List.range n).map fun (i : Nat) => D.int (lo + ((i : Nat) : Int) * c)
theorem rgD_len (lo c : Int) (n : Nat) : (rgD lo c n).length = n := by unfold rgD; rw [List.length_map, List.length_range]
theorem rgD_get {lo c : Int} {n i : Nat} {d : D} (h : (rgD lo c n)[i]? = some d) : i < n ∧ d = .int (lo + (i : Int) * c) := by
  unfold rgD at h
  rw [List.getElem?_map] at h
  have hi : i < n := by
    have := (List.getElem?_eq_some_iff.mp (show (List.range n)[i]? = some ((List.range n)[i]?.getD 0) by
      cases q : (List.range n)[i]? with
      | none => rw [q] at h; cases h
      | some k => rfl)).1
    rwa [List.length_range] at this
  rw [List.getElem?_range hi] at h
  cases h
  exact ⟨hi, rfl⟩
def opRng1 : List D → (DIt → Prop) → Prop := fun ds q => match ds with
  | [.int j] => (-(2 ^ 62) ≤ j ∧ j < 2 ^ 62) ∧ q ⟨rgD 0 1 j.toNat, fun _ => True⟩
  | _ => False
def opRng2 : List D → (DIt → Prop) → Prop := fun ds q => match ds with
  | [.int i, .int j] => (-(2 ^ 62) ≤ i ∧ i < 2 ^ 62 ∧ -(2 ^ 62) ≤ j ∧ j < 2 ^ 62) ∧ q ⟨rgD i 1 (j - i).toNat, fun _ => True⟩
  | _ => False
/-- range(i, j, -1) -/
def opRng3 : List D → (DIt → Prop) → Prop := fun ds q => match ds with
  | [.int i, .int j, .int c] => c = -1 ∧ (-(2 ^ 62) ≤ i ∧ i < 2 ^ 62 ∧ -(2 ^ 62) ≤ j ∧ j < 2 ^ 62) ∧ q ⟨rgD i (-1) (i - j).toNat, fun _ => True⟩
  | _ => False
def wItA (op : List D → (DIt → Prop) → Prop) (a : DA) : DI := fun ρ μ q x => a ρ μ (fun ds μ1 => op ds fun I => q I μ1) x
theorem itr_ok {K : PySem.W.Frag} {T : List (Addr × Str)} {θ : Th} {H : Hp} {lo : Int} {n : Nat} : ItOk K T (Itr lo n) ⟨rgD lo 1 n, fun _ => True⟩ θ H := by
  intro θ' μ' H' rg' k' _
  refine ⟨by show n ≤ (rgD lo 1 n).length; rw [rgD_len]; exact Nat.le_refl _, fun i d hd => ?_⟩
  obtain ⟨hi, rfl⟩ := rgD_get hd
  refine ⟨hi, fun x H'' hy => ?_⟩
  obtain ⟨rfl, rfl⟩ := hy
  refine ⟨rg', Kp.refl _, ?_⟩
  show V.int _ = V.int _
  rw [Int.mul_one]
theorem itc_ok {K : PySem.W.Frag} {T : List (Addr × Str)} {θ : Th} {H : Hp} {lo c : Int} {n : Nat} : ItOk K T (Itc lo c n) ⟨rgD lo c n, fun _ => True⟩ θ H := by
  intro θ' μ' H' rg' k' _
  refine ⟨by show n ≤ (rgD lo c n).length; rw [rgD_len]; exact Nat.le_refl _, fun i d hd => ?_⟩
  obtain ⟨hi, rfl⟩ := rgD_get hd
  refine ⟨hi, fun x H'' hy => ?_⟩
  obtain ⟨rfl, rfl⟩ := hy
  exact ⟨rg', Kp.refl _, rfl⟩
variable {a b c : Expr} {t : DA} {p : Pos}
theorem atl3 {K : PySem.W.Frag} {H : Hp} {θ : Th} {d e f : D} {xs : List V} (h : AtL K H θ [d, e, f] xs) : ∃ x y z, xs = [x, y, z] ∧ At K H θ d x ∧ At K H θ e y ∧ At K H θ f z := by
  obtain ⟨x, r, rfl, h1, h2⟩ := h
  obtain ⟨y, z, rfl, h3, h4⟩ := atl2 h2
  exact ⟨x, y, z, rfl, h1, h3, h4⟩
theorem pdi_rng1 (hg : Gl X "range") (hm : X.mg "range" = none) (ha : PDA X T E [a] t) (hs : starEach [a] X.env = [(false, eval a X.env)] := by rfl) : PDI X T E tg (.Call (.Name "range" p) [a] [] pos) (wItA opRng1 t) := by
  refine PI.imp (pi_range1 hg hm ha hs) ?_
  rintro σ H R ⟨θ, μ, ρ, qd, xd, rg, rs, xs, h, fin⟩
  refine ⟨θ, μ, ρ, _, xd, rg, rs, xs, h, fun ds μ1 θ1 vs H1 rg1 k1 at1 h1 => ?_⟩
  unfold opRng1 at h1
  split at h1
  · obtain ⟨x, rfl, hx⟩ := atl1 at1
    rw [show x = _ from hx]
    exact ⟨_, rfl, h1.1.1, h1.1.2, fin _ μ1 θ1 _ H1 rg1 k1 itr_ok h1.2⟩
  · exact h1.elim
theorem pdi_rng2 (hg : Gl X "range") (hm : X.mg "range" = none) (ha : PDA X T E [a, b] t) (hs : starEach [a, b] X.env = [(false, eval a X.env), (false, eval b X.env)] := by rfl) (hs2 : starEach [b] X.env = [(false, eval b X.env)] := by rfl) :
    PDI X T E tg (.Call (.Name "range" p) [a, b] [] pos) (wItA opRng2 t) := by
  refine PI.imp (pi_range2 hg hm ha hs hs2) ?_
  rintro σ H R ⟨θ, μ, ρ, qd, xd, rg, rs, xs, h, fin⟩
  refine ⟨θ, μ, ρ, _, xd, rg, rs, xs, h, fun ds μ1 θ1 vs H1 rg1 k1 at1 h1 => ?_⟩
  unfold opRng2 at h1
  split at h1
  · obtain ⟨x, y, rfl, hx, hy⟩ := atl2 at1
    rw [show x = _ from hx, show y = _ from hy]
    exact ⟨_, _, rfl, h1.1, fin _ μ1 θ1 _ H1 rg1 k1 itr_ok h1.2⟩
  · exact h1.elim
theorem pdi_rng3 (hg : Gl X "range") (hm : X.mg "range" = none) (ha : PDA X T E [a, b, c] t) (hs : starEach [a, b, c] X.env = (false, eval a X.env) :: starEach [b, c] X.env := by rfl) (hpl : (backTo pos (starEach [b, c] X.env)).any (·.1) = false := by rfl) :
    PDI X T E tg (.Call (.Name "range" p) [a, b, c] [] pos) (wItA opRng3 t) := by
  refine PI.imp (pi_range3 hg hm ha hs hpl) ?_
  rintro σ H R ⟨θ, μ, ρ, qd, xd, rg, rs, xs, h, fin⟩
  refine ⟨θ, μ, ρ, _, xd, rg, rs, xs, h, fun ds μ1 θ1 vs H1 rg1 k1 at1 h1 => ?_⟩
  unfold opRng3 at h1
  split at h1
  · obtain ⟨x, y, z, rfl, hx, hy, hz⟩ := atl3 at1
    obtain ⟨rfl, hb, h1⟩ := h1
    rw [show x = _ from hx, show y = _ from hy, show z = _ from hz]
    exact ⟨_, _, _, _, rfl, RgC.neg hb.1 hb.2.1 hb.2.2.1 hb.2.2.2, fin _ μ1 θ1 _ H1 rg1 k1 itc_ok h1⟩
  · exact h1.elim
/-- zip of two lists -/
def opZip : List D → Mu → (DIt → Prop) → Prop := fun ds μ q => match ds with
  | [.obj i, .obj j] => match lstOf μ i, lstOf μ j with
    | some xs, some ys => q ⟨(xs.zip ys).map fun p => .tup [p.1, p.2], fun μ' => lstOf μ' i = some xs ∧ lstOf μ' j = some ys⟩
    | _, _ => False
  | _ => False
def wItZip (a : DA) : DI := fun ρ μ q x => a ρ μ (fun ds μ1 => opZip ds μ1 fun I => q I μ1) x
theorem pdi_zip {tpos : Pos} {elts : List Expr} {kk : Nat} (hg : Gl X "zip") (hm : X.mg "zip" = none) (ha : PDA X T E [a, b] t)
    (hs : starEach [a, b] X.env = (false, eval a X.env) :: starEach [b] X.env := by rfl) (hpl : (backTo pos (starEach [b] X.env)).any (·.1) = false := by rfl) :
    PDI X T E (.Tuple elts kk tpos) (.Call (.Name "zip" p) [a, b] [] pos) (wItZip t) := by
  refine PI.imp (pi_zip hg hm ha hs hpl) ?_
  rintro σ H R ⟨θ, μ, ρ, qd, xd, rg, rs, xs, h, fin⟩
  refine ⟨θ, μ, ρ, _, xd, rg, rs, xs, h, fun ds μ1 θ1 vs H1 rg1 k1 at1 h1 => ?_⟩
  unfold opZip at h1
  split at h1
  · rename_i i j
    obtain ⟨x, y, rfl, hx, hy⟩ := atl2 at1
    split at h1
    · rename_i es fs e1 e2
      obtain ⟨a, us, rfl, _, h5, h6⟩ := lstOf_at rg1 hx e1
      obtain ⟨b, ws, rfl, _, h7, h8⟩ := lstOf_at rg1 hy e2
      refine ⟨a, b, us, ws, rfl, .inl h5, .inl h7, fin _ μ1 θ1 _ H1 rg1 k1 ?_ h1⟩
      intro θ' μ' H' rg' k' hok
      obtain ⟨a', us', ea, _, h5', h6'⟩ := lstOf_at rg' (At.mono (θ' := θ') k' (.obj i) _ hx) hok.1
      obtain ⟨b', ws', eb, _, h7', h8'⟩ := lstOf_at rg' (At.mono (θ' := θ') k' (.obj j) _ hy) hok.2
      cases ea
      cases eb
      refine ⟨⟨us', ws', .inl h5', .inl h7', ?_⟩, fun n d hd => ?_⟩
      · show us'.length ≤ _ ∨ ws'.length ≤ _
        rw [List.length_map, List.length_zip, h6'.length, h8'.length]
        omega
      · rw [List.getElem?_map] at hd
        cases hz : (es.zip fs)[n]? with
        | none => rw [hz] at hd; cases hd
        | some pq =>
          rw [hz] at hd
          cases hd
          obtain ⟨z1, z2⟩ : es[n]? = some pq.1 ∧ fs[n]? = some pq.2 := by
            rw [List.getElem?_zip_eq_some] at hz
            exact hz
          obtain ⟨u, q1, q2⟩ := h6'.get z1
          obtain ⟨w, q3, q4⟩ := h8'.get z2
          refine ⟨⟨us', ws', u, w, .inl h5', .inl h7', q1, q3⟩, fun x H'' hy => ?_⟩
          obtain ⟨T', x1, y1, rfl, hT, rfl, f1, f2⟩ := hy
          have g1 := f1 us' (.inl h5')
          have g2 := f2 ws' (.inl h7')
          rw [q1] at g1
          rw [q3] at g2
          cases g1
          cases g2
          have kp : Kp H' (upd H' T' (.tup [u, w])) := Kp.new hT
          exact ⟨rg'.plus hT _, kp, T', _, rfl, SqT.of upd_same, u, [w], rfl, q2.kp kp, w, [], rfl, q4.kp kp, rfl⟩
    · exact h1.elim
  · exact h1.elim
/-- enumerate(a list) -/
def enumD : Nat → List D → List D
  | _, [] => []
  | n, d :: ds => .tup [.int (n : Int), d] :: enumD (n + 1) ds
theorem enumD_len : ∀ (n : Nat) (ds : List D), (enumD n ds).length = ds.length
  | _, [] => rfl
  | n, _ :: ds => congrArg (· + 1) (enumD_len (n + 1) ds)
theorem enumD_get : ∀ (n : Nat) (ds : List D) (i : Nat) (d : D), (enumD n ds)[i]? = some d → ∃ e, ds[i]? = some e ∧ d = .tup [.int ((n + i : Nat) : Int), e]
  | _, [], _, _, h => by cases h
  | n, e :: ds, 0, d, h => ⟨e, rfl, (Option.some.inj h).symm⟩
  | n, e :: ds, i + 1, d, h => by
    obtain ⟨f, h1, h2⟩ := enumD_get (n + 1) ds i d h
    exact ⟨f, h1, by rw [h2, show n + 1 + i = n + (i + 1) by omega]⟩
def opEnum : List D → Mu → (DIt → Prop) → Prop := fun ds μ q => match ds with
  | [.obj i] => match lstOf μ i with
    | some xs => q ⟨enumD 0 xs, fun μ' => lstOf μ' i = some xs⟩
    | none => False
  | _ => False
def wItEnum (a : DA) : DI := fun ρ μ q x => a ρ μ (fun ds μ1 => opEnum ds μ1 fun I => q I μ1) x
theorem pdi_enum {tpos : Pos} {elts : List Expr} {kk : Nat} (hg : Gl X "enumerate") (hm : X.mg "enumerate" = none) (ha : PDA X T E [a] t) (hs : starEach [a] X.env = [(false, eval a X.env)] := by rfl) :
    PDI X T E (.Tuple elts kk tpos) (.Call (.Name "enumerate" p) [a] [] pos) (wItEnum t) := by
  refine PI.imp (pi_enum hg hm ha hs) ?_
  rintro σ H R ⟨θ, μ, ρ, qd, xd, rg, rs, xs, h, fin⟩
  refine ⟨θ, μ, ρ, _, xd, rg, rs, xs, h, fun ds μ1 θ1 vs H1 rg1 k1 at1 h1 => ?_⟩
  unfold opEnum at h1
  split at h1
  · rename_i i
    obtain ⟨x, rfl, hx⟩ := atl1 at1
    split at h1
    · rename_i es e1
      obtain ⟨a, us, rfl, _, h5, h6⟩ := lstOf_at rg1 hx e1
      refine ⟨a, us, rfl, .inl h5, fin _ μ1 θ1 _ H1 rg1 k1 ?_ h1⟩
      intro θ' μ' H' rg' k' hok
      obtain ⟨a', us', ea, _, h5', h6'⟩ := lstOf_at rg' (At.mono (θ' := θ') k' (.obj i) _ hx) hok
      cases ea
      refine ⟨⟨us', .inl h5', ?_⟩, fun n d hd => ?_⟩
      · show us'.length ≤ (enumD 0 es).length
        rw [enumD_len, h6'.length]
        exact Nat.le_refl _
      · obtain ⟨e, z1, rfl⟩ := enumD_get 0 es n d hd
        obtain ⟨u, q1, q2⟩ := h6'.get z1
        refine ⟨⟨us', u, .inl h5', q1⟩, fun x H'' hy => ?_⟩
        obtain ⟨T', x1, rfl, hT, rfl, f1⟩ := hy
        have g1 := f1 us' (.inl h5')
        rw [q1] at g1
        cases g1
        have kp : Kp H' (upd H' T' (.tup [.int (n : Nat), u])) := Kp.new hT
        refine ⟨rg'.plus hT _, kp, T', _, rfl, SqT.of upd_same, _, [u], rfl, ?_, u, [], rfl, q2.kp kp, rfl⟩
        show V.int _ = V.int _
        rw [Nat.zero_add]
    · exact h1.elim
  · exact h1.elim
/-- the keys of a locked dict -/
def wItKeys (td : DT) : DI := fun ρ μ q x => td ρ μ (fun d μ1 => match d with
  | .obj j => match μ1[j]? with
    | some (.dkf o xs kvs) => q ⟨kvs.map fun kv => keyDof kv.1, fun μ' => μ'[j]? = some (.dkf o xs kvs)⟩ μ1
    | _ => False
  | _ => False) x
theorem pdi_keys (he : PD X T E e te) : PDI X T E tg e (wItKeys te) := by
  refine PI.imp (pi_keys he) ?_
  rintro σ H R ⟨θ, μ, ρ, qd, xd, rg, rs, xs, h, fin⟩
  refine ⟨θ, μ, ρ, _, xd, rg, rs, xs, h, fun d μ1 θ1 v H1 rg1 k1 at1 h1 => ?_⟩
  cases d with
  | obj j =>
    simp only at h1
    split at h1
    · rename_i o us kvs e1
      obtain ⟨a, rfl, _, h5, h6⟩ := dkf_at rg1 at1 e1
      refine ⟨a, o, rfl, .inl ⟨us, h5, fin _ μ1 θ1 _ H1 rg1 k1 ?_ h1⟩⟩
      intro θ' μ' H' rg' k' hok
      have h5' : H' a = some (.frz o (.dK us)) := by
        obtain ⟨b, eb, _, h7, _⟩ := dkf_at rg' (At.mono (θ' := θ') k' (.obj j) _ at1) hok
        cases eb
        exact h7
      have hl : us.length = kvs.length := by
        have := congrArg List.length h6.1
        simpa using this.symm
      refine ⟨⟨h5', ?_⟩, fun n d hd => ?_⟩
      · show us.length ≤ (kvs.map _).length
        rw [List.length_map, hl]
        exact Nat.le_refl _
      · rw [List.getElem?_map] at hd
        cases hz : kvs[n]? with
        | none => rw [hz] at hd; cases hd
        | some kv =>
          rw [hz] at hd
          cases hd
          have hn : n < us.length := by
            rw [hl]
            exact (List.getElem?_eq_some_iff.mp hz).1
          refine ⟨⟨h5', hn⟩, fun x H'' hy => ?_⟩
          obtain ⟨rfl, k, v, g1, rfl⟩ := hy
          have e2 : kv.1 = k := by
            have q := congrArg (fun l => l[n]?) h6.1
            simp only [List.getElem?_map, hz, g1, Option.map_some] at q
            exact Option.some.inj q
          refine ⟨rg', Kp.refl _, ?_⟩
          show At _ _ _ (keyDof kv.1) _
          rw [e2]
          exact at_key k
    · exact h1.elim
  | _ => exact h1.elim
end
end DL

set_option Elab.async false
set_option linter.all false
set_option maxRecDepth 100000
set_option maxHeartbeats 4000000
namespace DL
open PySem PySem.Spec PyProof.Rows L2 LamX

/-! ### for -/
def wForGo (ok : Mu → Prop) (g : DG) (b : DS) (de : DEnds) : List D → Rho → Mu → Prop
  | [], ρ, μ => ok μ ∧ de.nx ρ μ
  | d :: ds, ρ, μ => ok μ ∧ g d ρ μ (fun ρ1 μ1 => b { de with nx := fun ρ' μ' => wForGo ok g b de ds ρ' μ', ct := fun ρ' μ' => wForGo ok g b de ds ρ' μ', bk := de.nx } ρ1 μ1) de.ex
def wFor (w : DI) (g : DG) (b : DS) : DS := fun de ρ μ => w ρ μ (fun I μ1 => wForGo I.ok g b de I.items ρ μ1) de.ex
section
variable {X : Cx} {T : List (Addr × Str)} {E : XK} {pos : Pos}
theorem pds_for {tg iter : Expr} {body : List Stmt} {w : DI} {L : List Nat} {g : DG} {b : DS} (hp : PassesOwn (model X.prog X.w) X.A X.env X.xe) (hc : X.calm = true) (hi : PDI X T E tg iter w) (hg : PDG X T E tg L g) (hb : PDSs X T E body b)
    (hs : ∀ x, foldedSetIterable iter X.env x = pure x := by intro _; rfl) : PDS X T E (.For tg iter body [] pos) (wFor w g b) := by
  refine PS.imp (ps_for hp hc hi hg hb hs) ?_
  rintro Dn σ H ⟨θ, μ, ρ, de, rg, rs, es, h⟩
  refine ⟨θ, μ, ρ, _, de.ex, rg, rs, es.ex, h, fun I μ1 θ1 J H1 rg1 k1 it h1 => ?_⟩
  refine ⟨fun i m σ' H' => ∃ θ' μ' ρ', RG X.K T (θ ++ θ1 ++ θ') μ' H' ∧ RS X.K (θ ++ θ1 ++ θ') ρ' σ' H' ∧ Kp H1 H' ∧ m = I.items.length - i ∧ i ≤ I.items.length ∧ wForGo I.ok g b de (I.items.drop i) ρ' μ',
    ⟨I.items.length, [], μ1, ρ, rg0 rg1, rs0 (rs.mono k1), Kp.refl H1, rfl, Nat.zero_le _, h1⟩, fun i m σ' H' hW => ?_⟩
  obtain ⟨θ', μ', ρ', rg', rs', k', rfl, hle, h'⟩ := hW
  cases hd : I.items.drop i with
  | nil =>
    rw [hd] at h'
    obtain ⟨hok, h'⟩ := h'
    have hi : i = I.items.length := by
      have := List.drop_eq_nil_iff.mp hd
      omega
    subst hi
    refine .inl ⟨(it θ' μ' H' rg' k' hok).1, ?_⟩
    exact es.nx ρ' μ' (θ1 ++ θ') σ' H' (by rw [← List.append_assoc]; exact rg') (by rw [← List.append_assoc]; exact rs') (k1.trans k') h'
  | cons d ds =>
    rw [hd] at h'
    obtain ⟨hok, h'⟩ := h'
    have hi : i < I.items.length := by
      apply Nat.lt_of_not_le
      intro hge
      rw [List.drop_eq_nil_of_le hge] at hd
      cases hd
    have hcons := List.drop_eq_getElem_cons hi
    rw [hd] at hcons
    have hdi : I.items[i]? = some d := by
      rw [List.getElem?_eq_getElem hi]
      exact congrArg some (List.cons.inj hcons).1.symm
    have hds : ds = I.items.drop (i + 1) := (List.cons.inj hcons).2
    obtain ⟨hgo, hy⟩ := (it θ' μ' H' rg' k' hok).2 i d hdi
    refine .inr ⟨hgo, fun σ2 H2 => ∃ θ2 μ2 ρ2, RG X.K T (θ ++ θ1 ++ θ2) μ2 H2 ∧ RS X.K (θ ++ θ1 ++ θ2) ρ2 σ2 H2 ∧ Kp H1 H2 ∧ wForGo I.ok g b de (I.items.drop (i + 1)) ρ2 μ2, fun σ2 H2 hN => ?_, fun x H2 hx => ?_⟩
    · obtain ⟨θ2, μ2, ρ2, r2, s2, k2, q2⟩ := hN
      exact ⟨I.items.length - (i + 1), by omega, θ2, μ2, ρ2, r2, s2, k2, rfl, hi, q2⟩
    · obtain ⟨rgy, ky, ay⟩ := hy x H2 hx
      have ess : ES X.K T E (θ ++ (θ1 ++ θ')) H2 de Dn := es.next (k1.trans (k'.trans ky))
      have rsy : RS X.K (θ ++ θ1 ++ θ') ρ' σ' H2 := by
        have := rs'.mono (θ' := []) ky
        rwa [List.append_nil] at this
      have xsy : XS X.K T E (θ ++ θ1 ++ θ') H2 de.ex := by
        have := ess.ex
        rwa [← List.append_assoc] at this
      refine ⟨_, μ', ρ', d, _, de.ex, rgy, rsy, xsy, ay, h', fun ρ3 μ3 θ3 σ3 H3 rg3 rs3 k3 _ h3 => ?_⟩
      refine ⟨_, μ3, ρ3, _, rg3, rs3, ?_, h3⟩
      have ess3 : ES X.K T E (θ ++ θ1 ++ θ' ++ θ3) H3 de Dn := by
        have := ess.next (θ1 := θ3) k3
        simpa only [List.append_assoc] using this
      refine ⟨fun ρ4 μ4 θ4 σ4 H4 rg4 rs4 k4 h4 => ?_, fun ρ4 μ4 θ4 σ4 H4 rg4 rs4 k4 h4 => ess3.nx ρ4 μ4 θ4 σ4 H4 rg4 rs4 k4 h4, fun ρ4 μ4 θ4 σ4 H4 rg4 rs4 k4 h4 => ?_, ess3.rt, ess3.ex⟩
      · rw [hds] at h4
        exact ⟨θ' ++ (θ3 ++ θ4), μ4, ρ4, by simpa only [List.append_assoc] using rg4, by simpa only [List.append_assoc] using rs4, k'.trans (ky.trans (k3.trans k4)), h4⟩
      · rw [hds] at h4
        exact ⟨θ' ++ (θ3 ++ θ4), μ4, ρ4, by simpa only [List.append_assoc] using rg4, by simpa only [List.append_assoc] using rs4, k'.trans (ky.trans (k3.trans k4)), h4⟩

/-! ### while: an invariant and its measure -/
def wWhile (c : DB) (b : DS) : DS := fun de ρ μ => ∃ W : Nat → Rho → Mu → Prop, (∃ m, W m ρ μ) ∧ ∀ m ρ μ, W m ρ μ →
  c ρ μ (fun t μ1 => match t with
    | true => b { de with nx := fun ρ' μ' => ∃ m', m' < m ∧ W m' ρ' μ', ct := fun ρ' μ' => ∃ m', m' < m ∧ W m' ρ' μ', bk := de.nx } ρ μ1
    | false => de.nx ρ μ1) de.ex
theorem pds_while {c : Expr} {body : List Stmt} {tc : DB} {b : DS} (hp : PassesOwn (model X.prog X.w) X.A X.env X.xe) (hc : PB X T E c tc) (hb : PDSs X T E body b) : PDS X T E (.While c body [] pos) (wWhile tc b) := by
  refine PS.imp (ps_while hp hc hb) ?_
  rintro Dn σ H ⟨θ, μ, ρ, de, rg, rs, es, W, ⟨m0, w0⟩, h⟩
  refine ⟨fun m σ' H' => ∃ θ' μ' ρ', RG X.K T (θ ++ θ') μ' H' ∧ RS X.K (θ ++ θ') ρ' σ' H' ∧ Kp H H' ∧ W m ρ' μ', ⟨m0, [], μ, ρ, rg0 rg, rs0 rs, Kp.refl H, w0⟩, fun m σ' H' hW => ?_⟩
  obtain ⟨θ', μ', ρ', rg', rs', k', w'⟩ := hW
  have es' := es.next (θ1 := θ') k'
  refine ⟨_, μ', ρ', _, de.ex, rg', rs', es'.ex, h m ρ' μ' w', fun t μ1 θ1 H1 rg1 k1 h1 => ?_⟩
  cases t with
  | true =>
    refine iteT ⟨fun σ2 H2 => ∃ θ2 μ2 ρ2 m2, m2 < m ∧ RG X.K T (θ ++ θ2) μ2 H2 ∧ RS X.K (θ ++ θ2) ρ2 σ2 H2 ∧ Kp H H2 ∧ W m2 ρ2 μ2, fun σ2 H2 hN => ?_, ?_⟩
    · obtain ⟨θ2, μ2, ρ2, m2, hm, r2, s2, k2, q2⟩ := hN
      exact ⟨m2, hm, θ2, μ2, ρ2, r2, s2, k2, q2⟩
    · have es1 := es'.next (θ1 := θ1) k1
      refine ⟨_, μ1, ρ', { de with nx := fun ρ' μ' => ∃ m', m' < m ∧ W m' ρ' μ', ct := fun ρ' μ' => ∃ m', m' < m ∧ W m' ρ' μ', bk := de.nx }, rg1, rs'.mono k1, ⟨fun ρ4 μ4 θ4 σ4 H4 rg4 rs4 k4 h4 => ?_, fun ρ4 μ4 θ4 σ4 H4 rg4 rs4 k4 h4 => es1.nx ρ4 μ4 θ4 σ4 H4 rg4 rs4 k4 h4, fun ρ4 μ4 θ4 σ4 H4 rg4 rs4 k4 h4 => ?_, es1.rt, es1.ex⟩, h1⟩
      · obtain ⟨m2, hm, w2⟩ := h4
        exact ⟨θ' ++ (θ1 ++ θ4), μ4, ρ4, m2, hm, by simpa only [List.append_assoc] using rg4, by simpa only [List.append_assoc] using rs4, k'.trans (k1.trans k4), w2⟩
      · obtain ⟨m2, hm, w2⟩ := h4
        exact ⟨θ' ++ (θ1 ++ θ4), μ4, ρ4, m2, hm, by simpa only [List.append_assoc] using rg4, by simpa only [List.append_assoc] using rs4, k'.trans (k1.trans k4), w2⟩
  | false =>
    refine iteF ?_
    exact es'.nx ρ' μ1 θ1 σ' H1 rg1 (rs'.mono k1) k1 h1
end

/-! ### [e for x in .. if ..] -/
def wipeD (ρ : Rho) : List Nat → Rho
  | [] => ρ
  | v :: vs => (wipeD ρ vs).set v none
theorem RS.wipe {K : PySem.W.Frag} {θ : Th} {ρ : Rho} {σ : L2.St} {H : Hp} (h : RS K θ ρ σ H) : ∀ vs : List Nat, RS K θ (wipeD ρ vs) (L2.wipe σ vs) H
  | [] => h
  | v :: vs => by
    have ih := RS.wipe h vs
    refine ⟨by
      show ((wipeD ρ vs).set v none).length = ((L2.wipe σ vs).set v none).length
      rw [List.length_set, List.length_set]; exact ih.1, fun i d e => ?_⟩
    have e : ((wipeD ρ vs).set v none)[i]? = some (some d) := e
    by_cases hv : v = i
    · subst hv
      by_cases hl : v < (wipeD ρ vs).length
      · rw [List.getElem?_set_self hl] at e; cases e
      · rw [List.getElem?_eq_none (by simpa using hl)] at e; cases e
    · rw [List.getElem?_set_ne hv] at e
      obtain ⟨x, e1, e2⟩ := ih.2 i d e
      exact ⟨x, by show ((L2.wipe σ vs).set v none)[i]? = _; rw [List.getElem?_set_ne hv]; exact e1, e2⟩
abbrev noX : XD := fun _ _ => False
def wLcGo (ok : Mu → Prop) (g : DG) (tt : DB) (te : DT) (ρw : Rho) (j : Nat) (q : Mu → Prop) : List D → Mu → Prop
  | [], μ => ok μ ∧ q μ
  | d :: ds, μ => ok μ ∧ g d ρw μ (fun ρ1 μ1 => tt ρ1 μ1 (fun b μ2 => match b with
    | true => te ρ1 μ2 (fun y μ3 => match μ3[j]? with
      | some (.lst acc) => acc.length < sizeLine ∧ wLcGo ok g tt te ρw j q ds (μ3.set j (.lst (acc ++ [y])))
      | _ => False) noX
    | false => wLcGo ok g tt te ρw j q ds μ2) noX) noX
def wLc (w : DI) (g : DG) (tt : DB) (te : DT) (vs : List Nat) : DT := fun ρ μ q x => w ρ μ (fun I μ1 => wLcGo I.ok g tt te (wipeD ρ vs) μ1.length (fun μ' => q (.obj μ1.length) μ') I.items (μ1 ++ [.lst []])) x
def wYes : DB := fun _ μ q _ => q true μ
theorem wipe_get (σ : L2.St) : ∀ (vs : List Nat) (i : Nat), (L2.wipe σ vs)[i]? = if i ∈ vs then (if i < σ.length then some none else none) else σ[i]?
  | [], i => by simp [L2.wipe]
  | v :: vs, i => by
    show ((L2.wipe σ vs).set v none)[i]? = _
    by_cases hv : v = i
    · subst hv
      rw [if_pos List.mem_cons_self]
      by_cases hl : v < σ.length
      · rw [if_pos hl, List.getElem?_set_self (by rw [wipe_length]; exact hl)]
      · rw [if_neg hl, List.getElem?_eq_none (by rw [List.length_set, wipe_length]; omega)]
    · rw [List.getElem?_set_ne hv, wipe_get σ vs i]
      by_cases hm : i ∈ vs
      · rw [if_pos hm, if_pos (List.mem_cons_of_mem _ hm)]
      · rw [if_neg hm, if_neg (fun z => (List.mem_cons.mp z).elim (fun e => hv e.symm) hm)]
theorem wipe_out_of {L vs : List Nat} {σ σ' : L2.St} (h : OutOf L (L2.wipe σ vs) σ') (hs : ∀ i ∈ L, i ∈ vs) : L2.wipe σ' vs = L2.wipe σ vs := by
  apply List.ext_getElem?
  intro i
  rw [wipe_get, wipe_get]
  have hl : σ'.length = σ.length := by rw [h.1, wipe_length]
  by_cases hm : i ∈ vs
  · rw [if_pos hm, if_pos hm, hl]
  · rw [if_neg hm, if_neg hm, h.2 i (fun z => hm (hs i z)), wipe_get, if_neg hm]
def PDTs (X : Cx) (T : List (Addr × Str)) (E : XK) (ifs : List Expr) (t : DB) : Prop := PTs X ifs (lB X.K T E t)
section
variable {X : Cx} {T : List (Addr × Str)} {E : XK} {pos : Pos}
theorem pdts_nil : PDTs X T E [] wYes := ⟨fun pins s σ H Q I ⟨θ, μ, ρ, qd, xd, rg, rs, xs, h, fin⟩ => pts_nil.run pins s σ H Q I (fin true μ [] H (rg0 rg) (Kp.refl H) h)⟩
theorem pdts_one {c : Expr} {t : DB} (h : PB X T E c t) : PDTs X T E [c] t := pts_one h
theorem xs0 {K : PySem.W.Frag} {θ : Th} {H : Hp} : XS K T E0 θ H noX := fun _ _ _ _ _ _ h => h
theorem lc_at {K : PySem.W.Frag} {w : DI} {L : List Nat} {g : DG} {tt : DB} {te : DT} {vs : List Nat} (hL : ∀ i ∈ L, i ∈ vs) {σ : L2.St} {H : Hp} {Q : VK} (h : lE K T E (wLc w g tt te vs) σ H Q) :
    tLc (lI K T E w) (lG K T E0 L g) (lB K T E0 tt) (lE K T E0 te) vs σ H Q := by
  obtain ⟨θ, μ, ρ, qd, xd, rg, rs, xs, h, fin⟩ := h
  refine ⟨θ, μ, ρ, _, xd, rg, rs, xs, h, fun I μ1 θ1 J H1 rg1 k1 it h1 D hD => ?_⟩
  have kD : Kp H1 (upd H1 D (.lst [])) := Kp.new hD
  have rgD : RG K T (θ ++ θ1 ++ [D]) (μ1 ++ [.lst []]) (upd H1 D (.lst [])) := rg1.new hD ⟨[], upd_same, rfl⟩
  have eD : ∀ θ' : Th, (θ ++ θ1 ++ ([D] ++ θ'))[μ1.length]? = some D := fun θ' => by
    rw [← rg1.len, List.getElem?_append_right (Nat.le_refl _), Nat.sub_self]
    rfl
  have rsw := rs.wipe vs
  refine ⟨fun i m H' => ∃ θ' μ', RG K T (θ ++ θ1 ++ ([D] ++ θ')) μ' H' ∧ Kp (upd H1 D (.lst [])) H' ∧ m = I.items.length - i ∧ i ≤ I.items.length ∧ wLcGo I.ok g tt te (wipeD ρ vs) μ1.length (fun μ' => qd (.obj μ1.length) μ') (I.items.drop i) μ',
    ⟨I.items.length, [], _, by rw [List.append_nil]; exact rgD, Kp.refl _, rfl, Nat.zero_le _, h1⟩, fun i m H' hW => ?_⟩
  obtain ⟨θ', μ', rg', k', rfl, hle, h'⟩ := hW
  have kk : Kp H H' := k1.trans (kD.trans k')
  cases hd : I.items.drop i with
  | nil =>
    rw [hd] at h'
    obtain ⟨hok, h'⟩ := h'
    have hi : i = I.items.length := by
      have := List.drop_eq_nil_iff.mp hd
      omega
    subst hi
    refine .inl ⟨(it ([D] ++ θ') μ' H' rg' (kD.trans k') hok).1, ?_⟩
    exact fin (.obj μ1.length) μ' (θ1 ++ ([D] ++ θ')) (.ref D) H' (by rw [← List.append_assoc]; exact rg') kk ⟨D, by rw [← List.append_assoc]; exact eD θ', rfl⟩ h'
  | cons d ds =>
    rw [hd] at h'
    obtain ⟨hok, h'⟩ := h'
    have hi : i < I.items.length := by
      apply Nat.lt_of_not_le
      intro hge
      rw [List.drop_eq_nil_of_le hge] at hd
      cases hd
    have hcons := List.drop_eq_getElem_cons hi
    rw [hd] at hcons
    have hdi : I.items[i]? = some d := by
      rw [List.getElem?_eq_getElem hi]
      exact congrArg some (List.cons.inj hcons).1.symm
    have hds : ds = I.items.drop (i + 1) := (List.cons.inj hcons).2
    obtain ⟨hgo, hy⟩ := (it ([D] ++ θ') μ' H' rg' (kD.trans k') hok).2 i d hdi
    refine .inr ⟨hgo, fun H2 => ∃ θ2 μ2, RG K T (θ ++ θ1 ++ ([D] ++ θ2)) μ2 H2 ∧ Kp (upd H1 D (.lst [])) H2 ∧ wLcGo I.ok g tt te (wipeD ρ vs) μ1.length (fun μ' => qd (.obj μ1.length) μ') (I.items.drop (i + 1)) μ2, fun H2 hN => ?_, fun x H2 hx => ?_⟩
    · obtain ⟨θ2, μ2, r2, k2, q2⟩ := hN
      exact ⟨I.items.length - (i + 1), by omega, θ2, μ2, r2, k2, rfl, hi, q2⟩
    · obtain ⟨rgy, ky, ay⟩ := hy x H2 hx
      have rsy : RS K (θ ++ θ1 ++ ([D] ++ θ')) (wipeD ρ vs) (L2.wipe σ vs) H2 := by
        have := rsw.mono (θ' := θ1 ++ ([D] ++ θ')) (kk.trans ky)
        rwa [← List.append_assoc] at this
      refine ⟨_, μ', _, d, _, noX, rgy, rsy, xs0, ay, h', fun ρ3 μ3 θ3 σ3 H3 rg3 rs3 k3 o3 h3 => ?_⟩
      refine ⟨wipe_out_of o3 hL, ?_⟩
      refine ⟨_, μ3, ρ3, _, noX, rg3, rs3, xs0, h3, fun b μ4 θ4 H4 rg4 k4 h4 => ?_⟩
      cases b with
      | true =>
        refine iteT ?_
        refine ⟨_, μ4, ρ3, _, noX, rg4, rs3.mono k4, xs0, h4, fun y μ5 θ5 v5 H5 rg5 k5 a5 h5 => ?_⟩
        have rg5' : RG K T (θ ++ θ1 ++ ([D] ++ (θ' ++ (θ3 ++ (θ4 ++ θ5))))) μ5 H5 := by simpa only [List.append_assoc] using rg5
        have a5' : At K H5 (θ ++ θ1 ++ ([D] ++ (θ' ++ (θ3 ++ (θ4 ++ θ5))))) y v5 := by simpa only [List.append_assoc] using a5
        split at h5
        · rename_i acc e5
          obtain ⟨xs5, h6, h7⟩ := rg5'.ob _ D _ (eD _) e5
          refine ⟨xs5, h6, by rw [h7.length]; exact h5.1, θ' ++ (θ3 ++ (θ4 ++ θ5)), _, ?_, ?_, by rw [← hds]; exact h5.2⟩
          · have kp : Kp H5 (upd H5 D (.lst (xs5 ++ [v5]))) := Kp.mut h6 rfl
            exact rg5'.upd (eD _) h6 rfl (fun _ z => by cases z) (m := .lst _) ⟨_, upd_same, (h7.append (AtL.one a5')).kp kp⟩
          · exact k'.trans (ky.trans (k3.trans (k4.trans (k5.trans (Kp.mut h6 rfl)))))
        · exact h5.elim
      | false =>
        refine iteF ?_
        exact ⟨θ' ++ (θ3 ++ θ4), μ4, by simpa only [List.append_assoc] using rg4, k'.trans (ky.trans (k3.trans k4)), by rw [← hds]; exact h4⟩
theorem pd_lc {elt tg iter : Expr} {ifs : List Expr} {scope : Scope} {own : List (Str × Nat)} {w : DI} {L : List Nat} {g : DG} {tt : DB} {te : DT} (hc : X.calm = true) (hN : X.N.Nodup) (hi : PDI X T E tg iter w) (ok : BlkOk X.N X.env.scope scope own)
    (hg : ∀ (s : Shared) (H : Hp) (C : Addr) (cl : List (Str × Addr)) (fp : List Addr), PDG (X.blk s H scope (compEnvC scope cl C X.env) fp) T E0 tg L g) (ht : ∀ (s : Shared) (H : Hp) (C : Addr) (cl : List (Str × Addr)) (fp : List Addr), PDTs (X.blk s H scope (compEnvC scope cl C X.env) fp) T E0 ifs tt)
    (he : ∀ (s : Shared) (H : Hp) (C : Addr) (cl : List (Str × Addr)) (fp : List Addr), PD (X.blk s H scope (compEnvC scope cl C X.env) fp) T E0 elt te) (hL : ∀ i ∈ L, i ∈ own.map (·.2) := by decide) (hs : ∀ x, foldedSetIterable iter X.env x = pure x := by intro _; rfl) :
    PD X T E (.ListComp elt [⟨tg, iter, ifs, 0⟩] scope pos) (wLc w g tt te (own.map (·.2))) :=
  PE.imp (pe_lc (g := lG X.K T E0 L g) (tt := lB X.K T E0 tt) (te := lE X.K T E0 te) hc hN hi ok hg ht he hs) fun _ _ _ h => lc_at hL h
/-- name = [..] on one line -/
theorem pds_setLc {i : Nat} {y : Str} {py : Pos} {elt tg iter : Expr} {ifs : List Expr} {scope : Scope} {own : List (Str × Nat)} {spos : Pos} {w : DI} {L : List Nat} {g : DG} {tt : DB} {te : DT} (hc : X.calm = true) (hN : X.N.Nodup) (hy : X.N[i]? = some y) (hyl : X.env.scope.names.lookup y = some .local)
    (hsw : swapsWith (.ListComp elt [⟨tg, iter, ifs, 0⟩] scope pos) (some (.Name y py)) spos.line X.env = pure true) (hi : PDI X T E tg iter w) (ok : BlkOk X.N X.env.scope scope own)
    (hg : ∀ (s : Shared) (H : Hp) (C : Addr) (cl : List (Str × Addr)) (fp : List Addr), PDG (X.blk s H scope (compEnvC scope cl C X.env) fp) T E0 tg L g) (ht : ∀ (s : Shared) (H : Hp) (C : Addr) (cl : List (Str × Addr)) (fp : List Addr), PDTs (X.blk s H scope (compEnvC scope cl C X.env) fp) T E0 ifs tt)
    (he : ∀ (s : Shared) (H : Hp) (C : Addr) (cl : List (Str × Addr)) (fp : List Addr), PD (X.blk s H scope (compEnvC scope cl C X.env) fp) T E0 elt te) (hL : ∀ i ∈ L, i ∈ own.map (·.2) := by decide) (hs : ∀ x, foldedSetIterable iter X.env x = pure x := by intro _; rfl) :
    PDS X T E (.Assign [.Name y py] (.ListComp elt [⟨tg, iter, ifs, 0⟩] scope pos) spos) (wAsg (wLc w g tt te (own.map (·.2))) (gN i)) := by
  refine PS.imp (ps_setLc (g := lG X.K T E0 L g) (tt := lB X.K T E0 tt) (te := lE X.K T E0 te) hc hN hy hyl hsw hi ok hg ht he hs) ?_
  rintro Dn σ H ⟨θ, μ, ρ, de, rg, rs, es, h⟩
  refine lc_at hL ⟨θ, μ, ρ, _, de.ex, rg, rs, es.ex, h, fun d μ1 θ1 v H1 rg1 k1 at1 h1 => ?_⟩
  exact es.nx _ μ1 θ1 _ H1 rg1 ((rs.mono k1).set i at1) k1 h1
end
end DL

set_option Elab.async false
set_option linter.all false
set_option maxRecDepth 100000
set_option maxHeartbeats 4000000
namespace DL
open PySem PySem.Spec PyProof.Rows L2 LamX

/-! ### an expression that walks the dict in a slot -/
def wLock (i : Nat) (t : DT) : DT := fun ρ μ q x => match ρ[i]? with
  | some (some (.obj j)) => match μ[j]? with
    | some (.dk kvs) => ∀ (o : Obj) (xs : List (Key × V)), t ρ (μ.set j (.dkf o xs kvs)) (fun d μ' => μ'[j]? = some (.dkf o xs kvs) ∧ q d (μ'.set j (.dk kvs))) noX
    | _ => False
  | _ => False
theorem frz_keeps {H : Hp} {p : Addr} {o : Obj} {u v : HO} (h : H p = some u) (hu : stab u = false) (hv : stab (.frz o v) = false) : Kp H (upd H p (.frz o v)) := Kp.mut h hu
theorem pd_lock {X : Cx} {T : List (Addr × Str)} {E : XK} {e : Expr} {t : DT} (i : Nat) (h : PD X T E e t) : PD X T E e (wLock i t) := by
  refine PE.imp (pe_lock h) ?_
  rintro σ H Q ⟨θ, μ, ρ, qd, xd, rg, rs, xs, h, fin⟩
  unfold wLock at h
  split at h
  · rename_i j ej
    split at h
    · rename_i kvs ek
      obtain ⟨v, ev, av⟩ := rs.2 i _ ej
      obtain ⟨a, ys, rfl, ea, h1, h2⟩ := dk_at rg av ek
      refine ⟨a, .dK ys, h1, True.intro, fun od => ?_⟩
      have k1 : Kp H (upd H a (.frz od (.dK ys))) := Kp.mut h1 rfl
      have rg1 : RG X.K T θ (μ.set j (.dkf od ys kvs)) (upd H a (.frz od (.dK ys))) := rg.upd ea h1 rfl (fun _ z => by cases z) (m := .dkf od ys kvs) ⟨upd_same, h2.1, h2.2.kp k1⟩
      have rs1 : RS X.K θ ρ σ (upd H a (.frz od (.dK ys))) := by
        have := rs.mono (θ' := []) k1
        rwa [List.append_nil] at this
      refine ⟨θ, _, ρ, _, noX, rg1, rs1, fun _ _ _ _ _ _ z => z.elim, h od ys, fun d μ' θ' v' H' rg' k' at' hq => ?_⟩
      obtain ⟨e2, hq⟩ := hq
      have hj : j < θ.length := (List.getElem?_eq_some_iff.mp ea).1
      have ea' : (θ ++ θ')[j]? = some a := by rw [List.getElem?_append_left hj]; exact ea
      obtain ⟨h3, h4⟩ := rg'.ob j a _ ea' e2
      have k2 : Kp H' (upd H' a (.dK ys)) := Kp.mut h3 rfl
      refine ⟨h3, fin d _ θ' v' _ (rg'.upd ea' h3 rfl (fun _ z => by cases z) (m := .dk kvs) ⟨ys, upd_same, h4.1, h4.2.kp k2⟩) (k1.trans (k'.trans k2)) (at'.kp k2) hq⟩
    · exact h.elim
  · exact h.elim

/-! ### defs: promises over data -/
abbrev DSp := List D → Mu → QD → Prop
def lSp (K : PySem.W.Frag) (T : List (Addr × Str)) (n : Nat) (sp : DSp) : Sp := fun vs H Q _ => ∃ (θ : Th) (μ : Mu) (ds : List D) (qd : QD), RG K T θ μ H ∧ AtL K H θ ds vs ∧ ds.length = n ∧ sp ds μ qd ∧
  ∀ d μ' θ' v H', RG K T (θ ++ θ') μ' H' → Kp H H' → At K H' (θ ++ θ') d v → qd d μ' → Q v H'
theorem lSp.len {K : PySem.W.Frag} {T : List (Addr × Str)} {n : Nat} {sp : DSp} {vs : List V} {H : Hp} {Q : VK} {E : XK} (h : lSp K T n sp vs H Q E) : vs.length = n := by
  obtain ⟨θ, μ, ds, qd, _, a, l, _⟩ := h
  rw [a.length, l]
theorem lSp.imp {K : PySem.W.Frag} {T : List (Addr × Str)} {n : Nat} {sp sp' : DSp} (h : ∀ ds μ q, ds.length = n → sp' ds μ q → sp ds μ q) (vs : List V) (H : Hp) (Q : VK) (E : XK) (x : lSp K T n sp' vs H Q E) : lSp K T n sp vs H Q E := by
  obtain ⟨θ, μ, ds, qd, rg, a, l, s, fin⟩ := x
  exact ⟨θ, μ, ds, qd, rg, a, l, h _ _ _ l s, fin⟩
def wCall (sp : DSp) (a : DA) : DT := fun ρ μ q x => a ρ μ (fun ds μ1 => sp ds μ1 q) x
section
variable {X : Cx} {T : List (Addr × Str)} {E : XK} {k n : Nat} {f : Addr} {fd : FuncData} {ps : List Str} {sp : DSp} {x : Str} {p pos : Pos} {e : Expr} {es : List Expr} {t : DA}
theorem pd_call (F : FnOk X.prog X.w X.K X.mg X.base CX0 k f fd ps (lSp X.K T n sp)) (hr : Room k X.A) (hg : Gl X x) (hm : X.mg x = some (.ref f)) (hk : PySem.W.keepIn X.K (.ref f) = true) (hb : Binds X.K fd ps []) (ha : PDA X T E (e :: es) t) (hn : ps.length = n)
    (hdb : (x == ("__debug__" : Str)) = false := by decide) (he : starEach (e :: es) X.env = (false, eval e X.env) :: starEach es X.env := by rfl) (hpl : (backTo pos (starEach es X.env)).any (·.1) = false := by rfl) :
    PD X T E (.Call (.Name x p) (e :: es) [] pos) (wCall (fun ds μ q => ds.length = n ∧ sp ds μ q) t) := by
  refine PE.imp (pe_call F hr hg hm hk hb .nil pass0 ha hdb he hpl) ?_
  rintro σ H Q ⟨θ, μ, ρ, qd, xd, rg, rs, xs, h, fin⟩
  refine ⟨θ, μ, ρ, _, xd, rg, rs, xs, h, fun ds μ1 θ1 vs H1 rg1 k1 at1 h1 => ?_⟩
  show lSp X.K T n sp (vs ++ []) H1 Q E0
  rw [List.append_nil]
  exact ⟨_, μ1, ds, qd, rg1, at1, h1.1, h1.2, fun d μ' θ' v H' r' k' a' q' => fin d μ' (θ1 ++ θ') v H' (by simpa only [List.append_assoc] using r') (k1.trans k') (by simpa only [List.append_assoc] using a') q'⟩
end
/-- the slots at a def's entry -/
def startD (N : List Str) (ds : List D) : Rho := ds.map some ++ List.replicate (N.length - ds.length) none
theorem rs_start {K : PySem.W.Frag} {θ : Th} {N : List Str} {ds : List D} {vs : List V} {H : Hp} (a : AtL K H θ ds vs) : RS K θ (startD N ds) (L2.start N vs) H := by
  unfold startD L2.start
  have hl := a.length
  refine ⟨by simp only [List.length_append, List.length_map, List.length_replicate, hl], fun i d e => ?_⟩
  by_cases hi : i < ds.length
  · rw [List.getElem?_append_left (by rw [List.length_map]; exact hi), List.getElem?_map] at e
    have hd : ds[i]? = some d := by
      cases q : ds[i]? with
      | none => rw [q] at e; cases e
      | some d' => rw [q] at e; cases e; rfl
    obtain ⟨v, e1, e2⟩ := a.get hd
    refine ⟨v, ?_, e2⟩
    rw [List.getElem?_append_left (by rw [List.length_map, hl]; exact hi), List.getElem?_map, e1]
    rfl
  · rw [List.getElem?_append_right (by rw [List.length_map]; omega)] at e
    rw [List.getElem?_replicate] at e
    split at e <;> cases e
/-- THE RULE for a def that lets no error out -/
theorem dl_fn {P : Program} {w : World} {K : PySem.W.Frag} {mg : Str → Option Value} {base : Heap} {T : List (Addr × Str)} {x qual : Str} {st : Stmt} {f : Addr} {fd : FuncData} {N ps : List Str} {k : Nat} {sp : DSp} {t : DS} (F : Fun K x qual st f fd) (S : FnScope N ps (defScope st))
    (hbody : ∀ (cdv : Value) (A : Around) (outer : List Env) (s : Shared) (H : Hp), Room k (A.deeper (envOfC qual (defScope st) s.heap.objs.size f cdv)) → PDSs (cxOf CX0 P w K mg base N qual (defScope st) f cdv A outer s H E0).nox T E0 (defBody st) t)
    (hread : ∀ ds μ q, ds.length = ps.length → sp ds μ q → t { nx := fun _ μ' => q .non μ', rt := q, ex := noX } (startD N ds) μ) : FnOk P w K mg base CX0 (k + 1) f fd ps (lSp K T ps.length sp) := by
  refine F.ok S (fun vs H Q E h => h.len) (fun cdv A outer s H vs Q E hr h => ?_)
  obtain ⟨θ, μ, ds, qd, rg, a, l, h, fin⟩ := h
  have hb := hbody cdv A outer s H hr
  refine ⟨lS K T E0 t, ⟨fun pins s' σ' H' D' I' h' => hb.run pins s' σ' H' D' I' h'⟩, θ, μ, startD N ds, _, rg, rs_start a, ⟨?_, ?_, ?_, fin, ?_⟩, hread ds μ qd l h⟩
  · intro ρ' μ' θ' σ' H' r' s' k' q'
    exact fin .non μ' θ' .non H' r' k' rfl q'
  · intro ρ' μ' θ' σ' H' r' s' k' q'
    exact q'
  · intro ρ' μ' θ' σ' H' r' s' k' q'
    exact q'
  · exact fun C μ' θ' H' r' k' q' => q'.elim
/-- the same, the def's code object known (a def that makes lambdas) -/
theorem dl_fnC {P : Program} {w : World} {K : PySem.W.Frag} {mg : Str → Option Value} {base : Heap} {T : List (Addr × Str)} {f : Addr} {name qual : Str} {params : Arguments} {body : List Stmt} {scope : Scope} {dV kV doc pm cdv ct oc : Value} {an od : Option Addr}
    {osl : Array (Option Value)} {N ps : List Str} {k : Nat} {sp : DSp} {t : DS} (lk : K.lookup f = some ⟨oc, od, .func (PySem.W.fnOf name qual params body scope dV kV doc pm an cdv ct), osl⟩) (hcd : PySem.W.codeIn K cdv qual = true) (S : FnScope N ps scope)
    (hbody : ∀ (A : Around) (outer : List Env) (s : Shared) (H : Hp), Room k (A.deeper (envOfC qual scope s.heap.objs.size f cdv)) → PDSs (cxOf CX0 P w K mg base N qual scope f cdv A outer s H E0).nox T E0 body t)
    (hread : ∀ ds μ q, ds.length = ps.length → sp ds μ q → t { nx := fun _ μ' => q .non μ', rt := q, ex := noX } (startD N ds) μ) : FnOk P w K mg base CX0 (k + 1) f (PySem.W.fnOf name qual params body scope dV kV doc pm an cdv ct) ps (lSp K T ps.length sp) := by
  refine fn_of lk hcd S (fun vs H Q E h => h.len) fun A outer s H vs Q E hr h => ?_
  obtain ⟨θ, μ, ds, qd, rg, a, l, h, fin⟩ := h
  have hb := hbody A outer s H hr
  refine ⟨lS K T E0 t, (⟨fun pins s' σ' H' D' I' h' => hb.run pins s' σ' H' D' I' h'⟩ : PSs (cxOf CX0 P w K mg base N qual scope f cdv A outer s H E).nox body (lS K T E0 t)).nox, θ, μ, startD N ds, _, rg, rs_start a, ⟨?_, ?_, ?_, fin, ?_⟩, hread ds μ qd l h⟩
  · intro ρ' μ' θ' σ' H' r' s' k' q'
    exact fin .non μ' θ' .non H' r' k' rfl q'
  · intro ρ' μ' θ' σ' H' r' s' k' q'
    exact q'
  · intro ρ' μ' θ' σ' H' r' s' k' q'
    exact q'
  · exact fun C μ' θ' H' r' k' q' => q'.elim

/-! ### told(lambda: e): try: return (0, read(call())) except .. -/
/-- what such a def makes of the lambda's reading -/
def TRead (K : PySem.W.Frag) (T : List (Addr × Str)) (rd : DSp) : (XK → Hp → VK → Prop) → Hp → VK → Prop := fun tl H Q =>
  tl E0 H fun v H1 => lSp K T 1 rd [v] H1 (fun u H2 => [V.int 0, u].length ≤ sizeLine ∧ ∀ p, H2 p = none → Q (.ref p) (upd H2 p (.tup [.int 0, u]))) E0
def wTold (rd : DSp) (tb : DT) : DT := fun ρ μ q x => tb ρ μ (fun d μ1 => rd [d] μ1 (fun e μ2 => q (.tup [.int 0, e]) μ2)) noX
theorem told_reads {X : Cx} {T : List (Addr × Str)} {Ng : List Str} {x a rdn q : Str} {sg : Scope} {g fr : Addr} {frd : FuncData} {cdg : Value} {kr j : Nat} {rps : List Str} {rd : DSp} {c0 p1 p2 p3 p4 p5 p6 : Pos} {h0 : ExceptHandler} {hs : List ExceptHandler}
    (FR : FnOk X.prog X.w X.K X.mg X.base CX0 kr fr frd rps (lSp X.K T 1 rd)) (hrr : ∀ (s : Shared), Room kr (X.A.deeper (envOfC x sg s.heap.objs.size g cdg))) (hgr : sg.names.lookup rdn = some .globalImplicit) (hmr : X.mg rdn = some (.ref fr)) (hkr : PySem.W.keepIn X.K (.ref fr) = true) (hbr : Binds X.K frd rps [])
    (h0' : ∀ f : Addr, (L2.start Ng [V.ref f])[0]? = some (some (V.ref f))) (hdb : (rdn == ("__debug__" : Str)) = false) :
    GivesTo X Ng x sg g cdg [.Try [.Return (some (.Tuple [.Constant (.int 0) j c0, .Call (.Name rdn p1) [.Call (.Name a p2) [] [] p3] [] p4] 0 p5)) p6] (h0 :: hs) [] [] pos8] a q (TRead X.K T rd) := by
  intro f c' s H Q tl act hc h
  have hp := act (fun _ _ _ _ => False) [] (fun _ _ => False) E0 p2 p3 LamX.takes0 (fun _ _ _ _ z => z)
  refine ⟨_, pss_one (ps_try_thru0 (X := (cxOf C8.CX0 X.prog X.w X.K X.mg X.base Ng x sg g cdg X.A X.stack s H C8.E0).nox) (pss_one (ps_ret (pe_tup (pa_cons pe_int (pa_cons (pe_call FR (hrr s) hgr hmr hkr hbr .nil pass0 (pa_cons (PE.imp hp fun _ _ _ z => z) pa_nil) hdb) pa_nil)))))), ?_⟩
  exact ⟨h0' f, hc, h⟩
section
variable {X : Cx} {T : List (Addr × Str)} {E : XK}
/-- x(lambda: body), x as above -/
theorem pd_told {x a : Str} {g c P : Addr} {k : Nat} {pg : Arguments} {bg : List Stmt} {sg : Scope} {dV kV doc pm cdv ct oc : Value} {an od : Option Addr} {osl : Array (Option Value)} {Ng : List Str}
    {params : Arguments} {body : Expr} {scope : Scope} {t : DT} {rd : DSp} {p lpos pos : Pos} (hg : Gl X x) (hm : X.mg x = some (.ref g)) (hk : PySem.W.keepIn X.K (.ref g) = true)
    (lk : X.K.lookup g = some ⟨oc, od, .func (PySem.W.fnOf x x pg bg sg dV kV doc pm an cdv ct), osl⟩) (hcg : PySem.W.codeIn X.K cdv x = true) (hb : L2.Binds X.K (PySem.W.fnOf x x pg bg sg dV kV doc pm an cdv ct) [a] []) (Sg : FnScope Ng [a] sg) (hNg : Ng[0]? = some a) (hva : Vis sg a)
    (hG : GivesTo X Ng x sg g cdv bg a (X.env.qual ++ "<lambda>") (TRead X.K T rd))
    (TB : TabB X.base X.mg c P) (hcode : X.env.code = .ref c) (hmT : (P, X.env.qual ++ "<lambda>") ∈ T) (hu : ∀ p ∈ T, p.1 = P → p.2 = X.env.qual ++ "<lambda>") (hr : Room (k + 2) X.A) (L : LamS X.env.scope scope) (hdef : defaultsOf params X.env = ([], []))
    (hbind : ∀ (q : Str) (cl : List (Str × Addr)) (pm cv ctv : Value), bindArgs (PySem.W.kla_fn "<lambda>" q params body scope cl pm cv ctv) ⟨[], []⟩ = pure [])
    (hbody : ∀ (A : Around) (outer : List Env) (s : Shared) (H : Hp) (E : XK) (f c' : Addr), Room k (A.deeper (lamEnv X scope s.heap.objs.size f c')) → PD (lamCx X A outer s H E scope f c') T E0 body t)
    (hdb : (x == ("__debug__" : Str)) = false := by decide) (hd : (a == ("__debug__" : Str)) = false := by decide) (hcd : (a == ("__classdict__" : Str)) = false := by decide) :
    PD X T E (.Call (.Name x p) [.Lambda params body scope lpos] [] pos) (wTold rd t) := by
  refine PE.imp (pe_lamcall (T := T) (TT := TRead X.K T rd) (t := fun _ => lE X.K T E0 t) hg hm hk lk hcg hb Sg hNg hva hG TB hcode hmT hu hr L hdef hbind hbody hdb hd hcd) ?_
  rintro σ H Q ⟨θ, μ, ρ, qd, xd, rg, rs, xs, h, fin⟩
  refine ⟨rg.tabs, fun H1 eN T1 => ?_⟩
  have k1 : Kp H H1 := fun b o e s => eN b o e fun ps z => by subst z; cases s
  have rs1 : RS X.K θ ρ σ H1 := by
    have := rs.mono (θ' := []) k1
    rwa [List.append_nil] at this
  refine ⟨θ, μ, ρ, _, noX, rg.extN eN T1, rs1, xs0, h, fun d μ2 θ2 v H2 rg2 k2 a2 h2 => ?_⟩
  refine ⟨_, μ2, [d], _, rg2, ⟨v, [], rfl, a2, rfl⟩, rfl, h2, fun e μ3 θ3 u H3 rg3 k3 a3 h3 => ?_⟩
  refine ⟨by show 2 ≤ sizeLine; decide, fun p hp => ?_⟩
  have k4 : Kp H3 (upd H3 p (.tup [.int 0, u])) := Kp.new hp
  refine fin (.tup [.int 0, e]) μ3 (θ2 ++ θ3) (.ref p) _ (by simpa only [List.append_assoc] using rg3.plus hp _) (k1.trans (k2.trans (k3.trans k4))) ⟨p, _, rfl, SqT.of upd_same, _, _, rfl, rfl, u, [], rfl, ?_, rfl⟩ h3
  have := a3.kp k4
  simpa only [List.append_assoc] using this
end
end DL

set_option Elab.async false
set_option linter.all false
set_option maxRecDepth 100000
set_option maxHeartbeats 4000000
namespace DL
open PySem PySem.Spec PyProof.Rows L2 LamX

/-! ### words of the readings -/
theorem ofs (a b : String) : (Str.ofString a = Str.ofString b) = (a = b) := by
  apply propext
  refine ⟨fun h => ?_, fun h => by rw [h]⟩
  rw [Str.ofString_eq_toList, Str.ofString_eq_toList] at h
  have h1 : a.toList.map Char.toNat = b.toList.map Char.toNat := by
    have := congrArg (fun s : Str => s.cps.toList) h
    simpa using this
  have inj : ∀ x y : Char, x.toNat = y.toNat → x = y := fun x y e => Char.ext (UInt32.toNat_inj.mp e)
  have h2 : a.toList = b.toList := (List.map_inj_right (fun x y e => inj x y e)).mp h1
  exact String.toList_inj.mp h2
/-- all that stood stands -/
def Ext (μ μ' : Mu) : Prop := ∀ (j : Nat) (o : MO), μ[j]? = some o → μ'[j]? = some o
theorem Ext.refl (μ : Mu) : Ext μ μ := fun _ _ h => h
theorem Ext.trans {μ μ1 μ2 : Mu} (a : Ext μ μ1) (b : Ext μ1 μ2) : Ext μ μ2 := fun j o h => b j o (a j o h)
theorem Ext.app (μ l : Mu) : Ext μ (μ ++ l) := fun j o h => by rw [List.getElem?_append_left (List.getElem?_eq_some_iff.mp h).1]; exact h
theorem Ext.len {μ μ' : Mu} (e : Ext μ μ') : μ.length ≤ μ'.length := by
  apply Nat.le_of_not_lt
  intro h
  have h1 : μ[μ'.length]? = some μ[μ'.length] := List.getElem?_eq_getElem h
  have h2 := e _ _ h1
  have := (List.getElem?_eq_some_iff.mp h2).1
  exact Nat.lt_irrefl _ this
/-- an object that did not stand may change -/
theorem Ext.set {μ μ' : Mu} (e : Ext μ μ') {n : Nat} (h : μ.length ≤ n) (o : MO) : Ext μ (μ'.set n o) := fun j u hj => by
  have hl := (List.getElem?_eq_some_iff.mp hj).1
  rw [List.getElem?_set_ne (by omega)]
  exact e j u hj
theorem get_new (μ : Mu) (o : MO) : (μ ++ [o])[μ.length]? = some o := by
  rw [List.getElem?_append_right (Nat.le_refl _), Nat.sub_self]
  rfl
theorem set_new (μ : Mu) (o u : MO) : (μ ++ [o]).set μ.length u = μ ++ [u] := by
  rw [List.set_append_right _ _ (Nat.le_refl _), Nat.sub_self]
  rfl
/-- the box at b: two numbers that are not negative; all else stands -/
def Box (μ : Mu) (b : Nat) : Prop := ∃ c m : Int, 0 ≤ c ∧ 0 ≤ m ∧ μ[b]? = some (.lst [.int c, .int m])
def Bx (b : Nat) (μ μ' : Mu) : Prop := Box μ' b ∧ ∀ (j : Nat) (o : MO), j ≠ b → μ[j]? = some o → μ'[j]? = some o
theorem Bx.trans {b : Nat} {μ μ1 μ2 : Mu} (a : Bx b μ μ1) (c : Bx b μ1 μ2) : Bx b μ μ2 := ⟨c.1, fun j o hj h => c.2 j o hj (a.2 j o hj h)⟩
theorem Bx.refl {b : Nat} {μ : Mu} (h : Box μ b) : Bx b μ μ := ⟨h, fun _ _ _ h => h⟩
theorem Box.ext {b : Nat} {μ μ' : Mu} (h : Box μ b) (e : Ext μ μ') : Box μ' b := by
  obtain ⟨c, m, h1, h2, h3⟩ := h
  exact ⟨c, m, h1, h2, e _ _ h3⟩
theorem Bx.of_ext {b : Nat} {μ μ' : Mu} (h : Box μ b) (e : Ext μ μ') : Bx b μ μ' := ⟨h.ext e, fun j o _ hj => e j o hj⟩
theorem Bx.ext {b : Nat} {μ μ1 μ2 : Mu} (a : Bx b μ μ1) (e : Ext μ1 μ2) : Bx b μ μ2 := a.trans (.of_ext a.1 e)
theorem Bx.len {b : Nat} {μ μ' : Mu} (h : Bx b μ μ') : μ.length ≤ μ'.length := by
  apply Nat.le_of_not_lt
  intro hl
  by_cases hb : μ'.length = b
  · obtain ⟨c, m, _, _, e⟩ := h.1
    have := (List.getElem?_eq_some_iff.mp e).1
    omega
  · have h1 : μ[μ'.length]? = some μ[μ'.length] := List.getElem?_eq_getElem hl
    have h2 := h.2 _ _ hb h1
    have := (List.getElem?_eq_some_iff.mp h2).1
    exact Nat.lt_irrefl _ this
theorem Bx.set {b : Nat} {μ μ' : Mu} (e : Bx b μ μ') {n : Nat} (h : μ.length ≤ n) (hb : b ≠ n) (o : MO) : Bx b μ (μ'.set n o) := by
  obtain ⟨⟨c, m, h1, h2, h3⟩, h4⟩ := e
  refine ⟨⟨c, m, h1, h2, by rw [List.getElem?_set_ne (fun z => hb z.symm)]; exact h3⟩, fun j u hn hj => ?_⟩
  have hl := (List.getElem?_eq_some_iff.mp hj).1
  rw [List.getElem?_set_ne (by omega)]
  exact h4 j u hn hj
theorem ati0 {α : Type} (a : α) (l : List α) : atI (a :: l) 0 = some a := atI_nat (j := 0) rfl
theorem ati1 {α : Type} (a b : α) (l : List α) : atI (a :: b :: l) 1 = some b := atI_nat (j := 1) rfl
theorem ati2 {α : Type} (a b c : α) (l : List α) : atI (a :: b :: c :: l) 2 = some c := atI_nat (j := 2) rfl
theorem ati3 {α : Type} (a b c d : α) (l : List α) : atI (a :: b :: c :: d :: l) 3 = some d := atI_nat (j := 3) rfl
theorem ati4 {α : Type} (a b c d e : α) (l : List α) : atI (a :: b :: c :: d :: e :: l) 4 = some e := atI_nat (j := 4) rfl
theorem atI_of {α : Type} {l : List α} {i : Int} {v : α} (h0 : 0 ≤ i) (h : l[i.toNat]? = some v) : atI l i = some v := by
  have := atI_nat h
  rwa [Int.toNat_of_nonneg h0] at this
theorem ixN_of {n : Nat} {i : Int} (h0 : 0 ≤ i) (h : i < n) : ixN n i = some i.toNat := by
  unfold ixN
  rw [if_pos h0, if_pos h]
/-- nothing is asked of this def at all -/
theorem fn_none {P : Program} {w : World} {K : PySem.W.Frag} {mg : Str → Option Value} {base : Heap} {T : List (Addr × Str)} {k n : Nat} {f : Addr} {fd : FuncData} {ps : List Str} {sp : DSp} (h : ∀ ds μ q, ¬ sp ds μ q) : FnOk P w K mg base CX0 k f fd ps (lSp K T n sp) := by
  have no : ∀ vs H Q E, ¬ lSp K T n sp vs H Q E := fun vs H Q E x => by
    obtain ⟨θ, μ, ds, qd, _, _, _, s, _⟩ := x
    exact h _ _ _ s
  exact ⟨fun vs H Q E x => absurd x (no vs H Q E), fun A outer s H args us vs Q E _ _ _ _ x => absurd x (no vs H Q E)⟩
theorem FnOk.sp {P : Program} {w : World} {K : PySem.W.Frag} {mg : Str → Option Value} {base : Heap} {T : List (Addr × Str)} {k n : Nat} {f : Addr} {fd : FuncData} {ps : List Str} {sp sp' : DSp} (F : FnOk P w K mg base CX0 k f fd ps (lSp K T n sp)) (h : ∀ ds μ q, sp' ds μ q → sp ds μ q) :
    FnOk P w K mg base CX0 k f fd ps (lSp K T n sp') := F.imp fun vs H Q E x => lSp.imp (fun ds μ q _ s => h ds μ q s) vs H Q E x

/-! ### data that a reader may walk: no lists, no defs -/
mutual
def isDat : D → Bool
  | .non => true
  | .bl _ => true
  | .int _ => true
  | .str x => decide (x.length ≤ 1000)
  | .tup ds => decide (ds.length ≤ 100000) && isDatL ds
  | _ => false
def isDatL : List D → Bool
  | [] => true
  | d :: ds => isDat d && isDatL ds
end
mutual
def dep : D → Nat
  | .tup ds => depL ds + 1
  | _ => 0
def depL : List D → Nat
  | [] => 0
  | d :: ds => max (dep d) (depL ds)
end
theorem isDat_tn {μ : Mu} {d : D} (h : isDat d = true) : (tnD μ d).isSome = true := by
  cases d <;> first | rfl | cases h
end DL

set_option Elab.async false
set_option linter.all false
namespace DL
open PySem PySem.Spec PyProof.Rows L2 LamX

theorem tn_non {μ : Mu} {b : Bool} {i : Int} {x : Str} {ds : List D} : tnD μ .non = some "NoneType" := rfl
theorem tn_bl {μ : Mu} {b : Bool} {i : Int} {x : Str} {ds : List D} : tnD μ (.bl b) = some "bool" := rfl
theorem tn_int {μ : Mu} {b : Bool} {i : Int} {x : Str} {ds : List D} : tnD μ (.int i) = some "int" := rfl
theorem tn_str {μ : Mu} {b : Bool} {i : Int} {x : Str} {ds : List D} : tnD μ (.str x) = some "str" := rfl
theorem tn_tup {μ : Mu} {b : Bool} {i : Int} {x : Str} {ds : List D} : tnD μ (.tup ds) = some "tuple" := rfl
theorem tn_lst {μ : Mu} {j : Nat} {ds : List D} (h : μ[j]? = some (.lst ds)) : tnD μ (.obj j) = some "list" := by unfold tnD; simp only [h]
theorem tn_ro {μ : Mu} {j : Nat} {ds : List D} (h : μ[j]? = some (.ro ds)) : tnD μ (.obj j) = some "list" := by unfold tnD; simp only [h]
theorem tn_dk {μ : Mu} {j : Nat} {kvs : List (Key × D)} (h : μ[j]? = some (.dk kvs)) : tnD μ (.obj j) = some "dict" := by unfold tnD; simp only [h]
theorem kit_NoneType_int : kitT "NoneType" "int" = some false := rfl
theorem kit_NoneType_bool : kitT "NoneType" "bool" = some false := rfl
theorem kit_NoneType_str : kitT "NoneType" "str" = some false := rfl
theorem kit_NoneType_tuple : kitT "NoneType" "tuple" = some false := rfl
theorem kit_NoneType_list : kitT "NoneType" "list" = some false := rfl
theorem kit_NoneType_dict : kitT "NoneType" "dict" = some false := rfl
theorem kit_bool_int : kitT "bool" "int" = some true := rfl
theorem kit_bool_bool : kitT "bool" "bool" = some true := rfl
theorem kit_bool_str : kitT "bool" "str" = some false := rfl
theorem kit_bool_tuple : kitT "bool" "tuple" = some false := rfl
theorem kit_bool_list : kitT "bool" "list" = some false := rfl
theorem kit_bool_dict : kitT "bool" "dict" = some false := rfl
theorem kit_int_int : kitT "int" "int" = some true := rfl
theorem kit_int_bool : kitT "int" "bool" = some false := rfl
theorem kit_int_str : kitT "int" "str" = some false := rfl
theorem kit_int_tuple : kitT "int" "tuple" = some false := rfl
theorem kit_int_list : kitT "int" "list" = some false := rfl
theorem kit_int_dict : kitT "int" "dict" = some false := rfl
theorem kit_str_int : kitT "str" "int" = some false := rfl
theorem kit_str_bool : kitT "str" "bool" = some false := rfl
theorem kit_str_str : kitT "str" "str" = some true := rfl
theorem kit_str_tuple : kitT "str" "tuple" = some false := rfl
theorem kit_str_list : kitT "str" "list" = some false := rfl
theorem kit_str_dict : kitT "str" "dict" = some false := rfl
theorem kit_tuple_int : kitT "tuple" "int" = some false := rfl
theorem kit_tuple_bool : kitT "tuple" "bool" = some false := rfl
theorem kit_tuple_str : kitT "tuple" "str" = some false := rfl
theorem kit_tuple_tuple : kitT "tuple" "tuple" = some true := rfl
theorem kit_tuple_list : kitT "tuple" "list" = some false := rfl
theorem kit_tuple_dict : kitT "tuple" "dict" = some false := rfl
theorem kit_list_int : kitT "list" "int" = some false := rfl
theorem kit_list_bool : kitT "list" "bool" = some false := rfl
theorem kit_list_str : kitT "list" "str" = some false := rfl
theorem kit_list_tuple : kitT "list" "tuple" = some false := rfl
theorem kit_list_list : kitT "list" "list" = some true := rfl
theorem kit_list_dict : kitT "list" "dict" = some false := rfl
theorem kit_dict_int : kitT "dict" "int" = some false := rfl
theorem kit_dict_bool : kitT "dict" "bool" = some false := rfl
theorem kit_dict_str : kitT "dict" "str" = some false := rfl
theorem kit_dict_tuple : kitT "dict" "tuple" = some false := rfl
theorem kit_dict_list : kitT "dict" "list" = some false := rfl
theorem kit_dict_dict : kitT "dict" "dict" = some true := rfl
end DL

set_option Elab.async false
set_option linter.all false
set_option maxRecDepth 100000
set_option maxHeartbeats 4000000
namespace DL
open PySem PySem.Spec PyProof.Rows L2 LamX
/-- a comprehension whose element makes new things at most -/
theorem lc_go {α : Type} {ok : Mu → Prop} {g : DG} {tt : DB} {te : DT} {ρw : Rho} {q : Mu → Prop} {μ0 : Mu} (F f : α → D) (hok : ∀ μ', Ext μ0 μ' → ok μ') : ∀ (xs : List α) (acc : List D) (μ : Mu), acc.length + xs.length ≤ sizeLine → Ext μ0 μ → μ[μ0.length]? = some (.lst acc) →
    (∀ x ∈ xs, ∀ (μ' : Mu) (q' : QD), Ext μ0 μ' → (∀ μ'', Ext μ' μ'' → q' (f x) μ'') → g (F x) ρw μ' (fun ρ1 μ1 => tt ρ1 μ1 (fun b μ2 => match b with
      | true => te ρ1 μ2 q' noX
      | false => False) noX) noX) →
    (hm : ∀ (d : D) (ρ : Rho) (μ : Mu) (p p' : Rho → Mu → Prop), (∀ ρ μ, p ρ μ → p' ρ μ) → g d ρ μ p noX → g d ρ μ p' noX) → (hmt : ∀ (ρ : Rho) (μ : Mu) (p p' : Bool → Mu → Prop), (∀ b μ, p b μ → p' b μ) → tt ρ μ p noX → tt ρ μ p' noX) →
    (∀ μ', Ext μ0 μ' → μ'[μ0.length]? = some (.lst (acc ++ xs.map f)) → q μ') → wLcGo ok g tt te ρw μ0.length q (xs.map F) μ
  | [], acc, μ, _, e, h, _, _, _, hq => ⟨hok _ e, hq μ e (by rw [List.map_nil, List.append_nil]; exact h)⟩
  | x :: xs, acc, μ, hl, e, h, hel, hm, hmt, hq => by
    refine ⟨hok _ e, hm _ _ _ _ _ (fun ρ1 μ1 => hmt _ _ _ _ fun b μ2 => ?_) (hel x (List.mem_cons_self ..) μ (fun y μ3 => match μ3[μ0.length]? with
      | some (.lst acc) => acc.length < sizeLine ∧ wLcGo ok g tt te ρw μ0.length q (xs.map F) (μ3.set μ0.length (.lst (acc ++ [y])))
      | _ => False) e fun μ3 e3 => ?_)⟩
    · cases b with
      | true => exact id
      | false => exact False.elim
    · have h3 := e3 _ _ h
      simp only [h3]
      rw [List.length_cons] at hl
      have lt : μ0.length < μ3.length := (List.getElem?_eq_some_iff.mp h3).1
      refine ⟨by omega, lc_go F f hok xs (acc ++ [f x]) _ (by rw [List.length_append]; show acc.length + 1 + xs.length ≤ sizeLine; omega) ((e.trans e3).set (Nat.le_refl _) _) (List.getElem?_set_self lt) (fun x' hx' => hel x' (List.mem_cons_of_mem _ hx')) hm hmt fun μ' e' h' => hq μ' e' ?_⟩
      rw [h', List.append_assoc]
      rfl
theorem gN_mono (i : Nat) (d : D) (ρ : Rho) (μ : Mu) (p p' : Rho → Mu → Prop) (h : ∀ ρ μ, p ρ μ → p' ρ μ) : gN i d ρ μ p noX → gN i d ρ μ p' noX := h _ _
theorem gTp2_mono (i j : Nat) (d : D) (ρ : Rho) (μ : Mu) (p p' : Rho → Mu → Prop) (h : ∀ ρ μ, p ρ μ → p' ρ μ) : gTp 2 (gCn (gN i) (gCn (gN j) gNl)) d ρ μ p noX → gTp 2 (gCn (gN i) (gCn (gN j) gNl)) d ρ μ p' noX := by
  unfold gTp
  cases d with
  | tup ds =>
    rcases ds with _ | ⟨a, _ | ⟨b, _ | ⟨c, r⟩⟩⟩ <;> simp only [gCn, gN, gNl] <;> intro z <;> first | exact ⟨z.1, h _ _ z.2⟩ | exact z
  | _ => exact id
theorem wYes_mono (ρ : Rho) (μ : Mu) (p p' : Bool → Mu → Prop) (h : ∀ b μ, p b μ → p' b μ) : wYes ρ μ p noX → wYes ρ μ p' noX := h _ _
theorem lc_map {α : Type} {ok : Mu → Prop} {i : Nat} {te : DT} {ρw : Rho} {q : Mu → Prop} {μ0 : Mu} {ds : List D} (xs : List α) (F f : α → D) (hds : ds = xs.map F) (hok : ∀ μ', Ext μ0 μ' → ok μ') (hl : xs.length ≤ sizeLine)
    (hel : ∀ x ∈ xs, ∀ (μ' : Mu) (q' : QD), Ext μ0 μ' → (∀ μ'', Ext μ' μ'' → q' (f x) μ'') → te (ρw.set i (some (F x))) μ' q' noX)
    (hq : ∀ μ', Ext μ0 μ' → μ'[μ0.length]? = some (.lst (xs.map f)) → q μ') : wLcGo ok (gN i) wYes te ρw μ0.length q ds (μ0 ++ [.lst []]) := by
  subst hds
  exact lc_go F f hok xs [] _ (by show 0 + xs.length ≤ sizeLine; omega) (Ext.app _ _) (by rw [List.getElem?_append_right (Nat.le_refl _), Nat.sub_self]; rfl) (fun x hx μ' q' e h => hel x hx μ' q' e h) (gN_mono i) wYes_mono fun μ' e h => hq μ' e h
theorem lc_map2 {α : Type} {ok : Mu → Prop} {i j : Nat} {te : DT} {ρw : Rho} {q : Mu → Prop} {μ0 : Mu} {ds : List D} (xs : List α) (F1 F2 f : α → D) (hds : ds = xs.map fun x => .tup [F1 x, F2 x]) (hok : ∀ μ', Ext μ0 μ' → ok μ') (hl : xs.length ≤ sizeLine)
    (hel : ∀ x ∈ xs, ∀ (μ' : Mu) (q' : QD), Ext μ0 μ' → (∀ μ'', Ext μ' μ'' → q' (f x) μ'') → te ((ρw.set i (some (F1 x))).set j (some (F2 x))) μ' q' noX)
    (hq : ∀ μ', Ext μ0 μ' → μ'[μ0.length]? = some (.lst (xs.map f)) → q μ') : wLcGo ok (gTp 2 (gCn (gN i) (gCn (gN j) gNl))) wYes te ρw μ0.length q ds (μ0 ++ [.lst []]) := by
  subst hds
  exact lc_go _ f hok xs [] _ (by show 0 + xs.length ≤ sizeLine; omega) (Ext.app _ _) (by rw [List.getElem?_append_right (Nat.le_refl _), Nat.sub_self]; rfl) (fun x hx μ' q' e h => ⟨rfl, hel x hx μ' q' e h⟩) (gTp2_mono i j) wYes_mono fun μ' e h => hq μ' e h
/-- a comprehension whose element changes things by its own promise R -/
theorem lc_inv {α : Type} {ok : Mu → Prop} {i : Nat} {te : DT} {ρw : Rho} {q : Mu → Prop} {j : Nat} (I : Nat → List D → Mu → Prop) (F : α → D) : ∀ (xs : List α) (k : Nat) (acc : List D) (μ : Mu), acc.length + xs.length ≤ sizeLine → I k acc μ → (∀ k acc μ, I k acc μ → ok μ) → μ[j]? = some (.lst acc) →
    (∀ k x, x ∈ xs → ∀ (acc : List D) (μ' : Mu) (q' : QD), I k acc μ' → μ'[j]? = some (.lst acc) → (∀ y μ'', μ''[j]? = some (.lst acc) → I (k + 1) (acc ++ [y]) (μ''.set j (.lst (acc ++ [y]))) → q' y μ'') → te (ρw.set i (some (F x))) μ' q' noX) →
    (∀ acc μ', I (k + xs.length) acc μ' → μ'[j]? = some (.lst acc) → q μ') → wLcGo ok (gN i) wYes te ρw j q (xs.map F) μ
  | [], k, acc, μ, _, h, hok, hj, _, hq => ⟨hok _ _ _ h, hq acc μ h hj⟩
  | x :: xs, k, acc, μ, hl, h, hok, hj, hel, hq => by
    refine ⟨hok _ _ _ h, ?_⟩
    show te _ μ _ noX
    refine hel k x (List.mem_cons_self ..) acc μ _ h hj fun y μ3 hj3 h3 => ?_
    show (match μ3[j]? with
      | some (.lst acc) => acc.length < sizeLine ∧ wLcGo ok (gN i) wYes te ρw j q (xs.map F) (μ3.set j (.lst (acc ++ [y])))
      | _ => False)
    simp only [hj3]
    rw [List.length_cons] at hl
    have lt : j < μ3.length := (List.getElem?_eq_some_iff.mp hj3).1
    refine ⟨by omega, lc_inv I F xs (k + 1) (acc ++ [y]) _ (by rw [List.length_append]; show acc.length + 1 + xs.length ≤ sizeLine; omega) h3 hok (List.getElem?_set_self lt) (fun k' x' hx' => hel k' x' (List.mem_cons_of_mem _ hx')) fun acc' μ' h' => hq acc' μ' ?_⟩
    rw [List.length_cons]
    rwa [show k + (xs.length + 1) = k + 1 + xs.length by omega]
/-- a for, by an invariant -/
theorem for_go {α : Type} {ok : Mu → Prop} {g : DG} {b : DS} {de : DEnds} {ys : List α} (F : α → D) (I : Nat → Rho → Mu → Prop) (hok : ∀ k ρ μ, I k ρ μ → ok μ)
    (hstep : ∀ k x, ys[k]? = some x → ∀ ρ μ (N : Rho → Mu → Prop), I k ρ μ → (∀ ρ' μ', I (k + 1) ρ' μ' → N ρ' μ') → g (F x) ρ μ (fun ρ1 μ1 => b { de with nx := N, ct := N, bk := de.nx } ρ1 μ1) de.ex)
    (hend : ∀ ρ μ, I ys.length ρ μ → de.nx ρ μ) : ∀ (k : Nat) (xs : List α) (ρ : Rho) (μ : Mu), ys.drop k = xs → k ≤ ys.length → I k ρ μ → wForGo ok g b de (xs.map F) ρ μ
  | k, [], ρ, μ, e, hk, h => by
    have : k = ys.length := by
      have := congrArg List.length e
      rw [List.length_drop] at this
      simp at this
      omega
    subst this
    exact ⟨hok _ _ _ h, hend _ _ h⟩
  | k, x :: xs, ρ, μ, e, hk, h => by
    have hx : ys[k]? = some x := by
      have := congrArg (fun l => l[0]?) e
      simpa using this
    have hlt := (List.getElem?_eq_some_iff.mp hx).1
    refine ⟨hok _ _ _ h, hstep k x hx ρ μ _ h fun ρ' μ' h' => for_go F I hok hstep hend (k + 1) xs ρ' μ' ?_ (by omega) h'⟩
    have := congrArg (List.drop 1) e
    rw [List.drop_drop] at this
    exact this
theorem for_inv {α : Type} {ok : Mu → Prop} {g : DG} {b : DS} {de : DEnds} {ds : List D} {ρ : Rho} {μ : Mu} (ys : List α) (F : α → D) (I : Nat → Rho → Mu → Prop) (hds : ds = ys.map F) (h0 : I 0 ρ μ) (hok : ∀ k ρ μ, I k ρ μ → ok μ)
    (hstep : ∀ k x, ys[k]? = some x → ∀ ρ μ (N : Rho → Mu → Prop), I k ρ μ → (∀ ρ' μ', I (k + 1) ρ' μ' → N ρ' μ') → g (F x) ρ μ (fun ρ1 μ1 => b { de with nx := N, ct := N, bk := de.nx } ρ1 μ1) de.ex)
    (hend : ∀ ρ μ, I ys.length ρ μ → de.nx ρ μ) : wForGo ok g b de ds ρ μ := by
  subst hds
  exact for_go F I hok hstep hend 0 ys ρ μ rfl (Nat.zero_le _) h0
theorem rg01 (n : Nat) : rgD 0 1 n = (List.range n).map fun (i : Nat) => D.int (i : Int) := by
  unfold rgD
  refine List.map_congr_left fun i _ => ?_
  rw [Int.mul_one, Int.zero_add]
theorem seqL {μ : Mu} {j : Nat} {ds : List D} (h : μ[j]? = some (.lst ds)) : lstOf μ j = some ds := by unfold lstOf; simp only [h]
theorem seqR {μ : Mu} {j : Nat} {ds : List D} (h : μ[j]? = some (.ro ds)) : lstOf μ j = some ds := by unfold lstOf; simp only [h]
theorem lInts {μ : Mu} {j : Nat} {ns : List Int} (h : μ[j]? = some (.lst (ns.map D.int))) : lstInts μ j = some ns := by
  unfold lstInts
  rw [seqL h]
  exact intsOf_map ns
theorem lBls {μ : Mu} {j : Nat} {ns : List Bool} (h : μ[j]? = some (.lst (ns.map D.bl))) : lstBls μ j = some ns := by
  unfold lstBls
  rw [seqL h]
  exact blsOf_map ns
theorem atN {α : Type} {l : List α} {i : Nat} {v : α} (h : l[i]? = some v) : atI l (i : Int) = some v := atI_nat h
end DL

set_option Elab.async false
set_option linter.all false
namespace DL
open PySem PySem.Spec PyProof.Rows L2 LamX
def bA (c : Bool) (a : DT) : DT := fun ρ μ q x => match c with
  | true => a ρ μ q x
  | false => q (.bl false) μ
def bO (c : Bool) (a : DT) : DT := fun ρ μ q x => match c with
  | true => q (.bl true) μ
  | false => a ρ μ q x
def bE (c : Bool) (a b : DT) : DT := fun ρ μ q x => match c with
  | true => a ρ μ q x
  | false => b ρ μ q x
def bBA (c : Bool) (a : DB) : DB := fun ρ μ q x => match c with
  | true => a ρ μ q x
  | false => q false μ
def bBO (c : Bool) (a : DB) : DB := fun ρ μ q x => match c with
  | true => q true μ
  | false => a ρ μ q x
def bC (c : Bool) (op : DO2) (e : D) (a : DT) : DT := fun ρ μ q x => match c with
  | true => a ρ μ (fun f μ1 => op e f μ1 q) x
  | false => q (.bl false) μ
def bS (c : Bool) (t s : DS) : DS := fun de ρ μ => match c with
  | true => t de ρ μ
  | false => s de ρ μ
def dT (d : D) (f : Bool → Prop) : Prop := match d with
  | .bl c => f c
  | _ => False
def pT (d : D) (f : Int → Prop) : Prop := match d with
  | .int i => f i
  | _ => False
def opSl (d : D) (l u : Option Int) : Mu → QD → Prop := fun μ q => match d with
  | .tup ds => q (.tup (cutD ds l u)) μ
  | .obj j => match lstOf μ j with
    | some ds => q (.obj μ.length) (μ ++ [.lst (cutD ds l u)])
    | none => False
  | _ => False
def opSeq (d : D) (μ : Mu) (p : DIt → Prop) : Prop := match d with
  | .tup ds => p ⟨ds, fun _ => True⟩
  | .obj j => match lstOf μ j with
    | some ds => p ⟨ds, fun μ2 => lstOf μ2 j = some ds⟩
    | none => False
  | _ => False
def opKeys (d : D) (μ : Mu) (p : DIt → Prop) : Prop := match d with
  | .obj j => match μ[j]? with
    | some (.dkf o xs kvs) => p ⟨kvs.map fun kv => keyDof kv.1, fun μ2 => μ2[j]? = some (.dkf o xs kvs)⟩
    | _ => False
  | _ => False
def opGet (d k z : D) (μ : Mu) (q : QD) : Prop := match d with
  | .obj j => match μ[j]? with
    | some (.dk kvs) => match keyD k with
      | some k => q ((valD kvs k).getD z) μ
      | none => False
    | _ => False
  | _ => False
variable {ρ : Rho} {μ : Mu} {q : QD} {x : XD} {a b c : DT} {da : DA} {u v : DB} {op op2 : DO2} {o1 : DO1} {ol : DOL} {de : DEnds} {t s : DS} {g : DG} {gs : DGs} {d e : D} {ds es : List D} {i j : Int} {n m : Nat} {k : Key} {kvs : List (Key × D)} {w z : Str}
theorem rd_var (h : ρ[n]? = some (some d)) : wVar n ρ μ q x = q d μ := by unfold wVar; simp only [h]
theorem rd_C : wC d ρ μ q x = q d μ := propext Iff.rfl
theorem rd_bin : wBin op a b ρ μ q x = a ρ μ (fun d μ1 => b ρ μ1 (fun e μ2 => op d e μ2 q) x) x := propext Iff.rfl
theorem rd_un : wUn o1 a ρ μ q x = a ρ μ (fun d μ1 => o1 d μ1 q) x := propext Iff.rfl
theorem rd_nil {p : List D → Mu → Prop} : wNil ρ μ p x = p [] μ := propext Iff.rfl
theorem rd_cons {p : List D → Mu → Prop} : wCons a da ρ μ p x = a ρ μ (fun d μ1 => da ρ μ1 (fun ds μ2 => p (d :: ds) μ2) x) x := propext Iff.rfl
theorem rd_L : wL ol da ρ μ q x = da ρ μ (fun ds μ1 => ol ds μ1 q) x := propext Iff.rfl
theorem rd_test {p : Bool → Mu → Prop} : wTest a ρ μ p x = a ρ μ (fun d μ1 => dT d fun c => p c μ1) x := propext Iff.rfl
theorem rd_and : wAnd a b ρ μ q x = a ρ μ (fun d μ1 => dT d fun c => bA c b ρ μ1 q x) x := by
  refine congrArg (fun k => a ρ μ k x) (funext fun d => funext fun μ1 => ?_)
  rcases d with _ | ⟨_ | _⟩ | _ | _ | _ | _ | _ | _ <;> rfl
theorem rd_or : wOr a b ρ μ q x = a ρ μ (fun d μ1 => dT d fun c => bO c b ρ μ1 q x) x := by
  refine congrArg (fun k => a ρ μ k x) (funext fun d => funext fun μ1 => ?_)
  rcases d with _ | ⟨_ | _⟩ | _ | _ | _ | _ | _ | _ <;> rfl
theorem rd_not : wNot a ρ μ q x = a ρ μ (fun d μ1 => dT d fun c => q (.bl (!c)) μ1) x := propext Iff.rfl
theorem rd_if : wIf u a b ρ μ q x = u ρ μ (fun c μ1 => bE c a b ρ μ1 q x) x := propext Iff.rfl
theorem rd_band {p : Bool → Mu → Prop} : wBAnd u v ρ μ p x = u ρ μ (fun c μ1 => bBA c v ρ μ1 p x) x := propext Iff.rfl
theorem rd_bor {p : Bool → Mu → Prop} : wBOr u v ρ μ p x = u ρ μ (fun c μ1 => bBO c v ρ μ1 p x) x := propext Iff.rfl
theorem rd_bnot {p : Bool → Mu → Prop} : wBNot u ρ μ p x = u ρ μ (fun c μ1 => p (!c) μ1) x := propext Iff.rfl
theorem rd_chain : wChain op op2 a b c ρ μ q x = a ρ μ (fun d μ1 => b ρ μ1 (fun e μ2 => op d e μ2 fun z μ3 => dT z fun k => bC k op2 e c ρ μ3 q x) x) x := by
  refine congrArg (fun k => a ρ μ k x) (funext fun d => funext fun μ1 => congrArg (fun k => b ρ μ1 k x) (funext fun e => funext fun μ2 => congrArg (op d e μ2) (funext fun z => funext fun μ3 => ?_)))
  rcases z with _ | ⟨_ | _⟩ | _ | _ | _ | _ | _ | _ <;> rfl
theorem rd_call {sp : DSp} : wCall sp da ρ μ q x = da ρ μ (fun ds μ1 => sp ds μ1 q) x := propext Iff.rfl
theorem rd_mt {Ty : String} {om : DOM} : wMt Ty om a da ρ μ q x = a ρ μ (fun d μ1 => tyD μ1 Ty d ∧ da ρ μ1 (fun ds μ2 => om d ds μ2 q) x) x := propext Iff.rfl
theorem rd_dnew : wDnew ρ μ q x = q (.obj μ.length) (μ ++ [.dk []]) := propext Iff.rfl
theorem rd_nopart {p : Option Int → Mu → Prop} : wNoPart ρ μ p x = p none μ := propext Iff.rfl
theorem rd_part {p : Option Int → Mu → Prop} : wPart a ρ μ p x = a ρ μ (fun d μ1 => pT d fun i => p (some i) μ1) x := propext Iff.rfl
theorem rd_sl {tl th : DTO} : wSl a tl th ρ μ q x = a ρ μ (fun d μ1 => tl ρ μ1 (fun l μ2 => th ρ μ2 (fun u μ3 => opSl d l u μ3 q) x) x) x := propext Iff.rfl
theorem rd_lc {wi : DI} {vs : List Nat} : wLc wi g u a vs ρ μ q x = wi ρ μ (fun I μ1 => wLcGo I.ok g u a (wipeD ρ vs) μ1.length (fun μ2 => q (.obj μ1.length) μ2) I.items (μ1 ++ [.lst []])) x := propext Iff.rfl
theorem rd_itseq {p : DIt → Mu → Prop} : wItSeq a ρ μ p x = a ρ μ (fun d μ1 => opSeq d μ1 fun I => p I μ1) x := propext Iff.rfl
theorem rd_itA {p : DIt → Mu → Prop} {oi : List D → (DIt → Prop) → Prop} : wItA oi da ρ μ p x = da ρ μ (fun ds μ1 => oi ds fun I => p I μ1) x := propext Iff.rfl
theorem rd_itzip {p : DIt → Mu → Prop} : wItZip da ρ μ p x = da ρ μ (fun ds μ1 => opZip ds μ1 fun I => p I μ1) x := propext Iff.rfl
theorem rd_itkeys {p : DIt → Mu → Prop} : wItKeys a ρ μ p x = a ρ μ (fun d μ1 => opKeys d μ1 fun I => p I μ1) x := propext Iff.rfl
theorem rd_told {rd : DSp} : wTold rd a ρ μ q x = a ρ μ (fun d μ1 => rd [d] μ1 (fun e μ2 => q (.tup [.int 0, e]) μ2)) noX := propext Iff.rfl
theorem rd_yes {p : Bool → Mu → Prop} : wYes ρ μ p x = p true μ := propext Iff.rfl
theorem rs_ret : wRet a de ρ μ = a ρ μ de.rt de.ex := propext Iff.rfl
theorem rs_retN : wRetN de ρ μ = de.rt .non μ := propext Iff.rfl
theorem rs_exp : wExp a de ρ μ = a ρ μ (fun _ μ1 => de.nx ρ μ1) de.ex := propext Iff.rfl
theorem rs_skip : wSkip de ρ μ = de.nx ρ μ := propext Iff.rfl
theorem rs_brk : wBrk de ρ μ = de.bk ρ μ := propext Iff.rfl
theorem rs_cnt : wCnt de ρ μ = de.ct ρ μ := propext Iff.rfl
theorem rs_never : wNever de ρ μ = False := propext Iff.rfl
theorem rs_ifs : wIfS u t s de ρ μ = u ρ μ (fun b μ1 => bS b t s de ρ μ1) de.ex := propext Iff.rfl
theorem rs_asg : wAsg a g de ρ μ = a ρ μ (fun d μ1 => g d ρ μ1 de.nx de.ex) de.ex := propext Iff.rfl
theorem rs_par : wPar n m a b de ρ μ = a ρ μ (fun d μ1 => b ρ μ1 (fun e μ2 => de.nx ((ρ.set n (some d)).set m (some e)) μ2) de.ex) de.ex := propext Iff.rfl
theorem rs_for {wi : DI} : wFor wi g t de ρ μ = wi ρ μ (fun I μ1 => wForGo I.ok g t de I.items ρ μ1) de.ex := propext Iff.rfl
theorem rg_N {p : Rho → Mu → Prop} : gN n d ρ μ p x = p (ρ.set n (some d)) μ := propext Iff.rfl
theorem rg_Nl {p : Rho → Mu → Prop} : gNl [] ρ μ p x = p ρ μ := propext Iff.rfl
theorem rg_Cn {p : Rho → Mu → Prop} : gCn g gs (d :: ds) ρ μ p x = g d ρ μ (fun ρ1 μ1 => gs ds ρ1 μ1 p x) x := propext Iff.rfl
theorem rg_Tp {p : Rho → Mu → Prop} : gTp n gs (.tup ds) ρ μ p x = (ds.length = n ∧ gs ds ρ μ p x) := propext Iff.rfl
theorem rg_Sb {p : Rho → Mu → Prop} : gSb a b d ρ μ p x = a ρ μ (fun o μ1 => b ρ μ1 (fun i μ2 => opSet o i d μ2 fun μ3 => p ρ μ3) x) x := propext Iff.rfl
theorem ro_tup : opTup ds μ q = (ds.length ≤ sizeLine ∧ q (.tup ds) μ) := propext Iff.rfl
theorem ro_lst : opLst ds μ q = (ds.length ≤ sizeLine ∧ q (.obj μ.length) (μ ++ [.lst ds])) := propext Iff.rfl
theorem ro_addI : opAdd (.int i) (.int j) μ q = q (.int (i + j)) μ := propext Iff.rfl
theorem ro_addS : opAdd (.str w) (.str z) μ q = (w.length + z.length ≤ sizeLine ∧ q (.str (w ++ z)) μ) := propext Iff.rfl
theorem ro_addT : opAdd (.tup ds) (.tup es) μ q = (ds.length + es.length ≤ sizeLine ∧ q (.tup (ds ++ es)) μ) := propext Iff.rfl
theorem ro_sub : opSub (.int i) (.int j) μ q = q (.int (i - j)) μ := propext Iff.rfl
theorem ro_mulI : opMul (.int i) (.int j) μ q = (((-(2 ^ 64) < i ∧ i < 2 ^ 64) ∨ (-(2 ^ 64) < j ∧ j < 2 ^ 64)) ∧ q (.int (i * j)) μ) := propext Iff.rfl
theorem ro_lt : opLt (.int i) (.int j) μ q = q (.bl (decide (i < j))) μ := propext Iff.rfl
theorem ro_le : opLe (.int i) (.int j) μ q = q (.bl (decide (i ≤ j))) μ := propext Iff.rfl
theorem ro_gt : opGt (.int i) (.int j) μ q = q (.bl (decide (j < i))) μ := propext Iff.rfl
theorem ro_ge : opGe (.int i) (.int j) μ q = q (.bl (decide (j ≤ i))) μ := propext Iff.rfl
theorem ro_eqI : opEq (.int i) (.int j) μ q = q (.bl (decide (i = j))) μ := propext Iff.rfl
theorem ro_eqB {k1 k2 : Bool} : opEq (.bl k1) (.bl k2) μ q = q (.bl (decide (k1 = k2))) μ := propext Iff.rfl
theorem ro_eqS : opEq (.str w) (.str z) μ q = q (.bl (decide (w = z))) μ := propext Iff.rfl
theorem ro_neI : opNe (.int i) (.int j) μ q = q (.bl (!decide (i = j))) μ := propext Iff.rfl
theorem ro_neB {k1 k2 : Bool} : opNe (.bl k1) (.bl k2) μ q = q (.bl (!decide (k1 = k2))) μ := propext Iff.rfl
theorem ro_neS : opNe (.str w) (.str z) μ q = q (.bl (!decide (w = z))) μ := propext Iff.rfl
theorem ro_inT : opIn false d (.tup ds) μ q = ((flatD d = true ∧ ds.all flatD = true) ∧ q (.bl (inD d ds)) μ) := propext Iff.rfl
theorem ro_ninT : opIn true d (.tup ds) μ q = ((flatD d = true ∧ ds.all flatD = true) ∧ q (.bl (!inD d ds)) μ) := propext Iff.rfl
theorem ro_neg : opNeg (.int i) μ q = q (.int (-i)) μ := propext Iff.rfl
theorem ro_lenT : opLen [.tup ds] μ q = q (.int ds.length) μ := propext Iff.rfl
theorem ro_lenS : opLen [.str w] μ q = (w.length ≤ sizeLine ∧ q (.int w.length) μ) := propext Iff.rfl
theorem ro_abs : opAbs [.int i] μ q = q (.int (if i < 0 then -i else i)) μ := propext Iff.rfl
theorem ro_intI : opInt [.int i] μ q = q (.int i) μ := propext Iff.rfl
theorem ro_intB {k1 : Bool} : opInt [.bl k1] μ q = q (.int (if k1 then 1 else 0)) μ := propext Iff.rfl
theorem ro_isi {ty : String} {r : Bool} {n : String} (h : tnD μ d = some ty) (h2 : kitT ty n = some r) : opIsi [d, .ty n] μ q = q (.bl r) μ := by unfold opIsi; simp only [h, h2]
theorem ro_tupT : opTupleOf [.tup ds] μ q = q (.tup ds) μ := propext Iff.rfl
theorem ro_lstT : opListOf [.tup ds] μ q = q (.obj μ.length) (μ ++ [.lst ds]) := propext Iff.rfl
theorem ro_max2 : opMax [.int i, .int j] μ q = q (.int (if j > i then j else i)) μ := propext Iff.rfl
theorem ro_min2 : opMin [.int i, .int j] μ q = q (.int (if j < i then j else i)) μ := propext Iff.rfl
theorem ro_ixT (h : atI ds i = some d) : opIx (.tup ds) (.int i) μ q = q d μ := by unfold opIx; simp only [h]
theorem ro_fdiv : opFdiv (.int i) (.int j) μ q = ((0 < j ∧ j < 1073741824) ∧ q (.int (i / j)) μ) := propext Iff.rfl
theorem ro_mod : opMod (.int i) (.int j) μ q = (0 < j ∧ q (.int (i % j)) μ) := propext Iff.rfl
theorem ro_rng1 {p : DIt → Prop} : opRng1 [.int i] p = ((-(2 ^ 62) ≤ i ∧ i < 2 ^ 62) ∧ p ⟨rgD 0 1 i.toNat, fun _ => True⟩) := propext Iff.rfl
theorem ro_rng2 {p : DIt → Prop} : opRng2 [.int i, .int j] p = ((-(2 ^ 62) ≤ i ∧ i < 2 ^ 62 ∧ -(2 ^ 62) ≤ j ∧ j < 2 ^ 62) ∧ p ⟨rgD i 1 (j - i).toNat, fun _ => True⟩) := propext Iff.rfl
theorem ro_rng3 {p : DIt → Prop} : opRng3 [.int i, .int j, .int (-1)] p = (((-(2 ^ 62) ≤ i ∧ i < 2 ^ 62 ∧ -(2 ^ 62) ≤ j ∧ j < 2 ^ 62)) ∧ p ⟨rgD i (-1) (i - j).toNat, fun _ => True⟩) := by unfold opRng3; simp only [true_and]
theorem ro_beqS {a b : String} : (Str.ofString a == Str.ofString b) = decide (a = b) := by rw [Bool.eq_iff_iff]; simp only [beq_iff_eq, ofs, decide_eq_true_eq]
theorem in_nil : inD d [] = false := (rfl)
theorem in_cons : inD d (e :: ds) = (eqD e d || inD d ds) := (rfl)
theorem eqd_s {a b : String} : eqD (.str (Str.ofString a)) (.str (Str.ofString b)) = decide (a = b) := ro_beqS
theorem eqd_i : eqD (.int i) (.int j) = (i == j) := (rfl)
theorem fl_s : flatD (.str w) = true := (rfl)
theorem fl_i : flatD (.int i) = true := (rfl)
theorem fl_b {k1 : Bool} : flatD (.bl k1) = true := (rfl)
theorem fl_n : flatD .non = true := (rfl)
theorem bA_t : bA true a ρ μ q x = a ρ μ q x := propext Iff.rfl
theorem bA_f : bA false a ρ μ q x = q (.bl false) μ := propext Iff.rfl
theorem bO_t : bO true a ρ μ q x = q (.bl true) μ := propext Iff.rfl
theorem bO_f : bO false a ρ μ q x = a ρ μ q x := propext Iff.rfl
theorem bE_t : bE true a b ρ μ q x = a ρ μ q x := propext Iff.rfl
theorem bE_f : bE false a b ρ μ q x = b ρ μ q x := propext Iff.rfl
theorem bBA_t {p : Bool → Mu → Prop} : bBA true u ρ μ p x = u ρ μ p x := propext Iff.rfl
theorem bBA_f {p : Bool → Mu → Prop} : bBA false u ρ μ p x = p false μ := propext Iff.rfl
theorem bBO_t {p : Bool → Mu → Prop} : bBO true u ρ μ p x = p true μ := propext Iff.rfl
theorem bBO_f {p : Bool → Mu → Prop} : bBO false u ρ μ p x = u ρ μ p x := propext Iff.rfl
theorem bC_t : bC true op e c ρ μ q x = c ρ μ (fun f μ1 => op e f μ1 q) x := propext Iff.rfl
theorem bC_f : bC false op e c ρ μ q x = q (.bl false) μ := propext Iff.rfl
theorem bS_t : bS true t s de ρ μ = t de ρ μ := propext Iff.rfl
theorem bS_f : bS false t s de ρ μ = s de ρ μ := propext Iff.rfl
theorem dT_b {k1 : Bool} {f : Bool → Prop} : dT (.bl k1) f = f k1 := propext Iff.rfl
theorem pT_i {f : Int → Prop} : pT (.int i) f = f i := propext Iff.rfl
theorem ro_slT {l r : Option Int} : opSl (.tup ds) l r μ q = q (.tup (cutD ds l r)) μ := propext Iff.rfl
theorem ro_seqT {p : DIt → Prop} : opSeq (.tup ds) μ p = p ⟨ds, fun _ => True⟩ := propext Iff.rfl
theorem is_nn {k1 : Bool} : opIs false .non .non μ q = q (.bl true) μ := propext Iff.rfl
theorem isn_nn {k1 : Bool} : opIs true .non .non μ q = q (.bl false) μ := propext Iff.rfl
theorem is_nb {k2 : Bool} : opIs false .non (.bl k2) μ q = q (.bl false) μ := propext Iff.rfl
theorem is_bn {k1 : Bool} : opIs false (.bl k1) .non μ q = q (.bl false) μ := propext Iff.rfl
theorem isn_bn {k1 : Bool} : opIs true (.bl k1) .non μ q = q (.bl true) μ := propext Iff.rfl
theorem is_in {k1 : Bool} : opIs false (.int i) .non μ q = q (.bl false) μ := propext Iff.rfl
theorem isn_in {k1 : Bool} : opIs true (.int i) .non μ q = q (.bl true) μ := propext Iff.rfl
theorem is_ib {k2 : Bool} : opIs false (.int i) (.bl k2) μ q = q (.bl false) μ := propext Iff.rfl
theorem is_sn {k1 : Bool} : opIs false (.str w) .non μ q = q (.bl false) μ := propext Iff.rfl
theorem isn_sn {k1 : Bool} : opIs true (.str w) .non μ q = q (.bl true) μ := propext Iff.rfl
theorem is_sb {k2 : Bool} : opIs false (.str w) (.bl k2) μ q = q (.bl false) μ := propext Iff.rfl
theorem is_tn {k1 : Bool} : opIs false (.tup ds) .non μ q = q (.bl false) μ := propext Iff.rfl
theorem isn_tn {k1 : Bool} : opIs true (.tup ds) .non μ q = q (.bl true) μ := propext Iff.rfl
theorem is_tb {k2 : Bool} : opIs false (.tup ds) (.bl k2) μ q = q (.bl false) μ := propext Iff.rfl
theorem is_on {k1 : Bool} : opIs false (.obj n) .non μ q = q (.bl false) μ := propext Iff.rfl
theorem isn_on {k1 : Bool} : opIs true (.obj n) .non μ q = q (.bl true) μ := propext Iff.rfl
theorem is_ob {k2 : Bool} : opIs false (.obj n) (.bl k2) μ q = q (.bl false) μ := propext Iff.rfl
theorem is_bb {k1 k2 : Bool} : opIs false (.bl k1) (.bl k2) μ q = q (.bl (decide (k1 = k2))) μ := propext Iff.rfl
theorem rd_get {tk tv : DT} : wGet2 a tk tv ρ μ q x = a ρ μ (fun d μ1 => tyD μ1 "dict" d ∧ tk ρ μ1 (fun k μ2 => tv ρ μ2 (fun z μ3 => opGet d k z μ3 q) x) x) x := propext Iff.rfl
theorem rh_addL {n m : Nat} (h : μ[n]? = some (.lst ds)) (h2 : μ[m]? = some (.lst es)) : opAdd (.obj n) (.obj m) μ q = (ds.length + es.length ≤ sizeLine ∧ q (.obj μ.length) (μ ++ [.lst (ds ++ es)])) := by unfold opAdd; simp only [h, h2]
theorem rh_mulL (h : μ[n]? = some (.lst ds)) : opMul (.obj n) (.int i) μ q = ((-(2 ^ 63) ≤ i ∧ i < 2 ^ 63 ∧ ds.length * i.toNat ≤ sizeLine) ∧ q (.obj μ.length) (μ ++ [.lst (List.replicate i.toNat ds).flatten])) := by unfold opMul; simp only [h]
theorem rh_ixL (h : μ[n]? = some (.lst ds)) (h2 : atI ds i = some d) : opIx (.obj n) (.int i) μ q = q d μ := by unfold opIx; simp only [h, h2]
theorem rh_ixR (h : μ[n]? = some (.ro ds)) (h2 : atI ds i = some d) : opIx (.obj n) (.int i) μ q = q d μ := by unfold opIx; simp only [h, h2]
theorem rh_ixD (h : μ[n]? = some (.dk kvs)) (h2 : keyD e = some k) (h3 : valD kvs k = some d) : opIx (.obj n) e μ q = q d μ := by unfold opIx; simp only [h, h2, h3]
theorem rh_ixF {o : Obj} {ys : List (Key × L2.V)} (h : μ[n]? = some (.dkf o ys kvs)) (h2 : keyD e = some k) (h3 : valD kvs k = some d) : opIx (.obj n) e μ q = q d μ := by unfold opIx; simp only [h, h2, h3]
theorem rh_lenL (h : μ[n]? = some (.lst ds)) : opLen [.obj n] μ q = q (.int ds.length) μ := by unfold opLen; simp only [h]
theorem rh_lenR (h : μ[n]? = some (.ro ds)) : opLen [.obj n] μ q = q (.int ds.length) μ := by unfold opLen; simp only [h]
theorem rh_lenD (h : μ[n]? = some (.dk kvs)) : opLen [.obj n] μ q = q (.int kvs.length) μ := by unfold opLen; simp only [h]
theorem rh_inL (h : μ[n]? = some (.lst ds)) : opIn false d (.obj n) μ q = ((flatD d = true ∧ ds.all flatD = true) ∧ q (.bl (inD d ds)) μ) := by unfold opIn; simp only [h, Bool.false_eq_true, if_false]
theorem rh_setL {p : Mu → Prop} {l : Nat} (h : μ[n]? = some (.lst ds)) (h2 : ixN ds.length i = some l) : opSet (.obj n) (.int i) d μ p = p (μ.set n (.lst (ds.set l d))) := by unfold opSet; simp only [h, h2]
theorem rh_setD {p : Mu → Prop} (h : μ[n]? = some (.dk kvs)) (h2 : keyD e = some k) : opSet (.obj n) e d μ p = (kvs.length < sizeLine ∧ p (μ.set n (.dk (putD kvs k d)))) := by unfold opSet; simp only [h, h2]
theorem rh_all {ns : List Bool} (h : μ[n]? = some (.lst (ns.map .bl))) : opAll [.obj n] μ q = q (.bl (ns.all id)) μ := by unfold opAll; simp only [lBls h]
theorem rh_any {ns : List Bool} (h : μ[n]? = some (.lst (ns.map .bl))) : opAny [.obj n] μ q = q (.bl (ns.any id)) μ := by unfold opAny; simp only [lBls h]
theorem rh_tupL (h : μ[n]? = some (.lst ds)) : opTupleOf [.obj n] μ q = q (.tup ds) μ := by unfold opTupleOf seqOf; simp only [seqL h]
theorem rh_lstL (h : μ[n]? = some (.lst ds)) : opListOf [.obj n] μ q = q (.obj μ.length) (μ ++ [.lst ds]) := by unfold opListOf; simp only [h]
theorem rh_dictD (h : μ[n]? = some (.dk kvs)) : opDictOf [.obj n] μ q = q (.obj μ.length) (μ ++ [.dk kvs]) := by unfold opDictOf; simp only [h]
theorem rh_zip {p : DIt → Prop} (h : μ[n]? = some (.lst ds)) (h2 : μ[m]? = some (.lst es)) : opZip [.obj n, .obj m] μ p = p ⟨(ds.zip es).map fun p => .tup [p.1, p.2], fun μ2 => lstOf μ2 n = some ds ∧ lstOf μ2 m = some es⟩ := by unfold opZip; simp only [seqL h, seqL h2]
theorem rh_app (h : μ[n]? = some (.lst ds)) : opAppend (.obj n) [d] μ q = (ds.length < sizeLine ∧ q .non (μ.set n (.lst (ds ++ [d])))) := by unfold opAppend; simp only [h]
theorem rh_tyL (h : μ[n]? = some (.lst ds)) : tyD μ "list" (.obj n) = True := by unfold tyD; simp only [h]
theorem rh_tyD (h : μ[n]? = some (.dk kvs)) : tyD μ "dict" (.obj n) = True := by unfold tyD; simp only [h]
theorem rh_get (h : μ[n]? = some (.dk kvs)) (h2 : keyD d = some k) : opGet (.obj n) d e μ q = q ((valD kvs k).getD e) μ := by unfold opGet; simp only [h, h2]
theorem rh_slL {l r : Option Int} (h : μ[n]? = some (.lst ds)) : opSl (.obj n) l r μ q = q (.obj μ.length) (μ ++ [.lst (cutD ds l r)]) := by unfold opSl; simp only [seqL h]
theorem rh_seqL {p : DIt → Prop} (h : μ[n]? = some (.lst ds)) : opSeq (.obj n) μ p = p ⟨ds, fun μ2 => lstOf μ2 n = some ds⟩ := by unfold opSeq; simp only [seqL h]
theorem rh_keys {p : DIt → Prop} {o : Obj} {ys : List (Key × L2.V)} (h : μ[n]? = some (.dkf o ys kvs)) : opKeys (.obj n) μ p = p ⟨kvs.map fun kv => keyDof kv.1, fun μ2 => μ2[n]? = some (.dkf o ys kvs)⟩ := by unfold opKeys; simp only [h]
theorem rh_forC {ok : Mu → Prop} : wForGo ok g t de (d :: ds) ρ μ = (ok μ ∧ g d ρ μ (fun ρ1 μ1 => t { de with nx := fun ρ2 μ2 => wForGo ok g t de ds ρ2 μ2, ct := fun ρ2 μ2 => wForGo ok g t de ds ρ2 μ2, bk := de.nx } ρ1 μ1) de.ex) := propext Iff.rfl
theorem rh_forN {ok : Mu → Prop} : wForGo ok g t de [] ρ μ = (ok μ ∧ de.nx ρ μ) := propext Iff.rfl
theorem rh_seq : wSeq t s de ρ μ = t { de with nx := fun ρ1 μ1 => s de ρ1 μ1 } ρ μ := propext Iff.rfl
end DL

set_option Elab.async false
set_option linter.all false
namespace DL
open PySem PySem.Spec PyProof.Rows L2 LamX
theorem str_nil_app (x : Str) : Str.ofString "" ++ x = x := by
  have e : (Str.ofString "").cps = #[] := rfl
  obtain ⟨c⟩ := x
  refine congrArg Str.mk ?_
  show (Str.ofString "").cps ++ c = c
  rw [e]
  exact Array.empty_append ..
theorem isDatL_mem : ∀ {ds : List D} {d : D}, isDatL ds = true → d ∈ ds → isDat d = true
  | [], _, _, h => by cases h
  | e :: ds, d, h, hm => by
    have h' : (isDat e && isDatL ds) = true := h
    rw [Bool.and_eq_true] at h'
    rcases List.mem_cons.mp hm with rfl | hm
    · exact h'.1
    · exact isDatL_mem h'.2 hm
theorem depL_mem : ∀ {ds : List D} {d : D}, d ∈ ds → dep d ≤ depL ds
  | [], _, h => by cases h
  | e :: ds, d, hm => by
    have : depL (e :: ds) = max (dep e) (depL ds) := rfl
    rw [this]
    rcases List.mem_cons.mp hm with rfl | hm
    · omega
    · have := depL_mem hm
      omega
end DL

set_option Elab.async false
set_option linter.all false
namespace DL
open PySem PySem.Spec PyProof.Rows L2 LamX
theorem cut1 (xs : List D) (h : 0 < xs.length) : cutD xs (some 1) none = xs.drop 1 := by
  unfold cutD
  have e : HT.sIx xs.length 0 (some 1) = 1 := by
    unfold HT.sIx
    simp
    omega
  have e2 : HT.sIx xs.length xs.length none = xs.length := by
    unfold HT.sIx
    simp
  rw [e, e2]
  exact List.take_of_length_le (by rw [List.length_drop]; omega)
end DL

set_option Elab.async false
set_option linter.all false
namespace DL
open PySem PySem.Spec PyProof.Rows L2 LamX
def opAcc (j : Nat) (y : D) (μ : Mu) (k : Mu → Prop) : Prop := match μ[j]? with
  | some (.lst acc) => acc.length < sizeLine ∧ k (μ.set j (.lst (acc ++ [y])))
  | _ => False
theorem rh_acc {j : Nat} {y : D} {μ : Mu} {k : Mu → Prop} {acc : List D} (h : μ[j]? = some (.lst acc)) : opAcc j y μ k = (acc.length < sizeLine ∧ k (μ.set j (.lst (acc ++ [y])))) := by unfold opAcc; simp only [h]
theorem rh_lcC {ok : Mu → Prop} {g : DG} {te : DT} {ρw : Rho} {j : Nat} {q : Mu → Prop} {d : D} {ds : List D} {μ : Mu} : wLcGo ok g wYes te ρw j q (d :: ds) μ = (ok μ ∧ g d ρw μ (fun ρ1 μ1 => te ρ1 μ1 (fun y μ3 => opAcc j y μ3 fun μ4 => wLcGo ok g wYes te ρw j q ds μ4) noX) noX) := propext Iff.rfl
theorem rh_lcN {ok : Mu → Prop} {g : DG} {tt : DB} {te : DT} {ρw : Rho} {j : Nat} {q : Mu → Prop} {μ : Mu} : wLcGo ok g tt te ρw j q [] μ = (ok μ ∧ q μ) := propext Iff.rfl
theorem rh_max {μ : Mu} {n : Nat} {q : QD} {ns : List Int} (h : μ[n]? = some (.lst (ns.map .int))) : opMax [.obj n] μ q = (0 < ns.length ∧ ∀ m, m ∈ ns → (∀ y, y ∈ ns → y ≤ m) → q (.int m) μ) := by unfold opMax; simp only [lInts h]
theorem rh_min {μ : Mu} {n : Nat} {q : QD} {ns : List Int} (h : μ[n]? = some (.lst (ns.map .int))) : opMin [.obj n] μ q = (0 < ns.length ∧ ∀ m, m ∈ ns → (∀ y, y ∈ ns → m ≤ y) → q (.int m) μ) := by unfold opMin; simp only [lInts h]
theorem rh_lock {ρ : Rho} {i j : Nat} {μ : Mu} {q : QD} {x : XD} {t : DT} {kvs : List (Key × D)} (h : ρ[i]? = some (some (.obj j))) (h2 : μ[j]? = some (.dk kvs)) : wLock i t ρ μ q x = ∀ (o : Obj) (xs : List (Key × V)), t ρ (μ.set j (.dkf o xs kvs)) (fun d μ' => μ'[j]? = some (.dkf o xs kvs) ∧ q d (μ'.set j (.dk kvs))) noX := by
  unfold wLock
  simp only [h, h2]
theorem Ext.unlock {μ μ' : Mu} {j : Nat} {o o' : MO} (h : μ[j]? = some o) (e : Ext (μ.set j o') μ') : Ext μ (μ'.set j o) := fun k u hk => by
  have hj : j < μ.length := (List.getElem?_eq_some_iff.mp h).1
  by_cases hjk : j = k
  · subst hjk
    rw [h] at hk
    cases hk
    have := (List.getElem?_eq_some_iff.mp (e j o' (List.getElem?_set_self hj))).1
    exact List.getElem?_set_self this
  · rw [List.getElem?_set_ne hjk]
    exact e k u (by rw [List.getElem?_set_ne hjk]; exact hk)
def opDisp (j : Nat) (ps : List (D × D)) (μ : Mu) (q : QD) : Prop := μ[j]? = some (.dk []) ∧ match keysOf ps with
  | some kvs => kvs.length ≤ 15 ∧ q (.obj j) (μ.set j (.dk (mergeD [] kvs)))
  | none => False
theorem rd_disp {trs : List (DT × DT)} {ρ : Rho} {μ : Mu} {q : QD} {x : XD} : wDisp trs ρ μ q x = wPairs trs ρ (μ ++ [.dk []]) (fun ps μ2 => opDisp μ.length ps μ2 q) x := propext Iff.rfl
theorem rd_pn {ρ : Rho} {μ : Mu} {q : List (D × D) → Mu → Prop} {x : XD} : wPairs [] ρ μ q x = q [] μ := propext Iff.rfl
theorem rd_pc {tk tv : DT} {r : List (DT × DT)} {ρ : Rho} {μ : Mu} {q : List (D × D) → Mu → Prop} {x : XD} : wPairs ((tk, tv) :: r) ρ μ q x = tk ρ μ (fun d μ1 => tv ρ μ1 (fun e μ2 => wPairs r ρ μ2 (fun ps μ3 => q ((d, e) :: ps) μ3) x) x) x := propext Iff.rfl
theorem rh_disp {j : Nat} {ps : List (D × D)} {μ : Mu} {q : QD} {kvs : List (Key × D)} (h : μ[j]? = some (.dk [])) (h2 : keysOf ps = some kvs) : opDisp j ps μ q = (kvs.length ≤ 15 ∧ q (.obj j) (μ.set j (.dk (mergeD [] kvs)))) := by
  unfold opDisp
  simp only [h, h2, true_and]
theorem rh_lenSet {ρ : Rho} {μ : Mu} {a : DA} {t : DT} {q : QD} {x : XD} : wLenSet t ρ μ q x = t ρ μ (fun d μ1 => match d with
  | .obj j => match lstInts μ1 j with
    | some ns => ns.length ≤ 4000 ∧ q (.int (dedupI ns).length) μ1
    | none => False
  | _ => False) x := propext Iff.rfl
theorem inD_map {i : Int} : ∀ {ns : List Int}, i ∈ ns → inD (.int i) (ns.map .int) = true
  | n :: ns, h => by
    rw [List.map_cons, in_cons, eqd_i]
    rcases List.mem_cons.mp h with rfl | h
    · rw [beq_self_eq_true, Bool.true_or]
    · rw [inD_map h, Bool.or_true]
theorem flat_map (ns : List Int) : (ns.map D.int).all flatD = true := by
  induction ns with
  | nil => rfl
  | cons n ns ih => rw [List.map_cons, List.all_cons, ih]; rfl
/-- all but one thing stands -/
def But (j : Nat) (μ μ' : Mu) : Prop := ∀ (k : Nat) (o : MO), k ≠ j → μ[k]? = some o → μ'[k]? = some o
theorem But.refl (j : Nat) (μ : Mu) : But j μ μ := fun _ _ _ h => h
theorem But.trans {j : Nat} {μ μ1 μ2 : Mu} (a : But j μ μ1) (b : But j μ1 μ2) : But j μ μ2 := fun k o h e => b k o h (a k o h e)
theorem But.ext {j : Nat} {μ μ1 : Mu} (e : Ext μ μ1) : But j μ μ1 := fun k o _ h => e k o h
theorem But.set (j : Nat) (μ : Mu) (o : MO) : But j μ (μ.set j o) := fun k u h e => by rw [List.getElem?_set_ne (fun z => h z.symm)]; exact e
/-- something new may change too -/
theorem But.set2 {j n : Nat} {μ μ1 : Mu} (a : But j μ μ1) (h : μ.length ≤ n) (o : MO) : But j μ (μ1.set n o) := fun k u hk e => by
  have := (List.getElem?_eq_some_iff.mp e).1
  rw [List.getElem?_set_ne (by omega)]
  exact a k u hk e
end DL

set_option Elab.async false
set_option linter.all false
namespace DL
open PySem PySem.Spec PyProof.Rows L2 LamX
theorem nodup_le {α : Type} [DecidableEq α] : ∀ (l S : List α), l.Nodup → (∀ x ∈ l, x ∈ S) → l.length ≤ S.length
  | [], S, _, _ => Nat.zero_le _
  | a :: l, S, h, hs => by
    have h1 := List.nodup_cons.mp h
    have ha : a ∈ S := hs a (List.mem_cons_self ..)
    have := nodup_le l (S.erase a) h1.2 fun x hx => (List.mem_erase_of_ne (fun e : x = a => h1.1 (by rw [← e]; exact hx))).mpr (hs x (List.mem_cons_of_mem _ hx))
    rw [List.length_erase_of_mem ha] at this
    have hp : 0 < S.length := List.length_pos_of_mem ha
    rw [List.length_cons]
    omega
theorem firstMet_nd (val : Nat → Int) : ∀ i, (firstMet val i).Nodup
  | 0 => List.nodup_nil
  | i + 1 => by
    rw [firstMet_succ]
    unfold step_dedup
    split
    · exact firstMet_nd val i
    · rename_i h
      refine List.nodup_append.mpr ⟨firstMet_nd val i, by simp, fun a ha b hb => ?_⟩
      rw [List.mem_singleton.mp hb]
      intro e
      exact h (List.any_eq_true.mpr ⟨a, ha, by rw [e]; exact beq_self_eq_true _⟩)
theorem firstMet_mem (val : Nat → Int) : ∀ i x, x ∈ firstMet val i → ∃ k, k < i ∧ x = val k
  | 0, x, h => by cases h
  | i + 1, x, h => by
    rw [firstMet_succ] at h
    unfold step_dedup at h
    split at h
    · obtain ⟨k, h1, h2⟩ := firstMet_mem val i x h
      exact ⟨k, by omega, h2⟩
    · rcases List.mem_append.mp h with h | h
      · obtain ⟨k, h1, h2⟩ := firstMet_mem val i x h
        exact ⟨k, by omega, h2⟩
      · exact ⟨i, Nat.lt_succ_self _, List.mem_singleton.mp h⟩
theorem dedupI_in (ns S : List Int) (h : ∀ x ∈ ns, x ∈ S) : (dedupI ns).length ≤ S.length := by
  refine nodup_le _ _ (firstMet_nd _ _) fun x hx => ?_
  obtain ⟨k, h1, rfl⟩ := firstMet_mem _ _ x hx
  rw [List.getD_eq_getElem?_getD, List.getElem?_eq_getElem h1]
  exact h _ (List.getElem_mem h1)

theorem rh_len2 {μ : Mu} {n : Nat} {q : QD} {ds : List D} (h : lstOf μ n = some ds) : opLen [.obj n] μ q = q (.int ds.length) μ := by
  unfold lstOf at h
  split at h
  · rename_i e; cases h; exact rh_lenL e
  · rename_i e; cases h; exact rh_lenR e
  · cases h
theorem rh_ix2 {μ : Mu} {n : Nat} {q : QD} {ds : List D} {i : Int} {d : D} (h : lstOf μ n = some ds) (h2 : atI ds i = some d) : opIx (.obj n) (.int i) μ q = q d μ := by
  unfold lstOf at h
  split at h
  · rename_i e; cases h; exact rh_ixL e h2
  · rename_i e; cases h; exact rh_ixR e h2
  · cases h
theorem rh_neT {μ : Mu} {q : QD} {ds es : List D} {a b : PyData} (h : pyM μ (.tup ds) = some a) (h2 : pyM μ (.tup es) = some b) : opNe (.tup ds) (.tup es) μ q = ((SeqAt.shaped a = true ∧ SeqAt.shaped b = true) ∧ q (.bl (!PyData.eqv a b)) μ) := by
  unfold opNe
  simp only [h, h2]
theorem rh_eqT {μ : Mu} {q : QD} {ds es : List D} {a b : PyData} (h : pyM μ (.tup ds) = some a) (h2 : pyM μ (.tup es) = some b) : opEq (.tup ds) (.tup es) μ q = ((SeqAt.shaped a = true ∧ SeqAt.shaped b = true) ∧ q (.bl (PyData.eqv a b)) μ) := by
  unfold opEq
  simp only [h, h2]
theorem Bx.box {b : Nat} {μ μ' : Mu} (h : Bx b μ μ') : Box μ' b := h.1
theorem Box.lt {b : Nat} {μ : Mu} (h : Box μ b) : b < μ.length := by
  obtain ⟨c, m, _, _, e⟩ := h
  exact (List.getElem?_eq_some_iff.mp e).1
theorem Box.set {b j : Nat} {μ : Mu} (h : Box μ b) (hj : b ≠ j) (o : MO) : Box (μ.set j o) b := by
  obtain ⟨c, m, h1, h2, h3⟩ := h
  exact ⟨c, m, h1, h2, by rw [List.getElem?_set_ne (fun z => hj z.symm)]; exact h3⟩
theorem Box.but {b j : Nat} {μ μ' : Mu} (h : Box μ b) (e : But j μ μ') (hj : b ≠ j) : Box μ' b := by
  obtain ⟨c, m, h1, h2, h3⟩ := h
  exact ⟨c, m, h1, h2, e _ _ hj h3⟩
def opLs (d : D) (μ : Mu) (q : QD) : Prop := match d with
  | .obj j => match lstInts μ j with
    | some ns => ns.length ≤ 4000 ∧ q (.int (dedupI ns).length) μ
    | none => False
  | _ => False
theorem rd_ls {ρ : Rho} {μ : Mu} {t : DT} {q : QD} {x : XD} : wLenSet t ρ μ q x = t ρ μ (fun d μ1 => opLs d μ1 q) x := propext Iff.rfl
theorem rh_ls {μ : Mu} {n : Nat} {q : QD} {ns : List Int} (h : μ[n]? = some (.lst (ns.map .int))) : opLs (.obj n) μ q = (ns.length ≤ 4000 ∧ q (.int (dedupI ns).length) μ) := by unfold opLs; simp only [lInts h]
end DL

set_option Elab.async false
set_option linter.all false
set_option maxRecDepth 100000
set_option maxHeartbeats 4000000
namespace K64
open PySem PySem.Spec PyProof.Rows L2 LamX DL
def topS (i : Nat) : Stmt := PySem.Challenge.pw_lastingly_k64_place_sentences_of_formula.main.body.getD i (.Pass ⟨0, 0, 0, 0⟩)
abbrev s_is_integer : Stmt := topS 12
abbrev N_is_integer : List Str := ["thing"]
theorem sc_is_integer : FnScope N_is_integer ["thing"] (defScope s_is_integer) := ⟨rfl, rfl, rfl, by decide +kernel, rfl, by decide +kernel, by decide +kernel⟩
abbrev s_is_below : Stmt := topS 13
abbrev N_is_below : List Str := ["thing", "size"]
theorem sc_is_below : FnScope N_is_below ["thing", "size"] (defScope s_is_below) := ⟨rfl, rfl, rfl, by decide +kernel, rfl, by decide +kernel, by decide +kernel⟩
abbrev s_is_letters : Stmt := topS 14
abbrev N_is_letters : List Str := ["thing"]
theorem sc_is_letters : FnScope N_is_letters ["thing"] (defScope s_is_letters) := ⟨rfl, rfl, rfl, by decide +kernel, rfl, by decide +kernel, by decide +kernel⟩
abbrev s_check_letters : Stmt := topS 15
abbrev N_check_letters : List Str := ["k"]
theorem sc_check_letters : FnScope N_check_letters ["k"] (defScope s_check_letters) := ⟨rfl, rfl, rfl, by decide +kernel, rfl, by decide +kernel, by decide +kernel⟩
abbrev s_check_lasso : Stmt := topS 16
abbrev N_check_lasso : List Str := ["lasso", "k", "part", "letter"]
theorem sc_check_lasso : FnScope N_check_lasso ["lasso", "k"] (defScope s_check_lasso) := ⟨rfl, rfl, rfl, by decide +kernel, rfl, by decide +kernel, by decide +kernel⟩
abbrev s_many_words : Stmt := topS 17
abbrev N_many_words : List Str := ["formula", "k", "deep", "word", "inner", "first", "second"]
theorem sc_many_words : FnScope N_many_words ["formula", "k", "deep"] (defScope s_many_words) := ⟨rfl, rfl, rfl, by decide +kernel, rfl, by decide +kernel, by decide +kernel⟩
abbrev s_check_formula : Stmt := topS 18
abbrev N_check_formula : List Str := ["formula", "k", "most"]
theorem sc_check_formula : FnScope N_check_formula ["formula", "k", "most"] (defScope s_check_formula) := ⟨rfl, rfl, rfl, by decide +kernel, rfl, by decide +kernel, by decide +kernel⟩
abbrev s_is_so : Stmt := topS 21
abbrev N_is_so : List Str := ["formula", "k", "lasso"]
theorem sc_is_so : FnScope N_is_so ["formula", "k", "lasso"] (defScope s_is_so) := ⟨rfl, rfl, rfl, by decide +kernel, rfl, by decide +kernel, by decide +kernel⟩
abbrev s_truths : Stmt := topS 22
abbrev N_truths : List Str := ["formula", "lasso", "size", "word", "first", "second", "found", "_", "letters", "back", "at", "ahead", "letter", "told", "one", "other"]
theorem sc_truths : FnScope N_truths ["formula", "lasso"] (defScope s_truths) := ⟨rfl, rfl, rfl, by decide +kernel, rfl, by decide +kernel, by decide +kernel⟩
abbrev s_sentence_of_formula : Stmt := topS 24
abbrev N_sentence_of_formula : List Str := ["k", "formula"]
theorem sc_sentence_of_formula : FnScope N_sentence_of_formula ["k", "formula"] (defScope s_sentence_of_formula) := ⟨rfl, rfl, rfl, by decide +kernel, rfl, by decide +kernel, by decide +kernel⟩
abbrev s_at_place : Stmt := topS 25
abbrev N_at_place : List Str := ["formula", "here", "other", "third", "word", "ahead"]
theorem sc_at_place : FnScope N_at_place ["formula", "here", "other", "third"] (defScope s_at_place) := ⟨rfl, rfl, rfl, by decide +kernel, rfl, by decide +kernel, by decide +kernel⟩
abbrev s__law_cell : Stmt := topS 27
abbrev N__law_cell : List Str := ["script", "k"]
theorem sc__law_cell : FnScope N__law_cell ["script", "k"] (defScope s__law_cell) := ⟨rfl, rfl, rfl, by decide +kernel, rfl, by decide +kernel, by decide +kernel⟩
abbrev s__law_stream : Stmt := topS 28
abbrev N__law_stream : List Str := ["script", "k"]
theorem sc__law_stream : FnScope N__law_stream ["script", "k"] (defScope s__law_stream) := ⟨rfl, rfl, rfl, by decide +kernel, rfl, by decide +kernel, by decide +kernel⟩
abbrev s__law_draw : Stmt := topS 29
abbrev N__law_draw : List Str := ["box", "high", "cell"]
theorem sc__law_draw : FnScope N__law_draw ["box", "high"] (defScope s__law_draw) := ⟨rfl, rfl, rfl, by decide +kernel, rfl, by decide +kernel, by decide +kernel⟩
abbrev s__law_read : Stmt := topS 30
abbrev N__law_read : List Str := ["told", "part"]
theorem sc__law_read : FnScope N__law_read ["told"] (defScope s__law_read) := ⟨rfl, rfl, rfl, by decide +kernel, rfl, by decide +kernel, by decide +kernel⟩
abbrev s__law_told : Stmt := topS 31
abbrev N__law_told : List Str := ["call", "e"]
theorem sc__law_told : FnScope N__law_told ["call"] (defScope s__law_told) := ⟨rfl, rfl, rfl, by decide +kernel, rfl, by decide +kernel, by decide +kernel⟩
abbrev s__law_plain : Stmt := topS 32
abbrev N__law_plain : List Str := ["box", "k", "weight", "left", "first"]
theorem sc__law_plain : FnScope N__law_plain ["box", "k", "weight"] (defScope s__law_plain) := ⟨rfl, rfl, rfl, by decide +kernel, rfl, by decide +kernel, by decide +kernel⟩
abbrev s__law_formula : Stmt := topS 33
abbrev N__law_formula : List Str := ["box", "k", "weight", "pick", "left", "first"]
theorem sc__law_formula : FnScope N__law_formula ["box", "k", "weight"] (defScope s__law_formula) := ⟨rfl, rfl, rfl, by decide +kernel, rfl, by decide +kernel, by decide +kernel⟩
abbrev s__law_deep : Stmt := topS 34
abbrev N__law_deep : List Str := ["p", "names", "lots", "word", "told", "deep", "part"]
theorem sc__law_deep : FnScope N__law_deep ["p", "names", "lots"] (defScope s__law_deep) := ⟨rfl, rfl, rfl, by decide +kernel, rfl, by decide +kernel, by decide +kernel⟩
abbrev s__law_is_so : Stmt := topS 35
abbrev N__law_is_so : List Str := ["p", "lasso", "at", "deep", "word", "high", "i", "u", "v", "more", "x"]
theorem sc__law_is_so : FnScope N__law_is_so ["p", "lasso", "at", "deep"] (defScope s__law_is_so) := ⟨rfl, rfl, rfl, by decide +kernel, rfl, by decide +kernel, by decide +kernel⟩
abbrev s__law_truth : Stmt := topS 36
abbrev N__law_truth : List Str := ["p", "word", "back", "n", "to", "first", "second", "found", "turn", "i", "a", "one"]
theorem sc__law_truth : FnScope N__law_truth ["p", "word", "back"] (defScope s__law_truth) := ⟨rfl, rfl, rfl, by decide +kernel, rfl, by decide +kernel, by decide +kernel⟩
abbrev s_law : Stmt := topS 37
abbrev N_law : List Str := ["script", "box", "k", "turn", "p", "deep", "again", "told", "lots", "lasso", "due", "i"]
theorem sc_law : FnScope N_law ["script"] (defScope s_law) := ⟨rfl, rfl, rfl, by decide +kernel, rfl, by decide +kernel, by decide +kernel⟩
/-- what the top leaves -/
structure Fx (K : PySem.W.Frag) (mg : Str → Option Value) where
  a_is_integer : Addr
  d_is_integer : FuncData
  F_is_integer : Fun K "is_integer" "is_integer" s_is_integer a_is_integer d_is_integer
  m_is_integer : mg "is_integer" = some (.ref a_is_integer)
  b_is_integer : Binds K d_is_integer ["thing"] []
  a_is_below : Addr
  d_is_below : FuncData
  F_is_below : Fun K "is_below" "is_below" s_is_below a_is_below d_is_below
  m_is_below : mg "is_below" = some (.ref a_is_below)
  b_is_below : Binds K d_is_below ["thing", "size"] []
  a_is_letters : Addr
  d_is_letters : FuncData
  F_is_letters : Fun K "is_letters" "is_letters" s_is_letters a_is_letters d_is_letters
  m_is_letters : mg "is_letters" = some (.ref a_is_letters)
  b_is_letters : Binds K d_is_letters ["thing"] []
  a_check_letters : Addr
  d_check_letters : FuncData
  F_check_letters : Fun K "check_letters" "check_letters" s_check_letters a_check_letters d_check_letters
  m_check_letters : mg "check_letters" = some (.ref a_check_letters)
  b_check_letters : Binds K d_check_letters ["k"] []
  a_check_lasso : Addr
  d_check_lasso : FuncData
  F_check_lasso : Fun K "check_lasso" "check_lasso" s_check_lasso a_check_lasso d_check_lasso
  m_check_lasso : mg "check_lasso" = some (.ref a_check_lasso)
  b_check_lasso : Binds K d_check_lasso ["lasso", "k"] []
  a_many_words : Addr
  d_many_words : FuncData
  F_many_words : Fun K "many_words" "many_words" s_many_words a_many_words d_many_words
  m_many_words : mg "many_words" = some (.ref a_many_words)
  b_many_words : Binds K d_many_words ["formula", "k", "deep"] []
  a_check_formula : Addr
  d_check_formula : FuncData
  F_check_formula : Fun K "check_formula" "check_formula" s_check_formula a_check_formula d_check_formula
  m_check_formula : mg "check_formula" = some (.ref a_check_formula)
  b_check_formula : Binds K d_check_formula ["formula", "k", "most"] []
  a_is_so : Addr
  d_is_so : FuncData
  F_is_so : Fun K "is_so" "is_so" s_is_so a_is_so d_is_so
  m_is_so : mg "is_so" = some (.ref a_is_so)
  b_is_so : Binds K d_is_so ["formula", "k", "lasso"] []
  a_truths : Addr
  d_truths : FuncData
  F_truths : Fun K "truths" "truths" s_truths a_truths d_truths
  m_truths : mg "truths" = some (.ref a_truths)
  b_truths : Binds K d_truths ["formula", "lasso"] []
  a_sentence_of_formula : Addr
  d_sentence_of_formula : FuncData
  F_sentence_of_formula : Fun K "sentence_of_formula" "sentence_of_formula" s_sentence_of_formula a_sentence_of_formula d_sentence_of_formula
  m_sentence_of_formula : mg "sentence_of_formula" = some (.ref a_sentence_of_formula)
  b_sentence_of_formula : Binds K d_sentence_of_formula ["k", "formula"] []
  a_at_place : Addr
  d_at_place : FuncData
  F_at_place : Fun K "at_place" "at_place" s_at_place a_at_place d_at_place
  m_at_place : mg "at_place" = some (.ref a_at_place)
  b_at_place : Binds K d_at_place ["formula", "here", "other", "third"] []
  a__law_cell : Addr
  d__law_cell : FuncData
  F__law_cell : Fun K "_law_cell" "_law_cell" s__law_cell a__law_cell d__law_cell
  m__law_cell : mg "_law_cell" = some (.ref a__law_cell)
  b__law_cell : Binds K d__law_cell ["script", "k"] []
  a__law_stream : Addr
  d__law_stream : FuncData
  F__law_stream : Fun K "_law_stream" "_law_stream" s__law_stream a__law_stream d__law_stream
  m__law_stream : mg "_law_stream" = some (.ref a__law_stream)
  b__law_stream : Binds K d__law_stream ["script", "k"] []
  a__law_draw : Addr
  d__law_draw : FuncData
  F__law_draw : Fun K "_law_draw" "_law_draw" s__law_draw a__law_draw d__law_draw
  m__law_draw : mg "_law_draw" = some (.ref a__law_draw)
  b__law_draw : Binds K d__law_draw ["box", "high"] []
  a__law_read : Addr
  d__law_read : FuncData
  F__law_read : Fun K "_law_read" "_law_read" s__law_read a__law_read d__law_read
  m__law_read : mg "_law_read" = some (.ref a__law_read)
  b__law_read : Binds K d__law_read ["told"] []
  a__law_told : Addr
  d__law_told : FuncData
  F__law_told : Fun K "_law_told" "_law_told" s__law_told a__law_told d__law_told
  m__law_told : mg "_law_told" = some (.ref a__law_told)
  b__law_told : Binds K d__law_told ["call"] []
  a__law_plain : Addr
  d__law_plain : FuncData
  F__law_plain : Fun K "_law_plain" "_law_plain" s__law_plain a__law_plain d__law_plain
  m__law_plain : mg "_law_plain" = some (.ref a__law_plain)
  b__law_plain : Binds K d__law_plain ["box", "k", "weight"] []
  a__law_formula : Addr
  d__law_formula : FuncData
  F__law_formula : Fun K "_law_formula" "_law_formula" s__law_formula a__law_formula d__law_formula
  m__law_formula : mg "_law_formula" = some (.ref a__law_formula)
  b__law_formula : Binds K d__law_formula ["box", "k", "weight"] []
  a__law_deep : Addr
  d__law_deep : FuncData
  F__law_deep : Fun K "_law_deep" "_law_deep" s__law_deep a__law_deep d__law_deep
  m__law_deep : mg "_law_deep" = some (.ref a__law_deep)
  b__law_deep : Binds K d__law_deep ["p", "names", "lots"] []
  a__law_is_so : Addr
  d__law_is_so : FuncData
  F__law_is_so : Fun K "_law_is_so" "_law_is_so" s__law_is_so a__law_is_so d__law_is_so
  m__law_is_so : mg "_law_is_so" = some (.ref a__law_is_so)
  b__law_is_so : Binds K d__law_is_so ["p", "lasso", "at", "deep"] []
  a__law_truth : Addr
  d__law_truth : FuncData
  F__law_truth : Fun K "_law_truth" "_law_truth" s__law_truth a__law_truth d__law_truth
  m__law_truth : mg "_law_truth" = some (.ref a__law_truth)
  b__law_truth : Binds K d__law_truth ["p", "word", "back"] []
  a_law : Addr
  d_law : FuncData
  F_law : Fun K "law" "law" s_law a_law d_law
  m_law : mg "law" = some (.ref a_law)
  b_law : Binds K d_law ["script"] []
  z_isinstance : mg "isinstance" = none
  z_int : mg "int" = none
  z_bool : mg "bool" = none
  z_tuple : mg "tuple" = none
  z_len : mg "len" = none
  z_max : mg "max" = none
  z_all : mg "all" = none
  z_str : mg "str" = none
  z_range : mg "range" = none
  z_list : mg "list" = none
  z_zip : mg "zip" = none
  z_abs : mg "abs" = none
  z_min : mg "min" = none
  z_dict : mg "dict" = none
  z_set : mg "set" = none
  t_MOST_LETTERS : Tok
  c_MOST_LETTERS : mg "MOST_LETTERS" = some (.int 4 t_MOST_LETTERS)
  t_MOST_LONG : Tok
  c_MOST_LONG : mg "MOST_LONG" = some (.int 200 t_MOST_LONG)
  t_MOST_DEEP : Tok
  c_MOST_DEEP : mg "MOST_DEEP" = some (.int 200 t_MOST_DEEP)
  a_SINGLE : Addr
  c_SINGLE : mg "SINGLE" = some (.ref a_SINGLE)
  q_SINGLE : ∀ H, SqT K H a_SINGLE [.str "not", .str "next"]
  a_DOUBLE : Addr
  c_DOUBLE : mg "DOUBLE" = some (.ref a_DOUBLE)
  q_DOUBLE : ∀ H, SqT K H a_DOUBLE [.str "and", .str "or", .str "until"]
  t_MOST_SO : Tok
  c_MOST_SO : mg "MOST_SO" = some (.int 20000 t_MOST_SO)
  t_MOST_WORDS : Tok
  c_MOST_WORDS : mg "MOST_WORDS" = some (.int 9 t_MOST_WORDS)
end K64


set_option Elab.async false
set_option linter.all false
set_option maxRecDepth 100000
set_option maxHeartbeats 4000000
namespace K64
open PySem PySem.Spec PyProof.Rows L2 LamX DL
/-! ### formulas -/
inductive Fm where
  | tru | lt (a : Int) | no (p : Fm) | an (p q : Fm) | orr (p q : Fm) | nx (p : Fm) | un (p q : Fm)
def enc : Fm → D
  | .tru => .tup [.str "true"]
  | .lt a => .tup [.str "letter", .int a]
  | .no p => .tup [.str "not", enc p]
  | .an p q => .tup [.str "and", enc p, enc q]
  | .orr p q => .tup [.str "or", enc p, enc q]
  | .nx p => .tup [.str "next", enc p]
  | .un p q => .tup [.str "until", enc p, enc q]
def Fm.size : Fm → Int
  | .tru => 1
  | .lt _ => 1
  | .no p => p.size + 1
  | .an p q => p.size + q.size + 1
  | .orr p q => p.size + q.size + 1
  | .nx p => p.size + 1
  | .un p q => p.size + q.size + 1
def Fm.ht : Fm → Nat
  | .tru => 0
  | .lt _ => 0
  | .no p => p.ht + 1
  | .an p q => max p.ht q.ht + 1
  | .orr p q => max p.ht q.ht + 1
  | .nx p => p.ht + 1
  | .un p q => max p.ht q.ht + 1
/-- letters below k -/
def Fm.ok (k : Int) : Fm → Prop
  | .tru => True
  | .lt a => 0 ≤ a ∧ a < k
  | .no p => p.ok k
  | .an p q => p.ok k ∧ q.ok k
  | .orr p q => p.ok k ∧ q.ok k
  | .nx p => p.ok k
  | .un p q => p.ok k ∧ q.ok k
theorem Fm.size_pos : ∀ p : Fm, 0 < p.size
  | .tru => by decide
  | .lt _ => by show (0 : Int) < 1; decide
  | .no p => by have := p.size_pos; show 0 < p.size + 1; omega
  | .an p q => by have := p.size_pos; have := q.size_pos; show 0 < p.size + q.size + 1; omega
  | .orr p q => by have := p.size_pos; have := q.size_pos; show 0 < p.size + q.size + 1; omega
  | .nx p => by have := p.size_pos; show 0 < p.size + 1; omega
  | .un p q => by have := p.size_pos; have := q.size_pos; show 0 < p.size + q.size + 1; omega
theorem tn_enc (μ : Mu) (p : Fm) : tnD μ (enc p) = some "tuple" := by cases p <;> rfl
end K64

set_option Elab.async false
set_option linter.all false
set_option maxRecDepth 100000
set_option maxHeartbeats 4000000
namespace K64
open PySem PySem.Spec PyProof.Rows L2 LamX DL
/-! ### sentences about places -/
inductive Sn where
  | lt (h a : Int) | nx (h o : Int) | ls (h o : Int) | no (p : Sn) | an (p q : Sn) | orr (p q : Sn) | ex (x : Int) (p : Sn) | al (x : Int) (p : Sn)
def encS : Sn → D
  | .lt h a => .tup [.str "letter", .int h, .int a]
  | .nx h o => .tup [.str "next", .int h, .int o]
  | .ls h o => .tup [.str "less", .int h, .int o]
  | .no p => .tup [.str "not", encS p]
  | .an p q => .tup [.str "and", encS p, encS q]
  | .orr p q => .tup [.str "or", encS p, encS q]
  | .ex x p => .tup [.str "some", .int x, encS p]
  | .al x p => .tup [.str "all", .int x, encS p]
def pl : Fm → Int → Int → Int → Sn
  | .tru, h, o, t => .no (.ls h h)
  | .lt a, h, o, t => .lt h a
  | .no p, h, o, t => .no (pl p h o t)
  | .an p q, h, o, t => .an (pl p h o t) (pl q h o t)
  | .orr p q, h, o, t => .orr (pl p h o t) (pl q h o t)
  | .nx p, h, o, t => .ex o (.an (.nx h o) (pl p o h t))
  | .un p q, h, o, t => .ex o (.an (.no (.ls o h)) (.an (pl q o h t) (.al t (.orr (.orr (.ls t h) (.no (.ls t o))) (pl p t h o)))))
def root (p : Fm) : Sn := .ex 0 (.an (.no (.ex 1 (.ls 1 0))) (pl p 0 1 2))
theorem tn_encS (μ : Mu) (p : Sn) : tnD μ (encS p) = some "tuple" := by cases p <;> rfl
/-- no next, no until -/
def Fm.plain : Fm → Prop
  | .tru => True
  | .lt _ => True
  | .no p => p.plain
  | .an p q => p.plain ∧ q.plain
  | .orr p q => p.plain ∧ q.plain
  | .nx _ => False
  | .un _ _ => False
/-- next and until of plain formulas only -/
def Fm.flat : Fm → Prop
  | .tru => True
  | .lt _ => True
  | .no p => p.flat
  | .an p q => p.flat ∧ q.flat
  | .orr p q => p.flat ∧ q.flat
  | .nx p => p.plain
  | .un p q => p.plain ∧ q.plain
theorem Fm.plain_flat : ∀ p : Fm, p.plain → p.flat
  | .tru, _ => trivial
  | .lt _, _ => trivial
  | .no p, h => p.plain_flat h
  | .an p q, h => ⟨p.plain_flat h.1, q.plain_flat h.2⟩
  | .orr p q, h => ⟨p.plain_flat h.1, q.plain_flat h.2⟩
theorem Fm.ht_size : ∀ p : Fm, (p.ht : Int) < p.size
  | .tru => by decide
  | .lt _ => by show (0 : Int) < 1; decide
  | .no p => by have := p.ht_size; simp only [Fm.ht, Fm.size]; omega
  | .an p q => by have := p.ht_size; have := q.ht_size; have := p.size_pos; have := q.size_pos; simp only [Fm.ht, Fm.size]; omega
  | .orr p q => by have := p.ht_size; have := q.ht_size; have := p.size_pos; have := q.size_pos; simp only [Fm.ht, Fm.size]; omega
  | .nx p => by have := p.ht_size; simp only [Fm.ht, Fm.size]; omega
  | .un p q => by have := p.ht_size; have := q.ht_size; have := p.size_pos; have := q.size_pos; simp only [Fm.ht, Fm.size]; omega
end K64

set_option Elab.async false
set_option linter.all false
set_option maxRecDepth 100000
set_option maxHeartbeats 4000000
namespace K64
open PySem PySem.Spec PyProof.Rows L2 LamX DL
/-! ### words and truth -/
def sat (L : Nat → Int) : Fm → Nat → Prop
  | .tru, _ => True
  | .lt a, i => L i = a
  | .no p, i => ¬ sat L p i
  | .an p q, i => sat L p i ∧ sat L q i
  | .orr p q, i => sat L p i ∨ sat L q i
  | .nx p, i => sat L p (i + 1)
  | .un p q, i => ∃ j, i ≤ j ∧ sat L q j ∧ ∀ t, i ≤ t → t < j → sat L p t
noncomputable def sb (L : Nat → Int) (p : Fm) (i : Nat) : Bool := @decide (sat L p i) (Classical.propDecidable _)
theorem sb_iff {L : Nat → Int} {p : Fm} {i : Nat} : sb L p i = true ↔ sat L p i := by unfold sb; exact @decide_eq_true_iff _ (Classical.propDecidable _)
theorem bool_ext {a b : Bool} (h : a = true ↔ b = true) : a = b := Bool.eq_iff_iff.mpr h
def lw (us vs : List Int) (i : Nat) : Int := if i < us.length then us.getD i 0 else vs.getD ((i - us.length) % vs.length) 0
theorem lw_per (us vs : List Int) {i : Nat} (h : us.length ≤ i) : lw us vs (i + vs.length) = lw us vs i := by
  unfold lw
  rw [if_neg (by omega), if_neg (by omega), show i + vs.length - us.length = i - us.length + vs.length by omega, Nat.add_mod_right]
theorem lw_get (us vs : List Int) {i : Nat} (h : i < (us ++ vs).length) : lw us vs i = (us ++ vs)[i] := by
  unfold lw
  rw [List.length_append] at h
  by_cases hi : i < us.length
  · rw [if_pos hi, List.getElem_append_left hi, List.getD_eq_getElem?_getD, List.getElem?_eq_getElem hi]
    rfl
  · rw [if_neg hi, List.getElem_append_right (by omega), Nat.mod_eq_of_lt (by omega), List.getD_eq_getElem?_getD, List.getElem?_eq_getElem (by omega)]
    rfl
theorem sat_per {L : Nat → Int} {b m : Nat} (hL : ∀ i, b ≤ i → L (i + m) = L i) : ∀ (p : Fm) (i : Nat), b ≤ i → (sat L p (i + m) ↔ sat L p i)
  | .tru, _, _ => Iff.rfl
  | .lt a, i, h => by show L (i + m) = a ↔ L i = a; rw [hL i h]
  | .no p, i, h => not_congr (sat_per hL p i h)
  | .an p q, i, h => and_congr (sat_per hL p i h) (sat_per hL q i h)
  | .orr p q, i, h => or_congr (sat_per hL p i h) (sat_per hL q i h)
  | .nx p, i, h => by
    show sat L p (i + m + 1) ↔ sat L p (i + 1)
    rw [show i + m + 1 = i + 1 + m by omega]
    exact sat_per hL p (i + 1) (by omega)
  | .un p q, i, h => by
    constructor
    · rintro ⟨j, h1, h2, h3⟩
      refine ⟨j - m, by omega, ?_, fun t ht ht' => ?_⟩
      · have := sat_per hL q (j - m) (by omega)
        rw [show j - m + m = j by omega] at this
        exact this.mp h2
      · exact (sat_per hL p t (by omega)).mp (h3 (t + m) (by omega) (by omega))
    · rintro ⟨j, h1, h2, h3⟩
      refine ⟨j + m, by omega, (sat_per hL q j (by omega)).mpr h2, fun t ht ht' => ?_⟩
      have := sat_per hL p (t - m) (by omega)
      rw [show t - m + m = t by omega] at this
      exact this.mpr (h3 (t - m) (by omega) (by omega))
/-- what an until finds, it finds within one turn -/
theorem un_near {Q Pq : Nat → Prop} {b m i : Nat} (hm : 0 < m) (hq : ∀ i, b ≤ i → (Q (i + m) ↔ Q i)) (h : ∃ j, i ≤ j ∧ Q j ∧ ∀ t, i ≤ t → t < j → Pq t) : ∃ j, i ≤ j ∧ j < max i b + m ∧ Q j ∧ ∀ t, i ≤ t → t < j → Pq t := by
  obtain ⟨j, hj⟩ := h
  induction j using Nat.strongRecOn with
  | _ j ih =>
    by_cases hlt : j < max i b + m
    · exact ⟨j, hj.1, hlt, hj.2.1, hj.2.2⟩
    · have hmax : i ≤ max i b ∧ b ≤ max i b := ⟨Nat.le_max_left .., Nat.le_max_right ..⟩
      refine ih (j - m) (by omega) ⟨by omega, ?_, fun t h1 h2 => hj.2.2 t h1 (by omega)⟩
      have := hq (j - m) (by omega)
      rw [show j - m + m = j by omega] at this
      exact this.mp hj.2.1
noncomputable def tv (us vs : List Int) (p : Fm) : List Bool := (List.range (us.length + vs.length)).map (sb (lw us vs) p)
theorem tv_len (us vs : List Int) (p : Fm) : (tv us vs p).length = us.length + vs.length := by unfold tv; rw [List.length_map, List.length_range]
theorem tv_get (us vs : List Int) (p : Fm) {i : Nat} (h : i < us.length + vs.length) : (tv us vs p)[i]? = some (sb (lw us vs) p i) := by
  unfold tv
  rw [List.getElem?_map, List.getElem?_range h]
  rfl
theorem lb_get (us vs : List Int) (p : Fm) {i : Nat} (h : i < us.length + vs.length) : ((tv us vs p).map D.bl)[i]? = some (.bl (sb (lw us vs) p i)) := by
  rw [List.getElem?_map, tv_get us vs p h]
  rfl
/-- a list that is the truth of p -/
theorem tv_of {us vs : List Int} {p : Fm} {l : List D} (h1 : l.length = us.length + vs.length) (h2 : ∀ i, i < us.length + vs.length → l[i]? = some (.bl (sb (lw us vs) p i))) : l = (tv us vs p).map .bl := by
  apply List.ext_getElem?
  intro i
  by_cases hi : i < us.length + vs.length
  · rw [h2 i hi, lb_get us vs p hi]
  · rw [List.getElem?_eq_none (by omega), List.getElem?_eq_none (by rw [List.length_map, tv_len]; omega)]
theorem sb_tru {L : Nat → Int} {i : Nat} : sb L .tru i = true := sb_iff.mpr trivial
theorem sb_lt {L : Nat → Int} {a : Int} {i : Nat} : sb L (.lt a) i = decide (L i = a) := bool_ext (sb_iff.trans (by show L i = a ↔ _; rw [decide_eq_true_eq]))
theorem sb_no {L : Nat → Int} {p : Fm} {i : Nat} : sb L (.no p) i = !sb L p i := bool_ext (sb_iff.trans (by show ¬ sat L p i ↔ _; rw [Bool.not_eq_true', ← Bool.not_eq_true, sb_iff]))
theorem sb_an {L : Nat → Int} {p q : Fm} {i : Nat} : sb L (.an p q) i = (sb L p i && sb L q i) := bool_ext (sb_iff.trans (by show sat L p i ∧ sat L q i ↔ _; rw [Bool.and_eq_true, sb_iff, sb_iff]))
theorem sb_orr {L : Nat → Int} {p q : Fm} {i : Nat} : sb L (.orr p q) i = (sb L p i || sb L q i) := bool_ext (sb_iff.trans (by show sat L p i ∨ sat L q i ↔ _; rw [Bool.or_eq_true, sb_iff, sb_iff]))
theorem sb_nx {L : Nat → Int} {p : Fm} {i : Nat} : sb L (.nx p) i = sb L p (i + 1) := bool_ext (sb_iff.trans (by show sat L p (i + 1) ↔ _; rw [sb_iff]))
theorem sb_per (us vs : List Int) (p : Fm) {i : Nat} (h : us.length ≤ i) : sb (lw us vs) p (i + vs.length) = sb (lw us vs) p i := bool_ext (by rw [sb_iff, sb_iff]; exact sat_per (fun i h => lw_per us vs h) p i h)
/-- from the end, c back -/
def ub (p q : Nat → Bool) (e : Bool) (n : Nat) : Nat → Bool
  | 0 => e
  | c + 1 => q (n - (c + 1)) || (p (n - (c + 1)) && ub p q e n c)
theorem ub_iff {p q : Nat → Bool} {e : Bool} {n : Nat} : ∀ c, c ≤ n → (ub p q e n c = true ↔ (∃ j, n - c ≤ j ∧ j < n ∧ q j = true ∧ ∀ t, n - c ≤ t → t < j → p t = true) ∨ (e = true ∧ ∀ t, n - c ≤ t → t < n → p t = true))
  | 0, _ => by
    refine ⟨fun h => .inr ⟨h, fun t h1 h2 => by omega⟩, ?_⟩
    rintro (⟨j, h1, h2, _⟩ | ⟨h, _⟩)
    · omega
    · exact h
  | c + 1, hc => by
    have ih := ub_iff (p := p) (q := q) (e := e) (n := n) c (by omega)
    show (q (n - (c + 1)) || (p (n - (c + 1)) && ub p q e n c)) = true ↔ _
    rw [Bool.or_eq_true, Bool.and_eq_true, ih]
    have s : n - c = n - (c + 1) + 1 := by omega
    constructor
    · rintro (h | ⟨hp, ⟨j, h1, h2, h3, h4⟩ | ⟨h1, h2⟩⟩)
      · exact .inl ⟨n - (c + 1), by omega, by omega, h, fun t a b => by omega⟩
      · refine .inl ⟨j, by omega, h2, h3, fun t a b => ?_⟩
        by_cases e : t = n - (c + 1)
        · rw [e]; exact hp
        · exact h4 t (by omega) b
      · refine .inr ⟨h1, fun t a b => ?_⟩
        by_cases e : t = n - (c + 1)
        · rw [e]; exact hp
        · exact h2 t (by omega) b
    · rintro (⟨j, h1, h2, h3, h4⟩ | ⟨h1, h2⟩)
      · by_cases e : j = n - (c + 1)
        · rw [e] at h3; exact .inl h3
        · exact .inr ⟨h4 _ (by omega) (by omega), .inl ⟨j, by omega, h2, h3, fun t a b => h4 t (by omega) b⟩⟩
      · exact .inr ⟨h2 _ (by omega) (by omega), .inr ⟨h1, fun t a b => h2 t (by omega) b⟩⟩
/-- two rounds find an until -/
theorem ub_two (us vs : List Int) (p q : Fm) (hv : 0 < vs.length) {i : Nat} (hi : i ≤ us.length + vs.length) :
    ub (sb (lw us vs) p) (sb (lw us vs) q) (ub (sb (lw us vs) p) (sb (lw us vs) q) (sb (lw us vs) q us.length) (us.length + vs.length) vs.length) (us.length + vs.length) (us.length + vs.length - i) = sb (lw us vs) (.un p q) i := by
  have per := sat_per (L := lw us vs) (b := us.length) (m := vs.length) (fun i h => lw_per us vs h)
  have U : ∀ i, sb (lw us vs) (.un p q) i = true ↔ ∃ j, i ≤ j ∧ sat (lw us vs) q j ∧ ∀ t, i ≤ t → t < j → sat (lw us vs) p t := fun i => sb_iff
  have e1 : ub (sb (lw us vs) p) (sb (lw us vs) q) (sb (lw us vs) q us.length) (us.length + vs.length) vs.length = sb (lw us vs) (.un p q) us.length := by
    apply bool_ext
    rw [ub_iff _ (by omega), U, Nat.add_sub_cancel]
    constructor
    · rintro (⟨j, h1, h2, h3, h4⟩ | ⟨h1, h2⟩)
      · exact ⟨j, h1, sb_iff.mp h3, fun t a b => sb_iff.mp (h4 t a b)⟩
      · refine ⟨us.length, Nat.le_refl _, sb_iff.mp h1, fun t a b => by omega⟩
    · intro h
      obtain ⟨j, h1, h2, h3, h4⟩ := un_near hv (fun i h => per q i h) h
      rw [Nat.max_self] at h2
      exact .inl ⟨j, h1, h2, sb_iff.mpr h3, fun t a b => sb_iff.mpr (h4 t a b)⟩
  rw [e1]
  apply bool_ext
  rw [ub_iff _ (by omega), U i, show us.length + vs.length - (us.length + vs.length - i) = i by omega]
  have ePer := sat_per (L := lw us vs) (b := us.length) (m := vs.length) (fun i h => lw_per us vs h) (.un p q) us.length (Nat.le_refl _)
  constructor
  · rintro (⟨j, h1, h2, h3, h4⟩ | ⟨h1, h2⟩)
    · exact ⟨j, h1, sb_iff.mp h3, fun t a b => sb_iff.mp (h4 t a b)⟩
    · obtain ⟨j, a1, a2, a3⟩ := ePer.mpr (sb_iff.mp h1)
      refine ⟨j, by omega, a2, fun t b1 b2 => ?_⟩
      by_cases ht : t < us.length + vs.length
      · exact sb_iff.mp (h2 t b1 ht)
      · exact a3 t (by omega) b2
  · rintro ⟨j, h1, h2, h3⟩
    by_cases hj : j < us.length + vs.length
    · exact .inl ⟨j, h1, hj, sb_iff.mpr h2, fun t a b => sb_iff.mpr (h3 t a b)⟩
    · refine .inr ⟨sb_iff.mpr (ePer.mp ⟨j, by omega, h2, fun t a b => h3 t (by omega) b⟩), fun t a b => sb_iff.mpr (h3 t a (by omega))⟩
/-- n turns forward find an until -/
def fu (p q : Nat → Bool) (to : Nat → Nat) : Nat → Nat → Bool
  | 0, i => q i
  | c + 1, i => q i || (p i && fu p q to c (to i))
def tos (us vs : List Int) (i : Nat) : Nat := if i + 1 < us.length + vs.length then i + 1 else us.length
theorem fu_iff (us vs : List Int) (p q : Fm) (hv : 0 < vs.length) : ∀ (c i : Nat), i < us.length + vs.length → (fu (sb (lw us vs) p) (sb (lw us vs) q) (tos us vs) c i = true ↔ ∃ j, i ≤ j ∧ j ≤ i + c ∧ sat (lw us vs) q j ∧ ∀ t, i ≤ t → t < j → sat (lw us vs) p t)
  | 0, i, hi => by
    show sb (lw us vs) q i = true ↔ _
    rw [sb_iff]
    refine ⟨fun h => ⟨i, Nat.le_refl _, Nat.le_refl _, h, fun t a b => by omega⟩, ?_⟩
    rintro ⟨j, h1, h2, h3, _⟩
    rwa [show i = j by omega]
  | c + 1, i, hi => by
    have per := sat_per (L := lw us vs) (b := us.length) (m := vs.length) (fun i h => lw_per us vs h)
    show (sb (lw us vs) q i || (sb (lw us vs) p i && fu (sb (lw us vs) p) (sb (lw us vs) q) (tos us vs) c (tos us vs i))) = true ↔ _
    have ht : tos us vs i < us.length + vs.length := by unfold tos; split <;> omega
    rw [Bool.or_eq_true, Bool.and_eq_true, sb_iff, sb_iff, fu_iff us vs p q hv c _ ht]
    have key : (∃ j, tos us vs i ≤ j ∧ j ≤ tos us vs i + c ∧ sat (lw us vs) q j ∧ ∀ t, tos us vs i ≤ t → t < j → sat (lw us vs) p t) ↔ ∃ j, i + 1 ≤ j ∧ j ≤ i + 1 + c ∧ sat (lw us vs) q j ∧ ∀ t, i + 1 ≤ t → t < j → sat (lw us vs) p t := by
      unfold tos
      by_cases h : i + 1 < us.length + vs.length
      · rw [if_pos h]
      · rw [if_neg h]
        constructor
        · rintro ⟨j, h1, h2, h3, h4⟩
          refine ⟨j + vs.length, by omega, by omega, (per q j h1).mpr h3, fun t a b => ?_⟩
          have := per p (t - vs.length) (by omega)
          rw [show t - vs.length + vs.length = t by omega] at this
          exact this.mpr (h4 _ (by omega) (by omega))
        · rintro ⟨j, h1, h2, h3, h4⟩
          refine ⟨j - vs.length, by omega, by omega, ?_, fun t a b => ?_⟩
          · have := per q (j - vs.length) (by omega)
            rw [show j - vs.length + vs.length = j by omega] at this
            exact this.mp h3
          · exact (per p t a).mp (h4 _ (by omega) (by omega))
    rw [key]
    constructor
    · rintro (h | ⟨hp, j, h1, h2, h3, h4⟩)
      · exact ⟨i, Nat.le_refl _, by omega, h, fun t a b => by omega⟩
      · refine ⟨j, by omega, by omega, h3, fun t a b => ?_⟩
        by_cases e : t = i
        · rw [e]; exact hp
        · exact h4 t (by omega) b
    · rintro ⟨j, h1, h2, h3, h4⟩
      by_cases e : j = i
      · rw [e] at h3; exact .inl h3
      · exact .inr ⟨h4 i (Nat.le_refl _) (by omega), j, by omega, by omega, h3, fun t a b => h4 t (by omega) b⟩
theorem fu_all (us vs : List Int) (p q : Fm) (hv : 0 < vs.length) {i : Nat} (hi : i < us.length + vs.length) : fu (sb (lw us vs) p) (sb (lw us vs) q) (tos us vs) (us.length + vs.length) i = sb (lw us vs) (.un p q) i := by
  have per := sat_per (L := lw us vs) (b := us.length) (m := vs.length) (fun i h => lw_per us vs h)
  apply bool_ext
  rw [fu_iff us vs p q hv _ _ hi, sb_iff]
  constructor
  · rintro ⟨j, h1, h2, h3, h4⟩
    exact ⟨j, h1, h3, h4⟩
  · intro h
    obtain ⟨j, h1, h2, h3, h4⟩ := un_near (b := us.length) hv (fun i h => per q i h) h
    refine ⟨j, h1, ?_, h3, h4⟩
    have : max i us.length ≤ i + us.length := by omega
    omega
end K64

set_option Elab.async false
set_option linter.all false
set_option maxRecDepth 100000
set_option maxHeartbeats 4000000
namespace K64
open PySem PySem.Spec PyProof.Rows L2 LamX DL
def Sn.ht : Sn → Nat
  | .lt _ _ => 0
  | .nx _ _ => 0
  | .ls _ _ => 0
  | .no p => p.ht + 1
  | .an p q => max p.ht q.ht + 1
  | .orr p q => max p.ht q.ht + 1
  | .ex _ p => p.ht + 1
  | .al _ p => p.ht + 1
/-- names that are bound or given -/
def Sn.sc : Sn → List Int → Prop
  | .lt h _, ns => h ∈ ns
  | .nx h o, ns => h ∈ ns ∧ o ∈ ns
  | .ls h o, ns => h ∈ ns ∧ o ∈ ns
  | .no p, ns => p.sc ns
  | .an p q, ns => p.sc ns ∧ q.sc ns
  | .orr p q, ns => p.sc ns ∧ q.sc ns
  | .ex x p, ns => 0 ≤ x ∧ p.sc (ns ++ [x])
  | .al x p, ns => 0 ≤ x ∧ p.sc (ns ++ [x])
def Sn.bd : Sn → List Int
  | .lt _ _ => []
  | .nx _ _ => []
  | .ls _ _ => []
  | .no p => p.bd
  | .an p q => p.bd ++ q.bd
  | .orr p q => p.bd ++ q.bd
  | .ex x p => x :: p.bd
  | .al x p => x :: p.bd
def Sn.dp : Sn → Int
  | .lt _ _ => 0
  | .nx _ _ => 0
  | .ls _ _ => 0
  | .no p => p.dp
  | .an p q => max p.dp q.dp
  | .orr p q => max p.dp q.dp
  | .ex _ p => p.dp + 1
  | .al _ p => p.dp + 1
theorem Sn.dp_nn : ∀ p : Sn, 0 ≤ p.dp
  | .lt _ _ => Int.le_refl _
  | .nx _ _ => Int.le_refl _
  | .ls _ _ => Int.le_refl _
  | .no p => p.dp_nn
  | .an p q => by have := p.dp_nn; show 0 ≤ max _ _; omega
  | .orr p q => by have := p.dp_nn; show 0 ≤ max _ _; omega
  | .ex _ p => by have := p.dp_nn; show 0 ≤ p.dp + 1; omega
  | .al _ p => by have := p.dp_nn; show 0 ≤ p.dp + 1; omega
theorem Sn.sc_mono : ∀ (p : Sn) (ns ms : List Int), (∀ x ∈ ns, x ∈ ms) → p.sc ns → p.sc ms
  | .lt _ _, _, _, h, k => h _ k
  | .nx _ _, _, _, h, k => ⟨h _ k.1, h _ k.2⟩
  | .ls _ _, _, _, h, k => ⟨h _ k.1, h _ k.2⟩
  | .no p, ns, ms, h, k => p.sc_mono ns ms h k
  | .an p q, ns, ms, h, k => ⟨p.sc_mono ns ms h k.1, q.sc_mono ns ms h k.2⟩
  | .orr p q, ns, ms, h, k => ⟨p.sc_mono ns ms h k.1, q.sc_mono ns ms h k.2⟩
  | .ex x p, ns, ms, h, k => ⟨k.1, p.sc_mono _ _ (fun y hy => by
    rcases List.mem_append.mp hy with hy | hy
    · exact List.mem_append_left _ (h y hy)
    · exact List.mem_append_right _ hy) k.2⟩
  | .al x p, ns, ms, h, k => ⟨k.1, p.sc_mono _ _ (fun y hy => by
    rcases List.mem_append.mp hy with hy | hy
    · exact List.mem_append_left _ (h y hy)
    · exact List.mem_append_right _ hy) k.2⟩
/-! ### assignments of places to names -/
abbrev Asg := List (Int × Int)
def encA (as : Asg) : List (Key × D) := as.map fun kv => (.inl kv.1, .int kv.2)
def lk (as : Asg) (x : Int) : Option Int := (as.find? fun p => decide (p.1 = x)).map (·.2)
def look (as : Asg) (x : Int) : Int := (lk as x).getD 0
def put (as : Asg) (x v : Int) : Asg := if (as.any fun kv => decide (kv.1 = x)) = true then as.map (fun kv => if kv.1 = x then (kv.1, v) else kv) else as ++ [(x, v)]
theorem key_eq (a b : Int) : decide ((Sum.inl a : Key) = Sum.inl b) = decide (a = b) := by
  by_cases h : a = b
  · subst h; rw [decide_eq_true rfl, decide_eq_true rfl]
  · rw [decide_eq_false h, decide_eq_false fun e => h (Sum.inl.inj e)]
theorem valD_enc (as : Asg) (x : Int) : valD (encA as) (.inl x) = (lk as x).map .int := by
  unfold valD encA lk
  rw [List.find?_map, Option.map_map, Option.map_map]
  have : ((fun p : Key × D => decide (p.1 = Sum.inl x)) ∘ fun kv : Int × Int => ((Sum.inl kv.1 : Key), D.int kv.2)) = fun p => decide (p.1 = x) := funext fun kv => key_eq _ _
  rw [this]
  rfl
theorem putD_enc (as : Asg) (x v : Int) : putD (encA as) (.inl x) (.int v) = encA (put as x v) := by
  unfold putD put encA
  have e : ((as.map fun kv : Int × Int => ((Sum.inl kv.1 : Key), D.int kv.2)).any fun kv => decide (kv.1 = Sum.inl x)) = as.any fun kv => decide (kv.1 = x) := by
    rw [List.any_map]
    exact congrArg (fun f => as.any f) (funext fun kv => key_eq _ _)
  rw [e]
  split
  · rw [List.map_map, List.map_map]
    refine List.map_congr_left fun kv _ => ?_
    show (if (Sum.inl kv.1 : Key) = Sum.inl x then ((Sum.inl kv.1 : Key), D.int v) else (Sum.inl kv.1, D.int kv.2)) = ((Sum.inl (if kv.1 = x then (kv.1, v) else kv).1 : Key), D.int (if kv.1 = x then (kv.1, v) else kv).2)
    by_cases h : kv.1 = x
    · rw [if_pos h, if_pos (congrArg Sum.inl h)]
    · rw [if_neg h, if_neg fun e => h (Sum.inl.inj e)]
  · rw [List.map_append]
    rfl
theorem lk_cons (kv : Int × Int) (as : Asg) (x : Int) : lk (kv :: as) x = if kv.1 = x then some kv.2 else lk as x := by
  unfold lk
  rw [List.find?_cons]
  by_cases h : kv.1 = x
  · rw [if_pos h, decide_eq_true h]
    rfl
  · rw [if_neg h, decide_eq_false h]
theorem lk_map (x v y : Int) : ∀ as : Asg, (as.any fun kv => decide (kv.1 = x)) = true → lk (as.map fun kv => if kv.1 = x then (kv.1, v) else kv) y = if y = x then some v else lk as y
  | [], h => by cases h
  | kv :: as, h => by
    rw [List.map_cons, lk_cons, lk_cons]
    by_cases hk : kv.1 = x
    · rw [if_pos hk]
      show (if kv.1 = y then some v else _) = _
      by_cases hy : y = x
      · rw [if_pos hy, if_pos (by omega)]
      · rw [if_neg hy, if_neg (by omega), if_neg (by omega)]
        by_cases ha : (as.any fun kv => decide (kv.1 = x)) = true
        · rw [lk_map x v y as ha, if_neg hy]
        · refine congrArg (fun l => lk l y) ?_
          have : ∀ kv ∈ as, ¬ kv.1 = x := fun kv hm e => ha (List.any_eq_true.mpr ⟨kv, hm, decide_eq_true e⟩)
          exact (List.map_congr_left (g := id) fun kv hm => if_neg (this kv hm)).trans (List.map_id as)
    · rw [if_neg hk]
      have ha : (as.any fun kv => decide (kv.1 = x)) = true := by
        rw [List.any_cons, decide_eq_false hk, Bool.false_or] at h
        exact h
      by_cases hy : kv.1 = y
      · rw [if_pos hy, if_pos hy, if_neg (by omega)]
      · rw [if_neg hy, if_neg hy]
        exact lk_map x v y as ha
theorem lk_app (x v y : Int) : ∀ as : Asg, ¬ (as.any fun kv => decide (kv.1 = x)) = true → lk (as ++ [(x, v)]) y = if y = x then some v else lk as y
  | [], h => by
    show lk [(x, v)] y = _
    rw [lk_cons]
    by_cases hy : y = x
    · rw [if_pos hy, if_pos hy.symm]
    · rw [if_neg hy, if_neg fun e => hy e.symm]
  | kv :: as, h => by
    rw [List.any_cons, Bool.or_eq_true, not_or] at h
    have hk : ¬ kv.1 = x := fun e => h.1 (decide_eq_true e)
    rw [List.cons_append, lk_cons, lk_cons, lk_app x v y as h.2]
    by_cases hy : kv.1 = y
    · rw [if_pos hy, if_pos hy, if_neg (by omega)]
    · rw [if_neg hy, if_neg hy]
theorem lk_put (as : Asg) (x v y : Int) : lk (put as x v) y = if y = x then some v else lk as y := by
  unfold put
  split
  · rename_i h; exact lk_map x v y as h
  · rename_i h; exact lk_app x v y as h
theorem look_put (as : Asg) (x v y : Int) : look (put as x v) y = if y = x then v else look as y := by
  unfold look
  rw [lk_put]
  split <;> rfl
theorem lk_mem {as : Asg} {x v : Int} (h : lk as x = some v) : (x, v) ∈ as := by
  unfold lk at h
  cases hf : as.find? fun p => decide (p.1 = x) with
  | none => rw [hf] at h; cases h
  | some kv =>
    rw [hf] at h
    have h1 := List.mem_of_find?_eq_some hf
    have h2 : kv.1 = x := of_decide_eq_true (List.find?_some (p := fun p : Int × Int => decide (p.1 = x)) hf)
    have h3 : kv.2 = v := by injection h
    rw [← h2, ← h3]
    exact h1
theorem lk_some {as : Asg} {x : Int} (h : x ∈ as.map (·.1)) : lk as x = some (look as x) := by
  unfold look
  cases hl : lk as x with
  | some v => rfl
  | none =>
    unfold lk at hl
    rw [Option.map_eq_none_iff, List.find?_eq_none] at hl
    obtain ⟨kv, h1, h2⟩ := List.mem_map.mp h
    exact absurd (decide_eq_true h2) (hl kv h1)
theorem put_keys {as : Asg} {x v y : Int} (h : y ∈ as.map (·.1) ++ [x]) : y ∈ (put as x v).map (·.1) := by
  have hs : (lk (put as x v) y).isSome = true := by
    rw [lk_put]
    by_cases hy : y = x
    · rw [if_pos hy]; rfl
    · rw [if_neg hy]
      rcases List.mem_append.mp h with h | h
      · rw [lk_some h]; rfl
      · exact absurd (List.mem_singleton.mp h) hy
  cases hl : lk (put as x v) y with
  | none => rw [hl] at hs; cases hs
  | some u => exact List.mem_map.mpr ⟨_, lk_mem hl, rfl⟩
theorem put_len (as : Asg) (x v : Int) : (put as x v).length ≤ as.length + 1 := by
  unfold put
  split
  · rw [List.length_map]; omega
  · rw [List.length_append]; exact Nat.le_refl _
theorem put_mem {as : Asg} {x v : Int} {kv : Int × Int} (h : kv ∈ put as x v) : kv.2 = v ∨ kv ∈ as := by
  unfold put at h
  split at h
  · obtain ⟨kv', h1, h2⟩ := List.mem_map.mp h
    by_cases hx : kv'.1 = x
    · rw [if_pos hx] at h2; rw [← h2]; exact .inl rfl
    · rw [if_neg hx] at h2; rw [← h2]; exact .inr h1
  · rcases List.mem_append.mp h with h | h
    · exact .inr h
    · rw [List.mem_singleton.mp h]; exact .inl rfl
def mx (l : List Int) : Int := l.foldr max 0
theorem mx_nn : ∀ l : List Int, 0 ≤ mx l
  | [] => Int.le_refl _
  | a :: l => by have := mx_nn l; show 0 ≤ max a (mx l); omega
theorem mx_le : ∀ {l : List Int} {a : Int}, a ∈ l → a ≤ mx l
  | b :: l, a, h => by
    show a ≤ max b (mx l)
    rcases List.mem_cons.mp h with rfl | h
    · omega
    · have := mx_le h; omega
theorem mx_of {l : List Int} {m : Int} (h : ∀ y ∈ l, y ≤ m) (h0 : 0 ≤ m) : mx l ≤ m := by
  induction l with
  | nil => exact h0
  | cons a l ih =>
    have h1 := h a (List.mem_cons_self ..)
    have h2 := ih fun y hy => h y (List.mem_cons_of_mem _ hy)
    show max a (mx l) ≤ m
    omega
def idx (dp : Int) : Int := if 0 < dp then ([3, 5, 9, 17] : List Int).getD (dp - 1).toNat 3 else 3
theorem idx_lo (dp : Int) : 3 ≤ idx dp := by
  unfold idx
  split
  · rcases h : (dp - 1).toNat with _ | _ | _ | _ | n <;> simp
  · exact Int.le_refl _
theorem idx_hi (dp : Int) : idx dp ≤ 17 := by
  unfold idx
  split
  · rcases h : (dp - 1).toNat with _ | _ | _ | _ | n <;> simp
  · decide
def hi (us vs : List Int) (as : Asg) (dp : Int) : Int := mx ((us.length : Int) :: as.map fun kv => look as kv.1) + vs.length * idx dp
/-- a sentence with bounded names -/
def bs (us vs : List Int) : Sn → Asg → Int → Prop
  | .lt h a, as, _ => lw us vs (look as h).toNat = a
  | .nx h o, as, _ => look as o = look as h + 1
  | .ls h o, as, _ => look as h < look as o
  | .no p, as, d => ¬ bs us vs p as d
  | .an p q, as, d => bs us vs p as d ∧ bs us vs q as d
  | .orr p q, as, d => bs us vs p as d ∨ bs us vs q as d
  | .ex x p, as, d => ∃ i : Nat, (i : Int) ≤ hi us vs as d ∧ bs us vs p (put as x i) (d - 1)
  | .al x p, as, d => ∀ i : Nat, (i : Int) ≤ hi us vs as d → bs us vs p (put as x i) (d - 1)
noncomputable def bsb (us vs : List Int) (p : Sn) (as : Asg) (d : Int) : Bool := @decide (bs us vs p as d) (Classical.propDecidable _)
theorem bsb_iff {us vs : List Int} {p : Sn} {as : Asg} {d : Int} : bsb us vs p as d = true ↔ bs us vs p as d := by unfold bsb; exact @decide_eq_true_iff _ (Classical.propDecidable _)
theorem bsb_no {us vs : List Int} {p : Sn} {as : Asg} {d : Int} : bsb us vs (.no p) as d = !bsb us vs p as d := bool_ext (bsb_iff.trans (by show ¬ bs us vs p as d ↔ _; rw [Bool.not_eq_true', ← Bool.not_eq_true, bsb_iff]))
theorem bsb_an {us vs : List Int} {p q : Sn} {as : Asg} {d : Int} : bsb us vs (.an p q) as d = (bsb us vs p as d && bsb us vs q as d) := bool_ext (bsb_iff.trans (by show bs us vs p as d ∧ bs us vs q as d ↔ _; rw [Bool.and_eq_true, bsb_iff, bsb_iff]))
theorem bsb_orr {us vs : List Int} {p q : Sn} {as : Asg} {d : Int} : bsb us vs (.orr p q) as d = (bsb us vs p as d || bsb us vs q as d) := bool_ext (bsb_iff.trans (by show bs us vs p as d ∨ bs us vs q as d ↔ _; rw [Bool.or_eq_true, bsb_iff, bsb_iff]))
end K64

set_option Elab.async false
set_option linter.all false
set_option maxRecDepth 100000
set_option maxHeartbeats 4000000
namespace K64
open PySem PySem.Spec PyProof.Rows L2 LamX DL
/-! ### bounded names are enough -/
theorem bs_plain (us vs : List Int) : ∀ (p : Fm), p.plain → ∀ (h o t : Int) (as : Asg) (d : Int), (bs us vs (pl p h o t) as d ↔ sat (lw us vs) p (look as h).toNat)
  | .tru, _, h, o, t, as, d => by
    show ¬ (look as h < look as h) ↔ True
    exact ⟨fun _ => trivial, fun _ => Int.lt_irrefl _⟩
  | .lt a, _, h, o, t, as, d => Iff.rfl
  | .no p, k, h, o, t, as, d => not_congr (bs_plain us vs p k h o t as d)
  | .an p q, k, h, o, t, as, d => and_congr (bs_plain us vs p k.1 h o t as d) (bs_plain us vs q k.2 h o t as d)
  | .orr p q, k, h, o, t, as, d => or_congr (bs_plain us vs p k.1 h o t as d) (bs_plain us vs q k.2 h o t as d)
theorem hi_lo (us vs : List Int) (as : Asg) (d : Int) : (us.length : Int) + vs.length * 3 ≤ hi us vs as d := by
  have h1 : (us.length : Int) ≤ mx ((us.length : Int) :: as.map fun kv => look as kv.1) := mx_le (List.mem_cons_self ..)
  have h2 : (vs.length : Int) * 3 ≤ vs.length * idx d := Int.mul_le_mul_of_nonneg_left (idx_lo d) (by omega)
  unfold hi
  omega
theorem hi_key (us vs : List Int) {as : Asg} (d : Int) {x : Int} (hx : x ∈ as.map (·.1)) : look as x + vs.length * 3 ≤ hi us vs as d := by
  obtain ⟨kv, h1, h2⟩ := List.mem_map.mp hx
  have h3 : look as x ≤ mx ((us.length : Int) :: as.map fun kv => look as kv.1) := mx_le (List.mem_cons_of_mem _ (List.mem_map.mpr ⟨kv, h1, by rw [← h2]⟩))
  have h4 : (vs.length : Int) * 3 ≤ vs.length * idx d := Int.mul_le_mul_of_nonneg_left (idx_lo d) (by omega)
  unfold hi
  omega
theorem bs_flat (us vs : List Int) (hv : 0 < vs.length) : ∀ (p : Fm), p.flat → ∀ (h o t : Int) (as : Asg) (d : Int) (i : Nat), h ≠ o → h ≠ t → o ≠ t → h ∈ as.map (·.1) → look as h = i → (bs us vs (pl p h o t) as d ↔ sat (lw us vs) p i)
  | .tru, k, h, o, t, as, d, i, _, _, _, _, e => by rw [bs_plain us vs .tru trivial, e, Int.toNat_natCast]
  | .lt a, k, h, o, t, as, d, i, _, _, _, _, e => by rw [bs_plain us vs (.lt a) trivial, e, Int.toNat_natCast]
  | .no p, k, h, o, t, as, d, i, n1, n2, n3, m, e => not_congr (bs_flat us vs hv p k h o t as d i n1 n2 n3 m e)
  | .an p q, k, h, o, t, as, d, i, n1, n2, n3, m, e => and_congr (bs_flat us vs hv p k.1 h o t as d i n1 n2 n3 m e) (bs_flat us vs hv q k.2 h o t as d i n1 n2 n3 m e)
  | .orr p q, k, h, o, t, as, d, i, n1, n2, n3, m, e => or_congr (bs_flat us vs hv p k.1 h o t as d i n1 n2 n3 m e) (bs_flat us vs hv q k.2 h o t as d i n1 n2 n3 m e)
  | .nx p, k, h, o, t, as, d, i, n1, n2, n3, m, e => by
    show (∃ j : Nat, (j : Int) ≤ hi us vs as d ∧ (look (put as o j) o = look (put as o j) h + 1 ∧ bs us vs (pl p o h t) (put as o j) (d - 1))) ↔ sat (lw us vs) p (i + 1)
    have B := hi_key us vs d m
    constructor
    · rintro ⟨j, _, h2, h3⟩
      rw [look_put, look_put, if_pos rfl, if_neg n1, e] at h2
      rw [bs_plain us vs p k, look_put, if_pos rfl, Int.toNat_natCast] at h3
      rwa [show i + 1 = j by omega]
    · intro hs
      refine ⟨i + 1, by omega, ?_, ?_⟩
      · rw [look_put, look_put, if_pos rfl, if_neg n1, e]
        omega
      · rw [bs_plain us vs p k, look_put, if_pos rfl, Int.toNat_natCast]
        exact hs
  | .un p q, k, h, o, t, as, d, i, n1, n2, n3, m, e => by
    have B := hi_key us vs d m
    have B2 := hi_lo us vs as d
    have per := sat_per (L := lw us vs) (b := us.length) (m := vs.length) (fun i h => lw_per us vs h)
    have inner : ∀ j c : Nat, (bs us vs (.orr (.orr (.ls t h) (.no (.ls t o))) (pl p t h o)) (put (put as o j) t c) (d - 1 - 1) ↔ ((c : Int) < i ∨ ¬ (c : Int) < j) ∨ sat (lw us vs) p c) := fun j c => by
      show (look (put (put as o j) t c) t < look (put (put as o j) t c) h ∨ ¬ look (put (put as o j) t c) t < look (put (put as o j) t c) o) ∨ bs us vs (pl p t h o) _ _ ↔ _
      rw [bs_plain us vs p k.1]
      simp only [look_put, eq_self_iff_true, if_true, n1, n2, n3, if_false, e, Int.toNat_natCast]
    have outer : ∀ j : Nat, (bs us vs (.an (.no (.ls o h)) (.an (pl q o h t) (.al t (.orr (.orr (.ls t h) (.no (.ls t o))) (pl p t h o))))) (put as o j) (d - 1) ↔ ¬ ((j : Int) < i) ∧ sat (lw us vs) q j ∧ ∀ c : Nat, (c : Int) ≤ hi us vs (put as o j) (d - 1) → ((c : Int) < i ∨ ¬ (c : Int) < j) ∨ sat (lw us vs) p c) := fun j => by
      show (¬ (look (put as o j) o < look (put as o j) h) ∧ bs us vs (pl q o h t) (put as o j) (d - 1) ∧ ∀ c : Nat, (c : Int) ≤ hi us vs (put as o j) (d - 1) → bs us vs (.orr (.orr (.ls t h) (.no (.ls t o))) (pl p t h o)) (put (put as o j) t c) (d - 1 - 1)) ↔ _
      rw [bs_plain us vs q k.2, look_put, look_put, if_pos rfl, if_neg n1, e, Int.toNat_natCast]
      exact and_congr Iff.rfl (and_congr Iff.rfl (forall_congr' fun c => imp_congr Iff.rfl (inner j c)))
    show (∃ j : Nat, (j : Int) ≤ hi us vs as d ∧ _) ↔ ∃ j, i ≤ j ∧ sat (lw us vs) q j ∧ ∀ t, i ≤ t → t < j → sat (lw us vs) p t
    constructor
    · rintro ⟨j, _, hj⟩
      obtain ⟨a1, a2, a3⟩ := (outer j).mp hj
      refine ⟨j, by omega, a2, fun c c1 c2 => ?_⟩
      have hk := hi_key us vs (as := put as o j) (d - 1) (x := o) (put_keys (List.mem_append_right _ (List.mem_singleton.mpr rfl)))
      rw [look_put, if_pos rfl] at hk
      rcases a3 c (by omega) with (z | z) | z
      · omega
      · omega
      · exact z
    · intro hs
      obtain ⟨j, a1, a2, a3, a4⟩ := un_near (b := us.length) hv (fun i h => per q i h) hs
      have hj : (j : Int) ≤ hi us vs as d := by
        rcases Nat.le_total i us.length with hh | hh
        · rw [Nat.max_eq_right hh] at a2; omega
        · rw [Nat.max_eq_left hh] at a2; omega
      refine ⟨j, hj, (outer j).mpr ⟨by omega, a3, fun c _ => ?_⟩⟩
      by_cases c1 : i ≤ c
      · by_cases c2 : c < j
        · exact .inr (a4 c c1 c2)
        · exact .inl (.inr (by omega))
      · exact .inl (.inl (by omega))
theorem bs_root (us vs : List Int) (hv : 0 < vs.length) (p : Fm) (hp : p.flat) (d : Int) : bs us vs (root p) [] d ↔ sat (lw us vs) p 0 := by
  show (∃ j : Nat, (j : Int) ≤ hi us vs [] d ∧ (¬ (∃ c : Nat, (c : Int) ≤ hi us vs (put [] 0 j) (d - 1) ∧ look (put (put [] 0 j) 1 c) 1 < look (put (put [] 0 j) 1 c) 0) ∧ bs us vs (pl p 0 1 2) (put [] 0 j) (d - 1))) ↔ _
  have fl : ∀ j : Nat, bs us vs (pl p 0 1 2) (put [] 0 j) (d - 1) ↔ sat (lw us vs) p j := fun j =>
    bs_flat us vs hv p hp 0 1 2 _ _ j (by decide) (by decide) (by decide) (put_keys (List.mem_append_right _ (List.mem_singleton.mpr rfl))) (by rw [look_put, if_pos rfl])
  have lt : ∀ j c : Nat, (look (put (put [] 0 j) 1 c) 1 < look (put (put [] 0 j) 1 c) 0 ↔ (c : Int) < j) := fun j c => by
    simp only [look_put, eq_self_iff_true, if_true, if_false, show ¬ ((0 : Int) = 1) by decide]
  have h0 := hi_lo us vs [] d
  constructor
  · rintro ⟨j, _, h1, h2⟩
    rw [fl] at h2
    by_cases hj : j = 0
    · rwa [hj] at h2
    · have h3 := hi_lo us vs (put [] 0 j) (d - 1)
      exact absurd ⟨0, by omega, (lt j 0).mpr (by omega)⟩ h1
  · intro hs
    refine ⟨0, by omega, ?_, (fl 0).mpr hs⟩
    rintro ⟨c, _, hc⟩
    have := (lt 0 c).mp hc
    omega
theorem bsb_root (us vs : List Int) (hv : 0 < vs.length) (p : Fm) (hp : p.flat) (d : Int) : bsb us vs (root p) [] d = sb (lw us vs) p 0 := bool_ext (by rw [bsb_iff, sb_iff]; exact bs_root us vs hv p hp d)

/-! ### what the root is -/
theorem pl_ht : ∀ (p : Fm) (h o t : Int), (pl p h o t).ht ≤ 5 * p.ht + 2
  | .tru, _, _, _ => by show 0 + 1 ≤ 5 * 0 + 2; omega
  | .lt a, _, _, _ => Nat.zero_le _
  | .no p, h, o, t => by have := pl_ht p h o t; simp only [pl, Sn.ht, Fm.ht]; omega
  | .an p q, h, o, t => by have := pl_ht p h o t; have := pl_ht q h o t; simp only [pl, Sn.ht, Fm.ht]; omega
  | .orr p q, h, o, t => by have := pl_ht p h o t; have := pl_ht q h o t; simp only [pl, Sn.ht, Fm.ht]; omega
  | .nx p, h, o, t => by have := pl_ht p o h t; simp only [pl, Sn.ht, Fm.ht]; omega
  | .un p q, h, o, t => by have := pl_ht p t h o; have := pl_ht q o h t; simp only [pl, Sn.ht, Fm.ht]; omega
theorem root_ht (p : Fm) : (root p).ht ≤ 5 * p.ht + 4 := by
  have := pl_ht p 0 1 2
  simp only [root, Sn.ht]
  omega
theorem pl_sc : ∀ (p : Fm) (h o t : Int) (ns : List Int), 0 ≤ h → 0 ≤ o → 0 ≤ t → h ∈ ns → (pl p h o t).sc ns
  | .tru, h, o, t, ns, _, _, _, m => ⟨m, m⟩
  | .lt a, h, o, t, ns, _, _, _, m => m
  | .no p, h, o, t, ns, a, b, c, m => pl_sc p h o t ns a b c m
  | .an p q, h, o, t, ns, a, b, c, m => ⟨pl_sc p h o t ns a b c m, pl_sc q h o t ns a b c m⟩
  | .orr p q, h, o, t, ns, a, b, c, m => ⟨pl_sc p h o t ns a b c m, pl_sc q h o t ns a b c m⟩
  | .nx p, h, o, t, ns, a, b, c, m => ⟨b, ⟨List.mem_append_left _ m, List.mem_append_right _ (List.mem_singleton.mpr rfl)⟩, pl_sc p o h t _ b a c (List.mem_append_right _ (List.mem_singleton.mpr rfl))⟩
  | .un p q, h, o, t, ns, a, b, c, m => by
    have m1 : o ∈ ns ++ [o] := List.mem_append_right _ (List.mem_singleton.mpr rfl)
    have m2 : h ∈ ns ++ [o] := List.mem_append_left _ m
    have m3 : t ∈ ns ++ [o] ++ [t] := List.mem_append_right _ (List.mem_singleton.mpr rfl)
    exact ⟨b, ⟨m1, m2⟩, pl_sc q o h t _ b a c m1, c, ⟨⟨m3, List.mem_append_left _ m2⟩, m3, List.mem_append_left _ m1⟩, pl_sc p t h o _ c a b m3⟩
theorem root_sc (p : Fm) : (root p).sc [] := by
  refine ⟨by decide, ⟨by decide, ?_, ?_⟩, pl_sc p 0 1 2 _ (by decide) (by decide) (by decide) ?_⟩ <;> decide
theorem pl_bd : ∀ (p : Fm) (h o t : Int), (∀ x, x = h ∨ x = o ∨ x = t → 0 ≤ x ∧ x ≤ 2) → (∀ x ∈ (pl p h o t).bd, 0 ≤ x ∧ x ≤ 2) ∧ (pl p h o t).bd.length ≤ 2 * p.size
  | .tru, h, o, t, k => ⟨fun x hx => (by cases hx), by show (0 : Int) ≤ 2 * 1; decide⟩
  | .lt a, h, o, t, k => ⟨fun x hx => (by cases hx), by show (0 : Int) ≤ 2 * 1; decide⟩
  | .no p, h, o, t, k => by
    obtain ⟨h1, h2⟩ := pl_bd p h o t k
    exact ⟨h1, by simp only [pl, Sn.bd, Fm.size]; omega⟩
  | .an p q, h, o, t, k => by
    obtain ⟨h1, h2⟩ := pl_bd p h o t k
    obtain ⟨h3, h4⟩ := pl_bd q h o t k
    refine ⟨fun x hx => ?_, by simp only [pl, Sn.bd, Fm.size, List.length_append]; omega⟩
    rcases List.mem_append.mp hx with hx | hx
    · exact h1 x hx
    · exact h3 x hx
  | .orr p q, h, o, t, k => by
    obtain ⟨h1, h2⟩ := pl_bd p h o t k
    obtain ⟨h3, h4⟩ := pl_bd q h o t k
    refine ⟨fun x hx => ?_, by simp only [pl, Sn.bd, Fm.size, List.length_append]; omega⟩
    rcases List.mem_append.mp hx with hx | hx
    · exact h1 x hx
    · exact h3 x hx
  | .nx p, h, o, t, k => by
    obtain ⟨h1, h2⟩ := pl_bd p o h t (fun x hx => k x (by rcases hx with e | e | e <;> simp [e]))
    refine ⟨fun x hx => ?_, by simp only [pl, Sn.bd, Fm.size, List.length_append, List.length_cons, List.length_nil]; omega⟩
    rcases List.mem_cons.mp hx with rfl | hx
    · exact k _ (.inr (.inl rfl))
    · exact h1 x hx
  | .un p q, h, o, t, k => by
    obtain ⟨h1, h2⟩ := pl_bd q o h t (fun x hx => k x (by rcases hx with e | e | e <;> simp [e]))
    obtain ⟨h3, h4⟩ := pl_bd p t h o (fun x hx => k x (by rcases hx with e | e | e <;> simp [e]))
    refine ⟨fun x hx => ?_, by simp only [pl, Sn.bd, Fm.size, List.length_append, List.length_cons, List.length_nil]; omega⟩
    have hx : x ∈ o :: ([] ++ ((pl q o h t).bd ++ t :: (([] ++ []) ++ (pl p t h o).bd))) := hx
    rcases List.mem_cons.mp hx with rfl | hx
    · exact k _ (.inr (.inl rfl))
    · rw [List.nil_append] at hx
      rcases List.mem_append.mp hx with hx | hx
      · exact h1 x hx
      · rcases List.mem_cons.mp hx with rfl | hx
        · exact k _ (.inr (.inr rfl))
        · exact h3 x hx
theorem root_bd (p : Fm) : (∀ x ∈ (root p).bd, 0 ≤ x ∧ x ≤ 2) ∧ (root p).bd.length ≤ 2 * p.size + 2 := by
  obtain ⟨h1, h2⟩ := pl_bd p 0 1 2 (by rintro x (rfl | rfl | rfl) <;> decide)
  refine ⟨fun x hx => ?_, ?_⟩
  · have hx : x ∈ (0 : Int) :: ((1 :: []) ++ (pl p 0 1 2).bd) := hx
    rcases List.mem_cons.mp hx with rfl | hx
    · decide
    · rcases List.mem_cons.mp hx with rfl | hx
      · decide
      · exact h1 x hx
  · show (((0 : Int) :: ((1 :: []) ++ (pl p 0 1 2).bd)).length : Int) ≤ _
    simp only [List.length_append, List.length_cons, List.length_nil]
    omega
theorem encS_dat : ∀ p : Sn, isDat (encS p) = true ∧ dep (encS p) ≤ p.ht + 1
  | .lt _ _ => ⟨by rfl, by show max 0 (max 0 (max 0 0)) + 1 ≤ 0 + 1; decide⟩
  | .nx _ _ => ⟨by rfl, by show max 0 (max 0 (max 0 0)) + 1 ≤ 0 + 1; decide⟩
  | .ls _ _ => ⟨by rfl, by show max 0 (max 0 (max 0 0)) + 1 ≤ 0 + 1; decide⟩
  | .no p => by
    obtain ⟨h1, h2⟩ := encS_dat p
    refine ⟨?_, ?_⟩
    · show (true && (true && (isDat (encS p) && true))) = true
      rw [h1]; rfl
    · show max 0 (max (dep (encS p)) 0) + 1 ≤ p.ht + 1 + 1
      omega
  | .an p q => by
    obtain ⟨h1, h2⟩ := encS_dat p
    obtain ⟨h3, h4⟩ := encS_dat q
    refine ⟨?_, ?_⟩
    · show (true && (true && (isDat (encS p) && (isDat (encS q) && true)))) = true
      rw [h1, h3]; rfl
    · show max 0 (max (dep (encS p)) (max (dep (encS q)) 0)) + 1 ≤ max p.ht q.ht + 1 + 1
      omega
  | .orr p q => by
    obtain ⟨h1, h2⟩ := encS_dat p
    obtain ⟨h3, h4⟩ := encS_dat q
    refine ⟨?_, ?_⟩
    · show (true && (true && (isDat (encS p) && (isDat (encS q) && true)))) = true
      rw [h1, h3]; rfl
    · show max 0 (max (dep (encS p)) (max (dep (encS q)) 0)) + 1 ≤ max p.ht q.ht + 1 + 1
      omega
  | .ex x p => by
    obtain ⟨h1, h2⟩ := encS_dat p
    refine ⟨?_, ?_⟩
    · show (true && (true && (true && (isDat (encS p) && true)))) = true
      rw [h1]; rfl
    · show max 0 (max 0 (max (dep (encS p)) 0)) + 1 ≤ p.ht + 1 + 1
      omega
  | .al x p => by
    obtain ⟨h1, h2⟩ := encS_dat p
    refine ⟨?_, ?_⟩
    · show (true && (true && (true && (isDat (encS p) && true)))) = true
      rw [h1]; rfl
    · show max 0 (max 0 (max (dep (encS p)) 0)) + 1 ≤ p.ht + 1 + 1
      omega
end K64

set_option Elab.async false
set_option linter.all false
set_option maxRecDepth 100000
set_option maxHeartbeats 4000000
namespace K64
open PySem PySem.Spec PyProof.Rows L2 LamX DL
local macro_rules | `(tactic| walk_at "dl") => `(tactic| simp only [rd_var, rd_C, rd_bin, rd_un, rd_nil, rd_cons, rd_L, rd_test, rd_and, rd_or, rd_not, rd_if, rd_band, rd_bor, rd_bnot, rd_chain, rd_call, rd_mt, rd_dnew, rd_nopart, rd_part, rd_sl, rd_lc, rd_itseq, rd_itA, rd_itzip, rd_itkeys, rd_told, rd_yes, rs_ret, rs_retN, rs_exp, rs_skip, rs_brk, rs_cnt, rs_never, rs_ifs, rs_asg, rs_par, rs_for, rg_N, rg_Nl, rg_Cn, rg_Tp, rg_Sb, ro_tup, ro_lst, ro_addI, ro_addS, ro_addT, ro_sub, ro_mulI, ro_lt, ro_le, ro_gt, ro_ge, ro_eqI, ro_eqB, ro_eqS, ro_neI, ro_neB, ro_neS, ro_inT, ro_ninT, ro_neg, ro_lenT, ro_lenS, ro_abs, ro_intI, ro_intB, ro_isi, ro_tupT, ro_lstT, ro_max2, ro_min2, ro_ixT, ro_fdiv, ro_mod, ro_rng1, ro_rng2, ro_rng3, ro_beqS, in_nil, in_cons, eqd_s, eqd_i, fl_s, fl_i, fl_b, fl_n, bA_t, bA_f, bO_t, bO_f, bE_t, bE_f, bBA_t, bBA_f, bBO_t, bBO_f, bC_t, bC_f, bS_t, bS_f, dT_b, pT_i, ro_slT, ro_seqT, is_nn, isn_nn, is_nb, is_bn, isn_bn, is_in, isn_in, is_ib, is_sn, isn_sn, is_sb, is_tn, isn_tn, is_tb, is_on, isn_on, is_ob, is_bb, rd_get, tn_non, tn_bl, tn_int, tn_str, tn_tup, kit_NoneType_int, kit_NoneType_bool, kit_NoneType_str, kit_NoneType_tuple, kit_NoneType_list, kit_NoneType_dict, kit_bool_int, kit_bool_bool, kit_bool_str, kit_bool_tuple, kit_bool_list, kit_bool_dict, kit_int_int, kit_int_bool, kit_int_str, kit_int_tuple, kit_int_list, kit_int_dict, kit_str_int, kit_str_bool, kit_str_str, kit_str_tuple, kit_str_list, kit_str_dict, kit_tuple_int, kit_tuple_bool, kit_tuple_str, kit_tuple_tuple, kit_tuple_list, kit_tuple_dict, kit_list_int, kit_list_bool, kit_list_str, kit_list_tuple, kit_list_list, kit_list_dict, kit_dict_int, kit_dict_bool, kit_dict_str, kit_dict_tuple, kit_dict_list, kit_dict_dict,
  startD, wipeD, List.map_cons, List.map_nil, List.length_cons, List.length_nil, List.replicate_succ, List.replicate_zero, List.append_nil, List.cons_append, List.nil_append, List.getElem?_cons_zero, List.getElem?_cons_succ, List.set_cons_zero, List.set_cons_succ,
  Nat.reduceAdd, Nat.reduceSub, Nat.zero_add, Nat.add_zero, Nat.sub_self, Nat.reduceEqDiff, Nat.reduceLT, Int.reduceAdd, Int.reduceSub, Int.reduceNeg, Int.reduceEq, Int.reduceLT, Int.reduceLE, Int.zero_add, Int.add_zero, Int.cast_ofNat_Int, Int.reduceMul, Int.reduceToNat,
  ofs, String.reduceEq, decide_true, decide_false, ati0, ati1, ati2, ati3, ati4, Bool.not_true, Bool.not_false, true_and, and_true, if_true, Bool.false_eq_true, if_false, Option.some.injEq, eq_self_iff_true, BEq.rfl, List.all_cons, List.all_nil, 
  Bool.or_true, Bool.or_false, Bool.false_or, Bool.true_or, Bool.and_self, Bool.and_true, Bool.true_and, Bool.and_false, Bool.false_and, beq_self_eq_true, enc, tn_enc, encS, tn_encS, rd_disp, rd_pn, rd_pc, Bool.true_eq_false, reduceCtorEq, rd_ls])
local macro_rules | `(tactic| walk_at "sq") => `(tactic| (rw [rh_seq]; walk_at "dl"))
local macro_rules | `(tactic| walk_at "all") => `(tactic| (try walk_at "dl"); repeat walk_at "sq")
variable {P : Program} {w : World} {K : PySem.W.Frag} {mg : Str → Option Value} {base : Heap} {T : List (Addr × Str)}
def isI : D → Bool
  | .int _ => true
  | _ => false
def isB : D → Bool
  | .bl _ => true
  | _ => false
theorem isi_int {μ : Mu} {d : D} (h : (tnD μ d).isSome = true) : ∃ t, tnD μ d = some t ∧ kitT t "int" = some (isI d || isB d) ∧ kitT t "bool" = some (isB d) := by
  cases d with
  | obj j =>
    unfold tnD at h ⊢
    simp only at h ⊢
    split at h <;> first | exact ⟨_, rfl, rfl, rfl⟩ | cases h
  | ty n => cases h
  | fn n => cases h
  | _ => exact ⟨_, rfl, rfl, rfl⟩
def spIsInteger : DSp := fun ds μ q => ∃ d, ds = [d] ∧ (tnD μ d).isSome = true ∧ q (.bl (isI d)) μ
theorem ok_is_integer (M : Fx K mg) : FnOk P w K mg base CX0 1 M.a_is_integer M.d_is_integer ["thing"] (lSp K T 1 spIsInteger) :=
  dl_fn (T := T) (k := 0) M.F_is_integer sc_is_integer (fun cdv A outer s H hr => (pdss_one (pds_ret (pd_and (pd_callB call_isi sim_isi (by rfl) M.z_isinstance (by decide +kernel) (pda_cons (pd_var 0) (pda_cons (pd_ty (n := "int") (by rfl) M.z_int (by decide +kernel)) pda_nil))) (pd_one (pd_not (pd_callB call_isi sim_isi (by rfl) M.z_isinstance (by decide +kernel) (pda_cons (pd_var 0) (pda_cons (pd_ty (n := "bool") (by rfl) M.z_bool (by decide +kernel)) pda_nil))))))))) (fun ds μ q hl h => by
    obtain ⟨d, rfl, ht, h⟩ := h
    obtain ⟨t, e1, e2, e3⟩ := isi_int ht
    walk_at "dl"
    simp only [ro_isi e1 e2, ro_isi e1 e3]
    cases d <;> exact h)
/-- below a number -/
def isBelow (d : D) (n : Int) : Bool := match d with
  | .int i => decide (0 ≤ i ∧ i < n)
  | _ => false
def spIsBelow : DSp := fun ds μ q => ∃ d n, ds = [d, .int n] ∧ (tnD μ d).isSome = true ∧ q (.bl (isBelow d n)) μ
theorem ok_is_below (M : Fx K mg) : FnOk P w K mg base CX0 2 M.a_is_below M.d_is_below ["thing", "size"] (lSp K T 2 spIsBelow) :=
  have C_is_integer := ok_is_integer (P := P) (w := w) (base := base) (T := T) M
  dl_fn (T := T) (k := 1) M.F_is_below sc_is_below (fun cdv A outer s H hr => (pdss_one (pds_ret (pd_and (pd_call C_is_integer (hr.mono (by omega)) (by rfl) M.m_is_integer M.F_is_integer.kp M.b_is_integer (pda_cons (pd_var 0) pda_nil) rfl) (pd_one (pd_chain op_le sim_le op_lt sim_lt pd_int (pd_var 0) (pd_var 1))))))) (fun ds μ q hl h => by
    obtain ⟨d, n, rfl, ht, h⟩ := h
    walk_at "dl"
    refine ⟨d, rfl, ht, ?_⟩
    cases d with
    | int i =>
      simp only [isI]
      walk_at "dl"
      by_cases h0 : 0 ≤ i
      · simp only [isBelow, h0, true_and] at h
        simp only [h0, decide_true]
        exact h
      · simp only [isBelow, h0, false_and, decide_false] at h
        simp only [h0, decide_false]
        exact h
    | _ => exact h)
def spIsLetters : DSp := fun ds μ q => ∃ k, ds = [.int k] ∧ q (.bl (decide (1 ≤ k ∧ k ≤ 4))) μ
theorem ok_is_letters (M : Fx K mg) : FnOk P w K mg base CX0 2 M.a_is_letters M.d_is_letters ["thing"] (lSp K T 1 spIsLetters) :=
  have C_is_integer := ok_is_integer (P := P) (w := w) (base := base) (T := T) M
  dl_fn (T := T) (k := 1) M.F_is_letters sc_is_letters (fun cdv A outer s H hr => (pdss_one (pds_ret (pd_and (pd_call C_is_integer (hr.mono (by omega)) (by rfl) M.m_is_integer M.F_is_integer.kp M.b_is_integer (pda_cons (pd_var 0) pda_nil) rfl) (pd_one (pd_chain op_le sim_le op_le sim_le pd_int (pd_var 0) (pd_globI (by rfl) M.c_MOST_LETTERS))))))) (fun ds μ q hl h => by
    obtain ⟨k, rfl, h⟩ := h
    walk_at "dl"
    refine ⟨_, rfl, rfl, ?_⟩
    simp only [isI]
    walk_at "dl"
    by_cases h0 : 1 ≤ k
    · simp only [h0, true_and] at h
      simp only [h0, decide_true]
      exact h
    · simp only [h0, false_and, decide_false] at h
      simp only [h0, decide_false]
      exact h)
def spCheckLetters : DSp := fun ds μ q => ∃ k, ds = [.int k] ∧ 1 ≤ k ∧ k ≤ 4 ∧ q .non μ
theorem ok_check_letters (M : Fx K mg) : FnOk P w K mg base CX0 3 M.a_check_letters M.d_check_letters ["k"] (lSp K T 1 spCheckLetters) :=
  have C_is_letters := ok_is_letters (P := P) (w := w) (base := base) (T := T) M
  dl_fn (T := T) (k := 2) M.F_check_letters sc_check_letters (fun cdv A outer s H hr => (pdss_one (pds_if (pb_not (pb_val (pd_call C_is_letters (hr.mono (by omega)) (by rfl) M.m_is_letters M.F_is_letters.kp M.b_is_letters (pda_cons (pd_var 0) pda_nil) rfl))) (pdss_one pds_never) pdss_nil))) (fun ds μ q hl h => by
    obtain ⟨k, rfl, h1, h2, h⟩ := h
    walk_at "dl"
    refine ⟨k, rfl, ?_⟩
    rw [decide_eq_true ⟨h1, h2⟩]
    exact h)

end K64

set_option Elab.async false
set_option linter.all false
set_option maxRecDepth 100000
set_option maxHeartbeats 4000000
namespace K64
open PySem PySem.Spec PyProof.Rows L2 LamX DL
local macro_rules | `(tactic| walk_at "dl") => `(tactic| simp only [rd_var, rd_C, rd_bin, rd_un, rd_nil, rd_cons, rd_L, rd_test, rd_and, rd_or, rd_not, rd_if, rd_band, rd_bor, rd_bnot, rd_chain, rd_call, rd_mt, rd_dnew, rd_nopart, rd_part, rd_sl, rd_lc, rd_itseq, rd_itA, rd_itzip, rd_itkeys, rd_told, rd_yes, rs_ret, rs_retN, rs_exp, rs_skip, rs_brk, rs_cnt, rs_never, rs_ifs, rs_asg, rs_par, rs_for, rg_N, rg_Nl, rg_Cn, rg_Tp, rg_Sb, ro_tup, ro_lst, ro_addI, ro_addS, ro_addT, ro_sub, ro_mulI, ro_lt, ro_le, ro_gt, ro_ge, ro_eqI, ro_eqB, ro_eqS, ro_neI, ro_neB, ro_neS, ro_inT, ro_ninT, ro_neg, ro_lenT, ro_lenS, ro_abs, ro_intI, ro_intB, ro_isi, ro_tupT, ro_lstT, ro_max2, ro_min2, ro_ixT, ro_fdiv, ro_mod, ro_rng1, ro_rng2, ro_rng3, ro_beqS, in_nil, in_cons, eqd_s, eqd_i, fl_s, fl_i, fl_b, fl_n, bA_t, bA_f, bO_t, bO_f, bE_t, bE_f, bBA_t, bBA_f, bBO_t, bBO_f, bC_t, bC_f, bS_t, bS_f, dT_b, pT_i, ro_slT, ro_seqT, is_nn, isn_nn, is_nb, is_bn, isn_bn, is_in, isn_in, is_ib, is_sn, isn_sn, is_sb, is_tn, isn_tn, is_tb, is_on, isn_on, is_ob, is_bb, rd_get, tn_non, tn_bl, tn_int, tn_str, tn_tup, kit_NoneType_int, kit_NoneType_bool, kit_NoneType_str, kit_NoneType_tuple, kit_NoneType_list, kit_NoneType_dict, kit_bool_int, kit_bool_bool, kit_bool_str, kit_bool_tuple, kit_bool_list, kit_bool_dict, kit_int_int, kit_int_bool, kit_int_str, kit_int_tuple, kit_int_list, kit_int_dict, kit_str_int, kit_str_bool, kit_str_str, kit_str_tuple, kit_str_list, kit_str_dict, kit_tuple_int, kit_tuple_bool, kit_tuple_str, kit_tuple_tuple, kit_tuple_list, kit_tuple_dict, kit_list_int, kit_list_bool, kit_list_str, kit_list_tuple, kit_list_list, kit_list_dict, kit_dict_int, kit_dict_bool, kit_dict_str, kit_dict_tuple, kit_dict_list, kit_dict_dict,
  startD, wipeD, List.map_cons, List.map_nil, List.length_cons, List.length_nil, List.replicate_succ, List.replicate_zero, List.append_nil, List.cons_append, List.nil_append, List.getElem?_cons_zero, List.getElem?_cons_succ, List.set_cons_zero, List.set_cons_succ,
  Nat.reduceAdd, Nat.reduceSub, Nat.zero_add, Nat.add_zero, Nat.sub_self, Nat.reduceEqDiff, Nat.reduceLT, Int.reduceAdd, Int.reduceSub, Int.reduceNeg, Int.reduceEq, Int.reduceLT, Int.reduceLE, Int.zero_add, Int.add_zero, Int.cast_ofNat_Int, Int.reduceMul, Int.reduceToNat,
  ofs, String.reduceEq, decide_true, decide_false, ati0, ati1, ati2, ati3, ati4, Bool.not_true, Bool.not_false, true_and, and_true, if_true, Bool.false_eq_true, if_false, Option.some.injEq, eq_self_iff_true, BEq.rfl, List.all_cons, List.all_nil, 
  Bool.or_true, Bool.or_false, Bool.false_or, Bool.true_or, Bool.and_self, Bool.and_true, Bool.true_and, Bool.and_false, Bool.false_and, beq_self_eq_true, enc, tn_enc, encS, tn_encS, rd_disp, rd_pn, rd_pc, Bool.true_eq_false, reduceCtorEq, rd_ls])
local macro_rules | `(tactic| walk_at "sq") => `(tactic| (rw [rh_seq]; walk_at "dl"))
local macro_rules | `(tactic| walk_at "all") => `(tactic| (try walk_at "dl"); repeat walk_at "sq")
variable {P : Program} {w : World} {K : PySem.W.Frag} {mg : Str → Option Value} {base : Heap} {T : List (Addr × Str)}
def spWords (n : Nat) : DSp := fun ds μ q => ∃ (p : Fm) (k d : Int), ds = [enc p, .int k, .int d] ∧ p.ht < n ∧ d + p.ht ≤ 200 ∧ p.ok k ∧ q (.int p.size) μ
theorem ok_words_step (M : Fx K mg) (n : Nat) (C_many_words : FnOk P w K mg base CX0 (n + 2) M.a_many_words M.d_many_words ["formula", "k", "deep"] (lSp K T 3 (spWords n))) :
    FnOk P w K mg base CX0 (n + 3) M.a_many_words M.d_many_words ["formula", "k", "deep"] (lSp K T 3 (spWords (n + 1))) :=
  have C_is_below := ok_is_below (P := P) (w := w) (base := base) (T := T) M
  dl_fn (T := T) (k := n + 2) M.F_many_words sc_many_words (fun cdv A outer s H hr => (pdss_cons (pds_if (pbw_pb (pbw_or (pb_cmp op_gt sim_gt (pd_var 2) (pd_globI (by rfl) M.c_MOST_DEEP)) (pbw_or (pb_not (pb_val (pd_callB call_isi sim_isi (by rfl) M.z_isinstance (by decide +kernel) (pda_cons (pd_var 0) (pda_cons (pd_ty (n := "tuple") (by rfl) M.z_tuple (by decide +kernel)) pda_nil))))) (pbw_or (pb_cmp (or_eq hr) sim_eq (pd_callB cr_len sim_len (by rfl) M.z_len (by decide +kernel) (pda_cons (pd_var 0) pda_nil)) pd_int) (pbw_or1 (pb_not (pb_val (pd_callB call_isi sim_isi (by rfl) M.z_isinstance (by decide +kernel) (pda_cons (pd_ix hr (pd_var 0) pd_int) (pda_cons (pd_ty (n := "str") (by rfl) M.z_str (by decide +kernel)) pda_nil)))))))))) (pdss_one (pds_ret pd_int)) pdss_nil)
    (pdss_cons (pds_asg (pd_ix hr (pd_var 0) pd_int) (pdg_name 3 sc_many_words.nd))
    (pdss_cons (pds_if (pb_cmp (or_eq hr) sim_eq (pd_var 3) pd_str) (pdss_one (pds_ret (pd_if (pb_cmp (or_eq hr) sim_eq (pd_callB cr_len sim_len (by rfl) M.z_len (by decide +kernel) (pda_cons (pd_var 0) pda_nil)) pd_int) pd_int pd_int))) pdss_nil)
    (pdss_cons (pds_if (pb_cmp (or_eq hr) sim_eq (pd_var 3) pd_str) (pdss_one (pds_ret (pd_if (pbw_pb (pbw_and (pb_cmp (or_eq hr) sim_eq (pd_callB cr_len sim_len (by rfl) M.z_len (by decide +kernel) (pda_cons (pd_var 0) pda_nil)) pd_int) (pbw_and1 (pb_val (pd_call C_is_below (hr.mono (by omega)) (by rfl) M.m_is_below M.F_is_below.kp M.b_is_below (pda_cons (pd_ix hr (pd_var 0) pd_int) (pda_cons (pd_var 1) pda_nil)) rfl))))) pd_int pd_int))) pdss_nil)
    (pdss_cons (pds_if (pbw_pb (pbw_and (pb_cmp (or_in hr) (sim_in false) (pd_var 3) (pd_globT (ds := [.str "not", .str "next"]) (by rfl) M.c_SINGLE M.q_SINGLE (fun _ _ _ => ⟨_, _, rfl, rfl, ⟨_, _, rfl, rfl, rfl⟩⟩))) (pbw_and1 (pb_cmp (or_eq hr) sim_eq (pd_callB cr_len sim_len (by rfl) M.z_len (by decide +kernel) (pda_cons (pd_var 0) pda_nil)) pd_int)))) (pdss_cons (pds_asg (pd_call C_many_words (hr.mono (by omega)) (by rfl) M.m_many_words M.F_many_words.kp M.b_many_words (pda_cons (pd_ix hr (pd_var 0) pd_int) (pda_cons (pd_var 1) (pda_cons (pd_op or_add sim_add (pd_var 2) pd_int) pda_nil))) rfl) (pdg_name 4 sc_many_words.nd))
    (pdss_one (pds_ret (pd_if (pb_cmp op_gt sim_gt (pd_var 4) pd_int) (pd_op or_add sim_add (pd_var 4) pd_int) pd_int)))) pdss_nil)
    (pdss_cons (pds_if (pbw_pb (pbw_and (pb_cmp (or_in hr) (sim_in false) (pd_var 3) (pd_globT (ds := [.str "and", .str "or", .str "until"]) (by rfl) M.c_DOUBLE M.q_DOUBLE (fun _ _ _ => ⟨_, _, rfl, rfl, ⟨_, _, rfl, rfl, ⟨_, _, rfl, rfl, rfl⟩⟩⟩))) (pbw_and1 (pb_cmp (or_eq hr) sim_eq (pd_callB cr_len sim_len (by rfl) M.z_len (by decide +kernel) (pda_cons (pd_var 0) pda_nil)) pd_int)))) (pdss_cons (pds_par (i := 5) (j := 6) rfl sc_many_words.nd (pd_call C_many_words (hr.mono (by omega)) (by rfl) M.m_many_words M.F_many_words.kp M.b_many_words (pda_cons (pd_ix hr (pd_var 0) pd_int) (pda_cons (pd_var 1) (pda_cons (pd_op or_add sim_add (pd_var 2) pd_int) pda_nil))) rfl) (pd_call C_many_words (hr.mono (by omega)) (by rfl) M.m_many_words M.F_many_words.kp M.b_many_words (pda_cons (pd_ix hr (pd_var 0) pd_int) (pda_cons (pd_var 1) (pda_cons (pd_op or_add sim_add (pd_var 2) pd_int) pda_nil))) rfl))
    (pdss_one (pds_ret (pd_if (pbw_pb (pbw_and (pb_cmp op_gt sim_gt (pd_var 5) pd_int) (pbw_and1 (pb_cmp op_gt sim_gt (pd_var 6) pd_int)))) (pd_op or_add sim_add (pd_op or_add sim_add (pd_var 5) (pd_var 6)) pd_int) pd_int)))) pdss_nil)
    (pdss_one (pds_ret pd_int))))))))) (fun ds μ q hl h => by
    clear C_many_words C_is_below hl
    obtain ⟨p, k, d, rfl, h1, h2, h3, h⟩ := h
    have hd : ¬ 200 < d := by omega
    have pos : ∀ p : Fm, ¬ ¬ (0 < p.size) := fun p z => z p.size_pos
    cases p with
    | tru =>
      walk_at "all"
      simp only [hd, decide_false]
      walk_at "all"
      walk_at "all"
      exact h
    | lt a =>
      walk_at "all"
      simp only [hd, decide_false]
      walk_at "all"
      refine ⟨_, k, rfl, rfl, ?_⟩
      have : isBelow (.int a) k = true := decide_eq_true h3
      simp only [this]
      walk_at "all"
      exact h
    | no p =>
      walk_at "all"
      simp only [hd, decide_false]
      walk_at "all"
      simp only [Fm.ht] at h1 h2
      refine ⟨p, k, d + 1, rfl, by omega, by omega, h3, ?_⟩
      walk_at "all"
      simp only [decide_eq_true p.size_pos]
      walk_at "all"
      exact h
    | nx p =>
      walk_at "all"
      simp only [hd, decide_false]
      walk_at "all"
      simp only [Fm.ht] at h1 h2
      refine ⟨p, k, d + 1, rfl, by omega, by omega, h3, ?_⟩
      walk_at "all"
      simp only [decide_eq_true p.size_pos]
      walk_at "all"
      exact h
    | an p r =>
      walk_at "all"
      simp only [hd, decide_false]
      walk_at "all"
      simp only [Fm.ht] at h1 h2
      refine ⟨p, k, d + 1, rfl, by omega, by omega, h3.1, ?_⟩
      refine ⟨r, k, d + 1, rfl, by omega, by omega, h3.2, ?_⟩
      walk_at "all"
      simp only [decide_eq_true p.size_pos]
      walk_at "all"
      simp only [decide_eq_true r.size_pos]
      walk_at "all"
      exact h
    | orr p r =>
      walk_at "all"
      simp only [hd, decide_false]
      walk_at "all"
      simp only [Fm.ht] at h1 h2
      refine ⟨p, k, d + 1, rfl, by omega, by omega, h3.1, ?_⟩
      refine ⟨r, k, d + 1, rfl, by omega, by omega, h3.2, ?_⟩
      walk_at "all"
      simp only [decide_eq_true p.size_pos]
      walk_at "all"
      simp only [decide_eq_true r.size_pos]
      walk_at "all"
      exact h
    | un p r =>
      walk_at "all"
      simp only [hd, decide_false]
      walk_at "all"
      simp only [Fm.ht] at h1 h2
      refine ⟨p, k, d + 1, rfl, by omega, by omega, h3.1, ?_⟩
      refine ⟨r, k, d + 1, rfl, by omega, by omega, h3.2, ?_⟩
      walk_at "all"
      simp only [decide_eq_true p.size_pos]
      walk_at "all"
      simp only [decide_eq_true r.size_pos]
      walk_at "all"
      exact h)
theorem ok_words (M : Fx K mg) : ∀ n : Nat, FnOk P w K mg base CX0 (n + 2) M.a_many_words M.d_many_words ["formula", "k", "deep"] (lSp K T 3 (spWords n))
  | 0 => fn_none fun _ _ _ h => by
    obtain ⟨p, k, d, _, h, _⟩ := h
    exact absurd h (by omega)
  | n + 1 => ok_words_step M n (ok_words M n)
end K64

set_option Elab.async false
set_option linter.all false
set_option maxRecDepth 100000
set_option maxHeartbeats 4000000
namespace K64
open PySem PySem.Spec PyProof.Rows L2 LamX DL
local macro_rules | `(tactic| walk_at "dl") => `(tactic| simp only [rd_var, rd_C, rd_bin, rd_un, rd_nil, rd_cons, rd_L, rd_test, rd_and, rd_or, rd_not, rd_if, rd_band, rd_bor, rd_bnot, rd_chain, rd_call, rd_mt, rd_dnew, rd_nopart, rd_part, rd_sl, rd_lc, rd_itseq, rd_itA, rd_itzip, rd_itkeys, rd_told, rd_yes, rs_ret, rs_retN, rs_exp, rs_skip, rs_brk, rs_cnt, rs_never, rs_ifs, rs_asg, rs_par, rs_for, rg_N, rg_Nl, rg_Cn, rg_Tp, rg_Sb, ro_tup, ro_lst, ro_addI, ro_addS, ro_addT, ro_sub, ro_mulI, ro_lt, ro_le, ro_gt, ro_ge, ro_eqI, ro_eqB, ro_eqS, ro_neI, ro_neB, ro_neS, ro_inT, ro_ninT, ro_neg, ro_lenT, ro_lenS, ro_abs, ro_intI, ro_intB, ro_isi, ro_tupT, ro_lstT, ro_max2, ro_min2, ro_ixT, ro_fdiv, ro_mod, ro_rng1, ro_rng2, ro_rng3, ro_beqS, in_nil, in_cons, eqd_s, eqd_i, fl_s, fl_i, fl_b, fl_n, bA_t, bA_f, bO_t, bO_f, bE_t, bE_f, bBA_t, bBA_f, bBO_t, bBO_f, bC_t, bC_f, bS_t, bS_f, dT_b, pT_i, ro_slT, ro_seqT, is_nn, isn_nn, is_nb, is_bn, isn_bn, is_in, isn_in, is_ib, is_sn, isn_sn, is_sb, is_tn, isn_tn, is_tb, is_on, isn_on, is_ob, is_bb, rd_get, tn_non, tn_bl, tn_int, tn_str, tn_tup, kit_NoneType_int, kit_NoneType_bool, kit_NoneType_str, kit_NoneType_tuple, kit_NoneType_list, kit_NoneType_dict, kit_bool_int, kit_bool_bool, kit_bool_str, kit_bool_tuple, kit_bool_list, kit_bool_dict, kit_int_int, kit_int_bool, kit_int_str, kit_int_tuple, kit_int_list, kit_int_dict, kit_str_int, kit_str_bool, kit_str_str, kit_str_tuple, kit_str_list, kit_str_dict, kit_tuple_int, kit_tuple_bool, kit_tuple_str, kit_tuple_tuple, kit_tuple_list, kit_tuple_dict, kit_list_int, kit_list_bool, kit_list_str, kit_list_tuple, kit_list_list, kit_list_dict, kit_dict_int, kit_dict_bool, kit_dict_str, kit_dict_tuple, kit_dict_list, kit_dict_dict,
  startD, wipeD, List.map_cons, List.map_nil, List.length_cons, List.length_nil, List.replicate_succ, List.replicate_zero, List.append_nil, List.cons_append, List.nil_append, List.getElem?_cons_zero, List.getElem?_cons_succ, List.set_cons_zero, List.set_cons_succ,
  Nat.reduceAdd, Nat.reduceSub, Nat.zero_add, Nat.add_zero, Nat.sub_self, Nat.reduceEqDiff, Nat.reduceLT, Int.reduceAdd, Int.reduceSub, Int.reduceNeg, Int.reduceEq, Int.reduceLT, Int.reduceLE, Int.zero_add, Int.add_zero, Int.cast_ofNat_Int, Int.reduceMul, Int.reduceToNat,
  ofs, String.reduceEq, decide_true, decide_false, ati0, ati1, ati2, ati3, ati4, Bool.not_true, Bool.not_false, true_and, and_true, if_true, Bool.false_eq_true, if_false, Option.some.injEq, eq_self_iff_true, BEq.rfl, List.all_cons, List.all_nil, 
  Bool.or_true, Bool.or_false, Bool.false_or, Bool.true_or, Bool.and_self, Bool.and_true, Bool.true_and, Bool.and_false, Bool.false_and, beq_self_eq_true, enc, tn_enc, encS, tn_encS, rd_disp, rd_pn, rd_pc, Bool.true_eq_false, reduceCtorEq, rd_ls])
local macro_rules | `(tactic| walk_at "sq") => `(tactic| (rw [rh_seq]; walk_at "dl"))
local macro_rules | `(tactic| walk_at "all") => `(tactic| (try walk_at "dl"); repeat walk_at "sq")
variable {P : Program} {w : World} {K : PySem.W.Frag} {mg : Str → Option Value} {base : Heap} {T : List (Addr × Str)}
/-- a lasso -/
def lasD (us vs : List Int) : D := .tup [.tup (us.map .int), .tup (vs.map .int)]
theorem atl (l : List Int) (i : Nat) (h : i < l.length) : atI (l.map D.int) (i : Int) = some (.int l[i]) := atN (by rw [List.getElem?_map, List.getElem?_eq_getElem h]; rfl)
def spCheckFormula (n : Nat) : DSp := fun ds μ q => ∃ (p : Fm) (k m : Int), ds = [enc p, .int k, .int m] ∧ p.ht < n ∧ p.ht ≤ 200 ∧ p.ok k ∧ p.size ≤ m ∧ q .non μ
theorem ok_check_formula (M : Fx K mg) (n : Nat) : FnOk P w K mg base CX0 (n + 3) M.a_check_formula M.d_check_formula ["formula", "k", "most"] (lSp K T 3 (spCheckFormula n)) :=
  have C_many_words := ok_words (P := P) (w := w) (base := base) (T := T) M n
  dl_fn (T := T) (k := n + 2) M.F_check_formula sc_check_formula (fun cdv A outer s H hr => (pdss_one (pds_if (pb_not (pb_chain op_lt sim_lt op_le sim_le pd_int (pd_call C_many_words (hr.mono (by omega)) (by rfl) M.m_many_words M.F_many_words.kp M.b_many_words (pda_cons (pd_var 0) (pda_cons (pd_var 1) (pda_cons pd_int pda_nil))) rfl) (pd_var 2))) (pdss_one pds_never) pdss_nil))) (fun ds μ q hl h => by
    clear C_many_words hl
    obtain ⟨p, k, m, rfl, h1, h2, h3, h4, h⟩ := h
    walk_at "all"
    refine ⟨p, k, 0, rfl, h1, by omega, h3, ?_⟩
    walk_at "all"
    simp only [decide_eq_true p.size_pos]
    walk_at "all"
    simp only [decide_eq_true h4]
    walk_at "all"
    exact h)
def inLet (k : Int) (l : List Int) : Prop := ∀ a ∈ l, 0 ≤ a ∧ a < k
def spCheckLasso : DSp := fun ds μ q => ∃ (us vs : List Int) (k : Int), ds = [lasD us vs, .int k] ∧ inLet k us ∧ inLet k vs ∧ us.length ≤ 200 ∧ 0 < vs.length ∧ vs.length ≤ 200 ∧ ∀ μ', Ext μ μ' → q .non μ'
theorem ok_check_lasso (M : Fx K mg) : FnOk P w K mg base CX0 3 M.a_check_lasso M.d_check_lasso ["lasso", "k"] (lSp K T 2 spCheckLasso) :=
  have C_is_below := ok_is_below (P := P) (w := w) (base := base) (T := T) M
  dl_fn (T := T) (k := 2) M.F_check_lasso sc_check_lasso (fun cdv A outer s H hr => (pdss_cons (pds_if (pbw_pb (pbw_or (pb_not (pb_val (pd_callB call_isi sim_isi (by rfl) M.z_isinstance (by decide +kernel) (pda_cons (pd_var 0) (pda_cons (pd_ty (n := "tuple") (by rfl) M.z_tuple (by decide +kernel)) pda_nil))))) (pbw_or1 (pb_cmp (or_ne hr) sim_ne (pd_callB cr_len sim_len (by rfl) M.z_len (by decide +kernel) (pda_cons (pd_var 0) pda_nil)) pd_int)))) (pdss_one pds_never) pdss_nil)
    (pdss_cons (pds_for PassesOwn.never rfl (pdi_seq (pd_var 0)) (pdg_name 2 sc_check_lasso.nd) (pdss_one (pds_if (pbw_pb (pbw_or (pb_not (pb_val (pd_callB call_isi sim_isi (by rfl) M.z_isinstance (by decide +kernel) (pda_cons (pd_var 2) (pda_cons (pd_ty (n := "tuple") (by rfl) M.z_tuple (by decide +kernel)) pda_nil))))) (pbw_or1 (pb_not (pb_val (pd_callB (cr_all rfl) sim_all (by rfl) M.z_all (by decide +kernel) (pda_cons (pd_lc rfl sc_check_lasso.nd (pdi_seq (pd_var 2)) (blkOk_by (own := [("letter", 3)]) (N := N_check_lasso) (sc := defScope s_check_lasso) (by decide +kernel)) (fun _ _ _ _ _ => (pdg_name 3 sc_check_lasso.nd)) (fun _ _ _ _ _ => pdts_nil) (fun _ _ _ _ _ => (pd_call C_is_below (hr.mono (by omega)) (by rfl) M.m_is_below M.F_is_below.kp M.b_is_below (pda_cons (pd_var 3) (pda_cons (pd_var 1) pda_nil)) rfl))) pda_nil))))))) (pdss_one pds_never) pdss_nil)))
    (pdss_one (pds_if (pbw_pb (pbw_or (pb_cmp (or_eq hr) sim_eq (pd_callB cr_len sim_len (by rfl) M.z_len (by decide +kernel) (pda_cons (pd_ix hr (pd_var 0) pd_int) pda_nil)) pd_int) (pbw_or1 (pb_cmp op_gt sim_gt (pd_callB (cr_maxA rfl) sim_max (by rfl) M.z_max (by decide +kernel) (pda_cons (pd_callB cr_len sim_len (by rfl) M.z_len (by decide +kernel) (pda_cons (pd_ix hr (pd_var 0) pd_int) pda_nil)) (pda_cons (pd_callB cr_len sim_len (by rfl) M.z_len (by decide +kernel) (pda_cons (pd_ix hr (pd_var 0) pd_int) pda_nil)) pda_nil))) (pd_globI (by rfl) M.c_MOST_LONG))))) (pdss_one pds_never) pdss_nil))))) (fun ds μ q hl h => by
    clear C_is_below hl
    obtain ⟨us, vs, k, rfl, h1, h2, h3, h4, h5, h⟩ := h
    unfold lasD
    walk_at "all"
    refine for_inv [us, vs] (fun l => .tup (l.map .int)) (fun _ ρ' μ' => Ext μ μ' ∧ ∃ a b, ρ' = [some (lasD us vs), some (.int k), a, b]) rfl ⟨Ext.refl _, none, none, rfl⟩ (fun _ _ _ _ => trivial) (fun n l hl ρ' μ1 N hI hN => ?_) fun ρ' μ1 hI => ?_
    · obtain ⟨e1, a, b, rfl⟩ := hI
      have hlet : inLet k l ∧ l.length ≤ 200 := by
        rcases n with _ | _ | n
        · cases hl; exact ⟨h1, h3⟩
        · cases hl; exact ⟨h2, h5⟩
        · simp at hl
      walk_at "all"
      refine lc_map l .int (fun _ => .bl true) rfl (fun _ _ => trivial) (by have := hlet.2; have : 200 ≤ sizeLine := by decide
                                                                            omega) (fun y hy μ2 q' e2 h => ?_) fun μ2 e2 h2 => ?_
      · walk_at "all"
        refine ⟨_, k, rfl, rfl, ?_⟩
        have : isBelow (.int y) k = true := decide_eq_true (hlet.1 y hy)
        rw [this]
        exact h _ (Ext.refl _)
      · have : l.map (fun _ => D.bl true) = (l.map fun _ => true).map D.bl := by rw [List.map_map]; rfl
        rw [this] at h2
        rw [rh_all h2]
        have : (l.map fun _ => true).all id = true := by simp
        simp only [this]
        exact hN _ _ ⟨e1.trans e2, _, _, rfl⟩
    · obtain ⟨e1, a, b, rfl⟩ := hI
      unfold lasD
      walk_at "all"
      have z : ¬ ((vs.length : Int) = 0) := by omega
      have z2 : ¬ (200 < (if (vs.length : Int) > us.length then (vs.length : Int) else us.length)) := by split <;> omega
      simp only [List.length_map, z, decide_false]
      walk_at "all"
      simp only [List.length_map, z2, decide_false]
      walk_at "all"
      exact h _ e1)
end K64

set_option Elab.async false
set_option linter.all false
set_option maxRecDepth 100000
set_option maxHeartbeats 4000000
namespace K64
open PySem PySem.Spec PyProof.Rows L2 LamX DL
local macro_rules | `(tactic| walk_at "dl") => `(tactic| simp only [rd_var, rd_C, rd_bin, rd_un, rd_nil, rd_cons, rd_L, rd_test, rd_and, rd_or, rd_not, rd_if, rd_band, rd_bor, rd_bnot, rd_chain, rd_call, rd_mt, rd_dnew, rd_nopart, rd_part, rd_sl, rd_lc, rd_itseq, rd_itA, rd_itzip, rd_itkeys, rd_told, rd_yes, rs_ret, rs_retN, rs_exp, rs_skip, rs_brk, rs_cnt, rs_never, rs_ifs, rs_asg, rs_par, rs_for, rg_N, rg_Nl, rg_Cn, rg_Tp, rg_Sb, ro_tup, ro_lst, ro_addI, ro_addS, ro_addT, ro_sub, ro_mulI, ro_lt, ro_le, ro_gt, ro_ge, ro_eqI, ro_eqB, ro_eqS, ro_neI, ro_neB, ro_neS, ro_inT, ro_ninT, ro_neg, ro_lenT, ro_lenS, ro_abs, ro_intI, ro_intB, ro_isi, ro_tupT, ro_lstT, ro_max2, ro_min2, ro_ixT, ro_fdiv, ro_mod, ro_rng1, ro_rng2, ro_rng3, ro_beqS, in_nil, in_cons, eqd_s, eqd_i, fl_s, fl_i, fl_b, fl_n, bA_t, bA_f, bO_t, bO_f, bE_t, bE_f, bBA_t, bBA_f, bBO_t, bBO_f, bC_t, bC_f, bS_t, bS_f, dT_b, pT_i, ro_slT, ro_seqT, is_nn, isn_nn, is_nb, is_bn, isn_bn, is_in, isn_in, is_ib, is_sn, isn_sn, is_sb, is_tn, isn_tn, is_tb, is_on, isn_on, is_ob, is_bb, rd_get, tn_non, tn_bl, tn_int, tn_str, tn_tup, kit_NoneType_int, kit_NoneType_bool, kit_NoneType_str, kit_NoneType_tuple, kit_NoneType_list, kit_NoneType_dict, kit_bool_int, kit_bool_bool, kit_bool_str, kit_bool_tuple, kit_bool_list, kit_bool_dict, kit_int_int, kit_int_bool, kit_int_str, kit_int_tuple, kit_int_list, kit_int_dict, kit_str_int, kit_str_bool, kit_str_str, kit_str_tuple, kit_str_list, kit_str_dict, kit_tuple_int, kit_tuple_bool, kit_tuple_str, kit_tuple_tuple, kit_tuple_list, kit_tuple_dict, kit_list_int, kit_list_bool, kit_list_str, kit_list_tuple, kit_list_list, kit_list_dict, kit_dict_int, kit_dict_bool, kit_dict_str, kit_dict_tuple, kit_dict_list, kit_dict_dict,
  startD, wipeD, List.map_cons, List.map_nil, List.length_cons, List.length_nil, List.replicate_succ, List.replicate_zero, List.append_nil, List.cons_append, List.nil_append, List.getElem?_cons_zero, List.getElem?_cons_succ, List.set_cons_zero, List.set_cons_succ,
  Nat.reduceAdd, Nat.reduceSub, Nat.zero_add, Nat.add_zero, Nat.sub_self, Nat.reduceEqDiff, Nat.reduceLT, Int.reduceAdd, Int.reduceSub, Int.reduceNeg, Int.reduceEq, Int.reduceLT, Int.reduceLE, Int.zero_add, Int.add_zero, Int.cast_ofNat_Int, Int.reduceMul, Int.reduceToNat,
  ofs, String.reduceEq, decide_true, decide_false, ati0, ati1, ati2, ati3, ati4, Bool.not_true, Bool.not_false, true_and, and_true, if_true, Bool.false_eq_true, if_false, Option.some.injEq, eq_self_iff_true, BEq.rfl, List.all_cons, List.all_nil, 
  Bool.or_true, Bool.or_false, Bool.false_or, Bool.true_or, Bool.and_self, Bool.and_true, Bool.true_and, Bool.and_false, Bool.false_and, beq_self_eq_true, enc, tn_enc, encS, tn_encS, rd_disp, rd_pn, rd_pc, Bool.true_eq_false, reduceCtorEq, rd_ls])
local macro_rules | `(tactic| walk_at "sq") => `(tactic| (rw [rh_seq]; walk_at "dl"))
local macro_rules | `(tactic| walk_at "all") => `(tactic| (try walk_at "dl"); repeat walk_at "sq")
variable {P : Program} {w : World} {K : PySem.W.Frag} {mg : Str → Option Value} {base : Heap} {T : List (Addr × Str)}
def spPlace (n : Nat) : DSp := fun ds μ q => ∃ (p : Fm) (h o t : Int), ds = [enc p, .int h, .int o, .int t] ∧ p.ht < n ∧ q (encS (pl p h o t)) μ
theorem ok_place_step (M : Fx K mg) (n : Nat) (C_at_place : FnOk P w K mg base CX0 n M.a_at_place M.d_at_place ["formula", "here", "other", "third"] (lSp K T 4 (spPlace n))) :
    FnOk P w K mg base CX0 (n + 1) M.a_at_place M.d_at_place ["formula", "here", "other", "third"] (lSp K T 4 (spPlace (n + 1))) :=
  dl_fn (T := T) (k := n) M.F_at_place sc_at_place (fun cdv A outer s H hr => (pdss_cons (pds_asg (pd_ix hr (pd_var 0) pd_int) (pdg_name 4 sc_at_place.nd))
    (pdss_cons (pds_if (pb_cmp (or_eq hr) sim_eq (pd_var 4) pd_str) (pdss_one (pds_ret (pd_tup (pda_cons pd_str (pda_cons (pd_tup (pda_cons pd_str (pda_cons (pd_var 1) (pda_cons (pd_var 1) pda_nil)))) pda_nil))))) pdss_nil)
    (pdss_cons (pds_if (pb_cmp (or_eq hr) sim_eq (pd_var 4) pd_str) (pdss_one (pds_ret (pd_tup (pda_cons pd_str (pda_cons (pd_var 1) (pda_cons (pd_ix hr (pd_var 0) pd_int) pda_nil)))))) pdss_nil)
    (pdss_cons (pds_if (pb_cmp (or_eq hr) sim_eq (pd_var 4) pd_str) (pdss_one (pds_ret (pd_tup (pda_cons pd_str (pda_cons (pd_call C_at_place (hr.mono (by omega)) (by rfl) M.m_at_place M.F_at_place.kp M.b_at_place (pda_cons (pd_ix hr (pd_var 0) pd_int) (pda_cons (pd_var 1) (pda_cons (pd_var 2) (pda_cons (pd_var 3) pda_nil)))) rfl) pda_nil))))) pdss_nil)
    (pdss_cons (pds_if (pb_cmp (or_in hr) (sim_in false) (pd_var 4) (pd_tup (pda_cons pd_str (pda_cons pd_str pda_nil)))) (pdss_one (pds_ret (pd_tup (pda_cons (pd_var 4) (pda_cons (pd_call C_at_place (hr.mono (by omega)) (by rfl) M.m_at_place M.F_at_place.kp M.b_at_place (pda_cons (pd_ix hr (pd_var 0) pd_int) (pda_cons (pd_var 1) (pda_cons (pd_var 2) (pda_cons (pd_var 3) pda_nil)))) rfl) (pda_cons (pd_call C_at_place (hr.mono (by omega)) (by rfl) M.m_at_place M.F_at_place.kp M.b_at_place (pda_cons (pd_ix hr (pd_var 0) pd_int) (pda_cons (pd_var 1) (pda_cons (pd_var 2) (pda_cons (pd_var 3) pda_nil)))) rfl) pda_nil)))))) pdss_nil)
    (pdss_cons (pds_if (pb_cmp (or_eq hr) sim_eq (pd_var 4) pd_str) (pdss_one (pds_ret (pd_tup (pda_cons pd_str (pda_cons (pd_var 2) (pda_cons (pd_tup (pda_cons pd_str (pda_cons (pd_tup (pda_cons pd_str (pda_cons (pd_var 1) (pda_cons (pd_var 2) pda_nil)))) (pda_cons (pd_call C_at_place (hr.mono (by omega)) (by rfl) M.m_at_place M.F_at_place.kp M.b_at_place (pda_cons (pd_ix hr (pd_var 0) pd_int) (pda_cons (pd_var 2) (pda_cons (pd_var 1) (pda_cons (pd_var 3) pda_nil)))) rfl) pda_nil)))) pda_nil)))))) pdss_nil)
    (pdss_cons (pds_asg (pd_tup (pda_cons pd_str (pda_cons (pd_var 3) (pda_cons (pd_tup (pda_cons pd_str (pda_cons (pd_tup (pda_cons pd_str (pda_cons (pd_tup (pda_cons pd_str (pda_cons (pd_var 3) (pda_cons (pd_var 1) pda_nil)))) (pda_cons (pd_tup (pda_cons pd_str (pda_cons (pd_tup (pda_cons pd_str (pda_cons (pd_var 3) (pda_cons (pd_var 2) pda_nil)))) pda_nil))) pda_nil)))) (pda_cons (pd_call C_at_place (hr.mono (by omega)) (by rfl) M.m_at_place M.F_at_place.kp M.b_at_place (pda_cons (pd_ix hr (pd_var 0) pd_int) (pda_cons (pd_var 3) (pda_cons (pd_var 1) (pda_cons (pd_var 2) pda_nil)))) rfl) pda_nil)))) pda_nil)))) (pdg_name 5 sc_at_place.nd))
    (pdss_one (pds_ret (pd_tup (pda_cons pd_str (pda_cons (pd_var 2) (pda_cons (pd_tup (pda_cons pd_str (pda_cons (pd_tup (pda_cons pd_str (pda_cons (pd_tup (pda_cons pd_str (pda_cons (pd_var 2) (pda_cons (pd_var 1) pda_nil)))) pda_nil))) (pda_cons (pd_tup (pda_cons pd_str (pda_cons (pd_call C_at_place (hr.mono (by omega)) (by rfl) M.m_at_place M.F_at_place.kp M.b_at_place (pda_cons (pd_ix hr (pd_var 0) pd_int) (pda_cons (pd_var 2) (pda_cons (pd_var 1) (pda_cons (pd_var 3) pda_nil)))) rfl) (pda_cons (pd_var 5) pda_nil)))) pda_nil)))) pda_nil)))))))))))))) (fun ds μ q hl h => by
    clear C_at_place hl
    obtain ⟨p, x, y, z, rfl, h1, h⟩ := h
    have sz : 0 ≤ sizeLine ∧ 1 ≤ sizeLine ∧ 2 ≤ sizeLine ∧ 3 ≤ sizeLine := by decide
    cases p with
    | tru =>
      simp only [pl, encS] at h
      walk_at "all"
      exact ⟨sz.2.2.2, sz.2.2.1, h⟩
    | lt a =>
      simp only [pl, encS] at h
      walk_at "all"
      exact ⟨sz.2.2.2, h⟩
    | no p =>
      simp only [Fm.ht] at h1
      simp only [pl, encS] at h
      walk_at "all"
      refine ⟨p, x, y, z, rfl, by omega, ?_⟩
      exact ⟨sz.2.2.1, h⟩
    | nx p =>
      simp only [Fm.ht] at h1
      simp only [pl, encS] at h
      walk_at "all"
      refine ⟨sz.2.2.1, sz.2.2.2, p, y, x, z, rfl, by omega, ?_⟩
      exact ⟨sz.2.2.2, sz.2.2.2, h⟩
    | an p r =>
      simp only [Fm.ht] at h1
      simp only [pl, encS] at h
      walk_at "all"
      refine ⟨sz.2.2.1, p, x, y, z, rfl, by omega, ?_⟩
      refine ⟨r, x, y, z, rfl, by omega, ?_⟩
      exact ⟨sz.2.2.2, h⟩
    | orr p r =>
      simp only [Fm.ht] at h1
      simp only [pl, encS] at h
      walk_at "all"
      refine ⟨sz.2.2.1, p, x, y, z, rfl, by omega, ?_⟩
      refine ⟨r, x, y, z, rfl, by omega, ?_⟩
      exact ⟨sz.2.2.2, h⟩
    | un p r =>
      simp only [Fm.ht] at h1
      simp only [pl, encS] at h
      walk_at "all"
      refine ⟨sz.2.2.1, sz.2.2.2, sz.2.2.2, sz.2.2.1, sz.2.2.2, p, z, x, y, rfl, by omega, ?_⟩
      walk_at "all"
      refine ⟨sz.2.2.2, sz.2.2.2, sz.2.2.2, sz.2.2.1, r, y, x, z, rfl, by omega, ?_⟩
      exact ⟨sz.2.2.2, sz.2.2.2, sz.2.2.2, h⟩)
theorem ok_place (M : Fx K mg) : ∀ n : Nat, FnOk P w K mg base CX0 n M.a_at_place M.d_at_place ["formula", "here", "other", "third"] (lSp K T 4 (spPlace n))
  | 0 => fn_none fun _ _ _ h => by
    obtain ⟨p, x, y, z, _, h, _⟩ := h
    exact absurd h (by omega)
  | n + 1 => ok_place_step M n (ok_place M n)
def spSentence (n : Nat) : DSp := fun ds μ q => ∃ (p : Fm) (k : Int), ds = [.int k, enc p] ∧ 1 ≤ k ∧ k ≤ 4 ∧ p.ht < n ∧ p.ht ≤ 200 ∧ p.ok k ∧ p.size ≤ 9 ∧ q (encS (root p)) μ
theorem ok_sentence (M : Fx K mg) (n : Nat) : FnOk P w K mg base CX0 (n + 4) M.a_sentence_of_formula M.d_sentence_of_formula ["k", "formula"] (lSp K T 2 (spSentence n)) :=
  have C_check_letters := ok_check_letters (P := P) (w := w) (base := base) (T := T) M
  have C_check_formula := ok_check_formula (P := P) (w := w) (base := base) (T := T) M n
  have C_at_place := ok_place (P := P) (w := w) (base := base) (T := T) M n
  dl_fn (T := T) (k := n + 3) M.F_sentence_of_formula sc_sentence_of_formula (fun cdv A outer s H hr => (pdss_cons (pds_expr (pd_call C_check_letters (hr.mono (by omega)) (by rfl) M.m_check_letters M.F_check_letters.kp M.b_check_letters (pda_cons (pd_var 0) pda_nil) rfl))
    (pdss_cons (pds_expr (pd_call C_check_formula (hr.mono (by omega)) (by rfl) M.m_check_formula M.F_check_formula.kp M.b_check_formula (pda_cons (pd_var 1) (pda_cons (pd_var 0) (pda_cons (pd_globI (by rfl) M.c_MOST_WORDS) pda_nil))) rfl))
    (pdss_one (pds_ret (pd_tup (pda_cons pd_str (pda_cons pd_int (pda_cons (pd_tup (pda_cons pd_str (pda_cons (pd_tup (pda_cons pd_str (pda_cons (pd_tup (pda_cons pd_str (pda_cons pd_int (pda_cons (pd_tup (pda_cons pd_str (pda_cons pd_int (pda_cons pd_int pda_nil)))) pda_nil)))) pda_nil))) (pda_cons (pd_call C_at_place (hr.mono (by omega)) (by rfl) M.m_at_place M.F_at_place.kp M.b_at_place (pda_cons (pd_var 1) (pda_cons pd_int (pda_cons pd_int (pda_cons pd_int pda_nil)))) rfl) pda_nil)))) pda_nil))))))))) (fun ds μ q hl h => by
    clear C_check_letters C_check_formula C_at_place hl
    obtain ⟨p, k, rfl, h1, h2, h3, h4, h5, h6, h⟩ := h
    have sz : 0 ≤ sizeLine ∧ 1 ≤ sizeLine ∧ 2 ≤ sizeLine ∧ 3 ≤ sizeLine := by decide
    simp only [root, encS] at h
    walk_at "all"
    refine ⟨k, rfl, h1, h2, ?_⟩
    walk_at "all"
    refine ⟨p, k, 9, rfl, h3, h4, h5, h6, ?_⟩
    walk_at "all"
    refine ⟨sz.2.2.2, sz.2.2.2, sz.2.2.1, p, 0, 1, 2, rfl, h3, ?_⟩
    exact ⟨sz.2.2.2, sz.2.2.2, h⟩)
end K64

set_option Elab.async false
set_option linter.all false
set_option maxRecDepth 100000
set_option maxHeartbeats 4000000
namespace K64
open PySem PySem.Spec PyProof.Rows L2 LamX DL
local macro_rules | `(tactic| walk_at "dl") => `(tactic| simp only [rd_var, rd_C, rd_bin, rd_un, rd_nil, rd_cons, rd_L, rd_test, rd_and, rd_or, rd_not, rd_if, rd_band, rd_bor, rd_bnot, rd_chain, rd_call, rd_mt, rd_dnew, rd_nopart, rd_part, rd_sl, rd_lc, rd_itseq, rd_itA, rd_itzip, rd_itkeys, rd_told, rd_yes, rs_ret, rs_retN, rs_exp, rs_skip, rs_brk, rs_cnt, rs_never, rs_ifs, rs_asg, rs_par, rs_for, rg_N, rg_Nl, rg_Cn, rg_Tp, rg_Sb, ro_tup, ro_lst, ro_addI, ro_addS, ro_addT, ro_sub, ro_mulI, ro_lt, ro_le, ro_gt, ro_ge, ro_eqI, ro_eqB, ro_eqS, ro_neI, ro_neB, ro_neS, ro_inT, ro_ninT, ro_neg, ro_lenT, ro_lenS, ro_abs, ro_intI, ro_intB, ro_isi, ro_tupT, ro_lstT, ro_max2, ro_min2, ro_ixT, ro_fdiv, ro_mod, ro_rng1, ro_rng2, ro_rng3, ro_beqS, in_nil, in_cons, eqd_s, eqd_i, fl_s, fl_i, fl_b, fl_n, bA_t, bA_f, bO_t, bO_f, bE_t, bE_f, bBA_t, bBA_f, bBO_t, bBO_f, bC_t, bC_f, bS_t, bS_f, dT_b, pT_i, ro_slT, ro_seqT, is_nn, isn_nn, is_nb, is_bn, isn_bn, is_in, isn_in, is_ib, is_sn, isn_sn, is_sb, is_tn, isn_tn, is_tb, is_on, isn_on, is_ob, is_bb, rd_get, tn_non, tn_bl, tn_int, tn_str, tn_tup, kit_NoneType_int, kit_NoneType_bool, kit_NoneType_str, kit_NoneType_tuple, kit_NoneType_list, kit_NoneType_dict, kit_bool_int, kit_bool_bool, kit_bool_str, kit_bool_tuple, kit_bool_list, kit_bool_dict, kit_int_int, kit_int_bool, kit_int_str, kit_int_tuple, kit_int_list, kit_int_dict, kit_str_int, kit_str_bool, kit_str_str, kit_str_tuple, kit_str_list, kit_str_dict, kit_tuple_int, kit_tuple_bool, kit_tuple_str, kit_tuple_tuple, kit_tuple_list, kit_tuple_dict, kit_list_int, kit_list_bool, kit_list_str, kit_list_tuple, kit_list_list, kit_list_dict, kit_dict_int, kit_dict_bool, kit_dict_str, kit_dict_tuple, kit_dict_list, kit_dict_dict,
  startD, wipeD, List.map_cons, List.map_nil, List.length_cons, List.length_nil, List.replicate_succ, List.replicate_zero, List.append_nil, List.cons_append, List.nil_append, List.getElem?_cons_zero, List.getElem?_cons_succ, List.set_cons_zero, List.set_cons_succ,
  Nat.reduceAdd, Nat.reduceSub, Nat.zero_add, Nat.add_zero, Nat.sub_self, Nat.reduceEqDiff, Nat.reduceLT, Int.reduceAdd, Int.reduceSub, Int.reduceNeg, Int.reduceEq, Int.reduceLT, Int.reduceLE, Int.zero_add, Int.add_zero, Int.cast_ofNat_Int, Int.reduceMul, Int.reduceToNat,
  ofs, String.reduceEq, decide_true, decide_false, ati0, ati1, ati2, ati3, ati4, Bool.not_true, Bool.not_false, true_and, and_true, if_true, Bool.false_eq_true, if_false, Option.some.injEq, eq_self_iff_true, BEq.rfl, List.all_cons, List.all_nil, 
  Bool.or_true, Bool.or_false, Bool.false_or, Bool.true_or, Bool.and_self, Bool.and_true, Bool.true_and, Bool.and_false, Bool.false_and, beq_self_eq_true, enc, tn_enc, encS, tn_encS, rd_disp, rd_pn, rd_pc, Bool.true_eq_false, reduceCtorEq, rd_ls])
local macro_rules | `(tactic| walk_at "sq") => `(tactic| (rw [rh_seq]; walk_at "dl"))
local macro_rules | `(tactic| walk_at "all") => `(tactic| (try walk_at "dl"); repeat walk_at "sq")
variable {P : Program} {w : World} {K : PySem.W.Frag} {mg : Str → Option Value} {base : Heap} {T : List (Addr × Str)}
/-! ### the law's own draws -/
def spCell : DSp := fun ds μ q => ∃ (s : Nat) (ns : List Int) (k : Nat), ds = [.obj s, .int (k : Int)] ∧ lstOf μ s = some (ns.map .int) ∧ ∀ c, 0 ≤ c → q (.int c) μ
theorem ok_cell (M : Fx K mg) : FnOk P w K mg base CX0 1 M.a__law_cell M.d__law_cell ["script", "k"] (lSp K T 2 spCell) :=
  dl_fn (T := T) (k := 0) M.F__law_cell sc__law_cell (fun cdv A outer s H hr => (pdss_one (pds_ret (pd_if (pb_cmp op_lt sim_lt (pd_var 1) (pd_callB cr_len sim_len (by rfl) M.z_len (by decide +kernel) (pda_cons (pd_var 0) pda_nil))) (pd_callB call_abs sim_abs (by rfl) M.z_abs (by decide +kernel) (pda_cons (pd_callTy call_int1 sim_int (by rfl) M.z_int (by decide +kernel) (pda_cons (pd_ix hr (pd_var 0) (pd_var 1)) pda_nil)) pda_nil)) pd_int)))) (fun ds μ q hl h => by
    clear hl
    obtain ⟨s, ns, k, rfl, h1, h⟩ := h
    walk_at "all"
    rw [rh_len2 h1]
    walk_at "all"
    rw [List.length_map]
    by_cases hk : (k : Int) < ns.length
    · simp only [hk, decide_true]
      walk_at "all"
      have hk' : k < ns.length := by omega
      rw [rh_ix2 h1 (d := .int ns[k]) (atN (by rw [List.getElem?_map, List.getElem?_eq_getElem hk']; rfl))]
      walk_at "all"
      refine h _ ?_
      split <;> omega
    · simp only [hk, decide_false]
      walk_at "all"
      exact h 0 (Int.le_refl _))
def spStream : DSp := fun ds μ q => ∃ (s : Nat) (ns : List Int) (k : Nat), ds = [.obj s, .int (k : Int)] ∧ lstOf μ s = some (ns.map .int) ∧ ∀ c m, 0 ≤ c → 0 ≤ m → q (.obj μ.length) (μ ++ [.lst [.int c, .int m]])
theorem ok_stream (M : Fx K mg) : FnOk P w K mg base CX0 2 M.a__law_stream M.d__law_stream ["script", "k"] (lSp K T 2 spStream) :=
  have C__law_cell := ok_cell (P := P) (w := w) (base := base) (T := T) M
  dl_fn (T := T) (k := 1) M.F__law_stream sc__law_stream (fun cdv A outer s H hr => (pdss_one (pds_ret (pd_lst (pda_cons (pd_call C__law_cell (hr.mono (by omega)) (by rfl) M.m__law_cell M.F__law_cell.kp M.b__law_cell (pda_cons (pd_var 0) (pda_cons (pd_var 1) pda_nil)) rfl) (pda_cons (pd_op or_add sim_add pd_int (pd_op op_mod sim_mod (pd_op or_mul sim_mul pd_int (pd_call C__law_cell (hr.mono (by omega)) (by rfl) M.m__law_cell M.F__law_cell.kp M.b__law_cell (pda_cons (pd_var 0) (pda_cons (pd_var 1) pda_nil)) rfl)) pd_int)) pda_nil)))))) (fun ds μ q hl h => by
    clear hl C__law_cell
    obtain ⟨s, ns, k, rfl, h1, h⟩ := h
    walk_at "all"
    refine ⟨s, ns, k, rfl, h1, fun c hc => ?_⟩
    walk_at "all"
    refine ⟨s, ns, k, rfl, h1, fun c' hc' => ?_⟩
    walk_at "all"
    refine ⟨.inl (by decide), by decide, h _ _ hc ?_⟩
    have := Int.emod_nonneg (48271 * c') (b := 2147483647) (by decide)
    omega)
def spDraw : DSp := fun ds μ q => ∃ (b : Nat) (hi : Int), ds = [.obj b, .int hi] ∧ 0 < hi ∧ hi < 1073741824 ∧ Box μ b ∧ ∀ r μ', 0 ≤ r → r < hi → Bx b μ μ' → q (.int r) μ'
theorem ok_draw (M : Fx K mg) : FnOk P w K mg base CX0 1 M.a__law_draw M.d__law_draw ["box", "high"] (lSp K T 2 spDraw) :=
  dl_fn (T := T) (k := 0) M.F__law_draw sc__law_draw (fun cdv A outer s H hr => (pdss_cons (pds_if (pb_cmp op_gt sim_gt (pd_ix hr (pd_var 0) pd_int) pd_int) (pdss_cons (pds_asg (pd_ix hr (pd_var 0) pd_int) (pdg_name 2 sc__law_draw.nd))
    (pdss_cons (pds_asg (pd_callTy call_int1 sim_int (by rfl) M.z_int (by decide +kernel) (pda_cons (pd_op op_fdiv sim_fdiv (pd_var 2) (pd_var 1)) pda_nil)) (pdg_sub hr (pd_var 0) pd_int))
    (pdss_one (pds_ret (pd_callTy call_int1 sim_int (by rfl) M.z_int (by decide +kernel) (pda_cons (pd_op op_mod sim_mod (pd_var 2) (pd_var 1)) pda_nil)))))) pdss_nil)
    (pdss_cons (pds_asg (pd_op op_mod sim_mod (pd_op or_mul sim_mul pd_int (pd_ix hr (pd_var 0) pd_int)) pd_int) (pdg_sub hr (pd_var 0) pd_int))
    (pdss_one (pds_ret (pd_callTy call_int1 sim_int (by rfl) M.z_int (by decide +kernel) (pda_cons (pd_op op_mod sim_mod (pd_op op_fdiv sim_fdiv (pd_ix hr (pd_var 0) pd_int) pd_int) (pd_var 1)) pda_nil))))))) (fun ds μ q hl h => by
    clear hl
    obtain ⟨b, hi, rfl, h1, h2, ⟨c, m, h3, h4, h5⟩, h⟩ := h
    have hb : b < μ.length := (List.getElem?_eq_some_iff.mp h5).1
    have bx : ∀ c' m' : Int, 0 ≤ c' → 0 ≤ m' → Bx b μ (μ.set b (.lst [.int c', .int m'])) := fun c' m' i j => ⟨⟨c', m', i, j, List.getElem?_set_self hb⟩, fun k o hk e => by rw [List.getElem?_set_ne (fun z => hk z.symm)]; exact e⟩
    walk_at "all"
    rw [rh_ixL h5 (ati0 _ _)]
    walk_at "all"
    by_cases hc : 0 < c
    · simp only [hc, decide_true]
      walk_at "all"
      rw [rh_ixL h5 (ati0 _ _)]
      walk_at "all"
      refine ⟨⟨h1, h2⟩, ?_⟩
      rw [rh_setL h5 (show ixN [D.int c, D.int m].length 0 = some 0 from rfl)]
      walk_at "all"
      refine ⟨h1, h _ _ (Int.emod_nonneg _ (by omega)) (Int.emod_lt_of_pos _ h1) (bx _ _ (Int.ediv_nonneg h3 (by omega)) h4)⟩
    · simp only [hc, decide_false]
      walk_at "all"
      rw [rh_ixL h5 (ati1 _ _ _)]
      walk_at "all"
      refine ⟨.inl (by decide), ?_⟩
      rw [rh_setL h5 (show ixN [D.int c, D.int m].length 1 = some 1 from rfl)]
      walk_at "all"
      have h6 : (μ.set b (.lst [D.int c, .int (69621 * m % 2147483647)]))[b]? = some (.lst [D.int c, .int (69621 * m % 2147483647)]) := List.getElem?_set_self hb
      rw [rh_ixL h6 (ati1 _ _ _)]
      walk_at "all"
      refine ⟨h1, h _ _ (Int.emod_nonneg _ (by omega)) (Int.emod_lt_of_pos _ h1) (bx _ _ h3 (Int.emod_nonneg _ (by decide)))⟩)
end K64

set_option Elab.async false
set_option linter.all false
set_option maxRecDepth 100000
set_option maxHeartbeats 4000000
namespace K64
open PySem PySem.Spec PyProof.Rows L2 LamX DL
local macro_rules | `(tactic| walk_at "dl") => `(tactic| simp only [rd_var, rd_C, rd_bin, rd_un, rd_nil, rd_cons, rd_L, rd_test, rd_and, rd_or, rd_not, rd_if, rd_band, rd_bor, rd_bnot, rd_chain, rd_call, rd_mt, rd_dnew, rd_nopart, rd_part, rd_sl, rd_lc, rd_itseq, rd_itA, rd_itzip, rd_itkeys, rd_told, rd_yes, rs_ret, rs_retN, rs_exp, rs_skip, rs_brk, rs_cnt, rs_never, rs_ifs, rs_asg, rs_par, rs_for, rg_N, rg_Nl, rg_Cn, rg_Tp, rg_Sb, ro_tup, ro_lst, ro_addI, ro_addS, ro_addT, ro_sub, ro_mulI, ro_lt, ro_le, ro_gt, ro_ge, ro_eqI, ro_eqB, ro_eqS, ro_neI, ro_neB, ro_neS, ro_inT, ro_ninT, ro_neg, ro_lenT, ro_lenS, ro_abs, ro_intI, ro_intB, ro_isi, ro_tupT, ro_lstT, ro_max2, ro_min2, ro_ixT, ro_fdiv, ro_mod, ro_rng1, ro_rng2, ro_rng3, ro_beqS, in_nil, in_cons, eqd_s, eqd_i, fl_s, fl_i, fl_b, fl_n, bA_t, bA_f, bO_t, bO_f, bE_t, bE_f, bBA_t, bBA_f, bBO_t, bBO_f, bC_t, bC_f, bS_t, bS_f, dT_b, pT_i, ro_slT, ro_seqT, is_nn, isn_nn, is_nb, is_bn, isn_bn, is_in, isn_in, is_ib, is_sn, isn_sn, is_sb, is_tn, isn_tn, is_tb, is_on, isn_on, is_ob, is_bb, rd_get, tn_non, tn_bl, tn_int, tn_str, tn_tup, kit_NoneType_int, kit_NoneType_bool, kit_NoneType_str, kit_NoneType_tuple, kit_NoneType_list, kit_NoneType_dict, kit_bool_int, kit_bool_bool, kit_bool_str, kit_bool_tuple, kit_bool_list, kit_bool_dict, kit_int_int, kit_int_bool, kit_int_str, kit_int_tuple, kit_int_list, kit_int_dict, kit_str_int, kit_str_bool, kit_str_str, kit_str_tuple, kit_str_list, kit_str_dict, kit_tuple_int, kit_tuple_bool, kit_tuple_str, kit_tuple_tuple, kit_tuple_list, kit_tuple_dict, kit_list_int, kit_list_bool, kit_list_str, kit_list_tuple, kit_list_list, kit_list_dict, kit_dict_int, kit_dict_bool, kit_dict_str, kit_dict_tuple, kit_dict_list, kit_dict_dict,
  startD, wipeD, List.map_cons, List.map_nil, List.length_cons, List.length_nil, List.replicate_succ, List.replicate_zero, List.append_nil, List.cons_append, List.nil_append, List.getElem?_cons_zero, List.getElem?_cons_succ, List.set_cons_zero, List.set_cons_succ,
  Nat.reduceAdd, Nat.reduceSub, Nat.zero_add, Nat.add_zero, Nat.sub_self, Nat.reduceEqDiff, Nat.reduceLT, Int.reduceAdd, Int.reduceSub, Int.reduceNeg, Int.reduceEq, Int.reduceLT, Int.reduceLE, Int.zero_add, Int.add_zero, Int.cast_ofNat_Int, Int.reduceMul, Int.reduceToNat,
  ofs, String.reduceEq, decide_true, decide_false, ati0, ati1, ati2, ati3, ati4, Bool.not_true, Bool.not_false, true_and, and_true, if_true, Bool.false_eq_true, if_false, Option.some.injEq, eq_self_iff_true, BEq.rfl, List.all_cons, List.all_nil, 
  Bool.or_true, Bool.or_false, Bool.false_or, Bool.true_or, Bool.and_self, Bool.and_true, Bool.true_and, Bool.and_false, Bool.false_and, beq_self_eq_true, enc, tn_enc, encS, tn_encS, rd_disp, rd_pn, rd_pc, Bool.true_eq_false, reduceCtorEq, rd_ls])
local macro_rules | `(tactic| walk_at "sq") => `(tactic| (rw [rh_seq]; walk_at "dl"))
local macro_rules | `(tactic| walk_at "all") => `(tactic| (try walk_at "dl"); repeat walk_at "sq")
variable {P : Program} {w : World} {K : PySem.W.Frag} {mg : Str → Option Value} {base : Heap} {T : List (Addr × Str)}
def spPlain (n : Nat) : DSp := fun ds μ q => ∃ (b : Nat) (k wt : Int), ds = [.obj b, .int k, .int wt] ∧ 1 ≤ k ∧ k ≤ 4 ∧ 1 ≤ wt ∧ wt < n ∧ wt ≤ 100 ∧ Box μ b ∧ ∀ p μ', p.plain → p.ok k → p.size ≤ wt → Bx b μ μ' → q (enc p) μ'
theorem ok_plain_step (M : Fx K mg) (n : Nat) (C__law_plain : FnOk P w K mg base CX0 (n + 1) M.a__law_plain M.d__law_plain ["box", "k", "weight"] (lSp K T 3 (spPlain n))) :
    FnOk P w K mg base CX0 (n + 2) M.a__law_plain M.d__law_plain ["box", "k", "weight"] (lSp K T 3 (spPlain (n + 1))) :=
  have C__law_draw := ok_draw (P := P) (w := w) (base := base) (T := T) M
  dl_fn (T := T) (k := n + 1) M.F__law_plain sc__law_plain (fun cdv A outer s H hr => (pdss_cons (pds_if (pb_cmp op_lt sim_lt (pd_var 2) pd_int) (pdss_one (pds_ret (pd_if (pb_cmp (or_eq hr) sim_eq (pd_call C__law_draw (hr.mono (by omega)) (by rfl) M.m__law_draw M.F__law_draw.kp M.b__law_draw (pda_cons (pd_var 0) (pda_cons pd_int pda_nil)) rfl) pd_int) (pd_tup (pda_cons pd_str pda_nil)) (pd_tup (pda_cons pd_str (pda_cons (pd_call C__law_draw (hr.mono (by omega)) (by rfl) M.m__law_draw M.F__law_draw.kp M.b__law_draw (pda_cons (pd_var 0) (pda_cons (pd_var 1) pda_nil)) rfl) pda_nil)))))) pdss_nil)
    (pdss_cons (pds_if (pbw_pb (pbw_or (pb_cmp (or_eq hr) sim_eq (pd_var 2) pd_int) (pbw_or1 (pb_cmp (or_eq hr) sim_eq (pd_call C__law_draw (hr.mono (by omega)) (by rfl) M.m__law_draw M.F__law_draw.kp M.b__law_draw (pda_cons (pd_var 0) (pda_cons pd_int pda_nil)) rfl) pd_int)))) (pdss_one (pds_ret (pd_tup (pda_cons pd_str (pda_cons (pd_call C__law_plain (hr.mono (by omega)) (by rfl) M.m__law_plain M.F__law_plain.kp M.b__law_plain (pda_cons (pd_var 0) (pda_cons (pd_var 1) (pda_cons (pd_op op_sub sim_sub (pd_var 2) pd_int) pda_nil))) rfl) pda_nil))))) pdss_nil)
    (pdss_cons (pds_asg (pd_op or_add sim_add pd_int (pd_call C__law_draw (hr.mono (by omega)) (by rfl) M.m__law_draw M.F__law_draw.kp M.b__law_draw (pda_cons (pd_var 0) (pda_cons (pd_op op_sub sim_sub (pd_var 2) pd_int) pda_nil)) rfl)) (pdg_name 3 sc__law_plain.nd))
    (pdss_cons (pds_asg (pd_call C__law_plain (hr.mono (by omega)) (by rfl) M.m__law_plain M.F__law_plain.kp M.b__law_plain (pda_cons (pd_var 0) (pda_cons (pd_var 1) (pda_cons (pd_var 3) pda_nil))) rfl) (pdg_name 4 sc__law_plain.nd))
    (pdss_one (pds_ret (pd_tup (pda_cons (pd_ix hr (pd_lst (pda_cons pd_str (pda_cons pd_str pda_nil))) (pd_call C__law_draw (hr.mono (by omega)) (by rfl) M.m__law_draw M.F__law_draw.kp M.b__law_draw (pda_cons (pd_var 0) (pda_cons pd_int pda_nil)) rfl)) (pda_cons (pd_var 4) (pda_cons (pd_call C__law_plain (hr.mono (by omega)) (by rfl) M.m__law_plain M.F__law_plain.kp M.b__law_plain (pda_cons (pd_var 0) (pda_cons (pd_var 1) (pda_cons (pd_op op_sub sim_sub (pd_op op_sub sim_sub (pd_var 2) pd_int) (pd_var 3)) pda_nil))) rfl) pda_nil))))))))))) (fun ds μ q hl h => by
    clear hl C__law_draw C__law_plain
    obtain ⟨b, k, wt, rfl, h1, h2, h3, h4, h5, hB, h⟩ := h
    have sz : 0 ≤ sizeLine ∧ 1 ≤ sizeLine ∧ 2 ≤ sizeLine ∧ 3 ≤ sizeLine := by decide
    walk_at "all"
    by_cases w2 : wt < 2
    · simp only [w2, decide_true]
      walk_at "all"
      refine ⟨b, 6, rfl, by decide, by decide, hB, fun r μ1 r0 r1 B1 => ?_⟩
      walk_at "all"
      by_cases hr : r = 0
      · simp only [hr, decide_true]
        walk_at "all"
        exact ⟨sz.2.1, h .tru _ trivial trivial h3 B1⟩
      · simp only [hr, decide_false]
        walk_at "all"
        refine ⟨b, k, rfl, by omega, by omega, B1.1, fun r μ2 r0 r1 B2 => ?_⟩
        exact ⟨sz.2.2.1, h (.lt r) _ trivial ⟨r0, r1⟩ h3 (B1.trans B2)⟩
    · simp only [w2, decide_false]
      walk_at "all"
      have hno : ∀ (μ1 : Mu), Bx b μ μ1 → 2 ≤ wt → 2 ≤ sizeLine ∧ True := fun _ _ _ => ⟨sz.2.2.1, trivial⟩
      by_cases w3 : wt = 2
      · subst w3
        walk_at "all"
        refine ⟨b, k, 1, rfl, h1, h2, by decide, by omega, by decide, hB, fun p μ1 p1 p2 p3 B1 => ?_⟩
        exact ⟨sz.2.2.1, h (.no p) _ p1 p2 (by simp only [Fm.size]; omega) B1⟩
      · simp only [w3, decide_false]
        walk_at "all"
        refine ⟨b, 3, rfl, by decide, by decide, hB, fun r μ1 r0 r1 B1 => ?_⟩
        walk_at "all"
        by_cases hr : r = 0
        · simp only [hr, decide_true]
          walk_at "all"
          refine ⟨b, k, wt - 1, rfl, h1, h2, by omega, by omega, by omega, B1.1, fun p μ2 p1 p2 p3 B2 => ?_⟩
          exact ⟨sz.2.2.1, h (.no p) _ p1 p2 (by simp only [Fm.size]; omega) (B1.trans B2)⟩
        · simp only [hr, decide_false]
          walk_at "all"
          refine ⟨b, wt - 2, rfl, by omega, by omega, B1.1, fun l μ2 l0 l1 B2 => ?_⟩
          walk_at "all"
          refine ⟨b, k, 1 + l, rfl, h1, h2, by omega, by omega, by omega, B2.1, fun p μ3 p1 p2 p3 B3 => ?_⟩
          walk_at "all"
          refine ⟨sz.2.2.1, b, 2, rfl, by decide, by decide, B3.1.ext (Ext.app _ _), fun r μ4 r0 r1 B4 => ?_⟩
          have B34 : Bx b μ μ4 := B1.trans (B2.trans (B3.trans ((Bx.of_ext B3.1 (Ext.app _ _)).trans B4)))
          have hb3 : b < μ3.length := by
            obtain ⟨c, m, _, _, e⟩ := B3.1
            exact (List.getElem?_eq_some_iff.mp e).1
          have e4 : μ4[μ3.length]? = some (.lst [.str "and", .str "or"]) := B4.2 _ _ (by omega) (by rw [List.getElem?_append_right (Nat.le_refl _), Nat.sub_self]; rfl)
          rcases (show r = 0 ∨ r = 1 by omega) with rfl | rfl
          · walk_at "all"
            rw [rh_ixL e4 (ati0 _ _)]
            walk_at "all"
            refine ⟨b, k, wt - 1 - (1 + l), rfl, h1, h2, by omega, by omega, by omega, B4.1, fun p' μ5 q1 q2 q3 B5 => ?_⟩
            exact ⟨sz.2.2.2, h (.an p p') _ ⟨p1, q1⟩ ⟨p2, q2⟩ (by simp only [Fm.size]; omega) (B34.trans B5)⟩
          · walk_at "all"
            rw [rh_ixL e4 (ati1 _ _ _)]
            walk_at "all"
            refine ⟨b, k, wt - 1 - (1 + l), rfl, h1, h2, by omega, by omega, by omega, B4.1, fun p' μ5 q1 q2 q3 B5 => ?_⟩
            exact ⟨sz.2.2.2, h (.orr p p') _ ⟨p1, q1⟩ ⟨p2, q2⟩ (by simp only [Fm.size]; omega) (B34.trans B5)⟩)
theorem ok_plain (M : Fx K mg) : ∀ n : Nat, FnOk P w K mg base CX0 (n + 1) M.a__law_plain M.d__law_plain ["box", "k", "weight"] (lSp K T 3 (spPlain n))
  | 0 => fn_none fun _ _ _ h => by
    obtain ⟨b, k, wt, _, _, _, h1, h2, _⟩ := h
    exact absurd h2 (by omega)
  | n + 1 => ok_plain_step M n (ok_plain M n)
def spFormula (n : Nat) : DSp := fun ds μ q => ∃ (b : Nat) (k wt : Int), ds = [.obj b, .int k, .int wt] ∧ 1 ≤ k ∧ k ≤ 4 ∧ 1 ≤ wt ∧ wt < n ∧ wt ≤ 7 ∧ Box μ b ∧ ∀ p μ', p.flat → p.ok k → p.size ≤ wt → Bx b μ μ' → q (enc p) μ'
theorem ok_formula_step (M : Fx K mg) (n : Nat) (C__law_formula : FnOk P w K mg base CX0 (n + 10) M.a__law_formula M.d__law_formula ["box", "k", "weight"] (lSp K T 3 (spFormula n))) :
    FnOk P w K mg base CX0 (n + 11) M.a__law_formula M.d__law_formula ["box", "k", "weight"] (lSp K T 3 (spFormula (n + 1))) :=
  have C__law_draw := ok_draw (P := P) (w := w) (base := base) (T := T) M
  have C__law_plain := ok_plain (P := P) (w := w) (base := base) (T := T) M 9
  dl_fn (T := T) (k := n + 10) M.F__law_formula sc__law_formula (fun cdv A outer s H hr => (pdss_cons (pds_if (pb_cmp op_lt sim_lt (pd_var 2) pd_int) (pdss_one (pds_ret (pd_call C__law_plain (hr.mono (by omega)) (by rfl) M.m__law_plain M.F__law_plain.kp M.b__law_plain (pda_cons (pd_var 0) (pda_cons (pd_var 1) (pda_cons pd_int pda_nil))) rfl))) pdss_nil)
    (pdss_cons (pds_asg (pd_call C__law_draw (hr.mono (by omega)) (by rfl) M.m__law_draw M.F__law_draw.kp M.b__law_draw (pda_cons (pd_var 0) (pda_cons pd_int pda_nil)) rfl) (pdg_name 3 sc__law_formula.nd))
    (pdss_cons (pds_if (pb_cmp (or_eq hr) sim_eq (pd_var 3) pd_int) (pdss_one (pds_ret (pd_tup (pda_cons pd_str (pda_cons (pd_call C__law_plain (hr.mono (by omega)) (by rfl) M.m__law_plain M.F__law_plain.kp M.b__law_plain (pda_cons (pd_var 0) (pda_cons (pd_var 1) (pda_cons (pd_op op_sub sim_sub (pd_var 2) pd_int) pda_nil))) rfl) pda_nil))))) pdss_nil)
    (pdss_cons (pds_if (pb_cmp (or_eq hr) sim_eq (pd_var 3) pd_int) (pdss_one (pds_ret (pd_tup (pda_cons pd_str (pda_cons (pd_call C__law_formula (hr.mono (by omega)) (by rfl) M.m__law_formula M.F__law_formula.kp M.b__law_formula (pda_cons (pd_var 0) (pda_cons (pd_var 1) (pda_cons (pd_op op_sub sim_sub (pd_var 2) pd_int) pda_nil))) rfl) pda_nil))))) pdss_nil)
    (pdss_cons (pds_if (pb_cmp op_lt sim_lt (pd_var 2) pd_int) (pdss_one (pds_ret (pd_call C__law_plain (hr.mono (by omega)) (by rfl) M.m__law_plain M.F__law_plain.kp M.b__law_plain (pda_cons (pd_var 0) (pda_cons (pd_var 1) (pda_cons (pd_var 2) pda_nil))) rfl))) pdss_nil)
    (pdss_cons (pds_asg (pd_op or_add sim_add pd_int (pd_call C__law_draw (hr.mono (by omega)) (by rfl) M.m__law_draw M.F__law_draw.kp M.b__law_draw (pda_cons (pd_var 0) (pda_cons (pd_op op_sub sim_sub (pd_var 2) pd_int) pda_nil)) rfl)) (pdg_name 4 sc__law_formula.nd))
    (pdss_cons (pds_if (pb_cmp op_lt sim_lt (pd_var 3) pd_int) (pdss_cons (pds_asg (pd_call C__law_plain (hr.mono (by omega)) (by rfl) M.m__law_plain M.F__law_plain.kp M.b__law_plain (pda_cons (pd_var 0) (pda_cons (pd_var 1) (pda_cons (pd_var 4) pda_nil))) rfl) (pdg_name 5 sc__law_formula.nd))
    (pdss_one (pds_ret (pd_tup (pda_cons pd_str (pda_cons (pd_var 5) (pda_cons (pd_call C__law_plain (hr.mono (by omega)) (by rfl) M.m__law_plain M.F__law_plain.kp M.b__law_plain (pda_cons (pd_var 0) (pda_cons (pd_var 1) (pda_cons (pd_op op_sub sim_sub (pd_op op_sub sim_sub (pd_var 2) pd_int) (pd_var 4)) pda_nil))) rfl) pda_nil))))))) pdss_nil)
    (pdss_cons (pds_asg (pd_call C__law_formula (hr.mono (by omega)) (by rfl) M.m__law_formula M.F__law_formula.kp M.b__law_formula (pda_cons (pd_var 0) (pda_cons (pd_var 1) (pda_cons (pd_var 4) pda_nil))) rfl) (pdg_name 5 sc__law_formula.nd))
    (pdss_one (pds_ret (pd_tup (pda_cons (pd_ix hr (pd_lst (pda_cons pd_str (pda_cons pd_str pda_nil))) (pd_call C__law_draw (hr.mono (by omega)) (by rfl) M.m__law_draw M.F__law_draw.kp M.b__law_draw (pda_cons (pd_var 0) (pda_cons pd_int pda_nil)) rfl)) (pda_cons (pd_var 5) (pda_cons (pd_call C__law_formula (hr.mono (by omega)) (by rfl) M.m__law_formula M.F__law_formula.kp M.b__law_formula (pda_cons (pd_var 0) (pda_cons (pd_var 1) (pda_cons (pd_op op_sub sim_sub (pd_op op_sub sim_sub (pd_var 2) pd_int) (pd_var 4)) pda_nil))) rfl) pda_nil))))))))))))))) (fun ds μ q hl h => by
    clear hl C__law_draw C__law_plain C__law_formula
    obtain ⟨b, k, wt, rfl, h1, h2, h3, h4, h5, hB, h⟩ := h
    have sz : 0 ≤ sizeLine ∧ 1 ≤ sizeLine ∧ 2 ≤ sizeLine ∧ 3 ≤ sizeLine := by decide
    walk_at "all"
    by_cases w2 : wt < 2
    · simp only [w2, decide_true]
      walk_at "all"
      refine ⟨b, k, 1, rfl, h1, h2, by decide, by decide, by decide, hB, fun p μ1 p1 p2 p3 B1 => ?_⟩
      exact h p _ (p.plain_flat p1) p2 (by omega) B1
    · simp only [w2, decide_false]
      walk_at "all"
      refine ⟨b, 5, rfl, by decide, by decide, hB, fun r μ1 r0 r1 B1 => ?_⟩
      walk_at "all"
      by_cases hr : r = 0
      · simp only [hr, decide_true]
        walk_at "all"
        refine ⟨b, k, wt - 1, rfl, h1, h2, by omega, by omega, by omega, B1.1, fun p μ2 p1 p2 p3 B2 => ?_⟩
        exact ⟨sz.2.2.1, h (.nx p) _ p1 p2 (by simp only [Fm.size]; omega) (B1.trans B2)⟩
      simp only [hr, decide_false]
      walk_at "all"
      by_cases hr1 : r = 1
      · simp only [hr1, decide_true]
        walk_at "all"
        refine ⟨b, k, wt - 1, rfl, h1, h2, by omega, by omega, by omega, B1.1, fun p μ2 p1 p2 p3 B2 => ?_⟩
        exact ⟨sz.2.2.1, h (.no p) _ p1 p2 (by simp only [Fm.size]; omega) (B1.trans B2)⟩
      simp only [hr1, decide_false]
      walk_at "all"
      by_cases w3 : wt < 3
      · simp only [w3, decide_true]
        walk_at "all"
        refine ⟨b, k, wt, rfl, h1, h2, by omega, by omega, by omega, B1.1, fun p μ2 p1 p2 p3 B2 => ?_⟩
        exact h p _ (p.plain_flat p1) p2 p3 (B1.trans B2)
      simp only [w3, decide_false]
      walk_at "all"
      refine ⟨b, wt - 2, rfl, by omega, by omega, B1.1, fun l μ2 l0 l1 B2 => ?_⟩
      walk_at "all"
      by_cases hr4 : r < 4
      · simp only [hr4, decide_true]
        walk_at "all"
        refine ⟨b, k, 1 + l, rfl, h1, h2, by omega, by omega, by omega, B2.1, fun p μ3 p1 p2 p3 B3 => ?_⟩
        walk_at "all"
        refine ⟨b, k, wt - 1 - (1 + l), rfl, h1, h2, by omega, by omega, by omega, B3.1, fun p' μ5 q1 q2 q3 B5 => ?_⟩
        exact ⟨sz.2.2.2, h (.un p p') _ ⟨p1, q1⟩ ⟨p2, q2⟩ (by simp only [Fm.size]; omega) (B1.trans (B2.trans (B3.trans B5)))⟩
      · simp only [hr4, decide_false]
        walk_at "all"
        refine ⟨b, k, 1 + l, rfl, h1, h2, by omega, by omega, by omega, B2.1, fun p μ3 p1 p2 p3 B3 => ?_⟩
        walk_at "all"
        refine ⟨sz.2.2.1, b, 2, rfl, by decide, by decide, B3.1.ext (Ext.app _ _), fun r μ4 r0 r1 B4 => ?_⟩
        have B34 : Bx b μ μ4 := B1.trans (B2.trans (B3.trans ((Bx.of_ext B3.1 (Ext.app _ _)).trans B4)))
        have hb3 : b < μ3.length := by
          obtain ⟨c, m, _, _, e⟩ := B3.1
          exact (List.getElem?_eq_some_iff.mp e).1
        have e4 : μ4[μ3.length]? = some (.lst [.str "and", .str "or"]) := B4.2 _ _ (by omega) (by rw [List.getElem?_append_right (Nat.le_refl _), Nat.sub_self]; rfl)
        rcases (show r = 0 ∨ r = 1 by omega) with rfl | rfl
        · walk_at "all"
          rw [rh_ixL e4 (ati0 _ _)]
          walk_at "all"
          refine ⟨b, k, wt - 1 - (1 + l), rfl, h1, h2, by omega, by omega, by omega, B4.1, fun p' μ5 q1 q2 q3 B5 => ?_⟩
          exact ⟨sz.2.2.2, h (.an p p') _ ⟨p1, q1⟩ ⟨p2, q2⟩ (by simp only [Fm.size]; omega) (B34.trans B5)⟩
        · walk_at "all"
          rw [rh_ixL e4 (ati1 _ _ _)]
          walk_at "all"
          refine ⟨b, k, wt - 1 - (1 + l), rfl, h1, h2, by omega, by omega, by omega, B4.1, fun p' μ5 q1 q2 q3 B5 => ?_⟩
          exact ⟨sz.2.2.2, h (.orr p p') _ ⟨p1, q1⟩ ⟨p2, q2⟩ (by simp only [Fm.size]; omega) (B34.trans B5)⟩)
theorem ok_formula (M : Fx K mg) : ∀ n : Nat, FnOk P w K mg base CX0 (n + 10) M.a__law_formula M.d__law_formula ["box", "k", "weight"] (lSp K T 3 (spFormula n))
  | 0 => fn_none fun _ _ _ h => by
    obtain ⟨b, k, wt, _, _, _, h1, h2, _⟩ := h
    exact absurd h2 (by omega)
  | n + 1 => ok_formula_step M n (ok_formula M n)
end K64

set_option Elab.async false
set_option linter.all false
set_option maxRecDepth 100000
set_option maxHeartbeats 4000000
namespace K64
open PySem PySem.Spec PyProof.Rows L2 LamX DL
local macro_rules | `(tactic| walk_at "dl") => `(tactic| simp only [rd_var, rd_C, rd_bin, rd_un, rd_nil, rd_cons, rd_L, rd_test, rd_and, rd_or, rd_not, rd_if, rd_band, rd_bor, rd_bnot, rd_chain, rd_call, rd_mt, rd_dnew, rd_nopart, rd_part, rd_sl, rd_lc, rd_itseq, rd_itA, rd_itzip, rd_itkeys, rd_told, rd_yes, rs_ret, rs_retN, rs_exp, rs_skip, rs_brk, rs_cnt, rs_never, rs_ifs, rs_asg, rs_par, rs_for, rg_N, rg_Nl, rg_Cn, rg_Tp, rg_Sb, ro_tup, ro_lst, ro_addI, ro_addS, ro_addT, ro_sub, ro_mulI, ro_lt, ro_le, ro_gt, ro_ge, ro_eqI, ro_eqB, ro_eqS, ro_neI, ro_neB, ro_neS, ro_inT, ro_ninT, ro_neg, ro_lenT, ro_lenS, ro_abs, ro_intI, ro_intB, ro_isi, ro_tupT, ro_lstT, ro_max2, ro_min2, ro_ixT, ro_fdiv, ro_mod, ro_rng1, ro_rng2, ro_rng3, ro_beqS, in_nil, in_cons, eqd_s, eqd_i, fl_s, fl_i, fl_b, fl_n, bA_t, bA_f, bO_t, bO_f, bE_t, bE_f, bBA_t, bBA_f, bBO_t, bBO_f, bC_t, bC_f, bS_t, bS_f, dT_b, pT_i, ro_slT, ro_seqT, is_nn, isn_nn, is_nb, is_bn, isn_bn, is_in, isn_in, is_ib, is_sn, isn_sn, is_sb, is_tn, isn_tn, is_tb, is_on, isn_on, is_ob, is_bb, rd_get, tn_non, tn_bl, tn_int, tn_str, tn_tup, kit_NoneType_int, kit_NoneType_bool, kit_NoneType_str, kit_NoneType_tuple, kit_NoneType_list, kit_NoneType_dict, kit_bool_int, kit_bool_bool, kit_bool_str, kit_bool_tuple, kit_bool_list, kit_bool_dict, kit_int_int, kit_int_bool, kit_int_str, kit_int_tuple, kit_int_list, kit_int_dict, kit_str_int, kit_str_bool, kit_str_str, kit_str_tuple, kit_str_list, kit_str_dict, kit_tuple_int, kit_tuple_bool, kit_tuple_str, kit_tuple_tuple, kit_tuple_list, kit_tuple_dict, kit_list_int, kit_list_bool, kit_list_str, kit_list_tuple, kit_list_list, kit_list_dict, kit_dict_int, kit_dict_bool, kit_dict_str, kit_dict_tuple, kit_dict_list, kit_dict_dict,
  startD, wipeD, List.map_cons, List.map_nil, List.length_cons, List.length_nil, List.replicate_succ, List.replicate_zero, List.append_nil, List.cons_append, List.nil_append, List.getElem?_cons_zero, List.getElem?_cons_succ, List.set_cons_zero, List.set_cons_succ,
  Nat.reduceAdd, Nat.reduceSub, Nat.zero_add, Nat.add_zero, Nat.sub_self, Nat.reduceEqDiff, Nat.reduceLT, Int.reduceAdd, Int.reduceSub, Int.reduceNeg, Int.reduceEq, Int.reduceLT, Int.reduceLE, Int.zero_add, Int.add_zero, Int.cast_ofNat_Int, Int.reduceMul, Int.reduceToNat,
  ofs, String.reduceEq, decide_true, decide_false, ati0, ati1, ati2, ati3, ati4, Bool.not_true, Bool.not_false, true_and, and_true, if_true, Bool.false_eq_true, if_false, Option.some.injEq, eq_self_iff_true, BEq.rfl, List.all_cons, List.all_nil, 
  Bool.or_true, Bool.or_false, Bool.false_or, Bool.true_or, Bool.and_self, Bool.and_true, Bool.true_and, Bool.and_false, Bool.false_and, beq_self_eq_true, enc, tn_enc, encS, tn_encS, rd_disp, rd_pn, rd_pc, Bool.true_eq_false, reduceCtorEq, rd_ls])
local macro_rules | `(tactic| walk_at "sq") => `(tactic| (rw [rh_seq]; walk_at "dl"))
local macro_rules | `(tactic| walk_at "all") => `(tactic| (try walk_at "dl"); repeat walk_at "sq")
variable {P : Program} {w : World} {K : PySem.W.Frag} {mg : Str → Option Value} {base : Heap} {T : List (Addr × Str)}
/-! ### reading -/
def spRead (n : Nat) : DSp := fun ds μ q => ∃ d, ds = [d] ∧ isDat d = true ∧ dep d < n ∧ ∀ μ', Ext μ μ' → q d μ'
theorem ok_read_step (M : Fx K mg) (n : Nat) (C__law_read : FnOk P w K mg base CX0 n M.a__law_read M.d__law_read ["told"] (lSp K T 1 (spRead n))) :
    FnOk P w K mg base CX0 (n + 1) M.a__law_read M.d__law_read ["told"] (lSp K T 1 (spRead (n + 1))) :=
  dl_fn (T := T) (k := n) M.F__law_read sc__law_read (fun cdv A outer s H hr => (pdss_cons (pds_if (pbw_pb (pbw_or (pb_cmp or_is sim_is (pd_var 0) pd_non) (pbw_or (pb_cmp or_is sim_is (pd_var 0) pd_bl) (pbw_or1 (pb_cmp or_is sim_is (pd_var 0) pd_bl))))) (pdss_one (pds_ret (pd_var 0))) pdss_nil)
    (pdss_cons (pds_if (pb_val (pd_callB call_isi sim_isi (by rfl) M.z_isinstance (by decide +kernel) (pda_cons (pd_var 0) (pda_cons (pd_ty (n := "int") (by rfl) M.z_int (by decide +kernel)) pda_nil)))) (pdss_one (pds_ret (pd_callTy call_int1 sim_int (by rfl) M.z_int (by decide +kernel) (pda_cons (pd_var 0) pda_nil)))) pdss_nil)
    (pdss_cons (pds_if (pb_val (pd_callB call_isi sim_isi (by rfl) M.z_isinstance (by decide +kernel) (pda_cons (pd_var 0) (pda_cons (pd_ty (n := "str") (by rfl) M.z_str (by decide +kernel)) pda_nil)))) (pdss_one (pds_ret (pd_op or_add sim_add pd_str (pd_var 0)))) pdss_nil)
    (pdss_cons (pds_if (pb_val (pd_callB call_isi sim_isi (by rfl) M.z_isinstance (by decide +kernel) (pda_cons (pd_var 0) (pda_cons (pd_ty (n := "tuple") (by rfl) M.z_tuple (by decide +kernel)) pda_nil)))) (pdss_one (pds_ret (pd_callTy call_tuple_of sim_tupleOf (by rfl) M.z_tuple (by decide +kernel) (pda_cons (pd_lc rfl sc__law_read.nd (pdi_seq (pd_var 0)) (blkOk_by (own := [("part", 1)]) (N := N__law_read) (sc := defScope s__law_read) (by decide +kernel)) (fun _ _ _ _ _ => (pdg_name 1 sc__law_read.nd)) (fun _ _ _ _ _ => pdts_nil) (fun _ _ _ _ _ => (pd_call C__law_read (hr.mono (by omega)) (by rfl) M.m__law_read M.F__law_read.kp M.b__law_read (pda_cons (pd_var 1) pda_nil) rfl))) pda_nil)))) pdss_nil)
    (pdss_one (pds_ret (pd_if (pb_val (pd_callB call_isi sim_isi (by rfl) M.z_isinstance (by decide +kernel) (pda_cons (pd_var 0) (pda_cons (pd_ty (n := "list") (by rfl) M.z_list (by decide +kernel)) pda_nil)))) (pd_lc rfl sc__law_read.nd (pdi_seq (pd_var 0)) (blkOk_by (own := [("part", 1)]) (N := N__law_read) (sc := defScope s__law_read) (by decide +kernel)) (fun _ _ _ _ _ => (pdg_name 1 sc__law_read.nd)) (fun _ _ _ _ _ => pdts_nil) (fun _ _ _ _ _ => (pd_call C__law_read (hr.mono (by omega)) (by rfl) M.m__law_read M.F__law_read.kp M.b__law_read (pda_cons (pd_var 1) pda_nil) rfl))) pd_str)))))))) (fun ds μ q hl h => by
    clear hl C__law_read
    obtain ⟨d, rfl, h1, h2, h⟩ := h
    have h0 := h μ (Ext.refl μ)
    cases d with
    | non =>
      walk_at "all"
      exact h0
    | bl k =>
      cases k
      · walk_at "all"
        exact h0
      · walk_at "all"
        exact h0
    | int i =>
      walk_at "all"
      exact h0
    | str x =>
      walk_at "all"
      refine ⟨?_, ?_⟩
      · have : x.length ≤ 1000 := of_decide_eq_true h1
        have z : (Str.ofString "").length + 1000 ≤ sizeLine := by decide
        omega
      · rw [str_nil_app]
        exact h0
    | tup ds =>
      walk_at "all"
      have h1' : (decide (ds.length ≤ 100000) && isDatL ds) = true := h1
      rw [Bool.and_eq_true] at h1'
      have hlen : ds.length ≤ 100000 := of_decide_eq_true h1'.1
      have z : 100000 ≤ sizeLine := by decide
      refine lc_map ds id id (List.map_id ds).symm (fun _ _ => trivial) (by omega) (fun y hy μ2 q' e2 h => ?_) fun μ2 e2 hq => ?_
      · walk_at "all"
        have hd : dep y ≤ depL ds := depL_mem hy
        have : dep (.tup ds) = depL ds + 1 := rfl
        exact ⟨y, rfl, isDatL_mem h1'.2 hy, by omega, h⟩
      · rw [List.map_id] at hq
        walk_at "all"
        rw [rh_tupL hq]
        exact h _ e2
    | _ => cases h1)
theorem ok_read (M : Fx K mg) : ∀ n : Nat, FnOk P w K mg base CX0 n M.a__law_read M.d__law_read ["told"] (lSp K T 1 (spRead n))
  | 0 => fn_none fun _ _ _ h => by
    obtain ⟨d, _, _, h, _⟩ := h
    exact absurd h (by omega)
  | n + 1 => ok_read_step M n (ok_read M n)
end K64

set_option Elab.async false
set_option linter.all false
set_option maxRecDepth 100000
set_option maxHeartbeats 4000000
namespace K64
open PySem PySem.Spec PyProof.Rows L2 LamX DL
local macro_rules | `(tactic| walk_at "dl") => `(tactic| simp only [rd_var, rd_C, rd_bin, rd_un, rd_nil, rd_cons, rd_L, rd_test, rd_and, rd_or, rd_not, rd_if, rd_band, rd_bor, rd_bnot, rd_chain, rd_call, rd_mt, rd_dnew, rd_nopart, rd_part, rd_sl, rd_lc, rd_itseq, rd_itA, rd_itzip, rd_itkeys, rd_told, rd_yes, rs_ret, rs_retN, rs_exp, rs_skip, rs_brk, rs_cnt, rs_never, rs_ifs, rs_asg, rs_par, rs_for, rg_N, rg_Nl, rg_Cn, rg_Tp, rg_Sb, ro_tup, ro_lst, ro_addI, ro_addS, ro_addT, ro_sub, ro_mulI, ro_lt, ro_le, ro_gt, ro_ge, ro_eqI, ro_eqB, ro_eqS, ro_neI, ro_neB, ro_neS, ro_inT, ro_ninT, ro_neg, ro_lenT, ro_lenS, ro_abs, ro_intI, ro_intB, ro_isi, ro_tupT, ro_lstT, ro_max2, ro_min2, ro_ixT, ro_fdiv, ro_mod, ro_rng1, ro_rng2, ro_rng3, ro_beqS, in_nil, in_cons, eqd_s, eqd_i, fl_s, fl_i, fl_b, fl_n, bA_t, bA_f, bO_t, bO_f, bE_t, bE_f, bBA_t, bBA_f, bBO_t, bBO_f, bC_t, bC_f, bS_t, bS_f, dT_b, pT_i, ro_slT, ro_seqT, is_nn, isn_nn, is_nb, is_bn, isn_bn, is_in, isn_in, is_ib, is_sn, isn_sn, is_sb, is_tn, isn_tn, is_tb, is_on, isn_on, is_ob, is_bb, rd_get, tn_non, tn_bl, tn_int, tn_str, tn_tup, kit_NoneType_int, kit_NoneType_bool, kit_NoneType_str, kit_NoneType_tuple, kit_NoneType_list, kit_NoneType_dict, kit_bool_int, kit_bool_bool, kit_bool_str, kit_bool_tuple, kit_bool_list, kit_bool_dict, kit_int_int, kit_int_bool, kit_int_str, kit_int_tuple, kit_int_list, kit_int_dict, kit_str_int, kit_str_bool, kit_str_str, kit_str_tuple, kit_str_list, kit_str_dict, kit_tuple_int, kit_tuple_bool, kit_tuple_str, kit_tuple_tuple, kit_tuple_list, kit_tuple_dict, kit_list_int, kit_list_bool, kit_list_str, kit_list_tuple, kit_list_list, kit_list_dict, kit_dict_int, kit_dict_bool, kit_dict_str, kit_dict_tuple, kit_dict_list, kit_dict_dict,
  startD, wipeD, List.map_cons, List.map_nil, List.length_cons, List.length_nil, List.replicate_succ, List.replicate_zero, List.append_nil, List.cons_append, List.nil_append, List.getElem?_cons_zero, List.getElem?_cons_succ, List.set_cons_zero, List.set_cons_succ,
  Nat.reduceAdd, Nat.reduceSub, Nat.zero_add, Nat.add_zero, Nat.sub_self, Nat.reduceEqDiff, Nat.reduceLT, Int.reduceAdd, Int.reduceSub, Int.reduceNeg, Int.reduceEq, Int.reduceLT, Int.reduceLE, Int.zero_add, Int.add_zero, Int.cast_ofNat_Int, Int.reduceMul, Int.reduceToNat,
  ofs, String.reduceEq, decide_true, decide_false, ati0, ati1, ati2, ati3, ati4, Bool.not_true, Bool.not_false, true_and, and_true, if_true, Bool.false_eq_true, if_false, Option.some.injEq, eq_self_iff_true, BEq.rfl, List.all_cons, List.all_nil, 
  Bool.or_true, Bool.or_false, Bool.false_or, Bool.true_or, Bool.and_self, Bool.and_true, Bool.true_and, Bool.and_false, Bool.false_and, beq_self_eq_true, enc, tn_enc, encS, tn_encS, rd_disp, rd_pn, rd_pc, Bool.true_eq_false, reduceCtorEq, rd_ls])
local macro_rules | `(tactic| walk_at "sq") => `(tactic| (rw [rh_seq]; walk_at "dl"))
local macro_rules | `(tactic| walk_at "all") => `(tactic| (try walk_at "dl"); repeat walk_at "sq")
variable {P : Program} {w : World} {K : PySem.W.Frag} {mg : Str → Option Value} {base : Heap} {T : List (Addr × Str)}
/-! ### truths -/
theorem let_len (us vs : List Int) : (us.map D.int ++ vs.map D.int) = (us ++ vs).map D.int := (List.map_append).symm
/-- found, after k rounds -/
noncomputable def gs (us vs : List Int) (p r : Fm) : Nat → Nat → Bool
  | 0, i => sb (lw us vs) r i
  | k + 1, i => ub (sb (lw us vs) p) (sb (lw us vs) r) (gs us vs p r k us.length) (us.length + vs.length) (us.length + vs.length - i)
/-- found, within a round -/
noncomputable def st (us vs : List Int) (p r : Fm) (o k i : Nat) : Bool := if i < us.length + vs.length - k then gs us vs p r o i else gs us vs p r (o + 1) i
theorem ix_of {α : Type} {l : List α} {v : α} {i : Int} (a : Nat) (h : i = a) (e : l[a]? = some v) : atI l i = some v := by subst h; exact atN e
theorem map_range_get {f : Nat → D} {n i : Nat} (h : i < n) : ((List.range n).map f)[i]? = some (f i) := by rw [List.getElem?_map, List.getElem?_range h]; rfl
def spTruths (n : Nat) : DSp := fun ds μ q => ∃ (p : Fm) (us vs : List Int), ds = [enc p, lasD us vs] ∧ p.ht < n ∧ us.length ≤ 200 ∧ 0 < vs.length ∧ vs.length ≤ 200 ∧ ∀ μ' j, Ext μ μ' → μ'[j]? = some (.lst ((tv us vs p).map .bl)) → q (.obj j) μ'
theorem ok_truths_step (M : Fx K mg) (n : Nat) (C_truths : FnOk P w K mg base CX0 n M.a_truths M.d_truths ["formula", "lasso"] (lSp K T 2 (spTruths n))) :
    FnOk P w K mg base CX0 (n + 1) M.a_truths M.d_truths ["formula", "lasso"] (lSp K T 2 (spTruths (n + 1))) :=
  dl_fn (T := T) (k := n) M.F_truths sc_truths (fun cdv A outer s H hr => (pdss_cons (pds_par (i := 8) (j := 9) rfl sc_truths.nd (pd_op or_add sim_add (pd_ix hr (pd_var 1) pd_int) (pd_ix hr (pd_var 1) pd_int)) (pd_callB cr_len sim_len (by rfl) M.z_len (by decide +kernel) (pda_cons (pd_ix hr (pd_var 1) pd_int) pda_nil)))
    (pdss_cons (pds_asg (pd_callB cr_len sim_len (by rfl) M.z_len (by decide +kernel) (pda_cons (pd_var 8) pda_nil)) (pdg_name 2 sc_truths.nd))
    (pdss_cons (pds_asg (pd_ix hr (pd_var 0) pd_int) (pdg_name 3 sc_truths.nd))
    (pdss_cons (pds_if (pb_cmp (or_eq hr) sim_eq (pd_var 3) pd_str) (pdss_one (pds_ret (pd_op or_mul sim_mul (pd_lst (pda_cons pd_bl pda_nil)) (pd_var 2)))) pdss_nil)
    (pdss_cons (pds_if (pb_cmp (or_eq hr) sim_eq (pd_var 3) pd_str) (pdss_one (pds_ret (pd_lc rfl sc_truths.nd (pdi_seq (pd_var 8)) (blkOk_by (own := [("letter", 12)]) (N := N_truths) (sc := defScope s_truths) (by decide +kernel)) (fun _ _ _ _ _ => (pdg_name 12 sc_truths.nd)) (fun _ _ _ _ _ => pdts_nil) (fun _ _ _ _ _ => (pd_cmp (or_eq hr) sim_eq (pd_var 12) (pd_ix hr (pd_var 0) pd_int)))))) pdss_nil)
    (pdss_cons (pds_asg (pd_call C_truths (hr.mono (by omega)) (by rfl) M.m_truths M.F_truths.kp M.b_truths (pda_cons (pd_ix hr (pd_var 0) pd_int) (pda_cons (pd_var 1) pda_nil)) rfl) (pdg_name 4 sc_truths.nd))
    (pdss_cons (pds_if (pb_cmp (or_eq hr) sim_eq (pd_var 3) pd_str) (pdss_one (pds_ret (pd_lc rfl sc_truths.nd (pdi_seq (pd_var 4)) (blkOk_by (own := [("told", 13)]) (N := N_truths) (sc := defScope s_truths) (by decide +kernel)) (fun _ _ _ _ _ => (pdg_name 13 sc_truths.nd)) (fun _ _ _ _ _ => pdts_nil) (fun _ _ _ _ _ => (pd_not (pd_var 13)))))) pdss_nil)
    (pdss_cons (pds_if (pb_cmp (or_eq hr) sim_eq (pd_var 3) pd_str) (pdss_one (pds_ret (pd_op or_add sim_add (pd_slice (pd_var 4) (pdo_some pd_int) pdo_none) (pd_lst (pda_cons (pd_ix hr (pd_var 4) (pd_var 9)) pda_nil))))) pdss_nil)
    (pdss_cons (pds_asg (pd_call C_truths (hr.mono (by omega)) (by rfl) M.m_truths M.F_truths.kp M.b_truths (pda_cons (pd_ix hr (pd_var 0) pd_int) (pda_cons (pd_var 1) pda_nil)) rfl) (pdg_name 5 sc_truths.nd))
    (pdss_cons (pds_if (pb_cmp (or_eq hr) sim_eq (pd_var 3) pd_str) (pdss_one (pds_ret (pd_lc rfl sc_truths.nd (pdi_zip (by rfl) M.z_zip (pda_cons (pd_var 4) (pda_cons (pd_var 5) pda_nil))) (blkOk_by (own := [("one", 14), ("other", 15)]) (N := N_truths) (sc := defScope s_truths) (by decide +kernel)) (fun _ _ _ _ _ => (pdg_tup (n := 2) rfl (pdgs_cons (pdg_name 14 sc_truths.nd) (pdgs_cons (pdg_name 15 sc_truths.nd) pdgs_nil)))) (fun _ _ _ _ _ => pdts_nil) (fun _ _ _ _ _ => (pd_and (pd_var 14) (pd_one (pd_var 15))))))) pdss_nil)
    (pdss_cons (pds_if (pb_cmp (or_eq hr) sim_eq (pd_var 3) pd_str) (pdss_one (pds_ret (pd_lc rfl sc_truths.nd (pdi_zip (by rfl) M.z_zip (pda_cons (pd_var 4) (pda_cons (pd_var 5) pda_nil))) (blkOk_by (own := [("one", 14), ("other", 15)]) (N := N_truths) (sc := defScope s_truths) (by decide +kernel)) (fun _ _ _ _ _ => (pdg_tup (n := 2) rfl (pdgs_cons (pdg_name 14 sc_truths.nd) (pdgs_cons (pdg_name 15 sc_truths.nd) pdgs_nil)))) (fun _ _ _ _ _ => pdts_nil) (fun _ _ _ _ _ => (pd_or (pd_var 14) (pd_one (pd_var 15))))))) pdss_nil)
    (pdss_cons (pds_asg (pd_var 5) (pdg_name 6 sc_truths.nd))
    (pdss_cons (pds_for PassesOwn.never rfl (pdi_rng1 (by rfl) M.z_range (pda_cons pd_int pda_nil)) (pdg_name 7 sc_truths.nd) (pdss_cons (pds_asg (pd_callTy (cr_list rfl) sim_listOf (by rfl) M.z_list (by decide +kernel) (pda_cons (pd_var 6) pda_nil)) (pdg_name 6 sc_truths.nd))
    (pdss_one (pds_for PassesOwn.never rfl (pdi_rng3 (by rfl) M.z_range (pda_cons (pd_op op_sub sim_sub (pd_var 2) pd_int) (pda_cons (pd_neg pd_int) (pda_cons (pd_neg pd_int) pda_nil)))) (pdg_name 10 sc_truths.nd) (pdss_cons (pds_asg (pd_if (pb_cmp op_lt sim_lt (pd_op or_add sim_add (pd_var 10) pd_int) (pd_var 2)) (pd_ix hr (pd_var 6) (pd_op or_add sim_add (pd_var 10) pd_int)) (pd_ix hr (pd_var 6) (pd_var 9))) (pdg_name 11 sc_truths.nd))
    (pdss_one (pds_asg (pd_or (pd_ix hr (pd_var 5) (pd_var 10)) (pd_one (pd_and (pd_ix hr (pd_var 4) (pd_var 10)) (pd_one (pd_var 11))))) (pdg_sub hr (pd_var 6) (pd_var 10)))))))))
    (pdss_one (pds_ret (pd_var 6))))))))))))))))) (fun ds μ q hl h => by
    clear hl C_truths
    obtain ⟨p, us, vs, rfl, h1, h2, h3, h4, h⟩ := h
    have sz : 0 ≤ sizeLine ∧ 1 ≤ sizeLine ∧ 2 ≤ sizeLine ∧ 3 ≤ sizeLine ∧ 500 ≤ sizeLine := by decide
    have hlen : (us ++ vs).length = us.length + vs.length := List.length_append
    have hn : us.length + vs.length ≤ 400 := by omega
    have hsz : us.length + vs.length ≤ sizeLine := by omega
    have hsz' : (us.map D.int).length + (vs.map D.int).length ≤ sizeLine := by rw [List.length_map, List.length_map]; exact hsz
    have hN : (us.map D.int ++ vs.map D.int).length = us.length + vs.length := by rw [List.length_append, List.length_map, List.length_map]
    unfold lasD
    cases p with
    | tru =>
      walk_at "all"
      refine ⟨hsz', ?_⟩
      walk_at "all"
      refine ⟨sz.2.1, ?_⟩
      rw [rh_mulL (get_new μ _), hN]
      refine ⟨⟨by omega, by omega, by show 1 * _ ≤ _; omega⟩, ?_⟩
      refine h _ _ ((Ext.app _ _).trans (Ext.app _ _)) ?_
      rw [get_new]
      refine congrArg (fun l => some (MO.lst l)) ?_
      rw [List.flatten_replicate_singleton]
      refine tv_of (by rw [List.length_replicate]; omega) fun i hi => ?_
      rw [sb_tru, List.getElem?_replicate, if_pos (by omega)]
    | lt a =>
      walk_at "all"
      refine ⟨hsz', ?_⟩
      walk_at "all"
      refine lc_map (us ++ vs) .int (fun x => .bl (decide (x = a))) (let_len us vs) (fun _ _ => trivial) (by rw [hlen]; exact hsz) (fun y hy μ2 q' e2 h => ?_) fun μ2 e2 hq => ?_
      · walk_at "all"
        exact h _ (Ext.refl _)
      · refine h _ _ e2 ?_
        rw [hq]
        refine congrArg (fun l => some (MO.lst l)) (tv_of (by rw [List.length_map, hlen]) fun i hi => ?_)
        rw [List.getElem?_map, List.getElem?_eq_getElem (by omega), sb_lt, lw_get us vs (by omega)]
        rfl
    | no p =>
      simp only [Fm.ht] at h1
      walk_at "all"
      refine ⟨hsz', ?_⟩
      walk_at "all"
      refine ⟨p, us, vs, rfl, by omega, h2, h3, h4, fun μ1 j e1 g1 => ?_⟩
      walk_at "all"
      rw [rh_seqL g1]
      walk_at "all"
      refine lc_map (tv us vs p) .bl (fun x => .bl (!x)) rfl (fun μ' e => seqL (e _ _ g1)) (by rw [tv_len]; exact hsz) (fun y hy μ2 q' e2 h => ?_) fun μ2 e2 hq => ?_
      · walk_at "all"
        exact h _ (Ext.refl _)
      · refine h _ _ (e1.trans e2) ?_
        rw [hq]
        refine congrArg (fun l => some (MO.lst l)) (tv_of (by rw [List.length_map, tv_len]) fun i hi => ?_)
        rw [List.getElem?_map, tv_get us vs p hi, sb_no]
        rfl
    | nx p =>
      simp only [Fm.ht] at h1
      walk_at "all"
      refine ⟨hsz', ?_⟩
      walk_at "all"
      refine ⟨p, us, vs, rfl, by omega, h2, h3, h4, fun μ1 j e1 g1 => ?_⟩
      walk_at "all"
      rw [rh_slL g1]
      walk_at "all"
      have g2 := (Ext.app μ1 [.lst (cutD ((tv us vs p).map D.bl) (some 1) none)]) _ _ g1
      rw [rh_ixL g2 (d := .bl (sb (lw us vs) p us.length)) (atN (by rw [List.length_map]; exact lb_get us vs p (by omega)))]
      walk_at "all"
      refine ⟨sz.2.1, ?_⟩
      rw [rh_addL (Ext.app _ _ _ _ (get_new μ1 _)) (get_new _ _), cut1 _ (by rw [List.length_map, tv_len]; omega)]
      refine ⟨by rw [List.length_drop, List.length_map, tv_len]; show _ + 1 ≤ _; omega, ?_⟩
      refine h _ _ (e1.trans ((Ext.app _ _).trans ((Ext.app _ _).trans (Ext.app _ _)))) ?_
      rw [get_new]
      refine congrArg (fun l => some (MO.lst l)) (tv_of (by rw [List.length_append, List.length_drop, List.length_map, tv_len]; show _ - 1 + 1 = _; omega) fun i hi => ?_)
      rw [sb_nx]
      by_cases hi' : i + 1 < us.length + vs.length
      · rw [List.getElem?_append_left (by rw [List.length_drop, List.length_map, tv_len]; omega), List.getElem?_drop, Nat.add_comm 1 i, lb_get us vs p hi']
      · rw [List.getElem?_append_right (by rw [List.length_drop, List.length_map, tv_len]; omega), List.length_drop, List.length_map, tv_len, show i - (us.length + vs.length - 1) = 0 by omega, show i + 1 = us.length + vs.length by omega, sb_per us vs p (Nat.le_refl _)]
        rfl
    | an p r =>
      simp only [Fm.ht] at h1
      walk_at "all"
      refine ⟨hsz', ?_⟩
      walk_at "all"
      refine ⟨p, us, vs, rfl, by omega, h2, h3, h4, fun μ1 j e1 g1 => ?_⟩
      walk_at "all"
      refine ⟨r, us, vs, rfl, by omega, h2, h3, h4, fun μ2 j2 e2 g2 => ?_⟩
      walk_at "all"
      rw [rh_zip (e2 _ _ g1) g2]
      walk_at "all"
      refine lc_map2 ((tv us vs p).zip (tv us vs r)) (fun x => .bl x.1) (fun x => .bl x.2) (fun x => .bl (x.1 && x.2)) (by rw [List.zip_map, List.map_map]; rfl) (fun μ' e => ⟨seqL (e _ _ (e2 _ _ g1)), seqL (e _ _ g2)⟩) (by rw [List.length_zip, tv_len, tv_len]; omega) (fun y hy μ3 q' e3 h => ?_) fun μ3 e3 hq => ?_
      · obtain ⟨y1, y2⟩ := y
        cases y1
        · walk_at "all"
          exact h _ (Ext.refl _)
        · walk_at "all"
          have := h _ (Ext.refl _)
          rwa [show (true && y2) = y2 from Bool.true_and y2] at this
      · refine h _ _ (e1.trans (e2.trans e3)) ?_
        rw [hq]
        refine congrArg (fun l => some (MO.lst l)) (tv_of (by rw [List.length_map, List.length_zip, tv_len, tv_len]; omega) fun i hi => ?_)
        rw [List.getElem?_map, show ((tv us vs p).zip (tv us vs r))[i]? = some (sb (lw us vs) p i, sb (lw us vs) r i) from List.getElem?_zip_eq_some.mpr ⟨tv_get us vs p hi, tv_get us vs r hi⟩, sb_an]
        rfl
    | orr p r =>
      simp only [Fm.ht] at h1
      walk_at "all"
      refine ⟨hsz', ?_⟩
      walk_at "all"
      refine ⟨p, us, vs, rfl, by omega, h2, h3, h4, fun μ1 j e1 g1 => ?_⟩
      walk_at "all"
      refine ⟨r, us, vs, rfl, by omega, h2, h3, h4, fun μ2 j2 e2 g2 => ?_⟩
      walk_at "all"
      rw [rh_zip (e2 _ _ g1) g2]
      walk_at "all"
      refine lc_map2 ((tv us vs p).zip (tv us vs r)) (fun x => .bl x.1) (fun x => .bl x.2) (fun x => .bl (x.1 || x.2)) (by rw [List.zip_map, List.map_map]; rfl) (fun μ' e => ⟨seqL (e _ _ (e2 _ _ g1)), seqL (e _ _ g2)⟩) (by rw [List.length_zip, tv_len, tv_len]; omega) (fun y hy μ3 q' e3 h => ?_) fun μ3 e3 hq => ?_
      · obtain ⟨y1, y2⟩ := y
        cases y1
        · walk_at "all"
          have := h _ (Ext.refl _)
          rwa [show (false || y2) = y2 from Bool.false_or y2] at this
        · walk_at "all"
          exact h _ (Ext.refl _)
      · refine h _ _ (e1.trans (e2.trans e3)) ?_
        rw [hq]
        refine congrArg (fun l => some (MO.lst l)) (tv_of (by rw [List.length_map, List.length_zip, tv_len, tv_len]; omega) fun i hi => ?_)
        rw [List.getElem?_map, show ((tv us vs p).zip (tv us vs r))[i]? = some (sb (lw us vs) p i, sb (lw us vs) r i) from List.getElem?_zip_eq_some.mpr ⟨tv_get us vs p hi, tv_get us vs r hi⟩, sb_orr]
        rfl
    | un p r =>
      simp only [Fm.ht] at h1
      walk_at "all"
      refine ⟨hsz', ?_⟩
      walk_at "all"
      refine ⟨p, us, vs, rfl, by omega, h2, h3, h4, fun μ1 j e1 g1 => ?_⟩
      walk_at "all"
      refine ⟨r, us, vs, rfl, by omega, h2, h3, h4, fun μ2 j2 e2 g2 => ?_⟩
      walk_at "all"
      simp only [hN, List.length_map]
      refine ⟨by decide, ?_⟩
      rw [rg01]
      refine for_inv (List.range 2) (fun (i : Nat) => .int (i : Int)) (fun k ρ' μ' => Ext μ2 μ' ∧ ∃ J a b c, μ'[J]? = some (.lst ((List.range (us.length + vs.length)).map fun i => .bl (gs us vs p r k i))) ∧
        ρ' = [some (enc (.un p r)), some (lasD us vs), some (.int ((us.length + vs.length : Nat) : Int)), some (.str "until"), some (.obj j), some (.obj j2), some (.obj J), a, some (.tup (us.map .int ++ vs.map .int)), some (.int (us.length : Int)), b, c, none, none, none, none]) rfl
        ⟨Ext.refl _, j2, none, none, none, ?_, rfl⟩ (fun _ _ _ _ => trivial) (fun o x hx ρ' μ3 N hI hN' => ?_) fun ρ' μ3 hI => ?_
      · rw [g2, tv, List.map_map]
        rfl
      · obtain ⟨e3, J, a, b, c, g3, rfl⟩ := hI
        unfold lasD
        walk_at "all"
        rw [rh_lstL g3]
        walk_at "all"
        refine ⟨⟨by omega, by omega, by decide, by decide⟩, ?_⟩
        have gJ : (μ3 ++ [MO.lst ((List.range (us.length + vs.length)).map fun i => .bl (gs us vs p r o i))])[μ3.length]? = some (.lst ((List.range (us.length + vs.length)).map fun i => .bl (gs us vs p r o i))) := get_new _ _
        refine for_inv (List.range (us.length + vs.length)) (fun (i : Nat) => .int (((us.length + vs.length : Nat) : Int) - 1 - i)) (fun k ρ' μ' => Ext μ3 μ' ∧ μ'[μ3.length]? = some (.lst ((List.range (us.length + vs.length)).map fun i => .bl (st us vs p r o k i))) ∧ ∃ a b c,
          ρ' = [some (enc (.un p r)), some (lasD us vs), some (.int ((us.length + vs.length : Nat) : Int)), some (.str "until"), some (.obj j), some (.obj j2), some (.obj μ3.length), a, some (.tup (us.map .int ++ vs.map .int)), some (.int (us.length : Int)), b, c, none, none, none, none]) ?_
          ⟨Ext.app _ _, ?_, _, _, _, rfl⟩ (fun _ _ _ _ => trivial) (fun k x hx ρ' μ4 N2 hI hN2 => ?_) fun ρ' μ4 hI => ?_
        · unfold rgD
          rw [show (((us.length + vs.length : Nat) : Int) - 1 - -1).toNat = us.length + vs.length by omega]
          refine List.map_congr_left fun i _ => congrArg D.int ?_
          omega
        · rw [gJ]
          refine congrArg (fun l => some (MO.lst l)) (List.map_congr_left fun i hi => ?_)
          have := List.mem_range.mp hi
          unfold st
          rw [if_pos (by omega)]
        · obtain ⟨e4, g4, a', b', c', rfl⟩ := hI
          have hk : k < us.length + vs.length ∧ x = k := by
            have h1 := (List.getElem?_eq_some_iff.mp hx).1
            rw [List.length_range] at h1
            rw [List.getElem?_range h1] at hx
            cases hx
            exact ⟨h1, rfl⟩
          obtain ⟨hk, rfl⟩ := hk
          have hst : ∀ i, i < us.length + vs.length → ((List.range (us.length + vs.length)).map fun i => D.bl (st us vs p r o x i))[i]? = some (.bl (st us vs p r o x i)) := fun i hi => map_range_get hi
          have a1 : ∀ i : Int, i = ((us.length + vs.length - 1 - x : Nat) : Int) → atI ((tv us vs p).map D.bl) i = some (.bl (sb (lw us vs) p (us.length + vs.length - 1 - x))) := fun i e => ix_of _ e (lb_get us vs p (by omega))
          have a2 : ∀ i : Int, i = ((us.length + vs.length - 1 - x : Nat) : Int) → atI ((tv us vs r).map D.bl) i = some (.bl (sb (lw us vs) r (us.length + vs.length - 1 - x))) := fun i e => ix_of _ e (lb_get us vs r (by omega))
          have G1 := e4 _ _ (e3 _ _ (e2 _ _ g1))
          have G2 := e4 _ _ (e3 _ _ g2)
          have hlt : μ3.length < μ4.length := (List.getElem?_eq_some_iff.mp g4).1
          have V : ub (sb (lw us vs) p) (sb (lw us vs) r) (gs us vs p r o us.length) (us.length + vs.length) (x + 1) = (sb (lw us vs) r (us.length + vs.length - 1 - x) || (sb (lw us vs) p (us.length + vs.length - 1 - x) && ub (sb (lw us vs) p) (sb (lw us vs) r) (gs us vs p r o us.length) (us.length + vs.length) x)) := by
            show (_ || (_ && _)) = _
            rw [show us.length + vs.length - (x + 1) = us.length + vs.length - 1 - x by omega]
          have fin : ∀ (aa bb : Option D) (v : Bool), v = ub (sb (lw us vs) p) (sb (lw us vs) r) (gs us vs p r o us.length) (us.length + vs.length) (x + 1) → opSet (.obj μ3.length) (.int (((us.length + vs.length : Nat) : Int) - 1 - x)) (.bl v) μ4 (fun μ5 => N2 [some (enc (.un p r)), some (lasD us vs), some (.int ((us.length + vs.length : Nat) : Int)), some (.str "until"), some (.obj j), some (.obj j2), some (.obj μ3.length), aa, some (.tup (us.map .int ++ vs.map .int)), some (.int (us.length : Int)), some (.int (((us.length + vs.length : Nat) : Int) - 1 - x)), bb, none, none, none, none] μ5) := fun aa bb v hv => by
            rw [rh_setL g4 (ixN_of (by omega) (by rw [List.length_map, List.length_range]; omega))]
            refine hN2 _ _ ⟨e4.set (Nat.le_refl _) _, ?_, _, _, _, rfl⟩
            rw [List.getElem?_set_self hlt]
            refine congrArg (fun l => some (MO.lst l)) (List.ext_getElem? fun i => ?_)
            rw [show (((us.length + vs.length : Nat) : Int) - 1 - (x : Int)).toNat = us.length + vs.length - 1 - x by omega]
            by_cases hi : i < us.length + vs.length
            · rw [map_range_get hi]
              by_cases hix : us.length + vs.length - 1 - x = i
              · rw [← hix, List.getElem?_set_self (by rw [List.length_map, List.length_range]; omega), hv]
                refine congrArg (fun b => some (D.bl b)) ?_
                unfold st
                rw [if_neg (by omega)]
                show _ = ub _ _ _ _ _
                rw [show us.length + vs.length - (us.length + vs.length - 1 - x) = x + 1 by omega]
              · rw [List.getElem?_set_ne hix, map_range_get hi]
                refine congrArg (fun b => some (D.bl b)) ?_
                unfold st
                by_cases h' : i < us.length + vs.length - x
                · rw [if_pos h', if_pos (by omega)]
                · rw [if_neg h', if_neg (by omega)]
            · rw [List.getElem?_eq_none (by rw [List.length_set, List.length_map, List.length_range]; omega), List.getElem?_eq_none (by rw [List.length_map, List.length_range]; omega)]
          unfold lasD at fin ⊢
          walk_at "all"
          by_cases hx0 : x = 0
          · simp only [show ¬ (((us.length + vs.length : Nat) : Int) - 1 - (x : Int) + 1 < ((us.length + vs.length : Nat) : Int)) by omega, decide_false]
            walk_at "all"
            rw [rh_ixL g4 (d := .bl (ub (sb (lw us vs) p) (sb (lw us vs) r) (gs us vs p r o us.length) (us.length + vs.length) x)) (ix_of us.length rfl (by
              rw [hst _ (by omega)]
              refine congrArg (fun b => some (D.bl b)) ?_
              unfold st
              rw [if_pos (by omega), hx0]
              rfl))]
            walk_at "all"
            rw [rh_ixL G2 (a2 _ (by omega))]
            walk_at "all"
            cases hG : sb (lw us vs) r (us.length + vs.length - 1 - x) with
            | true =>
              walk_at "all"
              exact fin _ _ _ (by rw [V, hG]; rfl)
            | false =>
              walk_at "all"
              rw [rh_ixL G1 (a1 _ (by omega))]
              walk_at "all"
              cases hF : sb (lw us vs) p (us.length + vs.length - 1 - x) with
              | false =>
                walk_at "all"
                exact fin _ _ _ (by rw [V, hG, hF]; rfl)
              | true =>
                walk_at "all"
                exact fin _ _ _ (by rw [V, hG, hF, Bool.true_and, Bool.false_or])
          · simp only [show (((us.length + vs.length : Nat) : Int) - 1 - (x : Int) + 1 < ((us.length + vs.length : Nat) : Int)) by omega, decide_true]
            walk_at "all"
            rw [rh_ixL g4 (d := .bl (ub (sb (lw us vs) p) (sb (lw us vs) r) (gs us vs p r o us.length) (us.length + vs.length) x)) (ix_of (us.length + vs.length - x) (by omega) (by
              rw [hst _ (by omega)]
              refine congrArg (fun b => some (D.bl b)) ?_
              unfold st
              rw [if_neg (by omega)]
              show ub _ _ _ _ _ = _
              rw [show us.length + vs.length - (us.length + vs.length - x) = x by omega]))]
            walk_at "all"
            rw [rh_ixL G2 (a2 _ (by omega))]
            walk_at "all"
            cases hG : sb (lw us vs) r (us.length + vs.length - 1 - x) with
            | true =>
              walk_at "all"
              exact fin _ _ _ (by rw [V, hG]; rfl)
            | false =>
              walk_at "all"
              rw [rh_ixL G1 (a1 _ (by omega))]
              walk_at "all"
              cases hF : sb (lw us vs) p (us.length + vs.length - 1 - x) with
              | false =>
                walk_at "all"
                exact fin _ _ _ (by rw [V, hG, hF]; rfl)
              | true =>
                walk_at "all"
                exact fin _ _ _ (by rw [V, hG, hF, Bool.true_and, Bool.false_or])
        · obtain ⟨e4, g4, a', b', c', rfl⟩ := hI
          refine hN' _ _ ⟨e3.trans e4, _, _, _, _, ?_, rfl⟩
          rw [g4]
          refine congrArg (fun l => some (MO.lst l)) (List.map_congr_left fun i hi => ?_)
          have := List.mem_range.mp hi
          unfold st
          rw [List.length_range, if_neg (by omega)]
      · obtain ⟨e3, J, a, b, c, g3, rfl⟩ := hI
        unfold lasD
        walk_at "all"
        refine h _ _ (e1.trans (e2.trans e3)) ?_
        rw [g3]
        refine congrArg (fun l => some (MO.lst l)) (tv_of (by rw [List.length_map, List.length_range]) fun i hi => ?_)
        rw [map_range_get hi, ← ub_two us vs p r h3 (by omega)]
        refine congrArg (fun b => some (D.bl b)) ?_
        show ub _ _ (ub _ _ _ _ (us.length + vs.length - us.length)) _ _ = _
        rw [show us.length + vs.length - us.length = vs.length by omega]
        rfl)
theorem ok_truths (M : Fx K mg) : ∀ n : Nat, FnOk P w K mg base CX0 n M.a_truths M.d_truths ["formula", "lasso"] (lSp K T 2 (spTruths n))
  | 0 => fn_none fun _ _ _ h => by
    obtain ⟨p, us, vs, _, h, _⟩ := h
    exact absurd h (by omega)
  | n + 1 => ok_truths_step M n (ok_truths M n)
end K64

set_option Elab.async false
set_option linter.all false
set_option maxRecDepth 100000
set_option maxHeartbeats 4000000
namespace K64
open PySem PySem.Spec PyProof.Rows L2 LamX DL
local macro_rules | `(tactic| walk_at "dl") => `(tactic| simp only [rd_var, rd_C, rd_bin, rd_un, rd_nil, rd_cons, rd_L, rd_test, rd_and, rd_or, rd_not, rd_if, rd_band, rd_bor, rd_bnot, rd_chain, rd_call, rd_mt, rd_dnew, rd_nopart, rd_part, rd_sl, rd_lc, rd_itseq, rd_itA, rd_itzip, rd_itkeys, rd_told, rd_yes, rs_ret, rs_retN, rs_exp, rs_skip, rs_brk, rs_cnt, rs_never, rs_ifs, rs_asg, rs_par, rs_for, rg_N, rg_Nl, rg_Cn, rg_Tp, rg_Sb, ro_tup, ro_lst, ro_addI, ro_addS, ro_addT, ro_sub, ro_mulI, ro_lt, ro_le, ro_gt, ro_ge, ro_eqI, ro_eqB, ro_eqS, ro_neI, ro_neB, ro_neS, ro_inT, ro_ninT, ro_neg, ro_lenT, ro_lenS, ro_abs, ro_intI, ro_intB, ro_isi, ro_tupT, ro_lstT, ro_max2, ro_min2, ro_ixT, ro_fdiv, ro_mod, ro_rng1, ro_rng2, ro_rng3, ro_beqS, in_nil, in_cons, eqd_s, eqd_i, fl_s, fl_i, fl_b, fl_n, bA_t, bA_f, bO_t, bO_f, bE_t, bE_f, bBA_t, bBA_f, bBO_t, bBO_f, bC_t, bC_f, bS_t, bS_f, dT_b, pT_i, ro_slT, ro_seqT, is_nn, isn_nn, is_nb, is_bn, isn_bn, is_in, isn_in, is_ib, is_sn, isn_sn, is_sb, is_tn, isn_tn, is_tb, is_on, isn_on, is_ob, is_bb, rd_get, tn_non, tn_bl, tn_int, tn_str, tn_tup, kit_NoneType_int, kit_NoneType_bool, kit_NoneType_str, kit_NoneType_tuple, kit_NoneType_list, kit_NoneType_dict, kit_bool_int, kit_bool_bool, kit_bool_str, kit_bool_tuple, kit_bool_list, kit_bool_dict, kit_int_int, kit_int_bool, kit_int_str, kit_int_tuple, kit_int_list, kit_int_dict, kit_str_int, kit_str_bool, kit_str_str, kit_str_tuple, kit_str_list, kit_str_dict, kit_tuple_int, kit_tuple_bool, kit_tuple_str, kit_tuple_tuple, kit_tuple_list, kit_tuple_dict, kit_list_int, kit_list_bool, kit_list_str, kit_list_tuple, kit_list_list, kit_list_dict, kit_dict_int, kit_dict_bool, kit_dict_str, kit_dict_tuple, kit_dict_list, kit_dict_dict,
  startD, wipeD, List.map_cons, List.map_nil, List.length_cons, List.length_nil, List.replicate_succ, List.replicate_zero, List.append_nil, List.cons_append, List.nil_append, List.getElem?_cons_zero, List.getElem?_cons_succ, List.set_cons_zero, List.set_cons_succ,
  Nat.reduceAdd, Nat.reduceSub, Nat.zero_add, Nat.add_zero, Nat.sub_self, Nat.reduceEqDiff, Nat.reduceLT, Int.reduceAdd, Int.reduceSub, Int.reduceNeg, Int.reduceEq, Int.reduceLT, Int.reduceLE, Int.zero_add, Int.add_zero, Int.cast_ofNat_Int, Int.reduceMul, Int.reduceToNat,
  ofs, String.reduceEq, decide_true, decide_false, ati0, ati1, ati2, ati3, ati4, Bool.not_true, Bool.not_false, true_and, and_true, if_true, Bool.false_eq_true, if_false, Option.some.injEq, eq_self_iff_true, BEq.rfl, List.all_cons, List.all_nil, 
  Bool.or_true, Bool.or_false, Bool.false_or, Bool.true_or, Bool.and_self, Bool.and_true, Bool.true_and, Bool.and_false, Bool.false_and, beq_self_eq_true, enc, tn_enc, encS, tn_encS, rd_disp, rd_pn, rd_pc, Bool.true_eq_false, reduceCtorEq, rd_ls])
local macro_rules | `(tactic| walk_at "sq") => `(tactic| (rw [rh_seq]; walk_at "dl"))
local macro_rules | `(tactic| walk_at "all") => `(tactic| (try walk_at "dl"); repeat walk_at "sq")
variable {P : Program} {w : World} {K : PySem.W.Frag} {mg : Str → Option Value} {base : Heap} {T : List (Addr × Str)}
def spIsSo (n : Nat) : DSp := fun ds μ q => ∃ (p : Fm) (k : Int) (us vs : List Int), ds = [enc p, .int k, lasD us vs] ∧ 1 ≤ k ∧ k ≤ 4 ∧ p.ht < n ∧ p.ht ≤ 200 ∧ p.ok k ∧ p.size ≤ 20000 ∧ inLet k us ∧ inLet k vs ∧ us.length ≤ 200 ∧ 0 < vs.length ∧ vs.length ≤ 200 ∧ ∀ μ', Ext μ μ' → q (.bl (sb (lw us vs) p 0)) μ'
theorem ok_is_so (M : Fx K mg) (n : Nat) : FnOk P w K mg base CX0 (n + 4) M.a_is_so M.d_is_so ["formula", "k", "lasso"] (lSp K T 3 (spIsSo n)) :=
  have C_is_letters := ok_is_letters (P := P) (w := w) (base := base) (T := T) M
  have C_check_letters := ok_check_letters (P := P) (w := w) (base := base) (T := T) M
  have C_check_formula := ok_check_formula (P := P) (w := w) (base := base) (T := T) M n
  have C_check_lasso := ok_check_lasso (P := P) (w := w) (base := base) (T := T) M
  have C_truths := ok_truths (P := P) (w := w) (base := base) (T := T) M n
  dl_fn (T := T) (k := n + 3) M.F_is_so sc_is_so (fun cdv A outer s H hr => (pdss_cons (pds_expr (pd_call C_check_formula (hr.mono (by omega)) (by rfl) M.m_check_formula M.F_check_formula.kp M.b_check_formula (pda_cons (pd_var 0) (pda_cons (pd_if (pb_val (pd_call C_is_letters (hr.mono (by omega)) (by rfl) M.m_is_letters M.F_is_letters.kp M.b_is_letters (pda_cons (pd_var 1) pda_nil) rfl)) (pd_var 1) (pd_globI (by rfl) M.c_MOST_LETTERS)) (pda_cons (pd_globI (by rfl) M.c_MOST_SO) pda_nil))) rfl))
    (pdss_cons (pds_expr (pd_call C_check_letters (hr.mono (by omega)) (by rfl) M.m_check_letters M.F_check_letters.kp M.b_check_letters (pda_cons (pd_var 1) pda_nil) rfl))
    (pdss_cons (pds_expr (pd_call C_check_lasso (hr.mono (by omega)) (by rfl) M.m_check_lasso M.F_check_lasso.kp M.b_check_lasso (pda_cons (pd_var 2) (pda_cons (pd_var 1) pda_nil)) rfl))
    (pdss_one (pds_ret (pd_ix hr (pd_call C_truths (hr.mono (by omega)) (by rfl) M.m_truths M.F_truths.kp M.b_truths (pda_cons (pd_var 0) (pda_cons (pd_var 2) pda_nil)) rfl) pd_int))))))) (fun ds μ q hl h => by
    clear C_is_letters C_check_letters C_check_formula C_check_lasso C_truths hl
    obtain ⟨p, k, us, vs, rfl, h1, h2, h3, h4, h5, h6, h7, h8, h9, h10, h11, h⟩ := h
    walk_at "all"
    refine ⟨k, rfl, ?_⟩
    rw [decide_eq_true (show 1 ≤ k ∧ k ≤ 4 from ⟨h1, h2⟩)]
    walk_at "all"
    refine ⟨p, k, 20000, rfl, h3, h4, h5, h6, ?_⟩
    walk_at "all"
    refine ⟨k, rfl, h1, h2, ?_⟩
    walk_at "all"
    refine ⟨us, vs, k, rfl, h7, h8, h9, h10, h11, fun μ1 e1 => ?_⟩
    walk_at "all"
    refine ⟨p, us, vs, rfl, h3, h9, h10, h11, fun μ2 j e2 g2 => ?_⟩
    walk_at "all"
    rw [rh_ixL g2 (d := .bl (sb (lw us vs) p 0)) (ix_of (i := 0) 0 rfl (lb_get us vs p (by omega)))]
    exact h _ (e1.trans e2))

/-! ### the law's own truth -/
def spTruth (n : Nat) : DSp := fun ds μ q => ∃ (p : Fm) (us vs : List Int), ds = [enc p, .tup ((us ++ vs).map .int), .int (us.length : Int)] ∧ p.ht < n ∧ us.length ≤ 200 ∧ 0 < vs.length ∧ vs.length ≤ 200 ∧ ∀ μ' j, Ext μ μ' → μ'[j]? = some (.lst ((tv us vs p).map .bl)) → q (.obj j) μ'
theorem ok_truth_step (M : Fx K mg) (n : Nat) (C__law_truth : FnOk P w K mg base CX0 n M.a__law_truth M.d__law_truth ["p", "word", "back"] (lSp K T 3 (spTruth n))) :
    FnOk P w K mg base CX0 (n + 1) M.a__law_truth M.d__law_truth ["p", "word", "back"] (lSp K T 3 (spTruth (n + 1))) :=
  dl_fn (T := T) (k := n) M.F__law_truth sc__law_truth (fun cdv A outer s H hr => (pdss_cons (pds_asg (pd_callB cr_len sim_len (by rfl) M.z_len (by decide +kernel) (pda_cons (pd_var 1) pda_nil)) (pdg_name 3 sc__law_truth.nd))
    (pdss_cons (pds_asg (pd_lc rfl sc__law_truth.nd (pdi_rng1 (by rfl) M.z_range (pda_cons (pd_var 3) pda_nil)) (blkOk_by (own := [("i", 9)]) (N := N__law_truth) (sc := defScope s__law_truth) (by decide +kernel)) (fun _ _ _ _ _ => (pdg_name 9 sc__law_truth.nd)) (fun _ _ _ _ _ => pdts_nil) (fun _ _ _ _ _ => (pd_if (pb_cmp op_lt sim_lt (pd_op or_add sim_add (pd_var 9) pd_int) (pd_var 3)) (pd_op or_add sim_add (pd_var 9) pd_int) (pd_var 2)))) (pdg_name 4 sc__law_truth.nd))
    (pdss_cons (pds_if (pb_cmp (or_eq hr) sim_eq (pd_ix hr (pd_var 0) pd_int) pd_str) (pdss_one (pds_ret (pd_lc rfl sc__law_truth.nd (pdi_seq (pd_var 1)) (blkOk_by (own := [("a", 10)]) (N := N__law_truth) (sc := defScope s__law_truth) (by decide +kernel)) (fun _ _ _ _ _ => (pdg_name 10 sc__law_truth.nd)) (fun _ _ _ _ _ => pdts_nil) (fun _ _ _ _ _ => (pd_cmp (or_eq hr) sim_eq (pd_var 10) (pd_ix hr (pd_var 0) pd_int)))))) pdss_nil)
    (pdss_cons (pds_if (pb_cmp (or_eq hr) sim_eq (pd_ix hr (pd_var 0) pd_int) pd_str) (pdss_one (pds_ret (pd_op or_mul sim_mul (pd_lst (pda_cons pd_bl pda_nil)) (pd_var 3)))) pdss_nil)
    (pdss_cons (pds_asg (pd_call C__law_truth (hr.mono (by omega)) (by rfl) M.m__law_truth M.F__law_truth.kp M.b__law_truth (pda_cons (pd_ix hr (pd_var 0) pd_int) (pda_cons (pd_var 1) (pda_cons (pd_var 2) pda_nil))) rfl) (pdg_name 5 sc__law_truth.nd))
    (pdss_cons (pds_if (pb_cmp (or_eq hr) sim_eq (pd_ix hr (pd_var 0) pd_int) pd_str) (pdss_one (pds_ret (pd_lc rfl sc__law_truth.nd (pdi_seq (pd_var 5)) (blkOk_by (own := [("one", 11)]) (N := N__law_truth) (sc := defScope s__law_truth) (by decide +kernel)) (fun _ _ _ _ _ => (pdg_name 11 sc__law_truth.nd)) (fun _ _ _ _ _ => pdts_nil) (fun _ _ _ _ _ => (pd_not (pd_var 11)))))) pdss_nil)
    (pdss_cons (pds_if (pb_cmp (or_eq hr) sim_eq (pd_ix hr (pd_var 0) pd_int) pd_str) (pdss_one (pds_ret (pd_lc rfl sc__law_truth.nd (pdi_rng1 (by rfl) M.z_range (pda_cons (pd_var 3) pda_nil)) (blkOk_by (own := [("i", 9)]) (N := N__law_truth) (sc := defScope s__law_truth) (by decide +kernel)) (fun _ _ _ _ _ => (pdg_name 9 sc__law_truth.nd)) (fun _ _ _ _ _ => pdts_nil) (fun _ _ _ _ _ => (pd_ix hr (pd_var 5) (pd_ix hr (pd_var 4) (pd_var 9))))))) pdss_nil)
    (pdss_cons (pds_asg (pd_call C__law_truth (hr.mono (by omega)) (by rfl) M.m__law_truth M.F__law_truth.kp M.b__law_truth (pda_cons (pd_ix hr (pd_var 0) pd_int) (pda_cons (pd_var 1) (pda_cons (pd_var 2) pda_nil))) rfl) (pdg_name 6 sc__law_truth.nd))
    (pdss_cons (pds_if (pb_cmp (or_eq hr) sim_eq (pd_ix hr (pd_var 0) pd_int) pd_str) (pdss_one (pds_ret (pd_lc rfl sc__law_truth.nd (pdi_rng1 (by rfl) M.z_range (pda_cons (pd_var 3) pda_nil)) (blkOk_by (own := [("i", 9)]) (N := N__law_truth) (sc := defScope s__law_truth) (by decide +kernel)) (fun _ _ _ _ _ => (pdg_name 9 sc__law_truth.nd)) (fun _ _ _ _ _ => pdts_nil) (fun _ _ _ _ _ => (pd_and (pd_ix hr (pd_var 5) (pd_var 9)) (pd_one (pd_ix hr (pd_var 6) (pd_var 9)))))))) pdss_nil)
    (pdss_cons (pds_if (pb_cmp (or_eq hr) sim_eq (pd_ix hr (pd_var 0) pd_int) pd_str) (pdss_one (pds_ret (pd_lc rfl sc__law_truth.nd (pdi_rng1 (by rfl) M.z_range (pda_cons (pd_var 3) pda_nil)) (blkOk_by (own := [("i", 9)]) (N := N__law_truth) (sc := defScope s__law_truth) (by decide +kernel)) (fun _ _ _ _ _ => (pdg_name 9 sc__law_truth.nd)) (fun _ _ _ _ _ => pdts_nil) (fun _ _ _ _ _ => (pd_or (pd_ix hr (pd_var 5) (pd_var 9)) (pd_one (pd_ix hr (pd_var 6) (pd_var 9)))))))) pdss_nil)
    (pdss_cons (pds_asg (pd_callTy (cr_list rfl) sim_listOf (by rfl) M.z_list (by decide +kernel) (pda_cons (pd_var 6) pda_nil)) (pdg_name 7 sc__law_truth.nd))
    (pdss_cons (pds_for PassesOwn.never rfl (pdi_rng1 (by rfl) M.z_range (pda_cons (pd_var 3) pda_nil)) (pdg_name 8 sc__law_truth.nd) (pdss_one (pds_asg (pd_lc rfl sc__law_truth.nd (pdi_rng1 (by rfl) M.z_range (pda_cons (pd_var 3) pda_nil)) (blkOk_by (own := [("i", 9)]) (N := N__law_truth) (sc := defScope s__law_truth) (by decide +kernel)) (fun _ _ _ _ _ => (pdg_name 9 sc__law_truth.nd)) (fun _ _ _ _ _ => pdts_nil) (fun _ _ _ _ _ => (pd_or (pd_ix hr (pd_var 6) (pd_var 9)) (pd_one (pd_and (pd_ix hr (pd_var 5) (pd_var 9)) (pd_one (pd_ix hr (pd_var 7) (pd_ix hr (pd_var 4) (pd_var 9))))))))) (pdg_name 7 sc__law_truth.nd))))
    (pdss_one (pds_ret (pd_var 7)))))))))))))))) (fun ds μ q hl h => by
    clear hl C__law_truth
    obtain ⟨p, us, vs, rfl, h1, h2, h3, h4, h⟩ := h
    have sz : 0 ≤ sizeLine ∧ 1 ≤ sizeLine ∧ 2 ≤ sizeLine ∧ 3 ≤ sizeLine ∧ 500 ≤ sizeLine := by decide
    have hn : us.length + vs.length ≤ 400 := by omega
    have hsz : us.length + vs.length ≤ sizeLine := by omega
    have hlen : (us ++ vs).length = us.length + vs.length := List.length_append
    have hN : ((us ++ vs).map D.int).length = us.length + vs.length := by rw [List.length_map, hlen]
    walk_at "all"
    simp only [hN]
    refine ⟨⟨by omega, by omega⟩, ?_⟩
    refine lc_map (List.range (us.length + vs.length)) (fun (i : Nat) => .int (i : Int)) (fun i => .int ((tos us vs i : Nat) : Int)) (by rw [Int.toNat_natCast]; exact rg01 _) (fun _ _ => trivial) (by rw [List.length_range]; exact hsz) (fun y hy μ2 q' e2 h => ?_) fun μ0 e0 g0 => ?_
    · walk_at "all"
      have h' := h _ (Ext.refl _)
      unfold tos at h'
      by_cases hy' : y + 1 < us.length + vs.length
      · rw [if_pos hy'] at h'
        simp only [show ((y : Int) + 1 < ((us.length + vs.length : Nat) : Int)) by omega, decide_true]
        walk_at "all"
        exact h'
      · rw [if_neg hy'] at h'
        simp only [show ¬ ((y : Int) + 1 < ((us.length + vs.length : Nat) : Int)) by omega, decide_false]
        walk_at "all"
        exact h'
    have to_at : ∀ i, i < us.length + vs.length → atI ((List.range (us.length + vs.length)).map fun i => D.int ((tos us vs i : Nat) : Int)) (i : Int) = some (.int ((tos us vs i : Nat) : Int)) := fun i hi => atN (map_range_get hi)
    have to_lt : ∀ i, tos us vs i < us.length + vs.length := fun i => by unfold tos; split <;> omega
    cases p with
    | tru =>
      walk_at "all"
      refine ⟨sz.2.1, ?_⟩
      rw [rh_mulL (get_new μ0 _)]
      refine ⟨⟨by omega, by omega, by show 1 * _ ≤ _; omega⟩, ?_⟩
      refine h _ _ (e0.trans ((Ext.app _ _).trans (Ext.app _ _))) ?_
      rw [get_new]
      refine congrArg (fun l => some (MO.lst l)) ?_
      rw [List.flatten_replicate_singleton]
      refine tv_of (by rw [List.length_replicate]; omega) fun i hi => ?_
      rw [sb_tru, List.getElem?_replicate, if_pos (by omega)]
    | lt a =>
      walk_at "all"
      refine lc_map (us ++ vs) .int (fun x => .bl (decide (x = a))) rfl (fun _ _ => trivial) (by rw [hlen]; exact hsz) (fun y hy μ2 q' e2 h => ?_) fun μ2 e2 hq => ?_
      · walk_at "all"
        exact h _ (Ext.refl _)
      · refine h _ _ (e0.trans e2) ?_
        rw [hq]
        refine congrArg (fun l => some (MO.lst l)) (tv_of (by rw [List.length_map, hlen]) fun i hi => ?_)
        rw [List.getElem?_map, List.getElem?_eq_getElem (by omega), sb_lt, lw_get us vs (by omega)]
        rfl
    | no p =>
      simp only [Fm.ht] at h1
      walk_at "all"
      refine ⟨p, us, vs, rfl, by omega, h2, h3, h4, fun μ1 j e1 g1 => ?_⟩
      walk_at "all"
      rw [rh_seqL g1]
      walk_at "all"
      refine lc_map (tv us vs p) .bl (fun x => .bl (!x)) rfl (fun μ' e => seqL (e _ _ g1)) (by rw [tv_len]; exact hsz) (fun y hy μ2 q' e2 h => ?_) fun μ2 e2 hq => ?_
      · walk_at "all"
        exact h _ (Ext.refl _)
      · refine h _ _ (e0.trans (e1.trans e2)) ?_
        rw [hq]
        refine congrArg (fun l => some (MO.lst l)) (tv_of (by rw [List.length_map, tv_len]) fun i hi => ?_)
        rw [List.getElem?_map, tv_get us vs p hi, sb_no]
        rfl
    | nx p =>
      simp only [Fm.ht] at h1
      walk_at "all"
      refine ⟨p, us, vs, rfl, by omega, h2, h3, h4, fun μ1 j e1 g1 => ?_⟩
      walk_at "all"
      refine ⟨⟨by omega, by omega⟩, ?_⟩
      refine lc_map (List.range (us.length + vs.length)) (fun (i : Nat) => .int (i : Int)) (fun i => .bl (sb (lw us vs) p (tos us vs i))) (by rw [Int.toNat_natCast]; exact rg01 _) (fun _ _ => trivial) (by rw [List.length_range]; exact hsz) (fun y hy μ2 q' e2 h => ?_) fun μ2 e2 hq => ?_
      · have hy' := List.mem_range.mp hy
        walk_at "all"
        rw [rh_ixL (e2 _ _ (e1 _ _ g0)) (to_at y hy')]
        walk_at "all"
        rw [rh_ixL (e2 _ _ g1) (atN (lb_get us vs p (to_lt y)))]
        exact h _ (Ext.refl _)
      · refine h _ _ (e0.trans (e1.trans e2)) ?_
        rw [hq]
        refine congrArg (fun l => some (MO.lst l)) (tv_of (by rw [List.length_map, List.length_range]) fun i hi => ?_)
        rw [map_range_get hi, sb_nx]
        refine congrArg (fun b => some (D.bl b)) ?_
        unfold tos
        by_cases hi' : i + 1 < us.length + vs.length
        · rw [if_pos hi']
        · rw [if_neg hi', show i + 1 = us.length + vs.length by omega, sb_per us vs p (Nat.le_refl _)]
    | an p r =>
      simp only [Fm.ht] at h1
      walk_at "all"
      refine ⟨p, us, vs, rfl, by omega, h2, h3, h4, fun μ1 j e1 g1 => ?_⟩
      walk_at "all"
      refine ⟨r, us, vs, rfl, by omega, h2, h3, h4, fun μ2 j2 e2 g2 => ?_⟩
      walk_at "all"
      refine ⟨⟨by omega, by omega⟩, ?_⟩
      refine lc_map (List.range (us.length + vs.length)) (fun (i : Nat) => .int (i : Int)) (fun i => .bl (sb (lw us vs) p i && sb (lw us vs) r i)) (by rw [Int.toNat_natCast]; exact rg01 _) (fun _ _ => trivial) (by rw [List.length_range]; exact hsz) (fun y hy μ3 q' e3 h => ?_) fun μ3 e3 hq => ?_
      · have hy' := List.mem_range.mp hy
        walk_at "all"
        rw [rh_ixL (e3 _ _ (e2 _ _ g1)) (atN (lb_get us vs p hy'))]
        walk_at "all"
        have h' := h _ (Ext.refl _)
        cases hF : sb (lw us vs) p y with
        | false =>
          rw [hF, Bool.false_and] at h'
          walk_at "all"
          exact h'
        | true =>
          rw [hF, Bool.true_and] at h'
          walk_at "all"
          rw [rh_ixL (e3 _ _ g2) (atN (lb_get us vs r hy'))]
          exact h'
      · refine h _ _ (e0.trans (e1.trans (e2.trans e3))) ?_
        rw [hq]
        refine congrArg (fun l => some (MO.lst l)) (tv_of (by rw [List.length_map, List.length_range]) fun i hi => ?_)
        rw [map_range_get hi, sb_an]
    | orr p r =>
      simp only [Fm.ht] at h1
      walk_at "all"
      refine ⟨p, us, vs, rfl, by omega, h2, h3, h4, fun μ1 j e1 g1 => ?_⟩
      walk_at "all"
      refine ⟨r, us, vs, rfl, by omega, h2, h3, h4, fun μ2 j2 e2 g2 => ?_⟩
      walk_at "all"
      refine ⟨⟨by omega, by omega⟩, ?_⟩
      refine lc_map (List.range (us.length + vs.length)) (fun (i : Nat) => .int (i : Int)) (fun i => .bl (sb (lw us vs) p i || sb (lw us vs) r i)) (by rw [Int.toNat_natCast]; exact rg01 _) (fun _ _ => trivial) (by rw [List.length_range]; exact hsz) (fun y hy μ3 q' e3 h => ?_) fun μ3 e3 hq => ?_
      · have hy' := List.mem_range.mp hy
        walk_at "all"
        rw [rh_ixL (e3 _ _ (e2 _ _ g1)) (atN (lb_get us vs p hy'))]
        walk_at "all"
        have h' := h _ (Ext.refl _)
        cases hF : sb (lw us vs) p y with
        | true =>
          rw [hF, Bool.true_or] at h'
          walk_at "all"
          exact h'
        | false =>
          rw [hF, Bool.false_or] at h'
          walk_at "all"
          rw [rh_ixL (e3 _ _ g2) (atN (lb_get us vs r hy'))]
          exact h'
      · refine h _ _ (e0.trans (e1.trans (e2.trans e3))) ?_
        rw [hq]
        refine congrArg (fun l => some (MO.lst l)) (tv_of (by rw [List.length_map, List.length_range]) fun i hi => ?_)
        rw [map_range_get hi, sb_orr]
    | un p r =>
      simp only [Fm.ht] at h1
      walk_at "all"
      refine ⟨p, us, vs, rfl, by omega, h2, h3, h4, fun μ1 j e1 g1 => ?_⟩
      walk_at "all"
      refine ⟨r, us, vs, rfl, by omega, h2, h3, h4, fun μ2 j2 e2 g2 => ?_⟩
      walk_at "all"
      rw [rh_lstL g2]
      walk_at "all"
      refine ⟨⟨by omega, by omega⟩, ?_⟩
      refine for_inv (List.range (us.length + vs.length)) (fun (i : Nat) => .int (i : Int)) (fun k ρ' μ' => Ext μ2 μ' ∧ ∃ J a, μ'[J]? = some (.lst ((List.range (us.length + vs.length)).map fun i => .bl (fu (sb (lw us vs) p) (sb (lw us vs) r) (tos us vs) k i))) ∧
        ρ' = [some (enc (.un p r)), some (.tup ((us ++ vs).map .int)), some (.int (us.length : Int)), some (.int ((us.length + vs.length : Nat) : Int)), some (.obj μ.length), some (.obj j), some (.obj j2), some (.obj J), a, none, none, none]) (by rw [Int.toNat_natCast]; exact rg01 _)
        ⟨Ext.app _ _, _, none, ?_, rfl⟩ (fun _ _ _ _ => trivial) (fun k x hx ρ' μ3 N hI hN' => ?_) fun ρ' μ3 hI => ?_
      · rw [get_new, tv, List.map_map]
        rfl
      · obtain ⟨e3, J, a, g3, rfl⟩ := hI
        walk_at "all"
        refine ⟨⟨by omega, by omega⟩, ?_⟩
        refine lc_map (List.range (us.length + vs.length)) (fun (i : Nat) => .int (i : Int)) (fun i => .bl (fu (sb (lw us vs) p) (sb (lw us vs) r) (tos us vs) (k + 1) i)) (by rw [Int.toNat_natCast]; exact rg01 _) (fun _ _ => trivial) (by rw [List.length_range]; exact hsz) (fun y hy μ4 q' e4 h => ?_) fun μ4 e4 hq => ?_
        · have hy' := List.mem_range.mp hy
          have h' := h _ (Ext.refl _)
          rw [show fu (sb (lw us vs) p) (sb (lw us vs) r) (tos us vs) (k + 1) y = (sb (lw us vs) r y || (sb (lw us vs) p y && fu (sb (lw us vs) p) (sb (lw us vs) r) (tos us vs) k (tos us vs y))) from rfl] at h'
          walk_at "all"
          rw [rh_ixL (e4 _ _ (e3 _ _ g2)) (atN (lb_get us vs r hy'))]
          walk_at "all"
          cases hG : sb (lw us vs) r y with
          | true =>
            rw [hG, Bool.true_or] at h'
            walk_at "all"
            exact h'
          | false =>
            rw [hG, Bool.false_or] at h'
            walk_at "all"
            rw [rh_ixL (e4 _ _ (e3 _ _ (e2 _ _ g1))) (atN (lb_get us vs p hy'))]
            walk_at "all"
            cases hF : sb (lw us vs) p y with
            | false =>
              rw [hF, Bool.false_and] at h'
              walk_at "all"
              exact h'
            | true =>
              rw [hF, Bool.true_and] at h'
              walk_at "all"
              rw [rh_ixL (e4 _ _ (e3 _ _ (e2 _ _ (e1 _ _ g0)))) (to_at y hy')]
              walk_at "all"
              rw [rh_ixL (e4 _ _ g3) (atN (map_range_get (to_lt y)))]
              exact h'
        · walk_at "all"
          exact hN' _ _ ⟨e3.trans e4, _, _, hq, rfl⟩
      · obtain ⟨e3, J, a, g3, rfl⟩ := hI
        walk_at "all"
        refine h _ _ (e0.trans (e1.trans (e2.trans e3))) ?_
        rw [g3, List.length_range]
        refine congrArg (fun l => some (MO.lst l)) (tv_of (by rw [List.length_map, List.length_range]) fun i hi => ?_)
        rw [map_range_get hi, fu_all us vs p r h3 hi])
theorem ok_truth (M : Fx K mg) : ∀ n : Nat, FnOk P w K mg base CX0 n M.a__law_truth M.d__law_truth ["p", "word", "back"] (lSp K T 3 (spTruth n))
  | 0 => fn_none fun _ _ _ h => by
    obtain ⟨p, us, vs, _, h, _⟩ := h
    exact absurd h (by omega)
  | n + 1 => ok_truth_step M n (ok_truth M n)
end K64

set_option Elab.async false
set_option linter.all false
set_option maxRecDepth 100000
set_option maxHeartbeats 4000000
namespace K64
open PySem PySem.Spec PyProof.Rows L2 LamX DL
local macro_rules | `(tactic| walk_at "dl") => `(tactic| simp only [rd_var, rd_C, rd_bin, rd_un, rd_nil, rd_cons, rd_L, rd_test, rd_and, rd_or, rd_not, rd_if, rd_band, rd_bor, rd_bnot, rd_chain, rd_call, rd_mt, rd_dnew, rd_nopart, rd_part, rd_sl, rd_lc, rd_itseq, rd_itA, rd_itzip, rd_itkeys, rd_told, rd_yes, rs_ret, rs_retN, rs_exp, rs_skip, rs_brk, rs_cnt, rs_never, rs_ifs, rs_asg, rs_par, rs_for, rg_N, rg_Nl, rg_Cn, rg_Tp, rg_Sb, ro_tup, ro_lst, ro_addI, ro_addS, ro_addT, ro_sub, ro_mulI, ro_lt, ro_le, ro_gt, ro_ge, ro_eqI, ro_eqB, ro_eqS, ro_neI, ro_neB, ro_neS, ro_inT, ro_ninT, ro_neg, ro_lenT, ro_lenS, ro_abs, ro_intI, ro_intB, ro_isi, ro_tupT, ro_lstT, ro_max2, ro_min2, ro_ixT, ro_fdiv, ro_mod, ro_rng1, ro_rng2, ro_rng3, ro_beqS, in_nil, in_cons, eqd_s, eqd_i, fl_s, fl_i, fl_b, fl_n, bA_t, bA_f, bO_t, bO_f, bE_t, bE_f, bBA_t, bBA_f, bBO_t, bBO_f, bC_t, bC_f, bS_t, bS_f, dT_b, pT_i, ro_slT, ro_seqT, is_nn, isn_nn, is_nb, is_bn, isn_bn, is_in, isn_in, is_ib, is_sn, isn_sn, is_sb, is_tn, isn_tn, is_tb, is_on, isn_on, is_ob, is_bb, rd_get, tn_non, tn_bl, tn_int, tn_str, tn_tup, kit_NoneType_int, kit_NoneType_bool, kit_NoneType_str, kit_NoneType_tuple, kit_NoneType_list, kit_NoneType_dict, kit_bool_int, kit_bool_bool, kit_bool_str, kit_bool_tuple, kit_bool_list, kit_bool_dict, kit_int_int, kit_int_bool, kit_int_str, kit_int_tuple, kit_int_list, kit_int_dict, kit_str_int, kit_str_bool, kit_str_str, kit_str_tuple, kit_str_list, kit_str_dict, kit_tuple_int, kit_tuple_bool, kit_tuple_str, kit_tuple_tuple, kit_tuple_list, kit_tuple_dict, kit_list_int, kit_list_bool, kit_list_str, kit_list_tuple, kit_list_list, kit_list_dict, kit_dict_int, kit_dict_bool, kit_dict_str, kit_dict_tuple, kit_dict_list, kit_dict_dict,
  startD, wipeD, List.map_cons, List.map_nil, List.length_cons, List.length_nil, List.replicate_succ, List.replicate_zero, List.append_nil, List.cons_append, List.nil_append, List.getElem?_cons_zero, List.getElem?_cons_succ, List.set_cons_zero, List.set_cons_succ,
  Nat.reduceAdd, Nat.reduceSub, Nat.zero_add, Nat.add_zero, Nat.sub_self, Nat.reduceEqDiff, Nat.reduceLT, Int.reduceAdd, Int.reduceSub, Int.reduceNeg, Int.reduceEq, Int.reduceLT, Int.reduceLE, Int.zero_add, Int.add_zero, Int.cast_ofNat_Int, Int.reduceMul, Int.reduceToNat,
  ofs, String.reduceEq, decide_true, decide_false, ati0, ati1, ati2, ati3, ati4, Bool.not_true, Bool.not_false, true_and, and_true, if_true, Bool.false_eq_true, if_false, Option.some.injEq, eq_self_iff_true, BEq.rfl, List.all_cons, List.all_nil, 
  Bool.or_true, Bool.or_false, Bool.false_or, Bool.true_or, Bool.and_self, Bool.and_true, Bool.true_and, Bool.and_false, Bool.false_and, beq_self_eq_true, enc, tn_enc, encS, tn_encS, rd_disp, rd_pn, rd_pc, Bool.true_eq_false, reduceCtorEq, rd_ls])
local macro_rules | `(tactic| walk_at "sq") => `(tactic| (rw [rh_seq]; walk_at "dl"))
local macro_rules | `(tactic| walk_at "all") => `(tactic| (try walk_at "dl"); repeat walk_at "sq")
variable {P : Program} {w : World} {K : PySem.W.Frag} {mg : Str → Option Value} {base : Heap} {T : List (Addr × Str)}
/-! ### depth and names -/
def mot : List (Key × D) := [(.inr "not", .int 2), (.inr "and", .int 3), (.inr "or", .int 3)]
theorem mot_not : ((valD (mergeD [] mot) (.inr "not")).getD (.int 0)) = .int 2 := by rfl
theorem mot_and : ((valD (mergeD [] mot) (.inr "and")).getD (.int 0)) = .int 3 := by rfl
theorem mot_or : ((valD (mergeD [] mot) (.inr "or")).getD (.int 0)) = .int 3 := by rfl
def spDeep (n : Nat) : DSp := fun ds μ q => ∃ (s : Sn) (jn jl : Nat) (ns ls : List Int), ds = [encS s, .obj jn, .obj jl] ∧ s.ht < n ∧ s.sc ns ∧ jn ≠ jl ∧ μ[jn]? = some (.lst (ns.map .int)) ∧ μ[jl]? = some (.lst (ls.map .int)) ∧ ns.length + s.ht ≤ 1000 ∧ ls.length + s.bd.length ≤ 1000 ∧
  ∀ μ', But jl μ μ' → μ'[jl]? = some (.lst ((ls ++ s.bd).map .int)) → q (.int s.dp) μ'
theorem ok_deep_step (M : Fx K mg) (n : Nat) (C__law_deep : FnOk P w K mg base CX0 n M.a__law_deep M.d__law_deep ["p", "names", "lots"] (lSp K T 3 (spDeep n))) :
    FnOk P w K mg base CX0 (n + 1) M.a__law_deep M.d__law_deep ["p", "names", "lots"] (lSp K T 3 (spDeep (n + 1))) :=
  dl_fn (T := T) (k := n) M.F__law_deep sc__law_deep (fun cdv A outer s H hr => (pdss_cons (pds_if (pbw_pb (pbw_or (pb_not (pb_val (pd_callB call_isi sim_isi (by rfl) M.z_isinstance (by decide +kernel) (pda_cons (pd_var 0) (pda_cons (pd_ty (n := "tuple") (by rfl) M.z_tuple (by decide +kernel)) pda_nil))))) (pbw_or1 (pb_cmp op_lt sim_lt (pd_callB cr_len sim_len (by rfl) M.z_len (by decide +kernel) (pda_cons (pd_var 0) pda_nil)) pd_int)))) (pdss_one (pds_ret (pd_neg pd_int))) pdss_nil)
    (pdss_cons (pds_asg (pd_ix hr (pd_var 0) pd_int) (pdg_name 3 sc__law_deep.nd))
    (pdss_cons (pds_if (pb_cmp (or_eq hr) sim_eq (pd_var 3) pd_str) (pdss_one (pds_ret (pd_if (pbw_pb (pbw_and (pb_cmp (or_eq hr) sim_eq (pd_callB cr_len sim_len (by rfl) M.z_len (by decide +kernel) (pda_cons (pd_var 0) pda_nil)) pd_int) (pbw_and1 (pb_cmp (or_in hr) (sim_in false) (pd_ix hr (pd_var 0) pd_int) (pd_var 1))))) pd_int (pd_neg pd_int)))) pdss_nil)
    (pdss_cons (pds_if (pb_cmp (or_in hr) (sim_in false) (pd_var 3) (pd_tup (pda_cons pd_str (pda_cons pd_str pda_nil)))) (pdss_one (pds_ret (pd_if (pbw_pb (pbw_and (pb_cmp (or_eq hr) sim_eq (pd_callB cr_len sim_len (by rfl) M.z_len (by decide +kernel) (pda_cons (pd_var 0) pda_nil)) pd_int) (pbw_and (pb_cmp (or_in hr) (sim_in false) (pd_ix hr (pd_var 0) pd_int) (pd_var 1)) (pbw_and1 (pb_cmp (or_in hr) (sim_in false) (pd_ix hr (pd_var 0) pd_int) (pd_var 1)))))) pd_int (pd_neg pd_int)))) pdss_nil)
    (pdss_cons (pds_if (pb_cmp (or_in hr) (sim_in false) (pd_var 3) (pd_tup (pda_cons pd_str (pda_cons pd_str pda_nil)))) (pdss_cons (pds_expr (pd_append (pd_var 2) (pda_cons (pd_ix hr (pd_var 0) pd_int) pda_nil)))
    (pdss_cons (pds_asg (pd_if (pbw_pb (pbw_and (pb_cmp (or_eq hr) sim_eq (pd_callB cr_len sim_len (by rfl) M.z_len (by decide +kernel) (pda_cons (pd_var 0) pda_nil)) pd_int) (pbw_and (pb_val (pd_callB call_isi sim_isi (by rfl) M.z_isinstance (by decide +kernel) (pda_cons (pd_ix hr (pd_var 0) pd_int) (pda_cons (pd_ty (n := "int") (by rfl) M.z_int (by decide +kernel)) pda_nil)))) (pbw_and1 (pb_cmp op_ge sim_ge (pd_ix hr (pd_var 0) pd_int) pd_int))))) (pd_call C__law_deep (hr.mono (by omega)) (by rfl) M.m__law_deep M.F__law_deep.kp M.b__law_deep (pda_cons (pd_ix hr (pd_var 0) pd_int) (pda_cons (pd_op or_add sim_add (pd_var 1) (pd_lst (pda_cons (pd_ix hr (pd_var 0) pd_int) pda_nil))) (pda_cons (pd_var 2) pda_nil))) rfl) (pd_neg pd_int)) (pdg_name 5 sc__law_deep.nd))
    (pdss_one (pds_ret (pd_if (pb_cmp op_ge sim_ge (pd_var 5) pd_int) (pd_op or_add sim_add (pd_var 5) pd_int) (pd_neg pd_int)))))) pdss_nil)
    (pdss_cons (pds_if (pb_cmp (or_ne hr) sim_ne (pd_callB cr_len sim_len (by rfl) M.z_len (by decide +kernel) (pda_cons (pd_var 0) pda_nil)) (pd_get2 hr (pd_disp (pdps_cons pd_str pd_int (pdps_cons pd_str pd_int (pdps_cons pd_str pd_int pdps_nil)))) (pd_var 3) pd_int ⟨rfl, rfl, rfl, rfl⟩)) (pdss_one (pds_ret (pd_neg pd_int))) pdss_nil)
    (pdss_cons (pds_setLc (i := 4) rfl sc__law_deep.nd rfl rfl (sw_true rfl rfl rfl (by decide +kernel)) (pdi_seq (pd_slice (pd_var 0) (pdo_some pd_int) pdo_none)) (blkOk_by (own := [("part", 6)]) (N := N__law_deep) (sc := defScope s__law_deep) (by decide +kernel)) (fun _ _ _ _ _ => (pdg_name 6 sc__law_deep.nd)) (fun _ _ _ _ _ => pdts_nil) (fun _ _ _ _ _ => (pd_call C__law_deep (hr.mono (by omega)) (by rfl) M.m__law_deep M.F__law_deep.kp M.b__law_deep (pda_cons (pd_var 6) (pda_cons (pd_var 1) (pda_cons (pd_var 2) pda_nil))) rfl)))
    (pdss_one (pds_ret (pd_if (pb_cmp op_lt sim_lt (pd_callB (cr_minA rfl) sim_min (by rfl) M.z_min (by decide +kernel) (pda_cons (pd_var 4) pda_nil)) pd_int) (pd_neg pd_int) (pd_callB (cr_maxA rfl) sim_max (by rfl) M.z_max (by decide +kernel) (pda_cons (pd_var 4) pda_nil))))))))))))) (fun ds μ q hl h => by
    clear hl C__law_deep
    obtain ⟨s, jn, jl, ns, ls, rfl, h1, h2, hne, gn, gl, h3, h4, h⟩ := h
    have sz : 0 ≤ sizeLine ∧ 1 ≤ sizeLine ∧ 2 ≤ sizeLine ∧ 3 ≤ sizeLine ∧ 5000 ≤ sizeLine := by decide
    have ln : jn < μ.length := (List.getElem?_eq_some_iff.mp gn).1
    have ll : jl < μ.length := (List.getElem?_eq_some_iff.mp gl).1
    have fin0 : s.bd = [] → s.dp = 0 → q (.int 0) μ := fun e e' => by
      have := h μ (But.refl _ _) (by rw [gl, e, List.append_nil])
      rwa [e'] at this
    cases s with
    | lt x a =>
      walk_at "all"
      rw [rh_inL gn]
      refine ⟨⟨rfl, flat_map ns⟩, ?_⟩
      rw [inD_map h2]
      walk_at "all"
      exact fin0 rfl rfl
    | nx x y =>
      walk_at "all"
      refine ⟨sz.2.2.1, ?_⟩
      walk_at "all"
      rw [rh_inL gn]
      refine ⟨⟨rfl, flat_map ns⟩, ?_⟩
      rw [inD_map h2.1]
      walk_at "all"
      rw [rh_inL gn]
      refine ⟨⟨rfl, flat_map ns⟩, ?_⟩
      rw [inD_map h2.2]
      walk_at "all"
      exact fin0 rfl rfl
    | ls x y =>
      walk_at "all"
      refine ⟨sz.2.2.1, ?_⟩
      walk_at "all"
      rw [rh_inL gn]
      refine ⟨⟨rfl, flat_map ns⟩, ?_⟩
      rw [inD_map h2.1]
      walk_at "all"
      rw [rh_inL gn]
      refine ⟨⟨rfl, flat_map ns⟩, ?_⟩
      rw [inD_map h2.2]
      walk_at "all"
      exact fin0 rfl rfl
    | no p =>
      simp only [Sn.ht] at h1 h3
      walk_at "all"
      refine ⟨sz.2.2.1, sz.2.2.1, ?_⟩
      rw [rh_disp (get_new μ _) (kvs := mot) rfl, set_new]
      refine ⟨by decide, ?_⟩
      walk_at "all"
      rw [rh_tyD (get_new μ _)]
      refine ⟨trivial, ?_⟩
      rw [rh_get (k := .inr "not") (get_new μ _) rfl, mot_not]
      walk_at "all"
      rw [show cutD [D.str (Str.ofString "not"), encS p] (some 1) none = [encS p] from cut1 _ (Nat.succ_pos _)]
      have b0 : But jl μ (μ ++ [MO.dk (mergeD [] mot)] ++ [MO.lst []]) := .ext ((Ext.app _ _).trans (Ext.app _ _))
      have hl0 : μ.length < (μ ++ [MO.dk (mergeD [] mot)]).length := by rw [List.length_append]; exact Nat.lt_succ_self _
      rw [rh_lcC]
      refine ⟨trivial, ?_⟩
      walk_at "all"
      refine ⟨p, jn, jl, ns, ls, rfl, by omega, h2, hne, b0 _ _ hne gn, (Ext.app _ _).trans (Ext.app _ _) _ _ gl, by omega, h4, fun μ1 b1 g1 => ?_⟩
      have t1 := b1 _ _ (by omega) (get_new _ _)
      show opAcc _ _ _ _
      rw [rh_acc t1]
      refine ⟨by show 0 < _; omega, ?_⟩
      rw [rh_lcN]
      refine ⟨trivial, ?_⟩
      have gt := List.getElem?_set_self (a := MO.lst ([p.dp].map D.int)) (List.getElem?_eq_some_iff.mp t1).1
      have hp := p.dp_nn
      walk_at "all"
      rw [show [D.int p.dp] = [p.dp].map D.int from rfl, rh_min gt]
      refine ⟨Nat.succ_pos _, fun m hm _ => ?_⟩
      rw [List.mem_singleton.mp hm]
      walk_at "all"
      simp only [show ¬ (p.dp < 0) by omega, decide_false]
      walk_at "all"
      rw [show [D.int p.dp] = [p.dp].map D.int from rfl, rh_max gt]
      refine ⟨Nat.succ_pos _, fun m hm _ => ?_⟩
      rw [List.mem_singleton.mp hm]
      refine h _ ((b0.trans b1).set2 (by omega) _) ?_
      rw [List.getElem?_set_ne (by omega)]
      exact g1
    | an p r =>
      simp only [Sn.ht] at h1 h3
      walk_at "all"
      refine ⟨sz.2.2.1, sz.2.2.1, ?_⟩
      rw [rh_disp (get_new μ _) (kvs := mot) rfl, set_new]
      refine ⟨by decide, ?_⟩
      walk_at "all"
      rw [rh_tyD (get_new μ _)]
      refine ⟨trivial, ?_⟩
      rw [rh_get (k := .inr "and") (get_new μ _) rfl, mot_and]
      walk_at "all"
      rw [show cutD [D.str (Str.ofString "and"), encS p, encS r] (some 1) none = [encS p, encS r] from cut1 _ (Nat.succ_pos _)]
      have b0 : But jl μ (μ ++ [MO.dk (mergeD [] mot)] ++ [MO.lst []]) := .ext ((Ext.app _ _).trans (Ext.app _ _))
      have hl0 : μ.length < (μ ++ [MO.dk (mergeD [] mot)]).length := by rw [List.length_append]; exact Nat.lt_succ_self _
      have hb : ls.length + (p.bd ++ r.bd).length ≤ 1000 := h4
      rw [List.length_append] at hb
      rw [rh_lcC]
      refine ⟨trivial, ?_⟩
      walk_at "all"
      refine ⟨p, jn, jl, ns, ls, rfl, by omega, h2.1, hne, b0 _ _ hne gn, (Ext.app _ _).trans (Ext.app _ _) _ _ gl, by omega, by omega, fun μ1 b1 g1 => ?_⟩
      have t1 := b1 _ _ (by omega) (get_new _ _)
      show opAcc _ _ _ _
      rw [rh_acc t1]
      refine ⟨by show 0 < _; omega, ?_⟩
      have b2 : But jl μ (μ1.set (μ ++ [MO.dk (mergeD [] mot)]).length (MO.lst ([] ++ [D.int p.dp]))) := (b0.trans b1).set2 (by omega) _
      have l1 := (List.getElem?_eq_some_iff.mp t1).1
      rw [rh_lcC]
      refine ⟨trivial, ?_⟩
      walk_at "all"
      refine ⟨r, jn, jl, ns, ls ++ p.bd, rfl, by omega, h2.2, hne, b2 _ _ hne gn, by rw [List.getElem?_set_ne (by omega)]; exact g1, by omega, by rw [List.length_append]; omega, fun μ3 b3 g3 => ?_⟩
      have t3 := b3 _ _ (by omega) (List.getElem?_set_self l1)
      show opAcc _ _ _ _
      rw [rh_acc t3]
      refine ⟨by show 1 < _; omega, ?_⟩
      rw [rh_lcN]
      refine ⟨trivial, ?_⟩
      have gt := List.getElem?_set_self (a := MO.lst ([p.dp, r.dp].map D.int)) (List.getElem?_eq_some_iff.mp t3).1
      have hp := p.dp_nn
      have hq := r.dp_nn
      walk_at "all"
      rw [show [D.int p.dp, D.int r.dp] = [p.dp, r.dp].map D.int from rfl, rh_min gt]
      refine ⟨Nat.succ_pos _, fun m hm _ => ?_⟩
      have hm0 : 0 ≤ m := by
        rcases List.mem_cons.mp hm with rfl | hm
        · exact hp
        · rw [List.mem_singleton.mp hm]; exact hq
      walk_at "all"
      simp only [show ¬ (m < 0) by omega, decide_false]
      walk_at "all"
      rw [show [D.int p.dp, D.int r.dp] = [p.dp, r.dp].map D.int from rfl, rh_max gt]
      refine ⟨Nat.succ_pos _, fun m' hm' hle => ?_⟩
      have e : m' = max p.dp r.dp := by
        have a1 := hle p.dp (List.mem_cons_self ..)
        have a2 := hle r.dp (List.mem_cons_of_mem _ (List.mem_cons_self ..))
        rcases List.mem_cons.mp hm' with rfl | hm'
        · omega
        · rw [List.mem_singleton.mp hm'] at a1 ⊢
          omega
      rw [e]
      refine h _ ((b2.trans b3).set2 (by omega) _) ?_
      rw [List.getElem?_set_ne (by omega), g3, List.append_assoc]
      rfl
    | orr p r =>
      simp only [Sn.ht] at h1 h3
      walk_at "all"
      refine ⟨sz.2.2.1, sz.2.2.1, ?_⟩
      rw [rh_disp (get_new μ _) (kvs := mot) rfl, set_new]
      refine ⟨by decide, ?_⟩
      walk_at "all"
      rw [rh_tyD (get_new μ _)]
      refine ⟨trivial, ?_⟩
      rw [rh_get (k := .inr "or") (get_new μ _) rfl, mot_or]
      walk_at "all"
      rw [show cutD [D.str (Str.ofString "or"), encS p, encS r] (some 1) none = [encS p, encS r] from cut1 _ (Nat.succ_pos _)]
      have b0 : But jl μ (μ ++ [MO.dk (mergeD [] mot)] ++ [MO.lst []]) := .ext ((Ext.app _ _).trans (Ext.app _ _))
      have hl0 : μ.length < (μ ++ [MO.dk (mergeD [] mot)]).length := by rw [List.length_append]; exact Nat.lt_succ_self _
      have hb : ls.length + (p.bd ++ r.bd).length ≤ 1000 := h4
      rw [List.length_append] at hb
      rw [rh_lcC]
      refine ⟨trivial, ?_⟩
      walk_at "all"
      refine ⟨p, jn, jl, ns, ls, rfl, by omega, h2.1, hne, b0 _ _ hne gn, (Ext.app _ _).trans (Ext.app _ _) _ _ gl, by omega, by omega, fun μ1 b1 g1 => ?_⟩
      have t1 := b1 _ _ (by omega) (get_new _ _)
      show opAcc _ _ _ _
      rw [rh_acc t1]
      refine ⟨by show 0 < _; omega, ?_⟩
      have b2 : But jl μ (μ1.set (μ ++ [MO.dk (mergeD [] mot)]).length (MO.lst ([] ++ [D.int p.dp]))) := (b0.trans b1).set2 (by omega) _
      have l1 := (List.getElem?_eq_some_iff.mp t1).1
      rw [rh_lcC]
      refine ⟨trivial, ?_⟩
      walk_at "all"
      refine ⟨r, jn, jl, ns, ls ++ p.bd, rfl, by omega, h2.2, hne, b2 _ _ hne gn, by rw [List.getElem?_set_ne (by omega)]; exact g1, by omega, by rw [List.length_append]; omega, fun μ3 b3 g3 => ?_⟩
      have t3 := b3 _ _ (by omega) (List.getElem?_set_self l1)
      show opAcc _ _ _ _
      rw [rh_acc t3]
      refine ⟨by show 1 < _; omega, ?_⟩
      rw [rh_lcN]
      refine ⟨trivial, ?_⟩
      have gt := List.getElem?_set_self (a := MO.lst ([p.dp, r.dp].map D.int)) (List.getElem?_eq_some_iff.mp t3).1
      have hp := p.dp_nn
      have hq := r.dp_nn
      walk_at "all"
      rw [show [D.int p.dp, D.int r.dp] = [p.dp, r.dp].map D.int from rfl, rh_min gt]
      refine ⟨Nat.succ_pos _, fun m hm _ => ?_⟩
      have hm0 : 0 ≤ m := by
        rcases List.mem_cons.mp hm with rfl | hm
        · exact hp
        · rw [List.mem_singleton.mp hm]; exact hq
      walk_at "all"
      simp only [show ¬ (m < 0) by omega, decide_false]
      walk_at "all"
      rw [show [D.int p.dp, D.int r.dp] = [p.dp, r.dp].map D.int from rfl, rh_max gt]
      refine ⟨Nat.succ_pos _, fun m' hm' hle => ?_⟩
      have e : m' = max p.dp r.dp := by
        have a1 := hle p.dp (List.mem_cons_self ..)
        have a2 := hle r.dp (List.mem_cons_of_mem _ (List.mem_cons_self ..))
        rcases List.mem_cons.mp hm' with rfl | hm'
        · omega
        · rw [List.mem_singleton.mp hm'] at a1 ⊢
          omega
      rw [e]
      refine h _ ((b2.trans b3).set2 (by omega) _) ?_
      rw [List.getElem?_set_ne (by omega), g3, List.append_assoc]
      rfl
    | ex x p =>
      simp only [Sn.ht] at h1 h3
      have hb : ls.length + (p.bd.length + 1) ≤ 1000 := h4
      walk_at "all"
      refine ⟨sz.2.2.1, sz.2.2.1, ?_⟩
      rw [rh_tyL gl, rh_app gl]
      refine ⟨trivial, by rw [List.length_map]; omega, ?_⟩
      walk_at "all"
      rw [decide_eq_true h2.1]
      walk_at "all"
      refine ⟨sz.2.1, ?_⟩
      have b0 : But jl μ (μ.set jl (.lst (ls.map D.int ++ [.int x])) ++ [MO.lst [.int x]]) := (But.set _ _ _).trans (.ext (Ext.app _ _))
      rw [rh_addL (b0 _ _ hne gn) (get_new _ _)]
      refine ⟨by rw [List.length_map]; show _ + 1 ≤ _; omega, ?_⟩
      walk_at "all"
      have b1 : But jl μ (μ.set jl (.lst (ls.map D.int ++ [.int x])) ++ [MO.lst [.int x]] ++ [MO.lst (ns.map D.int ++ [.int x])]) := b0.trans (.ext (Ext.app _ _))
      have gl' : (μ.set jl (.lst (ls.map D.int ++ [.int x])) ++ [MO.lst [.int x]] ++ [MO.lst (ns.map D.int ++ [.int x])])[jl]? = some (.lst ((ls ++ [x]).map .int)) := by
        rw [List.map_append]
        exact (Ext.app _ _).trans (Ext.app _ _) _ _ (List.getElem?_set_self ll)
      refine ⟨p, _, jl, ns ++ [x], ls ++ [x], rfl, by omega, h2.2, ?_, by rw [List.map_append]; exact get_new _ _, gl', by rw [List.length_append]; show _ + 1 + _ ≤ _; omega, by rw [List.length_append]; show _ + 1 + _ ≤ _; omega, fun μ1 c1 g1 => ?_⟩
      · rw [List.length_append, List.length_set]
        omega
      · walk_at "all"
        simp only [decide_eq_true p.dp_nn]
        walk_at "all"
        refine h _ (b1.trans c1) ?_
        rw [g1, List.append_assoc]
        rfl
    | al x p =>
      simp only [Sn.ht] at h1 h3
      have hb : ls.length + (p.bd.length + 1) ≤ 1000 := h4
      walk_at "all"
      refine ⟨sz.2.2.1, sz.2.2.1, ?_⟩
      rw [rh_tyL gl, rh_app gl]
      refine ⟨trivial, by rw [List.length_map]; omega, ?_⟩
      walk_at "all"
      rw [decide_eq_true h2.1]
      walk_at "all"
      refine ⟨sz.2.1, ?_⟩
      have b0 : But jl μ (μ.set jl (.lst (ls.map D.int ++ [.int x])) ++ [MO.lst [.int x]]) := (But.set _ _ _).trans (.ext (Ext.app _ _))
      rw [rh_addL (b0 _ _ hne gn) (get_new _ _)]
      refine ⟨by rw [List.length_map]; show _ + 1 ≤ _; omega, ?_⟩
      walk_at "all"
      have b1 : But jl μ (μ.set jl (.lst (ls.map D.int ++ [.int x])) ++ [MO.lst [.int x]] ++ [MO.lst (ns.map D.int ++ [.int x])]) := b0.trans (.ext (Ext.app _ _))
      have gl' : (μ.set jl (.lst (ls.map D.int ++ [.int x])) ++ [MO.lst [.int x]] ++ [MO.lst (ns.map D.int ++ [.int x])])[jl]? = some (.lst ((ls ++ [x]).map .int)) := by
        rw [List.map_append]
        exact (Ext.app _ _).trans (Ext.app _ _) _ _ (List.getElem?_set_self ll)
      refine ⟨p, _, jl, ns ++ [x], ls ++ [x], rfl, by omega, h2.2, ?_, by rw [List.map_append]; exact get_new _ _, gl', by rw [List.length_append]; show _ + 1 + _ ≤ _; omega, by rw [List.length_append]; show _ + 1 + _ ≤ _; omega, fun μ1 c1 g1 => ?_⟩
      · rw [List.length_append, List.length_set]
        omega
      · walk_at "all"
        simp only [decide_eq_true p.dp_nn]
        walk_at "all"
        refine h _ (b1.trans c1) ?_
        rw [g1, List.append_assoc]
        rfl)
theorem ok_deep (M : Fx K mg) : ∀ n : Nat, FnOk P w K mg base CX0 n M.a__law_deep M.d__law_deep ["p", "names", "lots"] (lSp K T 3 (spDeep n))
  | 0 => fn_none fun _ _ _ h => by
    obtain ⟨s, _, _, _, _, _, h, _⟩ := h
    exact absurd h (by omega)
  | n + 1 => ok_deep_step M n (ok_deep M n)
end K64

set_option Elab.async false
set_option linter.all false
set_option maxRecDepth 100000
set_option maxHeartbeats 4000000
namespace K64
open PySem PySem.Spec PyProof.Rows L2 LamX DL
local macro_rules | `(tactic| walk_at "dl") => `(tactic| simp only [rd_var, rd_C, rd_bin, rd_un, rd_nil, rd_cons, rd_L, rd_test, rd_and, rd_or, rd_not, rd_if, rd_band, rd_bor, rd_bnot, rd_chain, rd_call, rd_mt, rd_dnew, rd_nopart, rd_part, rd_sl, rd_lc, rd_itseq, rd_itA, rd_itzip, rd_itkeys, rd_told, rd_yes, rs_ret, rs_retN, rs_exp, rs_skip, rs_brk, rs_cnt, rs_never, rs_ifs, rs_asg, rs_par, rs_for, rg_N, rg_Nl, rg_Cn, rg_Tp, rg_Sb, ro_tup, ro_lst, ro_addI, ro_addS, ro_addT, ro_sub, ro_mulI, ro_lt, ro_le, ro_gt, ro_ge, ro_eqI, ro_eqB, ro_eqS, ro_neI, ro_neB, ro_neS, ro_inT, ro_ninT, ro_neg, ro_lenT, ro_lenS, ro_abs, ro_intI, ro_intB, ro_isi, ro_tupT, ro_lstT, ro_max2, ro_min2, ro_ixT, ro_fdiv, ro_mod, ro_rng1, ro_rng2, ro_rng3, ro_beqS, in_nil, in_cons, eqd_s, eqd_i, fl_s, fl_i, fl_b, fl_n, bA_t, bA_f, bO_t, bO_f, bE_t, bE_f, bBA_t, bBA_f, bBO_t, bBO_f, bC_t, bC_f, bS_t, bS_f, dT_b, pT_i, ro_slT, ro_seqT, is_nn, isn_nn, is_nb, is_bn, isn_bn, is_in, isn_in, is_ib, is_sn, isn_sn, is_sb, is_tn, isn_tn, is_tb, is_on, isn_on, is_ob, is_bb, rd_get, tn_non, tn_bl, tn_int, tn_str, tn_tup, kit_NoneType_int, kit_NoneType_bool, kit_NoneType_str, kit_NoneType_tuple, kit_NoneType_list, kit_NoneType_dict, kit_bool_int, kit_bool_bool, kit_bool_str, kit_bool_tuple, kit_bool_list, kit_bool_dict, kit_int_int, kit_int_bool, kit_int_str, kit_int_tuple, kit_int_list, kit_int_dict, kit_str_int, kit_str_bool, kit_str_str, kit_str_tuple, kit_str_list, kit_str_dict, kit_tuple_int, kit_tuple_bool, kit_tuple_str, kit_tuple_tuple, kit_tuple_list, kit_tuple_dict, kit_list_int, kit_list_bool, kit_list_str, kit_list_tuple, kit_list_list, kit_list_dict, kit_dict_int, kit_dict_bool, kit_dict_str, kit_dict_tuple, kit_dict_list, kit_dict_dict,
  startD, wipeD, List.map_cons, List.map_nil, List.length_cons, List.length_nil, List.replicate_succ, List.replicate_zero, List.append_nil, List.cons_append, List.nil_append, List.getElem?_cons_zero, List.getElem?_cons_succ, List.set_cons_zero, List.set_cons_succ,
  Nat.reduceAdd, Nat.reduceSub, Nat.zero_add, Nat.add_zero, Nat.sub_self, Nat.reduceEqDiff, Nat.reduceLT, Int.reduceAdd, Int.reduceSub, Int.reduceNeg, Int.reduceEq, Int.reduceLT, Int.reduceLE, Int.zero_add, Int.add_zero, Int.cast_ofNat_Int, Int.reduceMul, Int.reduceToNat,
  ofs, String.reduceEq, decide_true, decide_false, ati0, ati1, ati2, ati3, ati4, Bool.not_true, Bool.not_false, true_and, and_true, if_true, Bool.false_eq_true, if_false, Option.some.injEq, eq_self_iff_true, BEq.rfl, List.all_cons, List.all_nil, 
  Bool.or_true, Bool.or_false, Bool.false_or, Bool.true_or, Bool.and_self, Bool.and_true, Bool.true_and, Bool.and_false, Bool.false_and, beq_self_eq_true, enc, tn_enc, encS, tn_encS, rd_disp, rd_pn, rd_pc, Bool.true_eq_false, reduceCtorEq, rd_ls])
local macro_rules | `(tactic| walk_at "sq") => `(tactic| (rw [rh_seq]; walk_at "dl"))
local macro_rules | `(tactic| walk_at "all") => `(tactic| (try walk_at "dl"); repeat walk_at "sq")
variable {P : Program} {w : World} {K : PySem.W.Frag} {mg : Str → Option Value} {base : Heap} {T : List (Addr × Str)}
/-! ### the law's own sentence -/
def spLawSo (n : Nat) : DSp := fun ds μ q => ∃ (s : Sn) (us vs : List Int) (ja : Nat) (as : Asg) (d B : Int), ds = [encS s, lasD us vs, .obj ja, .int d] ∧ s.ht < n ∧ s.sc (as.map (·.1)) ∧ us.length ≤ 200 ∧ 0 < vs.length ∧ vs.length ≤ 200 ∧ μ[ja]? = some (.dk (encA as)) ∧
  d ≤ 4 ∧ as.length + s.ht ≤ 1000 ∧ (∀ kv ∈ as, 0 ≤ kv.2 ∧ kv.2 ≤ B) ∧ 0 ≤ B ∧ B + s.ht * 4000 ≤ 1099511627776 ∧ ∀ μ', Ext μ μ' → q (.bl (bsb us vs s as d)) μ'
theorem lw_at (us vs : List Int) (i : Nat) (h : i < us.length) : atI (us.map D.int) (i : Int) = some (.int (lw us vs i)) := by
  refine atN ?_
  rw [List.getElem?_map, List.getElem?_eq_getElem h]
  unfold lw
  rw [if_pos h, List.getD_eq_getElem?_getD, List.getElem?_eq_getElem h]
  rfl
theorem lw_at2 (us vs : List Int) (i : Nat) (h : ¬ i < us.length) (hv : 0 < vs.length) (j : Int) (hj : j = (((i - us.length) % vs.length : Nat) : Int)) : atI (vs.map D.int) j = some (.int (lw us vs i)) := by
  subst hj
  have hm : (i - us.length) % vs.length < vs.length := Nat.mod_lt _ hv
  refine atN ?_
  rw [List.getElem?_map, List.getElem?_eq_getElem hm]
  unfold lw
  rw [if_neg h, List.getD_eq_getElem?_getD, List.getElem?_eq_getElem hm]
  rfl
theorem ok_lawso_step (M : Fx K mg) (n : Nat) (C__law_is_so : FnOk P w K mg base CX0 n M.a__law_is_so M.d__law_is_so ["p", "lasso", "at", "deep"] (lSp K T 4 (spLawSo n))) :
    FnOk P w K mg base CX0 (n + 1) M.a__law_is_so M.d__law_is_so ["p", "lasso", "at", "deep"] (lSp K T 4 (spLawSo (n + 1))) :=
  dl_fn (T := T) (k := n) M.F__law_is_so sc__law_is_so (fun cdv A outer s H hr => (pdss_cons (pds_asg (pd_var 1) (pdg_tup (n := 2) rfl (pdgs_cons (pdg_name 7 sc__law_is_so.nd) (pdgs_cons (pdg_name 8 sc__law_is_so.nd) pdgs_nil))))
    (pdss_cons (pds_asg (pd_ix hr (pd_var 0) pd_int) (pdg_name 4 sc__law_is_so.nd))
    (pdss_cons (pds_if (pb_cmp (or_eq hr) sim_eq (pd_var 4) pd_str) (pdss_cons (pds_asg (pd_ix hr (pd_var 2) (pd_ix hr (pd_var 0) pd_int)) (pdg_name 6 sc__law_is_so.nd))
    (pdss_one (pds_ret (pd_cmp (or_eq hr) sim_eq (pd_if (pb_cmp op_lt sim_lt (pd_var 6) (pd_callB cr_len sim_len (by rfl) M.z_len (by decide +kernel) (pda_cons (pd_var 7) pda_nil))) (pd_ix hr (pd_var 7) (pd_var 6)) (pd_ix hr (pd_var 8) (pd_op op_mod sim_mod (pd_op op_sub sim_sub (pd_var 6) (pd_callB cr_len sim_len (by rfl) M.z_len (by decide +kernel) (pda_cons (pd_var 7) pda_nil))) (pd_callB cr_len sim_len (by rfl) M.z_len (by decide +kernel) (pda_cons (pd_var 8) pda_nil))))) (pd_ix hr (pd_var 0) pd_int))))) pdss_nil)
    (pdss_cons (pds_if (pb_cmp (or_eq hr) sim_eq (pd_var 4) pd_str) (pdss_one (pds_ret (pd_cmp (or_eq hr) sim_eq (pd_ix hr (pd_var 2) (pd_ix hr (pd_var 0) pd_int)) (pd_op or_add sim_add (pd_ix hr (pd_var 2) (pd_ix hr (pd_var 0) pd_int)) pd_int)))) pdss_nil)
    (pdss_cons (pds_if (pb_cmp (or_eq hr) sim_eq (pd_var 4) pd_str) (pdss_one (pds_ret (pd_cmp op_lt sim_lt (pd_ix hr (pd_var 2) (pd_ix hr (pd_var 0) pd_int)) (pd_ix hr (pd_var 2) (pd_ix hr (pd_var 0) pd_int))))) pdss_nil)
    (pdss_cons (pds_if (pb_cmp (or_eq hr) sim_eq (pd_var 4) pd_str) (pdss_one (pds_ret (pd_not (pd_call C__law_is_so (hr.mono (by omega)) (by rfl) M.m__law_is_so M.F__law_is_so.kp M.b__law_is_so (pda_cons (pd_ix hr (pd_var 0) pd_int) (pda_cons (pd_var 1) (pda_cons (pd_var 2) (pda_cons (pd_var 3) pda_nil)))) rfl)))) pdss_nil)
    (pdss_cons (pds_if (pb_cmp (or_eq hr) sim_eq (pd_var 4) pd_str) (pdss_one (pds_ret (pd_and (pd_call C__law_is_so (hr.mono (by omega)) (by rfl) M.m__law_is_so M.F__law_is_so.kp M.b__law_is_so (pda_cons (pd_ix hr (pd_var 0) pd_int) (pda_cons (pd_var 1) (pda_cons (pd_var 2) (pda_cons (pd_var 3) pda_nil)))) rfl) (pd_one (pd_call C__law_is_so (hr.mono (by omega)) (by rfl) M.m__law_is_so M.F__law_is_so.kp M.b__law_is_so (pda_cons (pd_ix hr (pd_var 0) pd_int) (pda_cons (pd_var 1) (pda_cons (pd_var 2) (pda_cons (pd_var 3) pda_nil)))) rfl))))) pdss_nil)
    (pdss_cons (pds_if (pb_cmp (or_eq hr) sim_eq (pd_var 4) pd_str) (pdss_one (pds_ret (pd_or (pd_call C__law_is_so (hr.mono (by omega)) (by rfl) M.m__law_is_so M.F__law_is_so.kp M.b__law_is_so (pda_cons (pd_ix hr (pd_var 0) pd_int) (pda_cons (pd_var 1) (pda_cons (pd_var 2) (pda_cons (pd_var 3) pda_nil)))) rfl) (pd_one (pd_call C__law_is_so (hr.mono (by omega)) (by rfl) M.m__law_is_so M.F__law_is_so.kp M.b__law_is_so (pda_cons (pd_ix hr (pd_var 0) pd_int) (pda_cons (pd_var 1) (pda_cons (pd_var 2) (pda_cons (pd_var 3) pda_nil)))) rfl))))) pdss_nil)
    (pdss_cons (pds_asg (pd_op or_add sim_add (pd_callB (cr_maxA rfl) sim_max (by rfl) M.z_max (by decide +kernel) (pda_cons (pd_op or_add sim_add (pd_lst (pda_cons (pd_callB cr_len sim_len (by rfl) M.z_len (by decide +kernel) (pda_cons (pd_var 7) pda_nil)) pda_nil)) (pd_lock 2 (pd_lc rfl sc__law_is_so.nd (pdi_keys (pd_var 2)) (blkOk_by (own := [("x", 10)]) (N := N__law_is_so) (sc := defScope s__law_is_so) (by decide +kernel)) (fun _ _ _ _ _ => (pdg_name 10 sc__law_is_so.nd)) (fun _ _ _ _ _ => pdts_nil) (fun _ _ _ _ _ => (pd_ix hr (pd_var 2) (pd_var 10)))))) pda_nil)) (pd_op or_mul sim_mul (pd_callB cr_len sim_len (by rfl) M.z_len (by decide +kernel) (pda_cons (pd_var 8) pda_nil)) (pd_if (pb_cmp op_gt sim_gt (pd_var 3) pd_int) (pd_ix hr (pd_lst (pda_cons pd_int (pda_cons pd_int (pda_cons pd_int (pda_cons pd_int pda_nil))))) (pd_op op_sub sim_sub (pd_var 3) pd_int)) pd_int))) (pdg_name 5 sc__law_is_so.nd))
    (pdss_cons (pds_for PassesOwn.never rfl (pdi_rng1 (by rfl) M.z_range (pda_cons (pd_op or_add sim_add (pd_var 5) pd_int) pda_nil)) (pdg_name 6 sc__law_is_so.nd) (pdss_cons (pds_asg (pd_callTy cr_dictC sim_dictOf (by rfl) M.z_dict (by decide +kernel) (pda_cons (pd_var 2) pda_nil)) (pdg_name 9 sc__law_is_so.nd))
    (pdss_cons (pds_asg (pd_var 6) (pdg_sub hr (pd_var 9) (pd_ix hr (pd_var 0) pd_int)))
    (pdss_one (pds_if (pb_cmp (or_eq hr) sim_eq (pd_call C__law_is_so (hr.mono (by omega)) (by rfl) M.m__law_is_so M.F__law_is_so.kp M.b__law_is_so (pda_cons (pd_ix hr (pd_var 0) pd_int) (pda_cons (pd_var 1) (pda_cons (pd_var 9) (pda_cons (pd_op op_sub sim_sub (pd_var 3) pd_int) pda_nil)))) rfl) (pd_cmp (or_eq hr) sim_eq (pd_var 4) pd_str)) (pdss_one (pds_ret (pd_cmp (or_eq hr) sim_eq (pd_var 4) pd_str))) pdss_nil)))))
    (pdss_one (pds_ret (pd_cmp (or_eq hr) sim_eq (pd_var 4) pd_str)))))))))))))) (fun ds μ q hl h => by
    clear hl C__law_is_so
    obtain ⟨s, us, vs, ja, as, d, B, rfl, h1, h2, h3, h4, h5, ga, h6, h7, h8, h9, h10, h⟩ := h
    have sz : 0 ≤ sizeLine ∧ 1 ≤ sizeLine ∧ 2 ≤ sizeLine ∧ 3 ≤ sizeLine ∧ 5000 ≤ sizeLine := by decide
    have h0 := h μ (Ext.refl μ)
    have vd : ∀ x, x ∈ as.map (·.1) → valD (encA as) (.inl x) = some (.int (look as x)) := fun x hx => by rw [valD_enc, lk_some hx]; rfl
    have lb : ∀ x, 0 ≤ look as x ∧ look as x ≤ B := fun x => by
      unfold look
      cases hl : lk as x with
      | none => exact ⟨Int.le_refl _, h9⟩
      | some v => exact h8 _ (lk_mem hl)
    unfold lasD
    cases s with
    | lt x a =>
      walk_at "all"
      rw [rh_ixD ga rfl (vd x h2)]
      walk_at "all"
      have hi := (lb x).1
      have e0 : bsb us vs (.lt x a) as d = decide (lw us vs (look as x).toNat = a) := bool_ext (bsb_iff.trans (by show lw us vs (look as x).toNat = a ↔ _; rw [decide_eq_true_eq]))
      rw [e0] at h0
      simp only [List.length_map]
      by_cases hlt : look as x < (us.length : Int)
      · simp only [hlt, decide_true]
        walk_at "all"
        rw [ro_ixT (d := .int (lw us vs (look as x).toNat)) (by have := lw_at us vs (look as x).toNat (by omega); rwa [Int.toNat_of_nonneg hi] at this)]
        walk_at "all"
        exact h0
      · simp only [hlt, decide_false]
        walk_at "all"
        simp only [List.length_map]
        refine ⟨by omega, ?_⟩
        rw [ro_ixT (d := .int (lw us vs (look as x).toNat)) (lw_at2 us vs (look as x).toNat (by omega) h4 _ (by rw [Int.natCast_emod]; congr 1; omega))]
        walk_at "all"
        exact h0
    | nx x y =>
      walk_at "all"
      rw [rh_ixD ga rfl (vd y h2.2)]
      walk_at "all"
      rw [rh_ixD ga rfl (vd x h2.1)]
      walk_at "all"
      have e0 : bsb us vs (.nx x y) as d = decide (look as y = look as x + 1) := bool_ext (bsb_iff.trans (by show look as y = look as x + 1 ↔ _; rw [decide_eq_true_eq]))
      rw [e0] at h0
      exact h0
    | ls x y =>
      walk_at "all"
      rw [rh_ixD ga rfl (vd x h2.1)]
      walk_at "all"
      rw [rh_ixD ga rfl (vd y h2.2)]
      walk_at "all"
      have e0 : bsb us vs (.ls x y) as d = decide (look as x < look as y) := bool_ext (bsb_iff.trans (by show look as x < look as y ↔ _; rw [decide_eq_true_eq]))
      rw [e0] at h0
      exact h0
    | no p =>
      simp only [Sn.ht] at h1 h7 h10
      walk_at "all"
      refine ⟨p, us, vs, ja, as, d, B, rfl, by omega, h2, h3, h4, h5, ga, h6, by omega, h8, h9, by omega, fun μ1 e1 => ?_⟩
      have h' := h μ1 e1
      rw [bsb_no] at h'
      walk_at "all"
      exact h'
    | an p r =>
      simp only [Sn.ht] at h1 h7 h10
      walk_at "all"
      refine ⟨p, us, vs, ja, as, d, B, rfl, by omega, h2.1, h3, h4, h5, ga, h6, by omega, h8, h9, by omega, fun μ1 e1 => ?_⟩
      walk_at "all"
      cases hF : bsb us vs p as d with
      | false =>
        have h' := h μ1 e1
        rw [bsb_an, hF, Bool.false_and] at h'
        walk_at "all"
        exact h'
      | true =>
        walk_at "all"
        refine ⟨r, us, vs, ja, as, d, B, rfl, by omega, h2.2, h3, h4, h5, e1 _ _ ga, h6, by omega, h8, h9, by omega, fun μ2 e2 => ?_⟩
        have h' := h μ2 (e1.trans e2)
        rw [bsb_an, hF, Bool.true_and] at h'
        exact h'
    | orr p r =>
      simp only [Sn.ht] at h1 h7 h10
      walk_at "all"
      refine ⟨p, us, vs, ja, as, d, B, rfl, by omega, h2.1, h3, h4, h5, ga, h6, by omega, h8, h9, by omega, fun μ1 e1 => ?_⟩
      walk_at "all"
      cases hF : bsb us vs p as d with
      | true =>
        have h' := h μ1 e1
        rw [bsb_orr, hF, Bool.true_or] at h'
        walk_at "all"
        exact h'
      | false =>
        walk_at "all"
        refine ⟨r, us, vs, ja, as, d, B, rfl, by omega, h2.2, h3, h4, h5, e1 _ _ ga, h6, by omega, h8, h9, by omega, fun μ2 e2 => ?_⟩
        have h' := h μ2 (e1.trans e2)
        rw [bsb_orr, hF, Bool.false_or] at h'
        exact h'
    | ex x p =>
      simp only [Sn.ht] at h1 h7 h10
      walk_at "all"
      refine ⟨sz.2.1, ?_⟩
      have la : ja < μ.length := (List.getElem?_eq_some_iff.mp ga).1
      have ga1 : (μ ++ [MO.lst [D.int ((us.map D.int).length : Int)]])[ja]? = some (.dk (encA as)) := Ext.app _ _ _ _ ga
      rw [rh_lock rfl ga1]
      intro o ys
      have la1 : ja < (μ ++ [MO.lst [D.int ((us.map D.int).length : Int)]]).length := (List.getElem?_eq_some_iff.mp ga1).1
      have gs := List.getElem?_set_self (a := MO.dkf o ys (encA as)) la1
      walk_at "all"
      rw [rh_keys gs]
      walk_at "all"
      refine lc_map as (fun kv => .int kv.1) (fun kv => .int (look as kv.1)) (by unfold encA; rw [List.map_map]; rfl) (fun μ' e => e _ _ gs) (by omega) (fun kv hkv μ2 q' e2 h' => ?_) fun μ2 e2 g2 => ?_
      · walk_at "all"
        rw [rh_ixF (e2 _ _ gs) rfl (vd kv.1 (List.mem_map.mpr ⟨kv, hkv, rfl⟩))]
        exact h' _ (Ext.refl _)
      refine ⟨e2 _ _ gs, ?_⟩
      have E3 := Ext.unlock ga1 e2
      have g3 : (μ2.set ja (.dk (encA as)))[((μ ++ [MO.lst [D.int ((us.map D.int).length : Int)]]).set ja (.dkf o ys (encA as))).length]? = some (.lst (as.map fun kv => .int (look as kv.1))) := by
        rw [List.getElem?_set_ne (by rw [List.length_set]; omega)]
        exact g2
      generalize μ2.set ja (.dk (encA as)) = μ3 at E3 g3 ⊢
      walk_at "all"
      rw [rh_addL (E3 _ _ (get_new _ _)) g3]
      refine ⟨by simp only [List.length_map, List.length_cons, List.length_nil]; omega, ?_⟩
      rw [rh_max (ns := (us.length : Int) :: as.map fun kv => look as kv.1) (by rw [get_new, List.length_map]; refine congrArg (fun l => some (MO.lst l)) ?_; rw [List.map_cons, List.map_map]; rfl)]
      refine ⟨Nat.succ_pos _, fun m hm hle => ?_⟩
      have em : m = mx ((us.length : Int) :: as.map fun kv => look as kv.1) := by
        have a1 := hle _ (List.mem_cons_self ..)
        have a2 := mx_le hm
        have a3 := mx_of hle (by omega)
        omega
      have mB : m ≤ 200 + B := by
        rw [em]
        refine mx_of (fun y hy => ?_) (by omega)
        rcases List.mem_cons.mp hy with rfl | hy
        · omega
        · obtain ⟨kv, _, rfl⟩ := List.mem_map.mp hy
          have := (lb kv.1).2
          omega
      have m0 : 0 ≤ m := by rw [em]; exact mx_nn _
      have eHI : m + (vs.length : Int) * idx d = hi us vs as d := by rw [em]; rfl
      have c0 := idx_lo d
      have c1 := idx_hi d
      have v17 : (vs.length : Int) * idx d ≤ 200 * 17 := Int.mul_le_mul (by omega) c1 (by omega) (by omega)
      have v00 : 0 ≤ (vs.length : Int) * idx d := Int.mul_nonneg (by omega) (by omega)
      have HB : 0 ≤ hi us vs as d ∧ hi us vs as d ≤ B + 4000 := by omega
      walk_at "all"
      by_cases hd : 0 < d
      · simp only [hd, decide_true]
        walk_at "all"
        refine ⟨by have := sz.2.2.2.2; omega, ?_⟩
        rw [rh_ixL (get_new _ _) (d := .int (idx d)) (by
          unfold idx
          rw [if_pos hd]
          rcases (show d = 1 ∨ d = 2 ∨ d = 3 ∨ d = 4 by omega) with rfl | rfl | rfl | rfl <;> rfl)]
        walk_at "all"
        have eHI3 := eHI
        refine ⟨.inl (by rw [List.length_map]; omega), ?_⟩
        simp only [List.length_map, eHI3]
        refine ⟨by omega, ?_⟩
        refine for_inv (List.range (hi us vs as d + 1).toNat) (fun (i : Nat) => .int (i : Int)) (fun k ρ' μ' => Ext μ μ' ∧ (∀ i : Nat, i < k → bsb us vs p (put as x i) (d - 1) = false) ∧ ∃ a b,
          ρ' = [some (encS (.ex x p)), some (lasD us vs), some (.obj ja), some (.int d), some (.str "some"), some (.int (hi us vs as d)), a, some (.tup (us.map .int)), some (.tup (vs.map .int)), b, none]) (rg01 _)
          ⟨(Ext.app _ _).trans (E3.trans ((Ext.app _ _).trans (Ext.app _ _))), fun i hi => absurd hi (Nat.not_lt_zero _), none, none, rfl⟩ (fun _ _ _ _ => trivial) (fun k y hy ρ' μ5 N hI hN => ?_) fun ρ' μ5 hI => ?_
        · obtain ⟨e5, hb, a, b, rfl⟩ := hI
          have hk : k < (hi us vs as d + 1).toNat ∧ y = k := by
            have h1 := (List.getElem?_eq_some_iff.mp hy).1
            rw [List.length_range] at h1
            rw [List.getElem?_range h1] at hy
            cases hy
            exact ⟨h1, rfl⟩
          obtain ⟨hk, rfl⟩ := hk
          unfold lasD
          walk_at "all"
          rw [rh_dictD (e5 _ _ ga)]
          walk_at "all"
          rw [rh_setD (get_new _ _) rfl, set_new, putD_enc]
          refine ⟨by unfold encA; rw [List.length_map]; omega, ?_⟩
          walk_at "all"
          have hlen := put_len as x (y : Int)
          refine ⟨p, us, vs, _, put as x (y : Int), d - 1, B + 4000, rfl, by omega, ?_, h3, h4, h5, get_new _ _, by omega, by omega, fun kv hkv => ?_, by omega, by omega, fun μ6 e6 => ?_⟩
          · exact Sn.sc_mono p _ _ (fun z hz => put_keys hz) h2.2
          · rcases put_mem hkv with e | hm
            · omega
            · have := h8 kv hm
              omega
          · walk_at "all"
            cases hR : bsb us vs p (put as x (y : Int)) (d - 1) with
            | true =>
              walk_at "all"
              have h' := h μ6 (e5.trans ((Ext.app _ _).trans e6))
              rwa [show bsb us vs (.ex x p) as d = true from bsb_iff.mpr ⟨y, by omega, bsb_iff.mp hR⟩] at h'
            | false =>
              walk_at "all"
              refine hN _ _ ⟨e5.trans ((Ext.app _ _).trans e6), fun i hi => ?_, _, _, rfl⟩
              rcases Nat.lt_succ_iff_lt_or_eq.mp hi with hi | rfl
              · exact hb i hi
              · exact hR
        · obtain ⟨e5, hb, a, b, rfl⟩ := hI
          rw [List.length_range] at hb
          unfold lasD
          walk_at "all"
          have h' := h μ5 e5
          rwa [show bsb us vs (.ex x p) as d = false from by
            rw [← Bool.not_eq_true]
            intro z
            obtain ⟨i, i1, i2⟩ := bsb_iff.mp z
            have := hb i (by omega)
            rw [bsb_iff.mpr i2] at this
            cases this] at h'
      · simp only [hd, decide_false]
        walk_at "all"
        have eHI3 : m + (vs.length : Int) * 3 = hi us vs as d := by
          rw [← eHI]
          unfold idx
          rw [if_neg hd]
        refine ⟨.inl (by rw [List.length_map]; omega), ?_⟩
        simp only [List.length_map, eHI3]
        refine ⟨by omega, ?_⟩
        refine for_inv (List.range (hi us vs as d + 1).toNat) (fun (i : Nat) => .int (i : Int)) (fun k ρ' μ' => Ext μ μ' ∧ (∀ i : Nat, i < k → bsb us vs p (put as x i) (d - 1) = false) ∧ ∃ a b,
          ρ' = [some (encS (.ex x p)), some (lasD us vs), some (.obj ja), some (.int d), some (.str "some"), some (.int (hi us vs as d)), a, some (.tup (us.map .int)), some (.tup (vs.map .int)), b, none]) (rg01 _)
          ⟨(Ext.app _ _).trans (E3.trans (Ext.app _ _)), fun i hi => absurd hi (Nat.not_lt_zero _), none, none, rfl⟩ (fun _ _ _ _ => trivial) (fun k y hy ρ' μ5 N hI hN => ?_) fun ρ' μ5 hI => ?_
        · obtain ⟨e5, hb, a, b, rfl⟩ := hI
          have hk : k < (hi us vs as d + 1).toNat ∧ y = k := by
            have h1 := (List.getElem?_eq_some_iff.mp hy).1
            rw [List.length_range] at h1
            rw [List.getElem?_range h1] at hy
            cases hy
            exact ⟨h1, rfl⟩
          obtain ⟨hk, rfl⟩ := hk
          unfold lasD
          walk_at "all"
          rw [rh_dictD (e5 _ _ ga)]
          walk_at "all"
          rw [rh_setD (get_new _ _) rfl, set_new, putD_enc]
          refine ⟨by unfold encA; rw [List.length_map]; omega, ?_⟩
          walk_at "all"
          have hlen := put_len as x (y : Int)
          refine ⟨p, us, vs, _, put as x (y : Int), d - 1, B + 4000, rfl, by omega, ?_, h3, h4, h5, get_new _ _, by omega, by omega, fun kv hkv => ?_, by omega, by omega, fun μ6 e6 => ?_⟩
          · exact Sn.sc_mono p _ _ (fun z hz => put_keys hz) h2.2
          · rcases put_mem hkv with e | hm
            · omega
            · have := h8 kv hm
              omega
          · walk_at "all"
            cases hR : bsb us vs p (put as x (y : Int)) (d - 1) with
            | true =>
              walk_at "all"
              have h' := h μ6 (e5.trans ((Ext.app _ _).trans e6))
              rwa [show bsb us vs (.ex x p) as d = true from bsb_iff.mpr ⟨y, by omega, bsb_iff.mp hR⟩] at h'
            | false =>
              walk_at "all"
              refine hN _ _ ⟨e5.trans ((Ext.app _ _).trans e6), fun i hi => ?_, _, _, rfl⟩
              rcases Nat.lt_succ_iff_lt_or_eq.mp hi with hi | rfl
              · exact hb i hi
              · exact hR
        · obtain ⟨e5, hb, a, b, rfl⟩ := hI
          rw [List.length_range] at hb
          unfold lasD
          walk_at "all"
          have h' := h μ5 e5
          rwa [show bsb us vs (.ex x p) as d = false from by
            rw [← Bool.not_eq_true]
            intro z
            obtain ⟨i, i1, i2⟩ := bsb_iff.mp z
            have := hb i (by omega)
            rw [bsb_iff.mpr i2] at this
            cases this] at h'
    | al x p =>
      simp only [Sn.ht] at h1 h7 h10
      walk_at "all"
      refine ⟨sz.2.1, ?_⟩
      have la : ja < μ.length := (List.getElem?_eq_some_iff.mp ga).1
      have ga1 : (μ ++ [MO.lst [D.int ((us.map D.int).length : Int)]])[ja]? = some (.dk (encA as)) := Ext.app _ _ _ _ ga
      rw [rh_lock rfl ga1]
      intro o ys
      have la1 : ja < (μ ++ [MO.lst [D.int ((us.map D.int).length : Int)]]).length := (List.getElem?_eq_some_iff.mp ga1).1
      have gs := List.getElem?_set_self (a := MO.dkf o ys (encA as)) la1
      walk_at "all"
      rw [rh_keys gs]
      walk_at "all"
      refine lc_map as (fun kv => .int kv.1) (fun kv => .int (look as kv.1)) (by unfold encA; rw [List.map_map]; rfl) (fun μ' e => e _ _ gs) (by omega) (fun kv hkv μ2 q' e2 h' => ?_) fun μ2 e2 g2 => ?_
      · walk_at "all"
        rw [rh_ixF (e2 _ _ gs) rfl (vd kv.1 (List.mem_map.mpr ⟨kv, hkv, rfl⟩))]
        exact h' _ (Ext.refl _)
      refine ⟨e2 _ _ gs, ?_⟩
      have E3 := Ext.unlock ga1 e2
      have g3 : (μ2.set ja (.dk (encA as)))[((μ ++ [MO.lst [D.int ((us.map D.int).length : Int)]]).set ja (.dkf o ys (encA as))).length]? = some (.lst (as.map fun kv => .int (look as kv.1))) := by
        rw [List.getElem?_set_ne (by rw [List.length_set]; omega)]
        exact g2
      generalize μ2.set ja (.dk (encA as)) = μ3 at E3 g3 ⊢
      walk_at "all"
      rw [rh_addL (E3 _ _ (get_new _ _)) g3]
      refine ⟨by simp only [List.length_map, List.length_cons, List.length_nil]; omega, ?_⟩
      rw [rh_max (ns := (us.length : Int) :: as.map fun kv => look as kv.1) (by rw [get_new, List.length_map]; refine congrArg (fun l => some (MO.lst l)) ?_; rw [List.map_cons, List.map_map]; rfl)]
      refine ⟨Nat.succ_pos _, fun m hm hle => ?_⟩
      have em : m = mx ((us.length : Int) :: as.map fun kv => look as kv.1) := by
        have a1 := hle _ (List.mem_cons_self ..)
        have a2 := mx_le hm
        have a3 := mx_of hle (by omega)
        omega
      have mB : m ≤ 200 + B := by
        rw [em]
        refine mx_of (fun y hy => ?_) (by omega)
        rcases List.mem_cons.mp hy with rfl | hy
        · omega
        · obtain ⟨kv, _, rfl⟩ := List.mem_map.mp hy
          have := (lb kv.1).2
          omega
      have m0 : 0 ≤ m := by rw [em]; exact mx_nn _
      have eHI : m + (vs.length : Int) * idx d = hi us vs as d := by rw [em]; rfl
      have c0 := idx_lo d
      have c1 := idx_hi d
      have v17 : (vs.length : Int) * idx d ≤ 200 * 17 := Int.mul_le_mul (by omega) c1 (by omega) (by omega)
      have v00 : 0 ≤ (vs.length : Int) * idx d := Int.mul_nonneg (by omega) (by omega)
      have HB : 0 ≤ hi us vs as d ∧ hi us vs as d ≤ B + 4000 := by omega
      walk_at "all"
      by_cases hd : 0 < d
      · simp only [hd, decide_true]
        walk_at "all"
        refine ⟨by have := sz.2.2.2.2; omega, ?_⟩
        rw [rh_ixL (get_new _ _) (d := .int (idx d)) (by
          unfold idx
          rw [if_pos hd]
          rcases (show d = 1 ∨ d = 2 ∨ d = 3 ∨ d = 4 by omega) with rfl | rfl | rfl | rfl <;> rfl)]
        walk_at "all"
        have eHI3 := eHI
        refine ⟨.inl (by rw [List.length_map]; omega), ?_⟩
        simp only [List.length_map, eHI3]
        refine ⟨by omega, ?_⟩
        refine for_inv (List.range (hi us vs as d + 1).toNat) (fun (i : Nat) => .int (i : Int)) (fun k ρ' μ' => Ext μ μ' ∧ (∀ i : Nat, i < k → bsb us vs p (put as x i) (d - 1) = true) ∧ ∃ a b,
          ρ' = [some (encS (.al x p)), some (lasD us vs), some (.obj ja), some (.int d), some (.str "all"), some (.int (hi us vs as d)), a, some (.tup (us.map .int)), some (.tup (vs.map .int)), b, none]) (rg01 _)
          ⟨(Ext.app _ _).trans (E3.trans ((Ext.app _ _).trans (Ext.app _ _))), fun i hi => absurd hi (Nat.not_lt_zero _), none, none, rfl⟩ (fun _ _ _ _ => trivial) (fun k y hy ρ' μ5 N hI hN => ?_) fun ρ' μ5 hI => ?_
        · obtain ⟨e5, hb, a, b, rfl⟩ := hI
          have hk : k < (hi us vs as d + 1).toNat ∧ y = k := by
            have h1 := (List.getElem?_eq_some_iff.mp hy).1
            rw [List.length_range] at h1
            rw [List.getElem?_range h1] at hy
            cases hy
            exact ⟨h1, rfl⟩
          obtain ⟨hk, rfl⟩ := hk
          unfold lasD
          walk_at "all"
          rw [rh_dictD (e5 _ _ ga)]
          walk_at "all"
          rw [rh_setD (get_new _ _) rfl, set_new, putD_enc]
          refine ⟨by unfold encA; rw [List.length_map]; omega, ?_⟩
          walk_at "all"
          have hlen := put_len as x (y : Int)
          refine ⟨p, us, vs, _, put as x (y : Int), d - 1, B + 4000, rfl, by omega, ?_, h3, h4, h5, get_new _ _, by omega, by omega, fun kv hkv => ?_, by omega, by omega, fun μ6 e6 => ?_⟩
          · exact Sn.sc_mono p _ _ (fun z hz => put_keys hz) h2.2
          · rcases put_mem hkv with e | hm
            · omega
            · have := h8 kv hm
              omega
          · walk_at "all"
            cases hR : bsb us vs p (put as x (y : Int)) (d - 1) with
            | false =>
              walk_at "all"
              have h' := h μ6 (e5.trans ((Ext.app _ _).trans e6))
              rwa [show bsb us vs (.al x p) as d = false from by
                rw [← Bool.not_eq_true]
                intro z
                have i2 := bsb_iff.mp z y (by omega)
                rw [bsb_iff.mpr i2] at hR
                cases hR] at h'
            | true =>
              walk_at "all"
              refine hN _ _ ⟨e5.trans ((Ext.app _ _).trans e6), fun i hi => ?_, _, _, rfl⟩
              rcases Nat.lt_succ_iff_lt_or_eq.mp hi with hi | rfl
              · exact hb i hi
              · exact hR
        · obtain ⟨e5, hb, a, b, rfl⟩ := hI
          rw [List.length_range] at hb
          unfold lasD
          walk_at "all"
          have h' := h μ5 e5
          rwa [show bsb us vs (.al x p) as d = true from bsb_iff.mpr fun i hi => bsb_iff.mp (hb i (by omega))] at h'
      · simp only [hd, decide_false]
        walk_at "all"
        have eHI3 : m + (vs.length : Int) * 3 = hi us vs as d := by
          rw [← eHI]
          unfold idx
          rw [if_neg hd]
        refine ⟨.inl (by rw [List.length_map]; omega), ?_⟩
        simp only [List.length_map, eHI3]
        refine ⟨by omega, ?_⟩
        refine for_inv (List.range (hi us vs as d + 1).toNat) (fun (i : Nat) => .int (i : Int)) (fun k ρ' μ' => Ext μ μ' ∧ (∀ i : Nat, i < k → bsb us vs p (put as x i) (d - 1) = true) ∧ ∃ a b,
          ρ' = [some (encS (.al x p)), some (lasD us vs), some (.obj ja), some (.int d), some (.str "all"), some (.int (hi us vs as d)), a, some (.tup (us.map .int)), some (.tup (vs.map .int)), b, none]) (rg01 _)
          ⟨(Ext.app _ _).trans (E3.trans (Ext.app _ _)), fun i hi => absurd hi (Nat.not_lt_zero _), none, none, rfl⟩ (fun _ _ _ _ => trivial) (fun k y hy ρ' μ5 N hI hN => ?_) fun ρ' μ5 hI => ?_
        · obtain ⟨e5, hb, a, b, rfl⟩ := hI
          have hk : k < (hi us vs as d + 1).toNat ∧ y = k := by
            have h1 := (List.getElem?_eq_some_iff.mp hy).1
            rw [List.length_range] at h1
            rw [List.getElem?_range h1] at hy
            cases hy
            exact ⟨h1, rfl⟩
          obtain ⟨hk, rfl⟩ := hk
          unfold lasD
          walk_at "all"
          rw [rh_dictD (e5 _ _ ga)]
          walk_at "all"
          rw [rh_setD (get_new _ _) rfl, set_new, putD_enc]
          refine ⟨by unfold encA; rw [List.length_map]; omega, ?_⟩
          walk_at "all"
          have hlen := put_len as x (y : Int)
          refine ⟨p, us, vs, _, put as x (y : Int), d - 1, B + 4000, rfl, by omega, ?_, h3, h4, h5, get_new _ _, by omega, by omega, fun kv hkv => ?_, by omega, by omega, fun μ6 e6 => ?_⟩
          · exact Sn.sc_mono p _ _ (fun z hz => put_keys hz) h2.2
          · rcases put_mem hkv with e | hm
            · omega
            · have := h8 kv hm
              omega
          · walk_at "all"
            cases hR : bsb us vs p (put as x (y : Int)) (d - 1) with
            | false =>
              walk_at "all"
              have h' := h μ6 (e5.trans ((Ext.app _ _).trans e6))
              rwa [show bsb us vs (.al x p) as d = false from by
                rw [← Bool.not_eq_true]
                intro z
                have i2 := bsb_iff.mp z y (by omega)
                rw [bsb_iff.mpr i2] at hR
                cases hR] at h'
            | true =>
              walk_at "all"
              refine hN _ _ ⟨e5.trans ((Ext.app _ _).trans e6), fun i hi => ?_, _, _, rfl⟩
              rcases Nat.lt_succ_iff_lt_or_eq.mp hi with hi | rfl
              · exact hb i hi
              · exact hR
        · obtain ⟨e5, hb, a, b, rfl⟩ := hI
          rw [List.length_range] at hb
          unfold lasD
          walk_at "all"
          have h' := h μ5 e5
          rwa [show bsb us vs (.al x p) as d = true from bsb_iff.mpr fun i hi => bsb_iff.mp (hb i (by omega))] at h')
theorem ok_lawso (M : Fx K mg) : ∀ n : Nat, FnOk P w K mg base CX0 n M.a__law_is_so M.d__law_is_so ["p", "lasso", "at", "deep"] (lSp K T 4 (spLawSo n))
  | 0 => fn_none fun _ _ _ h => by
    obtain ⟨s, _, _, _, _, _, _, _, h, _⟩ := h
    exact absurd h (by omega)
  | n + 1 => ok_lawso_step M n (ok_lawso M n)
end K64

set_option Elab.async false
set_option linter.all false
set_option maxRecDepth 100000
set_option maxHeartbeats 4000000
namespace K64
open PySem PySem.Spec PyProof.Rows L2 LamX DL
local macro_rules | `(tactic| walk_at "dl") => `(tactic| simp only [rd_var, rd_C, rd_bin, rd_un, rd_nil, rd_cons, rd_L, rd_test, rd_and, rd_or, rd_not, rd_if, rd_band, rd_bor, rd_bnot, rd_chain, rd_call, rd_mt, rd_dnew, rd_nopart, rd_part, rd_sl, rd_lc, rd_itseq, rd_itA, rd_itzip, rd_itkeys, rd_told, rd_yes, rs_ret, rs_retN, rs_exp, rs_skip, rs_brk, rs_cnt, rs_never, rs_ifs, rs_asg, rs_par, rs_for, rg_N, rg_Nl, rg_Cn, rg_Tp, rg_Sb, ro_tup, ro_lst, ro_addI, ro_addS, ro_addT, ro_sub, ro_mulI, ro_lt, ro_le, ro_gt, ro_ge, ro_eqI, ro_eqB, ro_eqS, ro_neI, ro_neB, ro_neS, ro_inT, ro_ninT, ro_neg, ro_lenT, ro_lenS, ro_abs, ro_intI, ro_intB, ro_isi, ro_tupT, ro_lstT, ro_max2, ro_min2, ro_ixT, ro_fdiv, ro_mod, ro_rng1, ro_rng2, ro_rng3, ro_beqS, in_nil, in_cons, eqd_s, eqd_i, fl_s, fl_i, fl_b, fl_n, bA_t, bA_f, bO_t, bO_f, bE_t, bE_f, bBA_t, bBA_f, bBO_t, bBO_f, bC_t, bC_f, bS_t, bS_f, dT_b, pT_i, ro_slT, ro_seqT, is_nn, isn_nn, is_nb, is_bn, isn_bn, is_in, isn_in, is_ib, is_sn, isn_sn, is_sb, is_tn, isn_tn, is_tb, is_on, isn_on, is_ob, is_bb, rd_get, tn_non, tn_bl, tn_int, tn_str, tn_tup, kit_NoneType_int, kit_NoneType_bool, kit_NoneType_str, kit_NoneType_tuple, kit_NoneType_list, kit_NoneType_dict, kit_bool_int, kit_bool_bool, kit_bool_str, kit_bool_tuple, kit_bool_list, kit_bool_dict, kit_int_int, kit_int_bool, kit_int_str, kit_int_tuple, kit_int_list, kit_int_dict, kit_str_int, kit_str_bool, kit_str_str, kit_str_tuple, kit_str_list, kit_str_dict, kit_tuple_int, kit_tuple_bool, kit_tuple_str, kit_tuple_tuple, kit_tuple_list, kit_tuple_dict, kit_list_int, kit_list_bool, kit_list_str, kit_list_tuple, kit_list_list, kit_list_dict, kit_dict_int, kit_dict_bool, kit_dict_str, kit_dict_tuple, kit_dict_list, kit_dict_dict,
  startD, wipeD, List.map_cons, List.map_nil, List.length_cons, List.length_nil, List.replicate_succ, List.replicate_zero, List.append_nil, List.cons_append, List.nil_append, List.getElem?_cons_zero, List.getElem?_cons_succ, List.set_cons_zero, List.set_cons_succ,
  Nat.reduceAdd, Nat.reduceSub, Nat.zero_add, Nat.add_zero, Nat.sub_self, Nat.reduceEqDiff, Nat.reduceLT, Int.reduceAdd, Int.reduceSub, Int.reduceNeg, Int.reduceEq, Int.reduceLT, Int.reduceLE, Int.zero_add, Int.add_zero, Int.cast_ofNat_Int, Int.reduceMul, Int.reduceToNat,
  ofs, String.reduceEq, decide_true, decide_false, ati0, ati1, ati2, ati3, ati4, Bool.not_true, Bool.not_false, true_and, and_true, if_true, Bool.false_eq_true, if_false, Option.some.injEq, eq_self_iff_true, BEq.rfl, List.all_cons, List.all_nil, 
  Bool.or_true, Bool.or_false, Bool.false_or, Bool.true_or, Bool.and_self, Bool.and_true, Bool.true_and, Bool.and_false, Bool.false_and, beq_self_eq_true, enc, tn_enc, encS, tn_encS, rd_disp, rd_pn, rd_pc, Bool.true_eq_false, reduceCtorEq, rd_ls])
local macro_rules | `(tactic| walk_at "sq") => `(tactic| (rw [rh_seq]; walk_at "dl"))
local macro_rules | `(tactic| walk_at "all") => `(tactic| (try walk_at "dl"); repeat walk_at "sq")
variable {P : Program} {w : World} {K : PySem.W.Frag} {mg : Str → Option Value} {base : Heap} {T : List (Addr × Str)}
/-! ### the law -/
/-- the law's table of code objects -/
abbrev LT (LP : Addr) : List (Addr × Str) := [(LP, "law.<locals>.<lambda>")]
def spLaw : DSp := fun ds μ q => ∃ (s : Nat) (ns : List Int), ds = [.obj s] ∧ lstOf μ s = some (ns.map .int) ∧ ∀ μ', q (.bl true) μ'
theorem ok_law (M : Fx K mg) {LP c : Addr} {ocL : Value} {odL : Option Addr} {dVL kVL docL pmL : Value} {anL : Option Addr} {ctL : Value} {oslL : Array (Option Value)} {ocT : Value} {odT : Option Addr} {dVT kVT docT pmT : Value} {anT : Option Addr} {cdvT ctT : Value} {oslT : Array (Option Value)}
    (lkL : K.lookup M.a_law = some ⟨ocL, odL, .func (PySem.W.fnOf "law" "law" (defArgs s_law) (defBody s_law) (defScope s_law) dVL kVL docL pmL anL (.ref c) ctL), oslL⟩) (hcL : PySem.W.codeIn K (.ref c) "law" = true)
    (lkT : K.lookup M.a__law_told = some ⟨ocT, odT, .func (PySem.W.fnOf "_law_told" "_law_told" (defArgs s__law_told) (defBody s__law_told) (defScope s__law_told) dVT kVT docT pmT anT cdvT ctT), oslT⟩) (hcT : PySem.W.codeIn K cdvT "_law_told" = true)
    (bT : Binds K (PySem.W.fnOf "_law_told" "_law_told" (defArgs s__law_told) (defBody s__law_told) (defScope s__law_told) dVT kVT docT pmT anT cdvT ctT) ["call"] []) (TB : TabB base mg c LP) :
    FnOk P w K mg base CX0 61 M.a_law (PySem.W.fnOf "law" "law" (defArgs s_law) (defBody s_law) (defScope s_law) dVL kVL docL pmL anL (.ref c) ctL) ["script"] (lSp K (LT LP) 1 spLaw) :=
  have C__law_stream := ok_stream (P := P) (w := w) (base := base) (T := LT LP) M
  have C__law_draw := ok_draw (P := P) (w := w) (base := base) (T := LT LP) M
  have C__law_formula := ok_formula (P := P) (w := w) (base := base) (T := LT LP) M 8
  have C_sentence_of_formula := ok_sentence (P := P) (w := w) (base := base) (T := LT LP) M 8
  have C__law_deep := ok_deep (P := P) (w := w) (base := base) (T := LT LP) M 45
  have C__law_truth := ok_truth (P := P) (w := w) (base := base) (T := LT LP) M 8
  have C_is_so := ok_is_so (P := P) (w := w) (base := base) (T := LT LP) M 8
  have C__law_is_so := ok_lawso (P := P) (w := w) (base := base) (T := LT LP) M 45
  dl_fnC (T := LT LP) (k := 60) lkL hcL sc_law (fun A outer s H hr => (pdss_cons (pds_asg (pd_call C__law_stream (hr.mono (by omega)) (by rfl) M.m__law_stream M.F__law_stream.kp M.b__law_stream (pda_cons (pd_var 0) (pda_cons pd_int pda_nil)) rfl) (pdg_name 1 sc_law.nd))
    (pdss_cons (pds_asg (pd_op or_add sim_add pd_int (pd_call C__law_draw (hr.mono (by omega)) (by rfl) M.m__law_draw M.F__law_draw.kp M.b__law_draw (pda_cons (pd_var 1) (pda_cons pd_int pda_nil)) rfl)) (pdg_name 2 sc_law.nd))
    (pdss_cons (pds_for PassesOwn.never rfl (pdi_rng1 (by rfl) M.z_range (pda_cons pd_int pda_nil)) (pdg_name 3 sc_law.nd) (pdss_cons (pds_asg (pd_call C__law_formula (hr.mono (by omega)) (by rfl) M.m__law_formula M.F__law_formula.kp M.b__law_formula (pda_cons (pd_var 1) (pda_cons (pd_var 2) (pda_cons (pd_op or_add sim_add pd_int (pd_call C__law_draw (hr.mono (by omega)) (by rfl) M.m__law_draw M.F__law_draw.kp M.b__law_draw (pda_cons (pd_var 1) (pda_cons pd_int pda_nil)) rfl)) pda_nil))) rfl) (pdg_name 4 sc_law.nd))
    (pdss_cons (pds_par (i := 7) (j := 8) rfl sc_law.nd (pd_told (T := LT LP) (rd := spRead 40) (k := 30) (Ng := N__law_told) (by rfl) M.m__law_told M.F__law_told.kp lkT hcT bT sc__law_told rfl (by first | exact Or.inl rfl | exact Or.inr (Or.inl rfl) | exact Or.inr (Or.inr rfl)) (told_reads (ok_read (T := LT LP) M 40) (fun s => (hr.deeper _).mono (by omega)) (by rfl) M.m__law_read M.F__law_read.kp M.b__law_read (fun _ => rfl) (by decide)) TB rfl (List.mem_singleton.mpr rfl) (fun p hp _ => congrArg Prod.snd (List.mem_singleton.mp hp)) (hr.mono (by omega)) (lamS_by (sc := defScope s_law) (by decide +kernel)) rfl (fun _ _ _ _ _ => rfl) (fun A2 o2 s2 H2 E2 f2 c2 hr => (pd_call C_sentence_of_formula (hr.mono (by omega)) (by rfl) M.m_sentence_of_formula M.F_sentence_of_formula.kp M.b_sentence_of_formula (pda_cons (pd_var 2) (pda_cons (pd_var 4) pda_nil)) rfl))) (pd_lst pda_nil))
    (pdss_cons (pds_if (pb_cmp (or_ne hr) sim_ne (pd_ix hr (pd_var 7) pd_int) pd_int) (pdss_one (pds_ret pd_bl)) pdss_nil)
    (pdss_cons (pds_asg (pd_call C__law_deep (hr.mono (by omega)) (by rfl) M.m__law_deep M.F__law_deep.kp M.b__law_deep (pda_cons (pd_ix hr (pd_var 7) pd_int) (pda_cons (pd_lst pda_nil) (pda_cons (pd_var 8) pda_nil))) rfl) (pdg_name 5 sc_law.nd))
    (pdss_cons (pds_if (pbw_pb (pbw_or (pb_cmp op_lt sim_lt (pd_var 5) pd_int) (pbw_or1 (pb_cmp op_gt sim_gt (pd_lenSet (by rfl) M.z_len (by rfl) M.z_set (pd_var 8)) pd_int)))) (pdss_one (pds_ret pd_bl)) pdss_nil)
    (pdss_one (pds_for PassesOwn.never rfl (pdi_rng1 (by rfl) M.z_range (pda_cons pd_int pda_nil)) (pdg_name 6 sc_law.nd) (pdss_cons (pds_asg (pd_tup (pda_cons (pd_callTy call_tuple_of sim_tupleOf (by rfl) M.z_tuple (by decide +kernel) (pda_cons (pd_lc rfl sc_law.nd (pdi_rng1 (by rfl) M.z_range (pda_cons (pd_call C__law_draw (hr.mono (by omega)) (by rfl) M.m__law_draw M.F__law_draw.kp M.b__law_draw (pda_cons (pd_var 1) (pda_cons pd_int pda_nil)) rfl) pda_nil)) (blkOk_by (own := [("i", 11)]) (N := N_law) (sc := defScope s_law) (by decide +kernel)) (fun _ _ _ _ _ => (pdg_name 11 sc_law.nd)) (fun _ _ _ _ _ => pdts_nil) (fun _ _ _ _ _ => (pd_call C__law_draw (hr.mono (by omega)) (by rfl) M.m__law_draw M.F__law_draw.kp M.b__law_draw (pda_cons (pd_var 1) (pda_cons (pd_var 2) pda_nil)) rfl))) pda_nil)) (pda_cons (pd_callTy call_tuple_of sim_tupleOf (by rfl) M.z_tuple (by decide +kernel) (pda_cons (pd_lc rfl sc_law.nd (pdi_rng1 (by rfl) M.z_range (pda_cons (pd_op or_add sim_add pd_int (pd_call C__law_draw (hr.mono (by omega)) (by rfl) M.m__law_draw M.F__law_draw.kp M.b__law_draw (pda_cons (pd_var 1) (pda_cons pd_int pda_nil)) rfl)) pda_nil)) (blkOk_by (own := [("i", 11)]) (N := N_law) (sc := defScope s_law) (by decide +kernel)) (fun _ _ _ _ _ => (pdg_name 11 sc_law.nd)) (fun _ _ _ _ _ => pdts_nil) (fun _ _ _ _ _ => (pd_call C__law_draw (hr.mono (by omega)) (by rfl) M.m__law_draw M.F__law_draw.kp M.b__law_draw (pda_cons (pd_var 1) (pda_cons (pd_var 2) pda_nil)) rfl))) pda_nil)) pda_nil))) (pdg_name 9 sc_law.nd))
    (pdss_cons (pds_asg (pd_ix hr (pd_call C__law_truth (hr.mono (by omega)) (by rfl) M.m__law_truth M.F__law_truth.kp M.b__law_truth (pda_cons (pd_var 4) (pda_cons (pd_op or_add sim_add (pd_ix hr (pd_var 9) pd_int) (pd_ix hr (pd_var 9) pd_int)) (pda_cons (pd_callB cr_len sim_len (by rfl) M.z_len (by decide +kernel) (pda_cons (pd_ix hr (pd_var 9) pd_int) pda_nil)) pda_nil))) rfl) pd_int) (pdg_name 10 sc_law.nd))
    (pdss_cons (pds_if (pb_cmp (or_ne hr) sim_ne (pd_told (T := LT LP) (rd := spRead 40) (k := 30) (Ng := N__law_told) (by rfl) M.m__law_told M.F__law_told.kp lkT hcT bT sc__law_told rfl (by first | exact Or.inl rfl | exact Or.inr (Or.inl rfl) | exact Or.inr (Or.inr rfl)) (told_reads (ok_read (T := LT LP) M 40) (fun s => (hr.deeper _).mono (by omega)) (by rfl) M.m__law_read M.F__law_read.kp M.b__law_read (fun _ => rfl) (by decide)) TB rfl (List.mem_singleton.mpr rfl) (fun p hp _ => congrArg Prod.snd (List.mem_singleton.mp hp)) (hr.mono (by omega)) (lamS_by (sc := defScope s_law) (by decide +kernel)) rfl (fun _ _ _ _ _ => rfl) (fun A2 o2 s2 H2 E2 f2 c2 hr => (pd_call C_is_so (hr.mono (by omega)) (by rfl) M.m_is_so M.F_is_so.kp M.b_is_so (pda_cons (pd_var 4) (pda_cons (pd_var 2) (pda_cons (pd_var 9) pda_nil))) rfl))) (pd_tup (pda_cons pd_int (pda_cons (pd_var 10) pda_nil)))) (pdss_one (pds_ret pd_bl)) pdss_nil)
    (pdss_one (pds_if (pbw_pb (pbw_and (pb_cmp op_le sim_le (pd_var 5) pd_int) (pbw_and1 (pb_cmp (or_ne hr) sim_ne (pd_call C__law_is_so (hr.mono (by omega)) (by rfl) M.m__law_is_so M.F__law_is_so.kp M.b__law_is_so (pda_cons (pd_ix hr (pd_var 7) pd_int) (pda_cons (pd_var 9) (pda_cons pd_dnew (pda_cons (pd_var 5) pda_nil)))) rfl) (pd_var 10))))) (pdss_one (pds_ret pd_bl)) pdss_nil)))))))))))))
    (pdss_one (pds_ret pd_bl)))))) (fun ds μ q hl h => by
    clear hl C__law_stream C__law_draw C__law_formula C_sentence_of_formula C__law_deep C__law_truth C_is_so C__law_is_so
    obtain ⟨s, ns, rfl, hs, h⟩ := h
    walk_at "all"
    refine ⟨s, ns, 0, rfl, hs, fun c0 m0 hc0 hm0 => ?_⟩
    have sz : 0 ≤ sizeLine ∧ 1 ≤ sizeLine ∧ 2 ≤ sizeLine ∧ 3 ≤ sizeLine ∧ 5000 ≤ sizeLine := by decide
    have bx1 : Box (μ ++ [.lst [.int c0, .int m0]]) μ.length := ⟨c0, m0, hc0, hm0, get_new _ _⟩
    generalize μ ++ [MO.lst [.int c0, .int m0]] = μ1 at bx1 ⊢
    generalize μ.length = b at bx1 ⊢
    walk_at "all"
    refine ⟨b, 3, rfl, by decide, by decide, bx1, fun r μ2 r0 r1 B2 => ?_⟩
    walk_at "all"
    refine ⟨by decide, ?_⟩
    obtain ⟨k, hk, k1, k4⟩ : ∃ k : Int, 1 + r = k ∧ 1 ≤ k ∧ k ≤ 4 := ⟨1 + r, rfl, by omega, by omega⟩
    rw [hk]
    have hrg : ∃ l : List Nat, rgD 0 1 2 = l.map fun (i : Nat) => D.int (i : Int) := ⟨_, rg01 2⟩
    obtain ⟨l2, hl2⟩ := hrg
    refine for_inv l2 (fun (i : Nat) => .int (i : Int)) (fun _ ρ' μ' => Box μ' b ∧ ∃ x1 x2 x3 x4 x5 x6 x7 x8 x9, ρ' = [some (.obj s), some (.obj b), some (.int k), x1, x2, x3, x4, x5, x6, x7, x8, x9]) hl2
      ⟨B2.1, _, _, _, _, _, _, _, _, _, rfl⟩ (fun _ _ _ _ => trivial) (fun _ x _ ρ' μ3 N hI hN => ?_) fun ρ' μ3 hI => ?_
    · obtain ⟨bx3, x1, x2, x3, x4, x5, x6, x7, x8, x9, rfl⟩ := hI
      walk_at "all"
      refine ⟨b, 7, rfl, by decide, by decide, bx3, fun w7 μ4 w0 w1 B4 => ?_⟩
      walk_at "all"
      refine ⟨b, k, 1 + w7, rfl, k1, k4, by omega, by omega, by omega, B4.1, fun p μ5 pf pk ps B5 => ?_⟩
      have hht := p.ht_size
      have hrt := root_ht p
      obtain ⟨hbd, hbl⟩ := root_bd p
      obtain ⟨hdat, hdep⟩ := encS_dat (root p)
      walk_at "all"
      refine ⟨p, k, rfl, k1, k4, by omega, by omega, pk, by omega, ?_⟩
      refine ⟨encS (root p), rfl, hdat, by omega, fun μ6 e6 => ?_⟩
      have bx6 := B5.1.ext e6
      walk_at "all"
      have bx7 : Box (μ6 ++ [.lst []]) b := bx6.ext (Ext.app _ _)
      have bne : b ≠ μ6.length := Nat.ne_of_lt bx6.lt
      refine ⟨sz.1, sz.1, ?_⟩
      refine ⟨root p, _, μ6.length, [], [], rfl, by omega, root_sc p, ?_, get_new _ _, Ext.app _ _ _ _ (get_new _ _), by show 0 + _ ≤ _; omega, by show 0 + _ ≤ _; omega, fun μ8 b8 g8 => ?_⟩
      · rw [List.length_append]
        show μ6.length + 1 ≠ μ6.length
        omega
      have bx8 : Box μ8 b := (bx7.ext (Ext.app _ _)).but b8 bne
      have d0 := (root p).dp_nn
      walk_at "all"
      simp only [show ¬ ((root p).dp < 0) by omega, decide_false]
      walk_at "all"
      rw [List.nil_append] at g8
      rw [rh_ls g8]
      refine ⟨by omega, ?_⟩
      have hd3 : (dedupI (root p).bd).length ≤ 3 := dedupI_in _ [0, 1, 2] fun x hx => by
        have := hbd x hx
        rcases (show x = 0 ∨ x = 1 ∨ x = 2 by omega) with rfl | rfl | rfl <;> decide
      walk_at "all"
      simp only [show ¬ ((3 : Int) < ((dedupI (root p).bd).length : Int)) by omega, decide_false]
      walk_at "all"
      refine ⟨by decide, ?_⟩
      refine for_inv l2 (fun (i : Nat) => .int (i : Int)) (fun _ ρ' μ' => Box μ' b ∧ ∃ y1 y2 y3 y4 y5, ρ' = [some (.obj s), some (.obj b), some (.int k), y1, some (enc p), some (.int (root p).dp), y2, some (.tup [.int 0, encS (root p)]), some (.obj μ6.length), y3, y4, y5]) hl2
        ⟨bx8, _, _, _, _, _, rfl⟩ (fun _ _ _ _ => trivial) (fun _ x' _ ρ' μ9 N' hI hN' => ?_) fun ρ' μ9 hI => ?_
      · obtain ⟨bx9, y1, y2, y3, y4, y5, rfl⟩ := hI
        walk_at "all"
        refine ⟨b, 3, rfl, by decide, by decide, bx9, fun nu μ10 u0 u1 B10 => ?_⟩
        walk_at "all"
        refine ⟨⟨by omega, by omega⟩, ?_⟩
        have bx10 := B10.1
        rw [rg01]
        refine lc_inv (fun n acc μ' => Box μ' b ∧ ∃ us : List Int, acc = us.map .int ∧ us.length = n ∧ inLet k us) (fun (i : Nat) => .int (i : Int)) (List.range nu.toNat) 0 [] _ (by rw [List.length_range]; show 0 + _ ≤ _; omega) ⟨bx10.ext (Ext.app _ _), [], rfl, rfl, fun _ h => by cases h⟩ (fun _ _ _ _ => trivial) (get_new _ _) (fun n x _ acc μ' q' hI hj hq => ?_) fun acc μ11 hI g11 => ?_
        · obtain ⟨bx, us, rfl, hus, hlet⟩ := hI
          have hbj : b ≠ μ10.length := Nat.ne_of_lt bx10.lt
          walk_at "all"
          refine ⟨b, k, rfl, by omega, by omega, bx, fun a μ'' a0 a1 B => ?_⟩
          refine hq (.int a) μ'' (B.2 _ _ (fun z => hbj z.symm) hj) ⟨B.1.set hbj _, us ++ [a], by rw [List.map_append]; rfl, by rw [List.length_append, hus]; rfl, fun y hy => ?_⟩
          rcases List.mem_append.mp hy with hy | hy
          · exact hlet y hy
          · rw [List.mem_singleton.mp hy]; exact ⟨a0, a1⟩
        obtain ⟨bx11, us, rfl, hus, hul⟩ := hI
        rw [List.length_range] at hus
        walk_at "all"
        rw [rh_tupL g11]
        walk_at "all"
        refine ⟨b, 2, rfl, by decide, by decide, bx11, fun nv μ12 v0 v1 B12 => ?_⟩
        walk_at "all"
        refine ⟨⟨by omega, by omega⟩, ?_⟩
        have bx12 := B12.1
        rw [rg01]
        refine lc_inv (fun n acc μ' => Box μ' b ∧ ∃ us : List Int, acc = us.map .int ∧ us.length = n ∧ inLet k us) (fun (i : Nat) => .int (i : Int)) (List.range (1 + nv).toNat) 0 [] _ (by rw [List.length_range]; show 0 + _ ≤ _; omega) ⟨bx12.ext (Ext.app _ _), [], rfl, rfl, fun _ h => by cases h⟩ (fun _ _ _ _ => trivial) (get_new _ _) (fun n x _ acc μ' q' hI hj hq => ?_) fun acc μ13 hI g13 => ?_
        · obtain ⟨bx, us', rfl, hus', hlet⟩ := hI
          have hbj : b ≠ μ12.length := Nat.ne_of_lt bx12.lt
          walk_at "all"
          refine ⟨b, k, rfl, by omega, by omega, bx, fun a μ'' a0 a1 B => ?_⟩
          refine hq (.int a) μ'' (B.2 _ _ (fun z => hbj z.symm) hj) ⟨B.1.set hbj _, us' ++ [a], by rw [List.map_append]; rfl, by rw [List.length_append, hus']; rfl, fun y hy => ?_⟩
          rcases List.mem_append.mp hy with hy | hy
          · exact hlet y hy
          · rw [List.mem_singleton.mp hy]; exact ⟨a0, a1⟩
        obtain ⟨bx13, vs, rfl, hvs, hvl⟩ := hI
        rw [List.length_range] at hvs
        have hv0 : 0 < vs.length := by omega
        walk_at "all"
        rw [rh_tupL g13]
        walk_at "all"
        refine ⟨sz.2.2.1, by simp only [List.length_map]; omega, ?_⟩
        refine ⟨p, us, vs, ?_, by omega, by omega, hv0, by omega, fun μ14 j e14 g14 => ?_⟩
        · rw [List.map_append, List.length_map]
        have bx14 := bx13.ext e14
        walk_at "all"
        rw [rh_ixL g14 (d := .bl (sb (lw us vs) p 0)) (ix_of (i := 0) 0 rfl (lb_get us vs p (by omega)))]
        walk_at "all"
        refine ⟨p, k, us, vs, rfl, k1, k4, by omega, by omega, pk, by omega, hul, hvl, by omega, hv0, by omega, fun μ15 e15 => ?_⟩
        refine ⟨_, rfl, rfl, by show 0 < 40; decide, fun μ16 e16 => ?_⟩
        have bx16 := (bx14.ext e15).ext e16
        generalize hsb : sb (lw us vs) p 0 = tr
        walk_at "all"
        refine ⟨sz.2.2.1, ?_⟩
        have pye : pyM μ16 (.tup [.int 0, .bl tr]) = some (.tuple [.int 0, .bool tr]) := by cases tr <;> rfl
        rw [rh_neT pye pye]
        refine ⟨by cases tr <;> exact ⟨by decide, by decide⟩, ?_⟩
        rw [show PyData.eqv (.tuple [.int 0, .bool tr]) (.tuple [.int 0, .bool tr]) = true by cases tr <;> decide]
        walk_at "all"
        by_cases hd4 : (root p).dp ≤ 3
        · simp only [hd4, decide_true]
          walk_at "all"
          refine ⟨root p, us, vs, _, [], (root p).dp, 0, rfl, by omega, root_sc p, by omega, hv0, by omega, get_new _ _, by omega, by show 0 + _ ≤ _; omega, fun _ h => (by cases h), by decide, by omega, fun μ17 e17 => ?_⟩
          rw [bsb_root us vs hv0 p pf, hsb]
          walk_at "all"
          exact hN' _ _ ⟨(bx16.ext (Ext.app _ _)).ext e17, _, _, _, _, _, rfl⟩
        · simp only [hd4, decide_false]
          walk_at "all"
          exact hN' _ _ ⟨bx16, _, _, _, _, _, rfl⟩
      · obtain ⟨bx9, y1, y2, y3, y4, y5, rfl⟩ := hI
        exact hN _ _ ⟨bx9, _, _, _, _, _, _, _, _, _, rfl⟩
    · obtain ⟨bx3, x1, x2, x3, x4, x5, x6, x7, x8, x9, rfl⟩ := hI
      walk_at "all"
      exact h _)
end K64

set_option Elab.async false
set_option linter.all false
set_option maxRecDepth 100000
set_option maxHeartbeats 4000000
namespace K64
open PySem PySem.Spec PyProof.Rows L2 LamX DL
local macro_rules | `(tactic| walk_at "dl") => `(tactic| simp only [rd_var, rd_C, rd_bin, rd_un, rd_nil, rd_cons, rd_L, rd_test, rd_and, rd_or, rd_not, rd_if, rd_band, rd_bor, rd_bnot, rd_chain, rd_call, rd_mt, rd_dnew, rd_nopart, rd_part, rd_sl, rd_lc, rd_itseq, rd_itA, rd_itzip, rd_itkeys, rd_told, rd_yes, rs_ret, rs_retN, rs_exp, rs_skip, rs_brk, rs_cnt, rs_never, rs_ifs, rs_asg, rs_par, rs_for, rg_N, rg_Nl, rg_Cn, rg_Tp, rg_Sb, ro_tup, ro_lst, ro_addI, ro_addS, ro_addT, ro_sub, ro_mulI, ro_lt, ro_le, ro_gt, ro_ge, ro_eqI, ro_eqB, ro_eqS, ro_neI, ro_neB, ro_neS, ro_inT, ro_ninT, ro_neg, ro_lenT, ro_lenS, ro_abs, ro_intI, ro_intB, ro_isi, ro_tupT, ro_lstT, ro_max2, ro_min2, ro_ixT, ro_fdiv, ro_mod, ro_rng1, ro_rng2, ro_rng3, ro_beqS, in_nil, in_cons, eqd_s, eqd_i, fl_s, fl_i, fl_b, fl_n, bA_t, bA_f, bO_t, bO_f, bE_t, bE_f, bBA_t, bBA_f, bBO_t, bBO_f, bC_t, bC_f, bS_t, bS_f, dT_b, pT_i, ro_slT, ro_seqT, is_nn, isn_nn, is_nb, is_bn, isn_bn, is_in, isn_in, is_ib, is_sn, isn_sn, is_sb, is_tn, isn_tn, is_tb, is_on, isn_on, is_ob, is_bb, rd_get, tn_non, tn_bl, tn_int, tn_str, tn_tup, kit_NoneType_int, kit_NoneType_bool, kit_NoneType_str, kit_NoneType_tuple, kit_NoneType_list, kit_NoneType_dict, kit_bool_int, kit_bool_bool, kit_bool_str, kit_bool_tuple, kit_bool_list, kit_bool_dict, kit_int_int, kit_int_bool, kit_int_str, kit_int_tuple, kit_int_list, kit_int_dict, kit_str_int, kit_str_bool, kit_str_str, kit_str_tuple, kit_str_list, kit_str_dict, kit_tuple_int, kit_tuple_bool, kit_tuple_str, kit_tuple_tuple, kit_tuple_list, kit_tuple_dict, kit_list_int, kit_list_bool, kit_list_str, kit_list_tuple, kit_list_list, kit_list_dict, kit_dict_int, kit_dict_bool, kit_dict_str, kit_dict_tuple, kit_dict_list, kit_dict_dict,
  startD, wipeD, List.map_cons, List.map_nil, List.length_cons, List.length_nil, List.replicate_succ, List.replicate_zero, List.append_nil, List.cons_append, List.nil_append, List.getElem?_cons_zero, List.getElem?_cons_succ, List.set_cons_zero, List.set_cons_succ,
  Nat.reduceAdd, Nat.reduceSub, Nat.zero_add, Nat.add_zero, Nat.sub_self, Nat.reduceEqDiff, Nat.reduceLT, Int.reduceAdd, Int.reduceSub, Int.reduceNeg, Int.reduceEq, Int.reduceLT, Int.reduceLE, Int.zero_add, Int.add_zero, Int.cast_ofNat_Int, Int.reduceMul, Int.reduceToNat,
  ofs, String.reduceEq, decide_true, decide_false, ati0, ati1, ati2, ati3, ati4, Bool.not_true, Bool.not_false, true_and, and_true, if_true, Bool.false_eq_true, if_false, Option.some.injEq, eq_self_iff_true, BEq.rfl, List.all_cons, List.all_nil, 
  Bool.or_true, Bool.or_false, Bool.false_or, Bool.true_or, Bool.and_self, Bool.and_true, Bool.true_and, Bool.and_false, Bool.false_and, beq_self_eq_true, enc, tn_enc, encS, tn_encS, rd_disp, rd_pn, rd_pc, Bool.true_eq_false, reduceCtorEq, rd_ls])
local macro_rules | `(tactic| walk_at "sq") => `(tactic| (rw [rh_seq]; walk_at "dl"))
local macro_rules | `(tactic| walk_at "all") => `(tactic| (try walk_at "dl"); repeat walk_at "sq")
variable {P : Program} {w : World} {K : PySem.W.Frag} {mg : Str → Option Value} {base : Heap} {T : List (Addr × Str)}
theorem tabs1 {H : Hp} {LP : Addr} (h : H LP = some (.tbl #[])) : Tabs (LT LP) H := by
  intro p hp
  rw [List.mem_singleton.mp hp]
  exact ⟨#[], h, trivial, fun pos cv hc => by cases hc⟩
theorem lookup_mem {K : PySem.W.Frag} {a : Addr} {o : Obj} : K.lookup a = some o → (a, o) ∈ K := by
  induction K with
  | nil => intro h; cases h
  | cons p K ih =>
    obtain ⟨b, u⟩ := p
    intro h
    rw [List.lookup_cons] at h
    split at h
    · rename_i e
      cases h
      rw [eq_of_beq e]
      exact List.mem_cons_self ..
    · exact List.mem_cons_of_mem _ (ih h)
theorem script_sp {K : PySem.W.Frag} {LP : Addr} {H : Hp} {a : Addr} {ns : List Int} (noL : (K.all fun p => !decide (p.2.cls = .type "list")) = true) (tb : Tabs (LT LP) H) (hS : SqL K H a (ns.map V.int)) : lSp K (LT LP) 1 spLaw [.ref a] H (fun v _ => v = .bl true) fun _ _ _ => False := by
  have go : ∀ (m : MO), MoAt K H [a] a m → lstOf [m] 0 = some (ns.map .int) → lSp K (LT LP) 1 spLaw [.ref a] H (fun v _ => v = .bl true) fun _ _ _ => False := fun m hm hl => by
    refine ⟨[a], [m], [.obj 0], fun d _ => d = .bl true, ⟨by simp, rfl, fun j b o h1 h2 => ?_, tb⟩, ⟨.ref a, [], rfl, ⟨a, rfl, rfl⟩, rfl⟩, rfl, ⟨0, ns, rfl, hl, fun _ => rfl⟩, fun d μ' θ' v H' _ _ at' q => ?_⟩
    · rcases j with _ | j
      · cases h1; cases h2; exact hm
      · simp at h1
    · subst q
      exact at'
  rcases hS with (h | ⟨o, h⟩) | ⟨o, its, n, h1, h2, _⟩
  · exact go (.lst (ns.map .int)) ⟨_, h, AtL.of_ints ns⟩ rfl
  · exact go (.ro (ns.map .int)) ⟨o, _, h, AtL.of_ints ns⟩ rfl
  · have := List.all_eq_true.mp noL _ (lookup_mem h1)
    rw [h2] at this
    exact absurd this (by decide)
theorem all_mk {l : PySem.W.OpenLaw} {w : World} {K : PySem.W.Frag} {h : Heap} {mg : Str → Option Value} {fa c LP : Addr} (X : K.In h) (G : h.Ns mainGlobals mg) (hfa : mg "law" = some (.ref fa)) (hP : h.get? LP = some { cls := .none, data := .fields #[] }) (nP : K.lookup LP = none) (cH : PySem.W.codeHdIn K c LP = true)
    (noL : (K.all fun p => !decide (p.2.cls = .type "list")) = true)
    {f0 : Addr} {od0 an0 : Option Addr} {sl0 : Array (Option Value)} {oc0 kV0 dc0 pm0 cd0 ct0 : Value}
    {f1 : Addr} {od1 an1 : Option Addr} {sl1 : Array (Option Value)} {oc1 kV1 dc1 pm1 cd1 ct1 : Value}
    {f2 : Addr} {od2 an2 : Option Addr} {sl2 : Array (Option Value)} {oc2 kV2 dc2 pm2 cd2 ct2 : Value}
    {f3 : Addr} {od3 an3 : Option Addr} {sl3 : Array (Option Value)} {oc3 kV3 dc3 pm3 cd3 ct3 : Value}
    {f4 : Addr} {od4 an4 : Option Addr} {sl4 : Array (Option Value)} {oc4 kV4 dc4 pm4 cd4 ct4 : Value}
    {f5 : Addr} {od5 an5 : Option Addr} {sl5 : Array (Option Value)} {oc5 kV5 dc5 pm5 cd5 ct5 : Value}
    {f6 : Addr} {od6 an6 : Option Addr} {sl6 : Array (Option Value)} {oc6 kV6 dc6 pm6 cd6 ct6 : Value}
    {f7 : Addr} {od7 an7 : Option Addr} {sl7 : Array (Option Value)} {oc7 kV7 dc7 pm7 cd7 ct7 : Value}
    {f8 : Addr} {od8 an8 : Option Addr} {sl8 : Array (Option Value)} {oc8 kV8 dc8 pm8 cd8 ct8 : Value}
    {f9 : Addr} {od9 an9 : Option Addr} {sl9 : Array (Option Value)} {oc9 kV9 dc9 pm9 cd9 ct9 : Value}
    {f10 : Addr} {od10 an10 : Option Addr} {sl10 : Array (Option Value)} {oc10 kV10 dc10 pm10 cd10 ct10 : Value}
    {f11 : Addr} {od11 an11 : Option Addr} {sl11 : Array (Option Value)} {oc11 kV11 dc11 pm11 cd11 ct11 : Value}
    {f12 : Addr} {od12 an12 : Option Addr} {sl12 : Array (Option Value)} {oc12 kV12 dc12 pm12 cd12 ct12 : Value}
    {f13 : Addr} {od13 an13 : Option Addr} {sl13 : Array (Option Value)} {oc13 kV13 dc13 pm13 cd13 ct13 : Value}
    {f14 : Addr} {od14 an14 : Option Addr} {sl14 : Array (Option Value)} {oc14 kV14 dc14 pm14 cd14 ct14 : Value}
    {f15 : Addr} {od15 an15 : Option Addr} {sl15 : Array (Option Value)} {oc15 kV15 dc15 pm15 cd15 ct15 : Value}
    {f16 : Addr} {od16 an16 : Option Addr} {sl16 : Array (Option Value)} {oc16 kV16 dc16 pm16 cd16 ct16 : Value}
    {f17 : Addr} {od17 an17 : Option Addr} {sl17 : Array (Option Value)} {oc17 kV17 dc17 pm17 cd17 ct17 : Value}
    {f18 : Addr} {od18 an18 : Option Addr} {sl18 : Array (Option Value)} {oc18 kV18 dc18 pm18 cd18 ct18 : Value}
    {f19 : Addr} {od19 an19 : Option Addr} {sl19 : Array (Option Value)} {oc19 kV19 dc19 pm19 cd19 ct19 : Value}
    {f20 : Addr} {od20 an20 : Option Addr} {sl20 : Array (Option Value)} {oc20 kV20 dc20 pm20 cd20 ct20 : Value}
    {f21 : Addr} {od21 an21 : Option Addr} {sl21 : Array (Option Value)} {oc21 kV21 dc21 pm21  ct21 : Value}
    {t_MOST_LETTERS : Tok}
    {t_MOST_LONG : Tok}
    {t_MOST_DEEP : Tok}
    {a_SINGLE : Addr} {u0_SINGLE u1_SINGLE : Tok} {n_SINGLE : Nat} {d_SINGLE : Option Addr} {sl_SINGLE : Array (Option Value)}
    {a_DOUBLE : Addr} {u0_DOUBLE u1_DOUBLE u2_DOUBLE : Tok} {n_DOUBLE : Nat} {d_DOUBLE : Option Addr} {sl_DOUBLE : Array (Option Value)}
    {t_MOST_SO : Tok}
    {t_MOST_WORDS : Tok}
    (a0 : PySem.W.nsIn K mainGlobals "is_integer" = some (some (.ref f0))) (l0 : K.lookup f0 = some ⟨oc0, od0, .func (PySem.W.fnOf "is_integer" "is_integer" (defArgs s_is_integer) (defBody s_is_integer) (defScope s_is_integer) .none kV0 dc0 pm0 an0 cd0 ct0), sl0⟩) (c0 : PySem.W.codeIn K cd0 "is_integer" = true) (k0 : PySem.W.keepIn K (.ref f0) = true)
    (a1 : PySem.W.nsIn K mainGlobals "is_below" = some (some (.ref f1))) (l1 : K.lookup f1 = some ⟨oc1, od1, .func (PySem.W.fnOf "is_below" "is_below" (defArgs s_is_below) (defBody s_is_below) (defScope s_is_below) .none kV1 dc1 pm1 an1 cd1 ct1), sl1⟩) (c1 : PySem.W.codeIn K cd1 "is_below" = true) (k1 : PySem.W.keepIn K (.ref f1) = true)
    (a2 : PySem.W.nsIn K mainGlobals "is_letters" = some (some (.ref f2))) (l2 : K.lookup f2 = some ⟨oc2, od2, .func (PySem.W.fnOf "is_letters" "is_letters" (defArgs s_is_letters) (defBody s_is_letters) (defScope s_is_letters) .none kV2 dc2 pm2 an2 cd2 ct2), sl2⟩) (c2 : PySem.W.codeIn K cd2 "is_letters" = true) (k2 : PySem.W.keepIn K (.ref f2) = true)
    (a3 : PySem.W.nsIn K mainGlobals "check_letters" = some (some (.ref f3))) (l3 : K.lookup f3 = some ⟨oc3, od3, .func (PySem.W.fnOf "check_letters" "check_letters" (defArgs s_check_letters) (defBody s_check_letters) (defScope s_check_letters) .none kV3 dc3 pm3 an3 cd3 ct3), sl3⟩) (c3 : PySem.W.codeIn K cd3 "check_letters" = true) (k3 : PySem.W.keepIn K (.ref f3) = true)
    (a4 : PySem.W.nsIn K mainGlobals "check_lasso" = some (some (.ref f4))) (l4 : K.lookup f4 = some ⟨oc4, od4, .func (PySem.W.fnOf "check_lasso" "check_lasso" (defArgs s_check_lasso) (defBody s_check_lasso) (defScope s_check_lasso) .none kV4 dc4 pm4 an4 cd4 ct4), sl4⟩) (c4 : PySem.W.codeIn K cd4 "check_lasso" = true) (k4 : PySem.W.keepIn K (.ref f4) = true)
    (a5 : PySem.W.nsIn K mainGlobals "many_words" = some (some (.ref f5))) (l5 : K.lookup f5 = some ⟨oc5, od5, .func (PySem.W.fnOf "many_words" "many_words" (defArgs s_many_words) (defBody s_many_words) (defScope s_many_words) .none kV5 dc5 pm5 an5 cd5 ct5), sl5⟩) (c5 : PySem.W.codeIn K cd5 "many_words" = true) (k5 : PySem.W.keepIn K (.ref f5) = true)
    (a6 : PySem.W.nsIn K mainGlobals "check_formula" = some (some (.ref f6))) (l6 : K.lookup f6 = some ⟨oc6, od6, .func (PySem.W.fnOf "check_formula" "check_formula" (defArgs s_check_formula) (defBody s_check_formula) (defScope s_check_formula) .none kV6 dc6 pm6 an6 cd6 ct6), sl6⟩) (c6 : PySem.W.codeIn K cd6 "check_formula" = true) (k6 : PySem.W.keepIn K (.ref f6) = true)
    (a7 : PySem.W.nsIn K mainGlobals "is_so" = some (some (.ref f7))) (l7 : K.lookup f7 = some ⟨oc7, od7, .func (PySem.W.fnOf "is_so" "is_so" (defArgs s_is_so) (defBody s_is_so) (defScope s_is_so) .none kV7 dc7 pm7 an7 cd7 ct7), sl7⟩) (c7 : PySem.W.codeIn K cd7 "is_so" = true) (k7 : PySem.W.keepIn K (.ref f7) = true)
    (a8 : PySem.W.nsIn K mainGlobals "truths" = some (some (.ref f8))) (l8 : K.lookup f8 = some ⟨oc8, od8, .func (PySem.W.fnOf "truths" "truths" (defArgs s_truths) (defBody s_truths) (defScope s_truths) .none kV8 dc8 pm8 an8 cd8 ct8), sl8⟩) (c8 : PySem.W.codeIn K cd8 "truths" = true) (k8 : PySem.W.keepIn K (.ref f8) = true)
    (a9 : PySem.W.nsIn K mainGlobals "sentence_of_formula" = some (some (.ref f9))) (l9 : K.lookup f9 = some ⟨oc9, od9, .func (PySem.W.fnOf "sentence_of_formula" "sentence_of_formula" (defArgs s_sentence_of_formula) (defBody s_sentence_of_formula) (defScope s_sentence_of_formula) .none kV9 dc9 pm9 an9 cd9 ct9), sl9⟩) (c9 : PySem.W.codeIn K cd9 "sentence_of_formula" = true) (k9 : PySem.W.keepIn K (.ref f9) = true)
    (a10 : PySem.W.nsIn K mainGlobals "at_place" = some (some (.ref f10))) (l10 : K.lookup f10 = some ⟨oc10, od10, .func (PySem.W.fnOf "at_place" "at_place" (defArgs s_at_place) (defBody s_at_place) (defScope s_at_place) .none kV10 dc10 pm10 an10 cd10 ct10), sl10⟩) (c10 : PySem.W.codeIn K cd10 "at_place" = true) (k10 : PySem.W.keepIn K (.ref f10) = true)
    (a11 : PySem.W.nsIn K mainGlobals "_law_cell" = some (some (.ref f11))) (l11 : K.lookup f11 = some ⟨oc11, od11, .func (PySem.W.fnOf "_law_cell" "_law_cell" (defArgs s__law_cell) (defBody s__law_cell) (defScope s__law_cell) .none kV11 dc11 pm11 an11 cd11 ct11), sl11⟩) (c11 : PySem.W.codeIn K cd11 "_law_cell" = true) (k11 : PySem.W.keepIn K (.ref f11) = true)
    (a12 : PySem.W.nsIn K mainGlobals "_law_stream" = some (some (.ref f12))) (l12 : K.lookup f12 = some ⟨oc12, od12, .func (PySem.W.fnOf "_law_stream" "_law_stream" (defArgs s__law_stream) (defBody s__law_stream) (defScope s__law_stream) .none kV12 dc12 pm12 an12 cd12 ct12), sl12⟩) (c12 : PySem.W.codeIn K cd12 "_law_stream" = true) (k12 : PySem.W.keepIn K (.ref f12) = true)
    (a13 : PySem.W.nsIn K mainGlobals "_law_draw" = some (some (.ref f13))) (l13 : K.lookup f13 = some ⟨oc13, od13, .func (PySem.W.fnOf "_law_draw" "_law_draw" (defArgs s__law_draw) (defBody s__law_draw) (defScope s__law_draw) .none kV13 dc13 pm13 an13 cd13 ct13), sl13⟩) (c13 : PySem.W.codeIn K cd13 "_law_draw" = true) (k13 : PySem.W.keepIn K (.ref f13) = true)
    (a14 : PySem.W.nsIn K mainGlobals "_law_read" = some (some (.ref f14))) (l14 : K.lookup f14 = some ⟨oc14, od14, .func (PySem.W.fnOf "_law_read" "_law_read" (defArgs s__law_read) (defBody s__law_read) (defScope s__law_read) .none kV14 dc14 pm14 an14 cd14 ct14), sl14⟩) (c14 : PySem.W.codeIn K cd14 "_law_read" = true) (k14 : PySem.W.keepIn K (.ref f14) = true)
    (a15 : PySem.W.nsIn K mainGlobals "_law_told" = some (some (.ref f15))) (l15 : K.lookup f15 = some ⟨oc15, od15, .func (PySem.W.fnOf "_law_told" "_law_told" (defArgs s__law_told) (defBody s__law_told) (defScope s__law_told) .none kV15 dc15 pm15 an15 cd15 ct15), sl15⟩) (c15 : PySem.W.codeIn K cd15 "_law_told" = true) (k15 : PySem.W.keepIn K (.ref f15) = true)
    (a16 : PySem.W.nsIn K mainGlobals "_law_plain" = some (some (.ref f16))) (l16 : K.lookup f16 = some ⟨oc16, od16, .func (PySem.W.fnOf "_law_plain" "_law_plain" (defArgs s__law_plain) (defBody s__law_plain) (defScope s__law_plain) .none kV16 dc16 pm16 an16 cd16 ct16), sl16⟩) (c16 : PySem.W.codeIn K cd16 "_law_plain" = true) (k16 : PySem.W.keepIn K (.ref f16) = true)
    (a17 : PySem.W.nsIn K mainGlobals "_law_formula" = some (some (.ref f17))) (l17 : K.lookup f17 = some ⟨oc17, od17, .func (PySem.W.fnOf "_law_formula" "_law_formula" (defArgs s__law_formula) (defBody s__law_formula) (defScope s__law_formula) .none kV17 dc17 pm17 an17 cd17 ct17), sl17⟩) (c17 : PySem.W.codeIn K cd17 "_law_formula" = true) (k17 : PySem.W.keepIn K (.ref f17) = true)
    (a18 : PySem.W.nsIn K mainGlobals "_law_deep" = some (some (.ref f18))) (l18 : K.lookup f18 = some ⟨oc18, od18, .func (PySem.W.fnOf "_law_deep" "_law_deep" (defArgs s__law_deep) (defBody s__law_deep) (defScope s__law_deep) .none kV18 dc18 pm18 an18 cd18 ct18), sl18⟩) (c18 : PySem.W.codeIn K cd18 "_law_deep" = true) (k18 : PySem.W.keepIn K (.ref f18) = true)
    (a19 : PySem.W.nsIn K mainGlobals "_law_is_so" = some (some (.ref f19))) (l19 : K.lookup f19 = some ⟨oc19, od19, .func (PySem.W.fnOf "_law_is_so" "_law_is_so" (defArgs s__law_is_so) (defBody s__law_is_so) (defScope s__law_is_so) .none kV19 dc19 pm19 an19 cd19 ct19), sl19⟩) (c19 : PySem.W.codeIn K cd19 "_law_is_so" = true) (k19 : PySem.W.keepIn K (.ref f19) = true)
    (a20 : PySem.W.nsIn K mainGlobals "_law_truth" = some (some (.ref f20))) (l20 : K.lookup f20 = some ⟨oc20, od20, .func (PySem.W.fnOf "_law_truth" "_law_truth" (defArgs s__law_truth) (defBody s__law_truth) (defScope s__law_truth) .none kV20 dc20 pm20 an20 cd20 ct20), sl20⟩) (c20 : PySem.W.codeIn K cd20 "_law_truth" = true) (k20 : PySem.W.keepIn K (.ref f20) = true)
    (a21 : PySem.W.nsIn K mainGlobals "law" = some (some (.ref f21))) (l21 : K.lookup f21 = some ⟨oc21, od21, .func (PySem.W.fnOf "law" "law" (defArgs s_law) (defBody s_law) (defScope s_law) .none kV21 dc21 pm21 an21 (.ref c) ct21), sl21⟩) (c21 : PySem.W.codeIn K (.ref c) "law" = true) (k21 : PySem.W.keepIn K (.ref f21) = true)
    (z_isinstance : PySem.W.nsIn K mainGlobals "isinstance" = some none)
    (z_int : PySem.W.nsIn K mainGlobals "int" = some none)
    (z_bool : PySem.W.nsIn K mainGlobals "bool" = some none)
    (z_tuple : PySem.W.nsIn K mainGlobals "tuple" = some none)
    (z_len : PySem.W.nsIn K mainGlobals "len" = some none)
    (z_max : PySem.W.nsIn K mainGlobals "max" = some none)
    (z_all : PySem.W.nsIn K mainGlobals "all" = some none)
    (z_str : PySem.W.nsIn K mainGlobals "str" = some none)
    (z_range : PySem.W.nsIn K mainGlobals "range" = some none)
    (z_list : PySem.W.nsIn K mainGlobals "list" = some none)
    (z_zip : PySem.W.nsIn K mainGlobals "zip" = some none)
    (z_abs : PySem.W.nsIn K mainGlobals "abs" = some none)
    (z_min : PySem.W.nsIn K mainGlobals "min" = some none)
    (z_dict : PySem.W.nsIn K mainGlobals "dict" = some none)
    (z_set : PySem.W.nsIn K mainGlobals "set" = some none)
    (c_MOST_LETTERS : PySem.W.nsIn K mainGlobals "MOST_LETTERS" = some (some (.int 4 t_MOST_LETTERS)))
    (c_MOST_LONG : PySem.W.nsIn K mainGlobals "MOST_LONG" = some (some (.int 200 t_MOST_LONG)))
    (c_MOST_DEEP : PySem.W.nsIn K mainGlobals "MOST_DEEP" = some (some (.int 200 t_MOST_DEEP)))
    (c_SINGLE : PySem.W.nsIn K mainGlobals "SINGLE" = some (some (.ref a_SINGLE))) (l_SINGLE : K.lookup a_SINGLE = some ⟨.type "tuple", d_SINGLE, .seq #[.str "not" u0_SINGLE, .str "next" u1_SINGLE] n_SINGLE, sl_SINGLE⟩)
    (c_DOUBLE : PySem.W.nsIn K mainGlobals "DOUBLE" = some (some (.ref a_DOUBLE))) (l_DOUBLE : K.lookup a_DOUBLE = some ⟨.type "tuple", d_DOUBLE, .seq #[.str "and" u0_DOUBLE, .str "or" u1_DOUBLE, .str "until" u2_DOUBLE] n_DOUBLE, sl_DOUBLE⟩)
    (c_MOST_SO : PySem.W.nsIn K mainGlobals "MOST_SO" = some (some (.int 20000 t_MOST_SO)))
    (c_MOST_WORDS : PySem.W.nsIn K mainGlobals "MOST_WORDS" = some (some (.int 9 t_MOST_WORDS))) : LawAtS l w K CX0 61 63 "script" mg fa h := by
  have e := hfa.symm.trans (PySem.W.mg_of X G a21)
  cases e
  let M : Fx K mg := { a_is_integer := f0, d_is_integer := _, F_is_integer := fun_mk (st := s_is_integer) l0 c0 k0, m_is_integer := PySem.W.mg_of X G a0, b_is_integer := (fun_mk (st := s_is_integer) l0 c0 k0).binds (ps := ["thing"]) (fun _ _ _ _ _ _ us hl => match us, hl with | [_], _ => rfl), a_is_below := f1, d_is_below := _, F_is_below := fun_mk (st := s_is_below) l1 c1 k1, m_is_below := PySem.W.mg_of X G a1, b_is_below := (fun_mk (st := s_is_below) l1 c1 k1).binds (ps := ["thing", "size"]) (fun _ _ _ _ _ _ us hl => match us, hl with | [_, _], _ => rfl), a_is_letters := f2, d_is_letters := _, F_is_letters := fun_mk (st := s_is_letters) l2 c2 k2, m_is_letters := PySem.W.mg_of X G a2, b_is_letters := (fun_mk (st := s_is_letters) l2 c2 k2).binds (ps := ["thing"]) (fun _ _ _ _ _ _ us hl => match us, hl with | [_], _ => rfl), a_check_letters := f3, d_check_letters := _, F_check_letters := fun_mk (st := s_check_letters) l3 c3 k3, m_check_letters := PySem.W.mg_of X G a3, b_check_letters := (fun_mk (st := s_check_letters) l3 c3 k3).binds (ps := ["k"]) (fun _ _ _ _ _ _ us hl => match us, hl with | [_], _ => rfl), a_check_lasso := f4, d_check_lasso := _, F_check_lasso := fun_mk (st := s_check_lasso) l4 c4 k4, m_check_lasso := PySem.W.mg_of X G a4, b_check_lasso := (fun_mk (st := s_check_lasso) l4 c4 k4).binds (ps := ["lasso", "k"]) (fun _ _ _ _ _ _ us hl => match us, hl with | [_, _], _ => rfl), a_many_words := f5, d_many_words := _, F_many_words := fun_mk (st := s_many_words) l5 c5 k5, m_many_words := PySem.W.mg_of X G a5, b_many_words := (fun_mk (st := s_many_words) l5 c5 k5).binds (ps := ["formula", "k", "deep"]) (fun _ _ _ _ _ _ us hl => match us, hl with | [_, _, _], _ => rfl), a_check_formula := f6, d_check_formula := _, F_check_formula := fun_mk (st := s_check_formula) l6 c6 k6, m_check_formula := PySem.W.mg_of X G a6, b_check_formula := (fun_mk (st := s_check_formula) l6 c6 k6).binds (ps := ["formula", "k", "most"]) (fun _ _ _ _ _ _ us hl => match us, hl with | [_, _, _], _ => rfl), a_is_so := f7, d_is_so := _, F_is_so := fun_mk (st := s_is_so) l7 c7 k7, m_is_so := PySem.W.mg_of X G a7, b_is_so := (fun_mk (st := s_is_so) l7 c7 k7).binds (ps := ["formula", "k", "lasso"]) (fun _ _ _ _ _ _ us hl => match us, hl with | [_, _, _], _ => rfl), a_truths := f8, d_truths := _, F_truths := fun_mk (st := s_truths) l8 c8 k8, m_truths := PySem.W.mg_of X G a8, b_truths := (fun_mk (st := s_truths) l8 c8 k8).binds (ps := ["formula", "lasso"]) (fun _ _ _ _ _ _ us hl => match us, hl with | [_, _], _ => rfl), a_sentence_of_formula := f9, d_sentence_of_formula := _, F_sentence_of_formula := fun_mk (st := s_sentence_of_formula) l9 c9 k9, m_sentence_of_formula := PySem.W.mg_of X G a9, b_sentence_of_formula := (fun_mk (st := s_sentence_of_formula) l9 c9 k9).binds (ps := ["k", "formula"]) (fun _ _ _ _ _ _ us hl => match us, hl with | [_, _], _ => rfl), a_at_place := f10, d_at_place := _, F_at_place := fun_mk (st := s_at_place) l10 c10 k10, m_at_place := PySem.W.mg_of X G a10, b_at_place := (fun_mk (st := s_at_place) l10 c10 k10).binds (ps := ["formula", "here", "other", "third"]) (fun _ _ _ _ _ _ us hl => match us, hl with | [_, _, _, _], _ => rfl), a__law_cell := f11, d__law_cell := _, F__law_cell := fun_mk (st := s__law_cell) l11 c11 k11, m__law_cell := PySem.W.mg_of X G a11, b__law_cell := (fun_mk (st := s__law_cell) l11 c11 k11).binds (ps := ["script", "k"]) (fun _ _ _ _ _ _ us hl => match us, hl with | [_, _], _ => rfl), a__law_stream := f12, d__law_stream := _, F__law_stream := fun_mk (st := s__law_stream) l12 c12 k12, m__law_stream := PySem.W.mg_of X G a12, b__law_stream := (fun_mk (st := s__law_stream) l12 c12 k12).binds (ps := ["script", "k"]) (fun _ _ _ _ _ _ us hl => match us, hl with | [_, _], _ => rfl), a__law_draw := f13, d__law_draw := _, F__law_draw := fun_mk (st := s__law_draw) l13 c13 k13, m__law_draw := PySem.W.mg_of X G a13, b__law_draw := (fun_mk (st := s__law_draw) l13 c13 k13).binds (ps := ["box", "high"]) (fun _ _ _ _ _ _ us hl => match us, hl with | [_, _], _ => rfl), a__law_read := f14, d__law_read := _, F__law_read := fun_mk (st := s__law_read) l14 c14 k14, m__law_read := PySem.W.mg_of X G a14, b__law_read := (fun_mk (st := s__law_read) l14 c14 k14).binds (ps := ["told"]) (fun _ _ _ _ _ _ us hl => match us, hl with | [_], _ => rfl), a__law_told := f15, d__law_told := _, F__law_told := fun_mk (st := s__law_told) l15 c15 k15, m__law_told := PySem.W.mg_of X G a15, b__law_told := (fun_mk (st := s__law_told) l15 c15 k15).binds (ps := ["call"]) (fun _ _ _ _ _ _ us hl => match us, hl with | [_], _ => rfl), a__law_plain := f16, d__law_plain := _, F__law_plain := fun_mk (st := s__law_plain) l16 c16 k16, m__law_plain := PySem.W.mg_of X G a16, b__law_plain := (fun_mk (st := s__law_plain) l16 c16 k16).binds (ps := ["box", "k", "weight"]) (fun _ _ _ _ _ _ us hl => match us, hl with | [_, _, _], _ => rfl), a__law_formula := f17, d__law_formula := _, F__law_formula := fun_mk (st := s__law_formula) l17 c17 k17, m__law_formula := PySem.W.mg_of X G a17, b__law_formula := (fun_mk (st := s__law_formula) l17 c17 k17).binds (ps := ["box", "k", "weight"]) (fun _ _ _ _ _ _ us hl => match us, hl with | [_, _, _], _ => rfl), a__law_deep := f18, d__law_deep := _, F__law_deep := fun_mk (st := s__law_deep) l18 c18 k18, m__law_deep := PySem.W.mg_of X G a18, b__law_deep := (fun_mk (st := s__law_deep) l18 c18 k18).binds (ps := ["p", "names", "lots"]) (fun _ _ _ _ _ _ us hl => match us, hl with | [_, _, _], _ => rfl), a__law_is_so := f19, d__law_is_so := _, F__law_is_so := fun_mk (st := s__law_is_so) l19 c19 k19, m__law_is_so := PySem.W.mg_of X G a19, b__law_is_so := (fun_mk (st := s__law_is_so) l19 c19 k19).binds (ps := ["p", "lasso", "at", "deep"]) (fun _ _ _ _ _ _ us hl => match us, hl with | [_, _, _, _], _ => rfl), a__law_truth := f20, d__law_truth := _, F__law_truth := fun_mk (st := s__law_truth) l20 c20 k20, m__law_truth := PySem.W.mg_of X G a20, b__law_truth := (fun_mk (st := s__law_truth) l20 c20 k20).binds (ps := ["p", "word", "back"]) (fun _ _ _ _ _ _ us hl => match us, hl with | [_, _, _], _ => rfl), a_law := fa, d_law := _, F_law := fun_mk (st := s_law) l21 c21 k21, m_law := PySem.W.mg_of X G a21, b_law := (fun_mk (st := s_law) l21 c21 k21).binds (ps := ["script"]) (fun _ _ _ _ _ _ us hl => match us, hl with | [_], _ => rfl), z_isinstance := PySem.W.mg_none_of X G z_isinstance, z_int := PySem.W.mg_none_of X G z_int, z_bool := PySem.W.mg_none_of X G z_bool, z_tuple := PySem.W.mg_none_of X G z_tuple, z_len := PySem.W.mg_none_of X G z_len, z_max := PySem.W.mg_none_of X G z_max, z_all := PySem.W.mg_none_of X G z_all, z_str := PySem.W.mg_none_of X G z_str, z_range := PySem.W.mg_none_of X G z_range, z_list := PySem.W.mg_none_of X G z_list, z_zip := PySem.W.mg_none_of X G z_zip, z_abs := PySem.W.mg_none_of X G z_abs, z_min := PySem.W.mg_none_of X G z_min, z_dict := PySem.W.mg_none_of X G z_dict, z_set := PySem.W.mg_none_of X G z_set, t_MOST_LETTERS := t_MOST_LETTERS, c_MOST_LETTERS := PySem.W.mg_of X G c_MOST_LETTERS, t_MOST_LONG := t_MOST_LONG, c_MOST_LONG := PySem.W.mg_of X G c_MOST_LONG, t_MOST_DEEP := t_MOST_DEEP, c_MOST_DEEP := PySem.W.mg_of X G c_MOST_DEEP, a_SINGLE := a_SINGLE, c_SINGLE := PySem.W.mg_of X G c_SINGLE, q_SINGLE := fun _ => .inr ⟨_, _, _, l_SINGLE, rfl, rfl, by show 2 ≤ _; decide, .cons ⟨_, rfl⟩ (.cons ⟨_, rfl⟩ (.nil))⟩, a_DOUBLE := a_DOUBLE, c_DOUBLE := PySem.W.mg_of X G c_DOUBLE, q_DOUBLE := fun _ => .inr ⟨_, _, _, l_DOUBLE, rfl, rfl, by show 3 ≤ _; decide, .cons ⟨_, rfl⟩ (.cons ⟨_, rfl⟩ (.cons ⟨_, rfl⟩ (.nil)))⟩, t_MOST_SO := t_MOST_SO, c_MOST_SO := PySem.W.mg_of X G c_MOST_SO, t_MOST_WORDS := t_MOST_WORDS, c_MOST_WORDS := PySem.W.mg_of X G c_MOST_WORDS }
  refine ⟨_, [(c, LP)], lSp K (LT LP) 1 spLaw, fun p hp => ?_, fun p hp => ?_, fun p hp => ?_, fun s v => .of_eq rfl, fun H a ns hl hb hT hS => ?_, fun base hin hns hTB => ok_law (P := l.prog) (w := w) (base := base) M l21 c21 l15 c15 M.b__law_told (hTB _ (List.mem_cons_self ..))⟩
  · rw [List.mem_singleton.mp hp]; exact hP
  · rw [List.mem_singleton.mp hp]; exact nP
  · rw [List.mem_singleton.mp hp]; exact PySem.W.codeHd_of_K X cH
  · have tb : Tabs (LT LP) H := tabs1 (hT _ (List.mem_cons_self ..))
    exact script_sp noL tb hS
end K64

set_option Elab.async false
set_option linter.all false
open PySem PySem.W PyProof.Rows L2 LamX
set_option maxRecDepth 100000 in
set_option maxHeartbeats 0 in
theorem PySem.Challenge.cw_lastingly_k64_place_sentences_of_formula_holds : PySem.Challenge.rw_lastingly_k64_place_sentences_of_formula.Holds := by
  w_on; o_law; k_head; (case hw => w_witness2)
  k_fill
  refine LamX.walk_ofTs (l := PySem.Challenge.rw_lastingly_k64_place_sentences_of_formula) (n := 63) (k := 61) (x := "script") (CX := fun _ => CX0) rfl (by decide) rfl ⟨rfl, by decide, by decide⟩ (fun w h Y => PySem.W.km_in_of Y) ?F (fun _ _ _ _ _ z => z)
  case F =>
    intro w mg fa h Y KX G hmg
    refine' K64.all_mk KX G hmg (PySem.W.km_tabs_of Y _ (List.mem_cons_self ..)) ?nP ?cH ?noL ?a0 ?l0 ?c0 ?k0 ?a1 ?l1 ?c1 ?k1 ?a2 ?l2 ?c2 ?k2 ?a3 ?l3 ?c3 ?k3 ?a4 ?l4 ?c4 ?k4 ?a5 ?l5 ?c5 ?k5 ?a6 ?l6 ?c6 ?k6 ?a7 ?l7 ?c7 ?k7 ?a8 ?l8 ?c8 ?k8 ?a9 ?l9 ?c9 ?k9 ?a10 ?l10 ?c10 ?k10 ?a11 ?l11 ?c11 ?k11 ?a12 ?l12 ?c12 ?k12 ?a13 ?l13 ?c13 ?k13 ?a14 ?l14 ?c14 ?k14 ?a15 ?l15 ?c15 ?k15 ?a16 ?l16 ?c16 ?k16 ?a17 ?l17 ?c17 ?k17 ?a18 ?l18 ?c18 ?k18 ?a19 ?l19 ?c19 ?k19 ?a20 ?l20 ?c20 ?k20 ?a21 ?l21 ?c21 ?k21 ?z_isinstance ?z_int ?z_bool ?z_tuple ?z_len ?z_max ?z_all ?z_str ?z_range ?z_list ?z_zip ?z_abs ?z_min ?z_dict ?z_set ?c_MOST_LETTERS ?c_MOST_LONG ?c_MOST_DEEP ?c_SINGLE ?l_SINGLE ?c_DOUBLE ?l_DOUBLE ?c_MOST_SO ?c_MOST_WORDS
    (case a0 => k_is)
    (case l0 => k_is)
    (case c0 => k_is)
    (case k0 => k_is)
    (case a1 => k_is)
    (case l1 => k_is)
    (case c1 => k_is)
    (case k1 => k_is)
    (case a2 => k_is)
    (case l2 => k_is)
    (case c2 => k_is)
    (case k2 => k_is)
    (case a3 => k_is)
    (case l3 => k_is)
    (case c3 => k_is)
    (case k3 => k_is)
    (case a4 => k_is)
    (case l4 => k_is)
    (case c4 => k_is)
    (case k4 => k_is)
    (case a5 => k_is)
    (case l5 => k_is)
    (case c5 => k_is)
    (case k5 => k_is)
    (case a6 => k_is)
    (case l6 => k_is)
    (case c6 => k_is)
    (case k6 => k_is)
    (case a7 => k_is)
    (case l7 => k_is)
    (case c7 => k_is)
    (case k7 => k_is)
    (case a8 => k_is)
    (case l8 => k_is)
    (case c8 => k_is)
    (case k8 => k_is)
    (case a9 => k_is)
    (case l9 => k_is)
    (case c9 => k_is)
    (case k9 => k_is)
    (case a10 => k_is)
    (case l10 => k_is)
    (case c10 => k_is)
    (case k10 => k_is)
    (case a11 => k_is)
    (case l11 => k_is)
    (case c11 => k_is)
    (case k11 => k_is)
    (case a12 => k_is)
    (case l12 => k_is)
    (case c12 => k_is)
    (case k12 => k_is)
    (case a13 => k_is)
    (case l13 => k_is)
    (case c13 => k_is)
    (case k13 => k_is)
    (case a14 => k_is)
    (case l14 => k_is)
    (case c14 => k_is)
    (case k14 => k_is)
    (case a15 => k_is)
    (case l15 => k_is)
    (case c15 => k_is)
    (case k15 => k_is)
    (case a16 => k_is)
    (case l16 => k_is)
    (case c16 => k_is)
    (case k16 => k_is)
    (case a17 => k_is)
    (case l17 => k_is)
    (case c17 => k_is)
    (case k17 => k_is)
    (case a18 => k_is)
    (case l18 => k_is)
    (case c18 => k_is)
    (case k18 => k_is)
    (case a19 => k_is)
    (case l19 => k_is)
    (case c19 => k_is)
    (case k19 => k_is)
    (case a20 => k_is)
    (case l20 => k_is)
    (case c20 => k_is)
    (case k20 => k_is)
    (case a21 => k_is)
    (case l21 => k_is)
    (case c21 => k_is)
    (case k21 => k_is)
    (case z_isinstance => k_is)
    (case z_int => k_is)
    (case z_bool => k_is)
    (case z_tuple => k_is)
    (case z_len => k_is)
    (case z_max => k_is)
    (case z_all => k_is)
    (case z_str => k_is)
    (case z_range => k_is)
    (case z_list => k_is)
    (case z_zip => k_is)
    (case z_abs => k_is)
    (case z_min => k_is)
    (case z_dict => k_is)
    (case z_set => k_is)
    (case c_MOST_LETTERS => k_is)
    (case c_MOST_LONG => k_is)
    (case c_MOST_DEEP => k_is)
    (case c_SINGLE => k_is)
    (case l_SINGLE => k_is)
    (case c_DOUBLE => k_is)
    (case l_DOUBLE => k_is)
    (case c_MOST_SO => k_is)
    (case c_MOST_WORDS => k_is)
    (case cH => kernel_rfl)
    (case nP => kernel_rfl)
    (case noL => kernel_rfl)

