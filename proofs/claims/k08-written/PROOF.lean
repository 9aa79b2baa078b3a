import PyProof.Rows.All
import Wide.All
import OpenK.AllK
import Wide.FinOn
import HandS.ForMost
import HandS.IsInst
import HandS.Zip
import HandS.TupAny
import HandS.Style
import HandS.Deep
import HandS.Wide
import KE.SortData
import KE.DataMinMax
import HandS.More
import HandS.Dict
import KE.KDictKeyed
import KE.KDictDisplayH
import KE.KDictCopyH
import KE.KDictSum
import HandS.Defaults
import OpenK.KMore
import PySem.Challenge.RW_misbutton_k08_written_cases_and_names
set_option Elab.async false
set_option linter.all false
set_option maxRecDepth 100000
set_option maxHeartbeats 2000000
/-! Dz: data over the heap. A value stands for a datum (Rp); a frame's slots stand for data (Sat); what an expression gives, as data (EvR); what follows a statement (Cont). -/
namespace Dz
open PySem PySem.Spec PyProof.Rows L2

/-! ### heaps -/
def hid (M : List Addr) (H : Hp) : Hp := fun b => if b ∈ M then none else H b
theorem hid_in {M : List Addr} {H : Hp} {b : Addr} (h : b ∈ M) : hid M H b = none := if_pos h
theorem hid_out {M : List Addr} {H : Hp} {b : Addr} (h : b ∉ M) : hid M H b = H b := if_neg h
theorem hid_some {M : List Addr} {H : Hp} {b : Addr} {o : HO} (h : hid M H b = some o) : b ∉ M ∧ H b = some o := by
  unfold hid at h
  split at h
  · cases h
  · exact ⟨by assumption, h⟩
theorem hid_le {M : List Addr} {H : Hp} : Same (hid M H) H := fun _ _ h => (hid_some h).2
theorem hid_anti {M M' : List Addr} {H : Hp} (s : ∀ a ∈ M, a ∈ M') : Same (hid M' H) (hid M H) := fun b o h => by
  obtain ⟨h1, h2⟩ := hid_some h
  rw [hid_out fun z => h1 (s b z)]
  exact h2
theorem hid_T {T M : List Addr} {H H' : Hp} (s : ∀ a ∈ T, a ∈ M) (e : Same (hid T H) H') : Same (hid M H) (hid M H') := fun b o h => by
  obtain ⟨h1, h2⟩ := hid_some h
  rw [hid_out h1]
  exact e b o (by rw [hid_out fun z => h1 (s b z)]; exact h2)
theorem hid_mono {M : List Addr} {H H' : Hp} (e : Same H H') : Same (hid M H) (hid M H') := hid_T (T := []) (fun _ h => nomatch h) fun b o h => e b o (hid_le b o h)
theorem sameT_of {T : List Addr} {H H' : Hp} (e : Same H H') : Same (hid T H) H' := fun b o h => e b o (hid_le b o h)
theorem sameT_trans {T : List Addr} {H H1 H2 : Hp} (a : Same (hid T H) H1) (b : Same (hid T H1) H2) : Same (hid T H) H2 := fun c o h => b c o (by
  rw [hid_out (hid_some h).1]
  exact a c o h)
theorem same_upd {H : Hp} {p : Addr} {o : HO} (h : H p = none) : Same H (upd H p o) := fun b x e => by
  rw [upd_ne (ne_of_none e h)]
  exact e
theorem hid_upd {M : List Addr} {H : Hp} {p : Addr} {o : HO} (h : p ∈ M) : hid M (upd H p o) = hid M H := by
  funext b
  unfold hid
  by_cases hb : b ∈ M
  · rw [if_pos hb, if_pos hb]
  · rw [if_neg hb, if_neg hb, upd_ne fun z => hb (by rw [z]; exact h)]

/-! ### data -/
mutual
inductive Rp (H : Hp) : V → PyData → Prop
  | non : Rp H .non .none
  | bl (b : Bool) : Rp H (.bl b) (.bool b)
  | int (i : Int) : Rp H (.int i) (.int i)
  | str (x : Str) : Rp H (.str x) (.str x)
  | lst {a : Addr} {xs : List V} {ds : List PyData} : H a = some (.lst xs) → RpL H xs ds → Rp H (.ref a) (.list ds)
  | tup {a : Addr} {xs : List V} {ds : List PyData} : H a = some (.tup xs) → RpL H xs ds → Rp H (.ref a) (.tuple ds)
inductive RpL (H : Hp) : List V → List PyData → Prop
  | nil : RpL H [] []
  | cons {v : V} {vs : List V} {d : PyData} {ds : List PyData} : Rp H v d → RpL H vs ds → RpL H (v :: vs) (d :: ds)
end
mutual
theorem Rp.mono {H H' : Hp} (e : Same H H') : ∀ (d : PyData) (v : V), Rp H v d → Rp H' v d
  | .none, _, h => by cases h; exact .non
  | .bool _, _, h => by cases h; exact .bl _
  | .int _, _, h => by cases h; exact .int _
  | .str _, _, h => by cases h; exact .str _
  | .list ds, _, h => by
    cases h with
    | lst h1 h2 => exact .lst (e _ _ h1) (RpL.mono e ds _ h2)
  | .tuple ds, _, h => by
    cases h with
    | tup h1 h2 => exact .tup (e _ _ h1) (RpL.mono e ds _ h2)
  | .dict _, _, h => by cases h
theorem RpL.mono {H H' : Hp} (e : Same H H') : ∀ (ds : List PyData) (vs : List V), RpL H vs ds → RpL H' vs ds
  | [], _, h => by cases h; exact .nil
  | d :: ds, _, h => by
    cases h with
    | cons h1 h2 => exact .cons (Rp.mono e d _ h1) (RpL.mono e ds _ h2)
end
mutual
theorem Rp.dp {K : PySem.W.Frag} {H : Hp} : ∀ (d : PyData) (v : V), Rp H v d → Dp K H v d
  | .none, _, h => by cases h; exact .non
  | .bool _, _, h => by cases h; exact .bl _
  | .int _, _, h => by cases h; exact .int _
  | .str _, _, h => by cases h; exact .str _
  | .list ds, _, h => by
    cases h with
    | lst h1 h2 => exact .lst (.inl (.inl h1)) (RpL.dp ds _ h2)
  | .tuple ds, _, h => by
    cases h with
    | tup h1 h2 => exact .tup (.inl (.inl h1)) (RpL.dp ds _ h2)
  | .dict _, _, h => by cases h
theorem RpL.dp {K : PySem.W.Frag} {H : Hp} : ∀ (ds : List PyData) (vs : List V), RpL H vs ds → DpAll K H vs ds
  | [], _, h => by cases h; exact .nil
  | d :: ds, _, h => by
    cases h with
    | cons h1 h2 => exact .cons (Rp.dp d _ h1) (RpL.dp ds _ h2)
end
section
variable {H H' : Hp} {vs us : List V} {ds es : List PyData} {v : V} {d : PyData}
theorem Rp.up (h : Rp H v d) (e : Same H H') : Rp H' v d := Rp.mono e d v h
theorem RpL.up (h : RpL H vs ds) (e : Same H H') : RpL H' vs ds := RpL.mono e ds vs h
theorem RpL.length : ∀ {vs : List V} {ds : List PyData}, RpL H vs ds → vs.length = ds.length
  | _, _, .nil => rfl
  | _, _, .cons _ t => by rw [List.length_cons, List.length_cons, t.length]
theorem RpL.get : ∀ {vs : List V} {ds : List PyData} {i : Nat} {d : PyData}, RpL H vs ds → ds[i]? = some d → ∃ v, vs[i]? = some v ∧ Rp H v d
  | _, _, _, _, .nil, e => by simp at e
  | _, _, 0, _, .cons r _, e => by simp at e; subst e; exact ⟨_, rfl, r⟩
  | _, _, i + 1, d, .cons _ t, e => by
    obtain ⟨u, h1, h2⟩ := RpL.get (i := i) (d := d) t (by simpa using e)
    exact ⟨u, by simpa using h1, h2⟩
theorem RpL.get' : ∀ {vs : List V} {ds : List PyData} {i : Nat} {v : V}, RpL H vs ds → vs[i]? = some v → ∃ d, ds[i]? = some d ∧ Rp H v d
  | _, _, _, _, .nil, e => by simp at e
  | _, _, 0, _, .cons r _, e => by simp at e; subst e; exact ⟨_, rfl, r⟩
  | _, _, i + 1, d, .cons _ t, e => by
    obtain ⟨u, h1, h2⟩ := RpL.get' (i := i) (v := d) t (by simpa using e)
    exact ⟨u, by simpa using h1, h2⟩
theorem RpL.append : ∀ {vs us : List V} {ds es : List PyData}, RpL H vs ds → RpL H us es → RpL H (vs ++ us) (ds ++ es)
  | _, _, _, _, .nil, s => s
  | _, _, _, _, .cons r t, s => .cons r (RpL.append t s)
theorem RpL.take : ∀ {vs : List V} {ds : List PyData} (n : Nat), RpL H vs ds → RpL H (vs.take n) (ds.take n)
  | _, _, 0, _ => by rw [List.take_zero, List.take_zero]; exact .nil
  | _, _, _ + 1, .nil => .nil
  | _, _, n + 1, .cons r t => .cons r (RpL.take n t)
theorem RpL.drop : ∀ {vs : List V} {ds : List PyData} (n : Nat), RpL H vs ds → RpL H (vs.drop n) (ds.drop n)
  | _, _, 0, r => r
  | _, _, _ + 1, .nil => .nil
  | _, _, n + 1, .cons _ t => RpL.drop n t
theorem RpL.one (h : Rp H v d) : RpL H [v] [d] := .cons h .nil
theorem RpL.snoc (h : RpL H vs ds) (h2 : Rp H v d) : RpL H (vs ++ [v]) (ds ++ [d]) := h.append (.one h2)
theorem RpL.reverse : ∀ {vs : List V} {ds : List PyData}, RpL H vs ds → RpL H vs.reverse ds.reverse
  | _, _, .nil => .nil
  | _, _, .cons r t => by rw [List.reverse_cons, List.reverse_cons]; exact (RpL.reverse t).snoc r
theorem RpL.set : ∀ {vs : List V} {ds : List PyData} (i : Nat) {v : V} {d : PyData}, RpL H vs ds → Rp H v d → RpL H (vs.set i v) (ds.set i d)
  | _, _, _, _, _, .nil, _ => .nil
  | _, _, 0, _, _, .cons _ t, h => .cons h t
  | _, _, i + 1, _, _, .cons r t, h => .cons r (RpL.set i t h)
theorem RpL.erase : ∀ {vs : List V} {ds : List PyData} (i : Nat), RpL H vs ds → RpL H (vs.eraseIdx i) (ds.eraseIdx i)
  | _, _, _, .nil => .nil
  | _, _, 0, .cons _ t => t
  | _, _, i + 1, .cons r t => .cons r (RpL.erase i t)
theorem RpL.split {vs : List V} : ∀ {ds es : List PyData}, RpL H vs (ds ++ es) → ∃ us ws, vs = us ++ ws ∧ RpL H us ds ∧ RpL H ws es
  | ds, es, h => ⟨vs.take ds.length, vs.drop ds.length, (List.take_append_drop _ _).symm, by
      have q := h.take ds.length
      rwa [List.take_left'] at q
      rfl, by
      have q := h.drop ds.length
      rwa [List.drop_left'] at q
      rfl⟩
theorem RpL.ints : ∀ {ns : List Int} {vs : List V}, RpL H vs (ns.map PyData.int) → vs = ns.map V.int
  | [], _, h => by cases h; rfl
  | n :: ns, _, h => by
    cases h with
    | cons h1 h2 => cases h1; rw [RpL.ints h2]; rfl
theorem RpL.of_ints : ∀ (ns : List Int), RpL H (ns.map V.int) (ns.map PyData.int)
  | [] => .nil
  | n :: ns => .cons (.int n) (RpL.of_ints ns)
theorem RpL.bools : ∀ {ns : List Bool} {vs : List V}, RpL H vs (ns.map PyData.bool) → vs = ns.map V.bl
  | [], _, h => by cases h; rfl
  | n :: ns, _, h => by
    cases h with
    | cons h1 h2 => cases h1; rw [RpL.bools h2]; rfl
theorem Rp.list_inv (h : Rp H v (.list ds)) : ∃ a xs, v = .ref a ∧ H a = some (.lst xs) ∧ RpL H xs ds := by
  cases h with
  | lst h1 h2 => exact ⟨_, _, rfl, h1, h2⟩
theorem Rp.tup_inv (h : Rp H v (.tuple ds)) : ∃ a xs, v = .ref a ∧ H a = some (.tup xs) ∧ RpL H xs ds := by
  cases h with
  | tup h1 h2 => exact ⟨_, _, rfl, h1, h2⟩
end

/-! ### slots -/
/-- what an object that only we hold is known to be, over the data's heap -/
structure Desc where
  F : Hp → HO → Prop
  mono : ∀ {R R' : Hp} {o : HO}, Same R R' → F R o → F R' o
/-- a list of data -/
def lD (ds : List PyData) : Desc := ⟨fun R o => ∃ vs, o = .lst vs ∧ RpL R vs ds, fun e ⟨vs, h1, h2⟩ => ⟨vs, h1, h2.up e⟩⟩
inductive Ent where
  | un
  | dat (d : PyData)
  | own (p : Addr) (D : Desc)
  | raw (v : V)
  | tp
/-- T: what expressions may change (the tape, or nothing); sc: the tape's own list of numbers; H0, M0: the heap, and what was held by others, at the entry -/
structure Bs where
  T : List Addr
  sc : Addr
  H0 : Hp
  M0 : List Addr
def TapeOk (M : List Addr) (H : Hp) (t sc : Addr) : Prop := ∃ (i c : Int) (ns : List Int), H t = some (.lst [.ref sc, .int i, .int c]) ∧ hid M H sc = some (.lst (ns.map V.int)) ∧ 0 ≤ i ∧ 0 ≤ c
def EntOk (b : Bs) (M : List Addr) (H : Hp) (e : Ent) (o : Option V) : Prop :=
  match e with
  | .un => True
  | .dat d => ∃ v, o = some v ∧ Rp (hid M H) v d
  | .own p D => o = some (.ref p) ∧ p ∈ M ∧ p ∉ b.T ∧ p ∉ b.M0 ∧ b.H0 p = none ∧ ∃ u, H p = some u ∧ D.F (hid M H) u
  | .raw v => o = some v
  | .tp => ∃ t, t ∈ b.T ∧ o = some (.ref t)
def ownA : Ent → Option Addr
  | .own p _ => some p
  | _ => none
def owns (Γ : List Ent) : List Addr := Γ.filterMap ownA
def sl (σ : L2.St) (i : Nat) : Option V := (σ[i]?).getD none
structure Sat (b : Bs) (G : List (V × PyData)) (M : List Addr) (Γ : List Ent) (σ : L2.St) (H : Hp) : Prop where
  ext : Same (hid b.T b.H0) H
  m0 : ∀ a ∈ b.M0, a ∈ M
  tm : ∀ a ∈ b.T, a ∈ M
  trk : ∀ a ∈ M, H a ≠ none
  tape : ∀ t ∈ b.T, TapeOk M H t b.sc
  len : σ.length = Γ.length
  at_ : ∀ i e, Γ[i]? = some e → EntOk b M H e (sl σ i)
  gh : ∀ p ∈ G, Rp (hid M H) p.1 p.2
  nd : (owns Γ).Nodup
theorem TapeOk.same {M : List Addr} {H H' : Hp} {t sc : Addr} (h : TapeOk M H t sc) (e : Same H H') : TapeOk M H' t sc := by
  obtain ⟨i, c, ns, h1, h2, h3⟩ := h
  exact ⟨i, c, ns, e _ _ h1, hid_mono e _ _ h2, h3⟩
section
variable {b : Bs} {G : List (V × PyData)} {M M' : List Addr} {Γ : List Ent} {σ : L2.St} {H H' : Hp}
/-- behind an expression: the tape may have gone on -/
theorem EntOk.go {e : Ent} {o : Option V} (tm : ∀ a ∈ b.T, a ∈ M) (s : Same (hid b.T H) H') (h : EntOk b M H e o) : EntOk b M H' e o := by
  cases e with
  | un => exact True.intro
  | dat d =>
    obtain ⟨v, h1, h2⟩ := h
    exact ⟨v, h1, h2.up (hid_T tm s)⟩
  | own p D =>
    obtain ⟨h1, h2, h3, h4, h5, u, h6, h7⟩ := h
    exact ⟨h1, h2, h3, h4, h5, u, s _ _ (by rw [hid_out h3]; exact h6), D.mono (hid_T tm s) h7⟩
  | raw v => exact h
  | tp => exact h
theorem Sat.go (S : Sat b G M Γ σ H) (s : Same (hid b.T H) H') (tp : ∀ t ∈ b.T, TapeOk M H' t b.sc) : Sat b G M Γ σ H' where
  ext := sameT_trans S.ext s
  m0 := S.m0
  tm := S.tm
  trk := fun a ha z => by
    by_cases ht : a ∈ b.T
    · obtain ⟨i, c, ns, h1, _⟩ := tp a ht
      rw [h1] at z
      cases z
    · cases q : H a with
      | none => exact S.trk a ha q
      | some o =>
        rw [s a o (by rw [hid_out ht]; exact q)] at z
        cases z
  tape := tp
  len := S.len
  at_ := fun i e h => (S.at_ i e h).go S.tm s
  gh := fun p hp => (S.gh p hp).up (hid_T S.tm s)
  nd := S.nd
theorem Sat.same (S : Sat b G M Γ σ H) (s : Same H H') : Sat b G M Γ σ H' := S.go (sameT_of s) fun t ht => (S.tape t ht).same s
theorem Sat.fresh (S : Sat b G M Γ σ H) {p : Addr} (h : H p = none) : p ∉ M := fun z => S.trk p z h
theorem sl_set {i : Nat} {v : V} (h : i < σ.length) : sl (σ.set i (some v)) i = some v := by
  unfold sl
  rw [List.getElem?_set_self h]
  rfl
theorem sl_set_ne {i j : Nat} {o : Option V} (h : i ≠ j) : sl (σ.set i o) j = sl σ j := by
  unfold sl
  rw [List.getElem?_set_ne h]
theorem sl_some {i : Nat} {v : V} (h : sl σ i = some v) : σ[i]? = some (some v) := by
  unfold sl at h
  cases q : σ[i]? with
  | none => rw [q] at h; cases h
  | some o => rw [q] at h; exact congrArg some h
theorem owns_set {i : Nat} {e : Ent} (hn : (owns Γ).Nodup) (he : ∀ p, ownA e = some p → p ∉ owns Γ) : (owns (Γ.set i e)).Nodup := by
  induction Γ generalizing i with
  | nil => exact hn
  | cons x r ih =>
    cases i with
    | zero =>
      show (owns (e :: r)).Nodup
      have hr : (owns r).Nodup := by
        unfold owns at hn
        rw [List.filterMap_cons] at hn
        split at hn
        · exact hn
        · exact (List.nodup_cons.mp hn).2
      unfold owns
      rw [List.filterMap_cons]
      split
      · exact hr
      · rename_i p hp
        refine List.nodup_cons.mpr ⟨fun z => he p hp ?_, hr⟩
        unfold owns
        rw [List.filterMap_cons]
        split
        · exact z
        · exact List.mem_cons_of_mem _ z
    | succ i =>
      show (owns (x :: r.set i e)).Nodup
      have sub : ∀ p, p ∈ owns (r.set i e) → p ∈ owns r ∨ ownA e = some p := fun p hp => by
        unfold owns at hp
        obtain ⟨y, hy, hyp⟩ := List.mem_filterMap.mp hp
        rcases List.mem_or_eq_of_mem_set hy with z | z
        · exact .inl (List.mem_filterMap.mpr ⟨y, z, hyp⟩)
        · exact .inr (z ▸ hyp)
      unfold owns at hn ⊢
      rw [List.filterMap_cons] at hn ⊢
      split
      · rename_i hx
        rw [hx] at hn
        refine ih hn fun p hp z => he p hp ?_
        unfold owns
        rw [List.filterMap_cons, hx]
        exact z
      · rename_i q hx
        rw [hx] at hn
        obtain ⟨n1, n2⟩ := List.nodup_cons.mp hn
        refine List.nodup_cons.mpr ⟨fun z => ?_, ih n2 fun p hp z => he p hp ?_⟩
        · rcases sub q z with z | z
          · exact n1 z
          · refine he q z ?_
            unfold owns
            rw [List.filterMap_cons, hx]
            exact List.mem_cons_self
        · unfold owns
          rw [List.filterMap_cons, hx]
          exact List.mem_cons_of_mem _ z
theorem mem_owns {i : Nat} {p : Addr} {D : Desc} (h : Γ[i]? = some (.own p D)) : p ∈ owns Γ := List.mem_filterMap.mpr ⟨_, List.mem_of_getElem? h, rfl⟩
theorem of_owns {p : Addr} (h : p ∈ owns Γ) : ∃ (i : Nat) (D : Desc), Γ[i]? = some (.own p D) := by
  obtain ⟨e, he, hp⟩ := List.mem_filterMap.mp h
  obtain ⟨i, hi⟩ := List.mem_iff_getElem?.mp he
  cases e with
  | own q D =>
    cases (show some q = some p from hp)
    exact ⟨i, D, hi⟩
  | un => cases hp
  | dat d => cases hp
  | raw v => cases hp
  | tp => cases hp
theorem owns_ix : ∀ {Γ : List Ent} {i j : Nat} {p : Addr} {D D' : Desc}, (owns Γ).Nodup → Γ[i]? = some (.own p D) → Γ[j]? = some (.own p D') → i = j
  | [], _, _, _, _, _, _, h, _ => by simp at h
  | x :: r, 0, 0, _, _, _, _, _, _ => rfl
  | x :: r, 0, j + 1, p, D, D', hn, h, h' => by
    have e : x = .own p D := by simpa using h
    subst e
    have hn' : (p :: owns r).Nodup := hn
    exact absurd (mem_owns (Γ := r) (i := j) (by simpa using h')) (List.nodup_cons.mp hn').1
  | x :: r, i + 1, 0, p, D, D', hn, h, h' => by
    have e : x = .own p D' := by simpa using h'
    subst e
    have hn' : (p :: owns r).Nodup := hn
    exact absurd (mem_owns (Γ := r) (i := i) (by simpa using h)) (List.nodup_cons.mp hn').1
  | x :: r, i + 1, j + 1, p, D, D', hn, h, h' => by
    have hr : (owns r).Nodup := by
      unfold owns at hn
      rw [List.filterMap_cons] at hn
      split at hn
      · exact hn
      · exact (List.nodup_cons.mp hn).2
    rw [owns_ix hr (i := i) (j := j) (by simpa using h) (by simpa using h')]
/-- a slot gets an entry that needs no new holding -/
theorem Sat.put {i : Nat} {v : V} {e : Ent} (S : Sat b G M Γ σ H) (hi : i < Γ.length) (ho : ownA e = none) (he : EntOk b M H e (some v)) : Sat b G M (Γ.set i e) (σ.set i (some v)) H where
  ext := S.ext
  m0 := S.m0
  tm := S.tm
  trk := S.trk
  tape := S.tape
  len := by rw [List.length_set, List.length_set, S.len]
  at_ := fun j x h => by
    by_cases hj : i = j
    · subst hj
      rw [List.getElem?_set_self hi] at h
      cases h
      rw [sl_set (by rw [S.len]; exact hi)]
      exact he
    · rw [List.getElem?_set_ne hj] at h
      rw [sl_set_ne hj]
      exact S.at_ j x h
  gh := S.gh
  nd := owns_set S.nd fun p hp => by rw [ho] at hp; cases hp
/-- an entry is forgotten, or said otherwise -/
theorem Sat.say {i : Nat} {e : Ent} (S : Sat b G M Γ σ H) (ho : ownA e = none) (he : EntOk b M H e (sl σ i)) : Sat b G M (Γ.set i e) σ H where
  ext := S.ext
  m0 := S.m0
  tm := S.tm
  trk := S.trk
  tape := S.tape
  len := by rw [List.length_set, S.len]
  at_ := fun j x h => by
    by_cases hj : i = j
    · subst hj
      by_cases hi : i < Γ.length
      · rw [List.getElem?_set_self hi] at h
        cases h
        exact he
      · rw [List.getElem?_eq_none (by rw [List.length_set]; omega)] at h
        cases h
    · rw [List.getElem?_set_ne hj] at h
      exact S.at_ j x h
  gh := S.gh
  nd := owns_set S.nd fun p hp => by rw [ho] at hp; cases hp
theorem Sat.unsay {i : Nat} (S : Sat b G M Γ σ H) : Sat b G M (Γ.set i .un) σ H := S.say rfl True.intro
theorem Sat.ghost {v : V} {d : PyData} (S : Sat b G M Γ σ H) (h : Rp (hid M H) v d) : Sat b ((v, d) :: G) M Γ σ H := ⟨S.ext, S.m0, S.tm, S.trk, S.tape, S.len, S.at_, fun p hp => by
  rcases List.mem_cons.mp hp with e | hp
  · rw [e]
    exact h
  · exact S.gh p hp, S.nd⟩
theorem Sat.noghost {p : V × PyData} (S : Sat b (p :: G) M Γ σ H) : Sat b G M Γ σ H := ⟨S.ext, S.m0, S.tm, S.trk, S.tape, S.len, S.at_, fun q hq => S.gh q (List.mem_cons_of_mem _ hq), S.nd⟩
theorem TapeOk.veil {t sc p : Addr} (h : TapeOk M H t sc) (hp : sc ≠ p) : TapeOk (p :: M) H t sc := by
  obtain ⟨i, c, ns, h1, h2, h3⟩ := h
  refine ⟨i, c, ns, h1, ?_, h3⟩
  obtain ⟨e1, e2⟩ := hid_some h2
  rw [hid_out (by simp [hp, e1])]
  exact e2
theorem TapeOk.anti {t sc : Addr} (h : TapeOk M H t sc) (s : ∀ a ∈ M', a ∈ M) : TapeOk M' H t sc := by
  obtain ⟨i, c, ns, h1, h2, h3⟩ := h
  exact ⟨i, c, ns, h1, hid_anti s _ _ h2, h3⟩
/-- a new object is kept apart -/
theorem Sat.veil {p : Addr} (S : Sat b G M Γ σ H) (hn : H p = none) (s : Same (hid b.T H) H') (tp : ∀ t ∈ b.T, TapeOk M H' t b.sc) (hu : H' p ≠ none) : Sat b G (p :: M) Γ σ H' ∧ p ∉ M ∧ p ∉ b.T ∧ p ∉ b.M0 ∧ b.H0 p = none ∧ p ∉ owns Γ := by
  have hpM : p ∉ M := S.fresh hn
  have hpT : p ∉ b.T := fun z => hpM (S.tm p z)
  have h0 : b.H0 p = none := by
    cases q : b.H0 p with
    | none => rfl
    | some o =>
      rw [S.ext p o (by rw [hid_out hpT]; exact q)] at hn
      cases hn
  have S' := S.go s tp
  have sh : Same (hid M H) (hid (p :: M) H') := fun a o e => by
    obtain ⟨e1, e2⟩ := hid_some e
    have ha : a ≠ p := ne_of_none e2 hn
    rw [hid_out (by simp [ha, e1])]
    exact s a o (by rw [hid_out fun z => e1 (S.tm a z)]; exact e2)
  have hno : p ∉ owns Γ := fun z => by
    obtain ⟨j, D', hj⟩ := of_owns z
    exact hpM (S.at_ j _ hj).2.1
  refine ⟨⟨S'.ext, fun a ha => List.mem_cons_of_mem _ (S.m0 a ha), fun a ha => List.mem_cons_of_mem _ (S.tm a ha), fun a ha => ?_, fun t ht => (tp t ht).veil fun z => ?_, S.len, fun j x h => ?_, fun q hq => (S.gh q hq).up sh, S.nd⟩, hpM, hpT, fun z => hpM (S.m0 p z), h0, hno⟩
  · rcases List.mem_cons.mp ha with e | ha
    · rw [e]
      exact hu
    · exact S'.trk a ha
  · obtain ⟨i, c, ns, g1, g2, g3⟩ := S.tape t ht
    rw [z] at g2
    rw [(hid_some g2).2] at hn
    cases hn
  · have q := S.at_ j x h
    cases x with
    | un => exact True.intro
    | dat d =>
      obtain ⟨v, h1, h2⟩ := q
      exact ⟨v, h1, h2.up sh⟩
    | own q' D =>
      obtain ⟨h1, h2, h3, h4, h5, u, h6, h7⟩ := q
      exact ⟨h1, List.mem_cons_of_mem _ h2, h3, h4, h5, u, s _ _ (by rw [hid_out h3]; exact h6), D.mono sh h7⟩
    | raw v => exact q
    | tp => exact q
/-- what is kept apart is changed -/
theorem Sat.poke {p : Addr} {u : HO} (S : Sat b G M Γ σ H) (hp : p ∈ M) (hT : p ∉ b.T) (h0 : b.H0 p = none) (ho : p ∉ owns Γ) : Sat b G M Γ σ (upd H p u) := by
  have eh : hid M (upd H p u) = hid M H := hid_upd hp
  refine ⟨fun a o e => ?_, S.m0, S.tm, fun a ha z => ?_, fun t ht => ?_, S.len, fun j x h => ?_, fun q hq => by rw [eh]; exact S.gh q hq, S.nd⟩
  · rw [upd_ne (ne_of_none (hid_some e).2 h0)]
    exact S.ext a o e
  · by_cases e : a = p
    · rw [e, upd_same] at z
      cases z
    · rw [upd_ne e] at z
      exact S.trk a ha z
  · obtain ⟨i, c, ns, g1, g2, g3⟩ := S.tape t ht
    refine ⟨i, c, ns, by rw [upd_ne fun z => hT (by rw [← z]; exact ht)]; exact g1, by rw [eh]; exact g2, g3⟩
  · have q := S.at_ j x h
    cases x with
    | un => exact True.intro
    | dat d =>
      show ∃ v, _
      rw [eh]
      exact q
    | own q' D2 =>
      obtain ⟨k1, k2, k3, k4, k5, w, k6, k7⟩ := q
      have hne : q' ≠ p := fun z => by
        subst z
        exact ho (mem_owns h)
      exact ⟨k1, k2, k3, k4, k5, w, by rw [upd_ne hne]; exact k6, by rw [eh]; exact k7⟩
    | raw v => exact q
    | tp => exact q
/-- a new object that only we hold -/
theorem Sat.hold {i : Nat} {p : Addr} {D : Desc} {u : HO} (S : Sat b G M Γ σ H) (hi : i < Γ.length) (hn : H p = none) (s : Same (hid b.T H) H') (tp : ∀ t ∈ b.T, TapeOk M H' t b.sc) (hu : H' p = some u) (hD : D.F (hid (p :: M) H') u) : Sat b G (p :: M) (Γ.set i (.own p D)) (σ.set i (some (.ref p))) H' := by
  obtain ⟨S', hpM, hpT, hp0, h0, hno⟩ := S.veil hn s tp (by rw [hu]; exact fun z => nomatch z)
  refine ⟨S'.ext, S'.m0, S'.tm, S'.trk, S'.tape, by rw [List.length_set, List.length_set, S.len], fun j x h => ?_, S'.gh, owns_set S.nd fun q hq => by cases hq; exact hno⟩
  by_cases hj : i = j
  · subst hj
    rw [List.getElem?_set_self hi] at h
    cases h
    rw [sl_set (by rw [S.len]; exact hi)]
    exact ⟨rfl, List.mem_cons_self, hpT, hp0, h0, u, hu, hD⟩
  · rw [List.getElem?_set_ne hj] at h
    rw [sl_set_ne hj]
    exact S'.at_ j x h
/-- what only we hold is changed -/
theorem Sat.write {i : Nat} {p : Addr} {D D' : Desc} {u : HO} (S : Sat b G M Γ σ H) (hi : Γ[i]? = some (.own p D)) (hD : D'.F (hid M H) u) : Sat b G M (Γ.set i (.own p D')) σ (upd H p u) := by
  obtain ⟨h1, h2, h3, h4, h5, u0, h6, h7⟩ := S.at_ i _ hi
  have eh : hid M (upd H p u) = hid M H := hid_upd h2
  have hil : i < Γ.length := (List.getElem?_eq_some_iff.mp hi).1
  have nT : ∀ t ∈ b.T, t ≠ p := fun t ht z => h3 (z ▸ ht)
  refine ⟨fun a o e => ?_, S.m0, S.tm, fun a ha z => ?_, fun t ht => ?_, by rw [List.length_set, S.len], fun j x h => ?_, fun q hq => by rw [eh]; exact S.gh q hq, ?_⟩
  · rw [upd_ne (ne_of_none (hid_some e).2 h5)]
    exact S.ext a o e
  · by_cases hp : a = p
    · rw [hp, upd_same] at z
      cases z
    · rw [upd_ne hp] at z
      exact S.trk a ha z
  · obtain ⟨i, c, ns, g1, g2, g3⟩ := S.tape t ht
    refine ⟨i, c, ns, by rw [upd_ne (nT t ht)]; exact g1, by rw [eh]; exact g2, g3⟩
  · by_cases hj : i = j
    · subst hj
      rw [List.getElem?_set_self hil] at h
      cases h
      exact ⟨h1, h2, h3, h4, h5, u, upd_same, by rw [eh]; exact hD⟩
    · rw [List.getElem?_set_ne hj] at h
      have q := S.at_ j x h
      cases x with
      | un => exact True.intro
      | dat d =>
        show ∃ v, _
        rw [eh]
        exact q
      | own q' D2 =>
        obtain ⟨k1, k2, k3, k4, k5, w, k6, k7⟩ := q
        have hne : q' ≠ p := fun z => by
          subst z
          exact hj (owns_ix S.nd hi h)
        exact ⟨k1, k2, k3, k4, k5, w, by rw [upd_ne hne]; exact k6, by rw [eh]; exact k7⟩
      | raw v => exact q
      | tp => exact q
  · have e : owns (Γ.set i (.own p D')) = owns Γ := by
      unfold owns
      rw [show Γ.set i (.own p D') = Γ.set i (.own p D') from rfl]
      have : (Γ.set i (.own p D')).map ownA = Γ.map ownA := by
        rw [List.map_set]
        apply List.ext_getElem?
        intro j
        by_cases hj : i = j
        · subst hj
          rw [List.getElem?_set_self (by rw [List.length_map]; exact hil), List.getElem?_map, hi]
          rfl
        · rw [List.getElem?_set_ne hj]
      have f : ∀ l : List Ent, l.filterMap ownA = (l.map ownA).filterMap id := fun l => by rw [List.filterMap_map]; rfl
      rw [f, f, this]
    rw [e]
    exact S.nd
/-- what only we hold is given away, as data -/
theorem Sat.free {i : Nat} {p : Addr} {ds : List PyData} (S : Sat b G M Γ σ H) (hi : Γ[i]? = some (.own p (lD ds))) : Sat b G (M.filter (fun a => decide (a ≠ p))) (Γ.set i (.dat (.list ds))) σ H := by
  obtain ⟨h1, h2, h3, h4, h5, u0, h6, vs, h7, h8⟩ := S.at_ i _ hi
  subst h7
  have hil : i < Γ.length := (List.getElem?_eq_some_iff.mp hi).1
  have mem : ∀ a, a ∈ M → a ≠ p → a ∈ M.filter (fun a => decide (a ≠ p)) := fun a h z => List.mem_filter.mpr ⟨h, decide_eq_true z⟩
  have sub : ∀ a, a ∈ M.filter (fun a => decide (a ≠ p)) → a ∈ M := fun a h => (List.mem_filter.mp h).1
  have sh : Same (hid M H) (hid (M.filter (fun a => decide (a ≠ p))) H) := hid_anti sub
  refine ⟨S.ext, fun a ha => mem a (S.m0 a ha) fun z => h4 (z ▸ ha), fun a ha => mem a (S.tm a ha) fun z => h3 (z ▸ ha), fun a ha => S.trk a (sub a ha), fun t ht => ?_, by rw [List.length_set, S.len], fun j x h => ?_, fun q hq => (S.gh q hq).up sh, owns_set S.nd fun q hq => by cases hq⟩
  · obtain ⟨i, c, ns, g1, g2, g3⟩ := S.tape t ht
    exact ⟨i, c, ns, g1, sh _ _ g2, g3⟩
  · by_cases hj : i = j
    · subst hj
      rw [List.getElem?_set_self hil] at h
      cases h
      refine ⟨.ref p, h1, .lst (xs := vs) ?_ (h8.up sh)⟩
      rw [hid_out fun z => absurd rfl (of_decide_eq_true (List.mem_filter.mp z).2)]
      exact h6
    · rw [List.getElem?_set_ne hj] at h
      have q := S.at_ j x h
      cases x with
      | un => exact True.intro
      | dat d =>
        obtain ⟨v, q1, q2⟩ := q
        exact ⟨v, q1, q2.up sh⟩
      | own q' D2 =>
        obtain ⟨k1, k2, k3, k4, k5, w, k6, k7⟩ := q
        have hne : q' ≠ p := fun z => by
          subst z
          exact hj (owns_ix S.nd hi h)
        exact ⟨k1, mem _ k2 hne, k3, k4, k5, w, k6, D2.mono sh k7⟩
      | raw v => exact q
      | tp => exact q
end
end Dz

set_option Elab.async false
set_option linter.all false
set_option maxRecDepth 100000
set_option maxHeartbeats 2000000
namespace Dz
open PySem PySem.Spec PyProof.Rows L2

def isN : PyData → Bool
  | .none => true
  | _ => false
/-! ### what an expression gives -/
def EvR (Γ : List Ent) (te : TE) (P : PyData → Prop) : Prop := ∀ (b : Bs) (G : List (V × PyData)) (M : List Addr) (σ : L2.St) (H : Hp), Sat b G M Γ σ H →
  ∀ Q : VK, (∀ v d H', Sat b G M Γ σ H' → Same (hid b.T H) H' → P d → Rp (hid M H') v d → Q v H') → te σ H Q
abbrev EvD (Γ : List Ent) (te : TE) (d : PyData) : Prop := EvR Γ te (· = d)
def EvB (Γ : List Ent) (tt : TT) (P : Bool → Prop) : Prop := ∀ (b : Bs) (G : List (V × PyData)) (M : List Addr) (σ : L2.St) (H : Hp), Sat b G M Γ σ H →
  ∀ Q : Bool → Hp → Prop, (∀ k H', Sat b G M Γ σ H' → Same (hid b.T H) H' → P k → Q k H') → tt σ H Q
abbrev EbD (Γ : List Ent) (tt : TT) (k : Bool) : Prop := EvB Γ tt (· = k)
def EvA (Γ : List Ent) (ta : TA) (P : List PyData → Prop) : Prop := ∀ (b : Bs) (G : List (V × PyData)) (M : List Addr) (σ : L2.St) (H : Hp), Sat b G M Γ σ H →
  ∀ Q : List V → Hp → Prop, (∀ vs ds H', Sat b G M Γ σ H' → Same (hid b.T H) H' → P ds → RpL (hid M H') vs ds → Q vs H') → ta σ H Q
abbrev EaD (Γ : List Ent) (ta : TA) (ds : List PyData) : Prop := EvA Γ ta (· = ds)
/-- a new list -/
def EvN (Γ : List Ent) (te : TE) (P : List PyData → Prop) : Prop := ∀ (b : Bs) (G : List (V × PyData)) (M : List Addr) (σ : L2.St) (H : Hp), Sat b G M Γ σ H →
  ∀ Q : VK, (∀ p vs ds H', H p = none → Sat b G M Γ σ H' → Same (hid b.T H) H' → H' p = some (.lst vs) → P ds → RpL (hid (p :: M) H') vs ds → Q (.ref p) H') → te σ H Q
abbrev EnD (Γ : List Ent) (te : TE) (ds : List PyData) : Prop := EvN Γ te (· = ds)
/-- by values, as data: an operator, a call -/
def OpD (r : R2) (x y : PyData) (P : PyData → Prop) : Prop := ∀ (M : List Addr) (H : Hp) (vx vy : V), (∀ a ∈ M, H a ≠ none) → Rp (hid M H) vx x → Rp (hid M H) vy y →
  ∀ Q : VK, (∀ v d H', Same H H' → P d → Rp (hid M H') v d → Q v H') → r vx vy H Q
def UnD (r : V → Hp → VK → Prop) (x : PyData) (P : PyData → Prop) : Prop := ∀ (M : List Addr) (H : Hp) (vx : V), (∀ a ∈ M, H a ≠ none) → Rp (hid M H) vx x →
  ∀ Q : VK, (∀ v d H', Same H H' → P d → Rp (hid M H') v d → Q v H') → r vx H Q
def CbD (r : List V → Hp → VK → Prop) (xs : List PyData) (P : PyData → Prop) : Prop := ∀ (M : List Addr) (H : Hp) (vs : List V), (∀ a ∈ M, H a ≠ none) → RpL (hid M H) vs xs →
  ∀ Q : VK, (∀ v d H', Same H H' → P d → Rp (hid M H') v d → Q v H') → r vs H Q
section
variable {Γ : List Ent} {te ta tb tc : TE} {t u : TT} {ar tr : TA} {P P' R : PyData → Prop} {b : Bs} {G : List (V × PyData)} {M : List Addr} {σ : L2.St} {H H1 H' : Hp}
theorem EvR.imp (h : EvR Γ te P) (i : ∀ d, P d → P' d) : EvR Γ te P' := fun b G M σ H S Q q => h b G M σ H S Q fun v d H' S' e p r => q v d H' S' e (i d p) r
theorem EvB.imp {P P' : Bool → Prop} (h : EvB Γ t P) (i : ∀ d, P d → P' d) : EvB Γ t P' := fun b G M σ H S Q q => h b G M σ H S Q fun d H' S' e p => q d H' S' e (i d p)
theorem EvA.imp {P P' : List PyData → Prop} (h : EvA Γ ar P) (i : ∀ d, P d → P' d) : EvA Γ ar P' := fun b G M σ H S Q q => h b G M σ H S Q fun v d H' S' e p r => q v d H' S' e (i d p) r
theorem EvN.imp {P P' : List PyData → Prop} (h : EvN Γ te P) (i : ∀ d, P d → P' d) : EvN Γ te P' := fun b G M σ H S Q q => h b G M σ H S Q fun p v d H' n S' e hp pd r => q p v d H' n S' e hp (i d pd) r
theorem EvD.to {d d' : PyData} (h : EvD Γ te d) (e : d = d') : EvD Γ te d' := e ▸ h
theorem EbD.to {d d' : Bool} (h : EbD Γ t d) (e : d = d') : EbD Γ t d' := e ▸ h
/-- a new list, as a datum -/
theorem EvN.ev {P : List PyData → Prop} (h : EvN Γ te P) : EvR Γ te (fun d => ∃ ds, d = .list ds ∧ P ds) := fun b G M σ H S Q q => h b G M σ H S Q fun p vs ds H' n S' e hp pd r =>
  q (.ref p) (.list ds) H' S' e ⟨ds, rfl, pd⟩ (.lst (xs := vs) (by rw [hid_out (S.fresh n)]; exact hp) (r.up (hid_anti fun a ha => List.mem_cons_of_mem _ ha)))
theorem EnD.ev {ds : List PyData} (h : EnD Γ te ds) : EvD Γ te (.list ds) := (EvN.ev h).imp fun d ⟨es, h1, h2⟩ => by rw [h1, h2]

/-! names, constants -/
theorem ev_var {i : Nat} {d : PyData} (h : Γ[i]? = some (.dat d)) : EvD Γ (tVar i) d := fun b G M σ H S Q q => by
  obtain ⟨v, h1, h2⟩ := S.at_ i _ h
  exact ⟨v, sl_some h1, q v d H S hid_le rfl h2⟩
theorem ev_int {i : Int} : EvD Γ (tC (.int i)) (.int i) := fun b G M σ H S Q q => q _ _ H S hid_le rfl (.int i)
theorem ev_bl {k : Bool} : EvD Γ (tC (.bl k)) (.bool k) := fun b G M σ H S Q q => q _ _ H S hid_le rfl (.bl k)
theorem ev_non : EvD Γ (tC .non) .none := fun b G M σ H S Q q => q _ _ H S hid_le rfl .non
theorem ev_str {x : Str} : EvD Γ (tC (.str x)) (.str x) := fun b G M σ H S Q q => q _ _ H S hid_le rfl (.str x)
theorem hid_T' {b : Bs} {M : List Addr} {Γ : List Ent} {σ : L2.St} {G : List (V × PyData)} (S : Sat b G M Γ σ H) (e : Same (hid b.T H1) H') : Same (hid M H1) (hid M H') := hid_T S.tm e

/-! operators, calls of built-ins -/
theorem ev_opR {r : R2} (ha : EvR Γ ta P) (hb : EvR Γ tb P') (hr : ∀ x y, P x → P' y → OpD r x y R) : EvR Γ (tOp r ta tb) R := fun b G M σ H S Q q =>
  ha b G M σ H S _ fun v1 d1 H1 S1 e1 p1 r1 => hb b G M σ H1 S1 _ fun v2 d2 H2 S2 e2 p2 r2 => hr d1 d2 p1 p2 M H2 v1 v2 S2.trk (r1.up (hid_T S.tm e2)) r2 Q fun v d H3 e3 p r3 =>
    q v d H3 (S2.same e3) (sameT_trans (sameT_trans e1 e2) (sameT_of e3)) p r3
theorem ev_op {r : R2} {x y z : PyData} (ha : EvD Γ ta x) (hb : EvD Γ tb y) (hr : OpD r x y (· = z)) : EvD Γ (tOp r ta tb) z := ev_opR (P := (· = x)) (P' := (· = y)) ha hb fun _ _ h1 h2 => by subst h1 h2; exact hr
theorem ev_un {r : V → Hp → VK → Prop} {x z : PyData} (ha : EvD Γ ta x) (hr : UnD r x (· = z)) : EvD Γ (tUn r ta) z := fun b G M σ H S Q q =>
  ha b G M σ H S _ fun v1 d1 H1 S1 e1 p1 r1 => hr M H1 v1 S1.trk (p1 ▸ r1) Q fun v d H2 e2 p r2 => q v d H2 (S1.same e2) (sameT_trans e1 (sameT_of e2)) p r2
theorem ev_cbR {r : List V → Hp → VK → Prop} {P : List PyData → Prop} (ha : EvA Γ ar P) (hr : ∀ xs, P xs → CbD r xs R) : EvR Γ (tCB r ar) R := fun b G M σ H S Q q =>
  ha b G M σ H S _ fun v1 d1 H1 S1 e1 p1 r1 => hr d1 p1 M H1 v1 S1.trk r1 Q fun v d H2 e2 p r2 => q v d H2 (S1.same e2) (sameT_trans e1 (sameT_of e2)) p r2
theorem ev_cb {r : List V → Hp → VK → Prop} {xs : List PyData} {z : PyData} (ha : EaD Γ ar xs) (hr : CbD r xs (· = z)) : EvD Γ (tCB r ar) z := ev_cbR (P := (· = xs)) ha fun _ h => by subst h; exact hr
theorem ea_nil : EaD Γ tNil [] := fun b G M σ H S Q q => q [] [] H S hid_le rfl .nil
theorem ea_consR {Pl : List PyData → Prop} (h : EvR Γ te P) (hr : EvA Γ tr Pl) : EvA Γ (tCons te tr) (fun l => ∃ d ds, l = d :: ds ∧ P d ∧ Pl ds) := fun b G M σ H S Q q =>
  h b G M σ H S _ fun v1 d1 H1 S1 e1 p1 r1 => hr b G M σ H1 S1 _ fun vs ds H2 S2 e2 p2 r2 => q (v1 :: vs) (d1 :: ds) H2 S2 (sameT_trans e1 e2) ⟨d1, ds, rfl, p1, p2⟩ (.cons (r1.up (hid_T S.tm e2)) r2)
theorem ea_cons {d : PyData} {ds : List PyData} (h : EvD Γ te d) (hr : EaD Γ tr ds) : EaD Γ (tCons te tr) (d :: ds) := (ea_consR h hr).imp fun l ⟨d', ds', h1, h2, h3⟩ => by rw [h1, h2, h3]
theorem ea_1 {d : PyData} (h : EvD Γ te d) : EaD Γ (tCons te tNil) [d] := ea_cons h ea_nil
theorem ea_2 {d d' : PyData} (h : EvD Γ ta d) (h' : EvD Γ tb d') : EaD Γ (tCons ta (tCons tb tNil)) [d, d'] := ea_cons h (ea_1 h')
theorem ea_1R (h : EvR Γ te P) : EvA Γ (tCons te tNil) (fun l => ∃ d, l = [d] ∧ P d) := (ea_consR h ea_nil).imp fun l ⟨d, ds, h1, h2, h3⟩ => ⟨d, by rw [h1, h3], h2⟩

/-! displays -/
theorem sz_of {n : Nat} (h : n ≤ 100000) : n ≤ sizeLine := Nat.le_trans h (by decide)
theorem sz_lt {n : Nat} (h : n < 100000) : n < sizeLine := Nat.lt_of_lt_of_le h (by decide)
theorem hid_cons_new {p : Addr} {o : HO} (hn : H p = none) : Same (hid M H) (hid (p :: M) (upd H p o)) := fun a u e => by
  obtain ⟨e1, e2⟩ := hid_some e
  have ha : a ≠ p := ne_of_none e2 hn
  rw [hid_out (by simp [ha, e1]), upd_ne ha]
  exact e2
theorem ev_tupR {Pl : List PyData → Prop} (h : EvA Γ ar Pl) (hz : ∀ ds, Pl ds → ds.length ≤ 100000) : EvR Γ (tTup ar) (fun d => ∃ ds, d = .tuple ds ∧ Pl ds) := fun b G M σ H S Q q =>
  h b G M σ H S _ fun vs ds H1 S1 e1 p1 r1 => ⟨sz_of (by rw [r1.length]; exact hz ds p1), fun p hp => q (.ref p) (.tuple ds) _ (S1.same (same_upd hp)) (sameT_trans e1 (sameT_of (same_upd hp))) ⟨ds, rfl, p1⟩
    (.tup (xs := vs) (by rw [hid_out (S1.fresh hp)]; exact upd_same) (r1.up (hid_mono (same_upd hp))))⟩
theorem ev_tup {ds : List PyData} (h : EaD Γ ar ds) (hz : ds.length ≤ 100000 := by simp) : EvD Γ (tTup ar) (.tuple ds) := (ev_tupR h fun _ e => by rw [e]; exact hz).imp fun d ⟨es, h1, h2⟩ => by rw [h1, h2]
theorem en_lstR {Pl : List PyData → Prop} (h : EvA Γ ar Pl) (hz : ∀ ds, Pl ds → ds.length ≤ 100000) : EvN Γ (tLst ar) Pl := fun b G M σ H S Q q =>
  h b G M σ H S _ fun vs ds H1 S1 e1 p1 r1 => ⟨sz_of (by rw [r1.length]; exact hz ds p1), fun p hp => q p vs ds _ (by
    cases z : H p with
    | none => rfl
    | some o =>
      by_cases ht : p ∈ b.T
      · obtain ⟨i, c, ns, h1, _⟩ := S1.tape p ht
        rw [h1] at hp
        cases hp
      · rw [e1 p o (by rw [hid_out ht]; exact z)] at hp
        cases hp) (S1.same (same_upd hp)) (sameT_trans e1 (sameT_of (same_upd hp))) upd_same p1 (r1.up (hid_cons_new hp))⟩
theorem en_lst {ds : List PyData} (h : EaD Γ ar ds) (hz : ds.length ≤ 100000 := by simp) : EnD Γ (tLst ar) ds := en_lstR h fun _ e => by rw [e]; exact hz
theorem ev_lst {ds : List PyData} (h : EaD Γ ar ds) (hz : ds.length ≤ 100000 := by simp) : EvD Γ (tLst ar) (.list ds) := EnD.ev (en_lst h hz)

/-! tests -/
theorem eb_testR {Pb : Bool → Prop} (h : EvR Γ te P) (i : ∀ d, P d → ∃ k, d = .bool k ∧ Pb k) : EvB Γ (tTest te) Pb := fun b G M σ H S Q q => h b G M σ H S _ fun v d H' S' e p r => by
  obtain ⟨k, rfl, hk⟩ := i d p
  cases r
  exact ⟨k, rfl, q k H' S' e hk⟩
theorem eb_test {k : Bool} (h : EvD Γ te (.bool k)) : EbD Γ (tTest te) k := eb_testR h fun d e => ⟨k, e, rfl⟩
theorem eb_valR {Pb : Bool → Prop} (h : EvR Γ te P) (i : ∀ d, P d → ∃ k, d = .bool k ∧ Pb k) : EvB Γ (tB te) Pb := fun b G M σ H S Q q => h b G M σ H S _ fun v d H' S' e p r => by
  obtain ⟨k, rfl, hk⟩ := i d p
  cases r
  exact ⟨k, rfl, q k H' S' e hk⟩
theorem eb_val {k : Bool} (h : EvD Γ te (.bool k)) : EbD Γ (tB te) k := eb_valR h fun d e => ⟨k, e, rfl⟩
theorem eb_andR {Pa Pb : Bool → Prop} (h1 : EvB Γ t Pa) (h2 : Pa true → EvB Γ u Pb) : EvB Γ (tAnd t u) (fun k => (k = false ∧ Pa false) ∨ (Pa true ∧ Pb k)) := fun b G M σ H S Q q => h1 b G M σ H S _ fun k H1 S1 e1 p1 => by
  cases k with
  | true => exact h2 p1 b G M σ H1 S1 Q fun k2 H2 S2 e2 p2 => q k2 H2 S2 (sameT_trans e1 e2) (.inr ⟨p1, p2⟩)
  | false => exact q false H1 S1 e1 (.inl ⟨rfl, p1⟩)
theorem eb_and {x y : Bool} (h1 : EbD Γ t x) (h2 : x = true → EbD Γ u y) : EbD Γ (tAnd t u) (x && y) := (eb_andR h1 fun e => h2 e.symm).imp fun k h => by
  rcases h with ⟨e, h⟩ | ⟨h, e⟩
  · rw [e, ← h]; rfl
  · rw [e, ← h]; rfl
theorem eb_or {x y : Bool} (h1 : EbD Γ t x) (h2 : x = false → EbD Γ u y) : EbD Γ (tOr t u) (x || y) := fun b G M σ H S Q q => h1 b G M σ H S _ fun k H1 S1 e1 p1 => by
  cases k with
  | true => exact q true H1 S1 e1 (by rw [← p1]; rfl)
  | false => exact h2 p1.symm b G M σ H1 S1 Q fun k2 H2 S2 e2 p2 => q k2 H2 S2 (sameT_trans e1 e2) (by rw [p2, ← p1]; rfl)
theorem eb_not {x : Bool} (h1 : EbD Γ t x) : EbD Γ (tNot t) (!x) := fun b G M σ H S Q q => h1 b G M σ H S _ fun k H1 S1 e1 p1 => q (!k) H1 S1 e1 (by rw [p1])
theorem ev_andV {x y : Bool} (h1 : EvD Γ ta (.bool x)) (h2 : x = true → EvD Γ tb (.bool y)) : EvD Γ (tAndV ta tb) (.bool (x && y)) := fun b G M σ H S Q q => h1 b G M σ H S _ fun v d H1 S1 e1 p1 r1 => by
  subst p1
  cases r1
  refine ⟨x, rfl, ?_⟩
  cases x with
  | true => exact h2 rfl b G M σ H1 S1 Q fun v2 d2 H2 S2 e2 p2 r2 => q v2 d2 H2 S2 (sameT_trans e1 e2) p2 r2
  | false => exact q _ _ H1 S1 e1 rfl (.bl false)
theorem ev_orV {x y : Bool} (h1 : EvD Γ ta (.bool x)) (h2 : x = false → EvD Γ tb (.bool y)) : EvD Γ (tOrV ta tb) (.bool (x || y)) := fun b G M σ H S Q q => h1 b G M σ H S _ fun v d H1 S1 e1 p1 r1 => by
  subst p1
  cases r1
  refine ⟨x, rfl, ?_⟩
  cases x with
  | false => exact h2 rfl b G M σ H1 S1 Q fun v2 d2 H2 S2 e2 p2 r2 => q v2 d2 H2 S2 (sameT_trans e1 e2) p2 r2
  | true => exact q _ _ H1 S1 e1 rfl (.bl true)
theorem ev_notV {x : Bool} (h1 : EvD Γ ta (.bool x)) : EvD Γ (tNotV ta) (.bool (!x)) := fun b G M σ H S Q q => h1 b G M σ H S _ fun v d H1 S1 e1 p1 r1 => by
  subst p1
  cases r1
  exact ⟨x, rfl, q _ _ H1 S1 e1 rfl (.bl _)⟩
theorem ev_ifR {Pb : Bool → Prop} (h : EvB Γ t Pb) (h1 : Pb true → EvR Γ ta P) (h2 : Pb false → EvR Γ tb P) : EvR Γ (tIf t ta tb) P := fun b G M σ H S Q q => h b G M σ H S _ fun k H1 S1 e1 p1 => by
  cases k with
  | true => exact h1 p1 b G M σ H1 S1 Q fun v2 d2 H2 S2 e2 p2 r2 => q v2 d2 H2 S2 (sameT_trans e1 e2) p2 r2
  | false => exact h2 p1 b G M σ H1 S1 Q fun v2 d2 H2 S2 e2 p2 r2 => q v2 d2 H2 S2 (sameT_trans e1 e2) p2 r2
theorem ev_if {k : Bool} {d d' : PyData} (h : EbD Γ t k) (h1 : k = true → EvD Γ ta d) (h2 : k = false → EvD Γ tb d') : EvD Γ (tIf t ta tb) (if k then d else d') := ev_ifR h (fun e => by subst e; exact h1 rfl) (fun e => by subst e; exact h2 rfl)
theorem ev_chain {r r' : R2} {x y z : PyData} {k : Bool} {k' : Bool} (ha : EvD Γ ta x) (hb : EvD Γ tb y) (hc : k = true → EvD Γ tc z) (h1 : OpD r x y (· = .bool k)) (h2 : k = true → OpD r' y z (· = .bool k')) : EvD Γ (tChain r r' ta tb tc) (.bool (k && k')) := by
  intro b G M σ H S Q q
  refine ha b G M σ H S _ fun v1 d1 H1 S1 e1 p1 r1 => ?_
  refine hb b G M σ H1 S1 _ fun v2 d2 H2 S2 e2 p2 r2 => ?_
  have p1' : d1 = x := p1
  have p2' : d2 = y := p2
  subst p1' p2'
  refine h1 M H2 v1 v2 S2.trk (r1.up (hid_T S.tm e2)) r2 _ fun v d H3 e3 p r3 => ?_
  have p' : d = .bool k := p
  subst p'
  cases r3
  refine ⟨k, rfl, ?_⟩
  have S3 := S2.same e3
  have e13 := sameT_trans (sameT_trans e1 e2) (sameT_of e3)
  cases k with
  | false => exact q _ _ H3 S3 e13 rfl (.bl false)
  | true =>
    refine hc rfl b G M σ H3 S3 _ fun v4 d4 H4 S4 e4 p4 r4 => ?_
    have p4' : d4 = z := p4
    subst p4'
    exact h2 rfl M H4 v2 v4 S4.trk ((r2.up (hid_mono e3)).up (hid_T S.tm e4)) r4 Q fun v5 d5 H5 e5 p5 r5 => q v5 d5 H5 (S4.same e5) (sameT_trans (sameT_trans e13 e4) (sameT_of e5)) (by rw [p5]; rfl) r5
/-! none -/

theorem ev_isN {d : PyData} (h : EvD Γ ta d) : EvD Γ (tIsN ta) (.bool (isN d)) := fun b G M σ H S Q q => h b G M σ H S _ fun v d' H1 S1 e1 p1 r1 => by
  subst p1
  have e : decide (v = V.non) = isN d' := by
    cases r1 <;> first | rfl | exact decide_eq_false fun z => nomatch z
  show Q (.bl (decide (v = V.non))) H1
  rw [e]
  exact q _ _ H1 S1 e1 rfl (.bl _)
theorem ev_notN {d : PyData} (h : EvD Γ ta d) : EvD Γ (tNotN ta) (.bool (!(isN d))) := fun b G M σ H S Q q => h b G M σ H S _ fun v d' H1 S1 e1 p1 r1 => by
  subst p1
  have e : decide (v = V.non) = isN d' := by
    cases r1 <;> first | rfl | exact decide_eq_false fun z => nomatch z
  show Q (.bl (!decide (v = V.non))) H1
  rw [e]
  exact q _ _ H1 S1 e1 rfl (.bl _)
end

/-! ### defs: what they promise -/
/-- a def that changes nothing -/
def spP {α : Type} (enc : α → List PyData) (Pre : α → Prop) (Post : α → PyData → Prop) : Sp := fun vs H Q _ => ∃ (M : List Addr) (a : α), (∀ x ∈ M, H x ≠ none) ∧ RpL (hid M H) vs (enc a) ∧ Pre a ∧
  ∀ v d H', Same H H' → Post a d → Rp (hid M H') v d → Q v H'
/-- .. and hands back a new list -/
def spN {α : Type} (enc : α → List PyData) (Pre : α → Prop) (Post : α → List PyData → Prop) : Sp := fun vs H Q _ => ∃ (M : List Addr) (a : α), (∀ x ∈ M, H x ≠ none) ∧ RpL (hid M H) vs (enc a) ∧ Pre a ∧
  ∀ p ws ds H', H p = none → Same H H' → H' p = some (.lst ws) → Post a ds → RpL (hid (p :: M) H') ws ds → Q (.ref p) H'
/-- a def of the tape and others -/
def spT {α : Type} (enc : α → List PyData) (Pre : α → Prop) (Post : α → PyData → Prop) : Sp := fun vs H Q _ => ∃ (M : List Addr) (t sc : Addr) (us : List V) (a : α), vs = .ref t :: us ∧ t ∈ M ∧ (∀ x ∈ M, H x ≠ none) ∧ TapeOk M H t sc ∧ RpL (hid M H) us (enc a) ∧ Pre a ∧
  ∀ v d H', Same (hid [t] H) H' → TapeOk M H' t sc → Post a d → Rp (hid M H') v d → Q v H'
section
variable {Γ : List Ent} {te ta tb : TE} {ar : TA} {b : Bs} {G : List (V × PyData)} {M : List Addr} {σ : L2.St} {H H1 H' : Hp} {α : Type} {enc : α → List PyData} {Pre : α → Prop} {Post : α → PyData → Prop} {E : XK}
theorem ev_callR {P : List PyData → Prop} (ha : EvA Γ ar P) (hp : ∀ ds, P ds → ∃ a, ds = enc a ∧ Pre a) : EvR Γ (tCall (spP enc Pre Post) [] E ar) (fun d => ∃ a, P (enc a) ∧ Post a d) := fun b G M σ H S Q q =>
  ha b G M σ H S _ fun vs ds H1 S1 e1 p1 r1 => by
    obtain ⟨a, rfl, pa⟩ := hp ds p1
    refine ⟨M, a, S1.trk, ?_, pa, fun v d H2 e2 p2 r2 => q v d H2 (S1.same e2) (sameT_trans e1 (sameT_of e2)) ⟨a, p1, p2⟩ r2⟩
    rw [List.append_nil]
    exact r1
theorem ev_call {d : PyData} (a : α) (ha : EaD Γ ar (enc a)) (hp : Pre a) (hq : ∀ d', Post a d' → d' = d := by exact fun _ h => h) : EvD Γ (tCall (spP enc Pre Post) [] E ar) d := fun b G M σ H S Q q =>
  ha b G M σ H S _ fun vs ds H1 S1 e1 p1 r1 => by
    subst p1
    refine ⟨M, a, S1.trk, ?_, hp, fun v d H2 e2 p2 r2 => q v d H2 (S1.same e2) (sameT_trans e1 (sameT_of e2)) (hq d p2) r2⟩
    rw [List.append_nil]
    exact r1
theorem en_call {Post : α → List PyData → Prop} {d : List PyData} (a : α) (ha : EaD Γ ar (enc a)) (hp : Pre a) (hq : ∀ d', Post a d' → d' = d := by exact fun _ h => h) : EnD Γ (tCall (spN enc Pre Post) [] E ar) d := fun b G M σ H S Q q =>
  ha b G M σ H S _ fun vs ds H1 S1 e1 p1 r1 => by
    subst p1
    refine ⟨M, a, S1.trk, ?_, hp, fun p ws ds H2 n e2 hw p2 r2 => q p ws ds H2 ?_ (S1.same e2) (sameT_trans e1 (sameT_of e2)) hw (hq ds p2) r2⟩
    · rw [List.append_nil]
      exact r1
    · cases z : H p with
      | none => rfl
      | some o =>
        by_cases ht : p ∈ b.T
        · obtain ⟨i, c, ns, h1, _⟩ := S1.tape p ht
          rw [h1] at n
          cases n
        · rw [e1 p o (by rw [hid_out ht]; exact z)] at n
          cases n
theorem ev_callN {Post : α → List PyData → Prop} {d : List PyData} (a : α) (ha : EaD Γ ar (enc a)) (hp : Pre a) (hq : ∀ d', Post a d' → d' = d := by exact fun _ h => h) : EvD Γ (tCall (spN enc Pre Post) [] E ar) (.list d) := EnD.ev (en_call a ha hp hq)
theorem ev_callT {i : Nat} {P : List PyData → Prop} (hi : Γ[i]? = some .tp) (ha : EvA Γ ar P) (hp : ∀ ds, P ds → ∃ a, ds = enc a ∧ Pre a) : EvR Γ (tCall (spT enc Pre Post) [] E (tCons (tVar i) ar)) (fun d => ∃ a, P (enc a) ∧ Post a d) := fun b G M σ H S Q q => by
  obtain ⟨t, ht, hs⟩ := S.at_ i _ hi
  refine ⟨.ref t, sl_some hs, ?_⟩
  refine ha b G M σ H S _ fun vs ds H1 S1 e1 p1 r1 => ?_
  obtain ⟨a, rfl, pa⟩ := hp ds p1
  refine ⟨M, t, b.sc, vs, a, by rw [List.append_nil], S1.tm t ht, S1.trk, S1.tape t ht, r1, pa, fun v d H2 e2 tp p2 r2 => ?_⟩
  have sT : Same (hid b.T H1) H2 := fun x o h => by
    obtain ⟨h1, h2⟩ := hid_some h
    exact e2 x o (by rw [hid_out (by simp; exact fun z => h1 (z ▸ ht))]; exact h2)
  have tpo : ∀ t' ∈ b.T, TapeOk M H2 t' b.sc := fun t' ht' => by
    by_cases z : t' = t
    · rw [z]
      exact tp
    · obtain ⟨i, c, ns, g1, g2, g3⟩ := S1.tape t' ht'
      refine ⟨i, c, ns, e2 t' _ (by rw [hid_out (by simpa using z)]; exact g1), hid_T S1.tm sT _ _ g2, g3⟩
  exact q v d H2 (S1.go sT tpo) (sameT_trans e1 sT) ⟨a, p1, p2⟩ r2
theorem ev_callTD {i : Nat} {P : PyData → Prop} (a : α) (hi : Γ[i]? = some .tp) (ha : EaD Γ ar (enc a)) (hp : Pre a) (hq : ∀ d, Post a d → P d) (inj : ∀ a', enc a' = enc a → a' = a) : EvR Γ (tCall (spT enc Pre Post) [] E (tCons (tVar i) ar)) P :=
  (ev_callT (Post := Post) (Pre := Pre) (E := E) hi ha fun ds h => ⟨a, h, hp⟩).imp fun d ⟨a', h1, h2⟩ => by
    rw [inj a' h1] at h2
    exact hq d h2
end
end Dz

set_option Elab.async false
set_option linter.all false
set_option maxRecDepth 100000
set_option maxHeartbeats 2000000
namespace Dz
open PySem PySem.Spec PyProof.Rows L2

/-! ### comprehensions -/
def wipeE (Γ : List Ent) : List Nat → List Ent
  | [] => Γ
  | v :: vs => (wipeE Γ vs).set v .un
section
variable {b : Bs} {G : List (V × PyData)} {M : List Addr} {Γ : List Ent} {σ : L2.St} {H H' : Hp}
theorem Sat.set_none {i : Nat} (S : Sat b G M Γ σ H) : Sat b G M (Γ.set i .un) (σ.set i none) H where
  ext := S.ext
  m0 := S.m0
  tm := S.tm
  trk := S.trk
  tape := S.tape
  len := by rw [List.length_set, List.length_set, S.len]
  at_ := fun j x h => by
    by_cases hj : i = j
    · subst hj
      by_cases hi : i < Γ.length
      · rw [List.getElem?_set_self hi] at h
        cases h
        exact True.intro
      · rw [List.getElem?_eq_none (by rw [List.length_set]; omega)] at h
        cases h
    · rw [List.getElem?_set_ne hj] at h
      rw [sl_set_ne hj]
      exact S.at_ j x h
  gh := S.gh
  nd := owns_set S.nd fun p hp => by cases hp
theorem Sat.wipe : ∀ {vs : List Nat}, Sat b G M Γ σ H → Sat b G M (wipeE Γ vs) (wipe σ vs) H
  | [], S => S
  | _ :: _, S => (Sat.wipe S).set_none
end
theorem wipeE_length (Γ : List Ent) : ∀ vs : List Nat, (wipeE Γ vs).length = Γ.length
  | [] => rfl
  | v :: vs => by unfold wipeE; rw [List.length_set, wipeE_length Γ vs]
/-- a comprehension's target, as data -/
def TgC (g : TG) (vs : List Nat) (Γw : List Ent) (d : PyData) (Γ2 : List Ent) : Prop := ∀ (b : Bs) (G : List (V × PyData)) (M : List Addr) (σ : L2.St) (H : Hp) (x : V) (Q : L2.St → Hp → Prop), Sat b G M Γw (wipe σ vs) H → Rp (hid M H) x d →
  (∀ σ2, Sat b G M Γ2 σ2 H → wipe σ2 vs = wipe σ vs → Q σ2 H) → g x (wipe σ vs) H Q
theorem tgc_name {Γ : List Ent} {j : Nat} {d : PyData} (hj : j < Γ.length) : TgC (gName j) [j] (wipeE Γ [j]) d (Γ.set j (.dat d)) := fun b G M σ H x Q S r q => by
  refine q _ ?_ ?_
  · have h := S.put (i := j) (e := .dat d) (v := x) (by rw [wipeE_length]; exact hj) rfl ⟨x, rfl, r⟩
    have e : (wipeE Γ [j]).set j (.dat d) = Γ.set j (.dat d) := by
      show (Γ.set j .un).set j (.dat d) = _
      rw [List.set_set]
    rw [e] at h
    exact h
  · show ((σ.set j none).set j (some x)).set j none = σ.set j none
    rw [List.set_set, List.set_set]
theorem tgc_pair {K : PySem.W.Frag} {Γ : List Ent} {i j : Nat} {d1 d2 : PyData} (hi : i < Γ.length) (hj : j < Γ.length) (hij : i ≠ j) : TgC (gTup K 2 (gCons (gName i) (gCons (gName j) gNil))) [i, j] (wipeE Γ [i, j]) (.tuple [d1, d2]) ((Γ.set i (.dat d1)).set j (.dat d2)) := fun b G M σ H x Q S r q => by
  obtain ⟨a, xs, rfl, ha, hr⟩ := r.tup_inv
  cases hr with
  | cons r1 hr =>
    cases hr with
    | cons r2 hr =>
      cases hr
      rename_i x1 x2
      refine ⟨a, [x1, x2], rfl, .inl (.inl (hid_le _ _ ha)), rfl, x1, [x2], rfl, x2, [], rfl, rfl, q _ ?_ ?_⟩
      · have h := (S.put (i := i) (e := .dat d1) (v := x1) (by rw [wipeE_length]; exact hi) rfl ⟨x1, rfl, r1⟩).put (i := j) (e := .dat d2) (v := x2) (by rw [List.length_set, wipeE_length]; exact hj) rfl ⟨x2, rfl, r2⟩
        have e : ((wipeE Γ [i, j]).set i (.dat d1)).set j (.dat d2) = (Γ.set i (.dat d1)).set j (.dat d2) := by
          show ((((Γ.set j .un).set i .un).set i (.dat d1)).set j (.dat d2)) = _
          rw [List.set_set, List.set_comm _ _ hij, List.set_set, List.set_comm _ _ hij.symm]
        rw [e] at h
        exact h
      · show ((((((σ.set j none).set i none).set i (some x1)).set j (some x2)).set j none).set i none) = (σ.set j none).set i none
        rw [List.set_set, List.set_set, List.set_comm _ _ hij, List.set_set, List.set_set]
section
variable {K : PySem.W.Frag} {Γ : List Ent} {g : TG} {tt : TT} {te tl : TE} {vs : List Nat}
/-- within the comprehension: D the new list -/
def PvC (b : Bs) (G : List (V × PyData)) (M : List Addr) (Γw : List Ent) (σw : L2.St) (H1 : Hp) (D : Addr) (Acc : Nat → List PyData → Prop) (i : Nat) (H' : Hp) : Prop :=
  Sat b G (D :: M) Γw σw H' ∧ Same (hid b.T H1) H' ∧ D ∉ b.T ∧ b.H0 D = none ∧ H1 D = none ∧ ∃ acc ws, H' D = some (.lst ws) ∧ RpL (hid (D :: M) H') ws acc ∧ Acc i acc ∧ acc.length ≤ i
theorem pvc_start {b : Bs} {G : List (V × PyData)} {M : List Addr} {σ : L2.St} {H1 : Hp} {D : Addr} {Acc : Nat → List PyData → Prop} (S : Sat b G M Γ σ H1) (hD : H1 D = none) (h0 : Acc 0 []) : PvC b G M (wipeE Γ vs) (wipe σ vs) H1 D Acc 0 (upd H1 D (.lst [])) := by
  obtain ⟨S', _, hT, _, h00, _⟩ := S.veil (H' := upd H1 D (.lst [])) hD (sameT_of (same_upd hD)) (fun t ht => (S.tape t ht).same (same_upd hD)) (by rw [upd_same]; exact fun z => nomatch z)
  exact ⟨S'.wipe, sameT_of (same_upd hD), hT, h00, hD, [], [], upd_same, .nil, h0, Nat.le_refl _⟩
theorem owns_un {Γ : List Ent} {i : Nat} {p : Addr} (h : p ∉ owns Γ) : p ∉ owns (Γ.set i .un) := fun z => by
  obtain ⟨j, D, hj⟩ := of_owns z
  by_cases e : i = j
  · subst e
    by_cases hi : i < Γ.length
    · rw [List.getElem?_set_self hi] at hj
      cases hj
    · rw [List.getElem?_eq_none (by rw [List.length_set]; omega)] at hj
      cases hj
  · rw [List.getElem?_set_ne e] at hj
    exact h (mem_owns hj)
theorem pvc_turn {b : Bs} {G : List (V × PyData)} {M : List Addr} {σ : L2.St} {H1 : Hp} {D : Addr} {Acc : Nat → List PyData → Prop} {i : Nat} {x : V} {d : PyData} {H' : Hp} {Γ2 : List Ent} {Pb : Bool → Prop} (S : Sat b G M Γ σ H1) (p : PvC b G M (wipeE Γ vs) (wipe σ vs) H1 D Acc i H') (r : Rp (hid (D :: M) H') x d) (hi : i < 50000)
    (hg : TgC g vs (wipeE Γ vs) d Γ2) (ht : EvB Γ2 tt Pb) (he : ∀ acc, Acc i acc → Pb true → EvR Γ2 te (fun r => Acc (i + 1) (acc ++ [r]))) (hn : ∀ acc, Acc i acc → Pb false → Acc (i + 1) acc) :
    g x (wipe σ vs) H' fun σ2 H2 => wipe σ2 vs = wipe σ vs ∧ tt σ2 H2 fun k H3 => if k = true then te σ2 H3 fun y H4 => ∃ acc, H4 D = some (.lst acc) ∧ acc.length < sizeLine ∧ PvC b G M (wipeE Γ vs) (wipe σ vs) H1 D Acc (i + 1) (upd H4 D (.lst (acc ++ [y]))) else PvC b G M (wipeE Γ vs) (wipe σ vs) H1 D Acc (i + 1) H3 := by
  obtain ⟨S', e', hT, h0, hD, acc, ws, hw, hr, hA, hz⟩ := p
  have hno : ∀ us : List Nat, D ∉ owns (wipeE Γ us) := by
    have h1 : D ∉ owns Γ := fun z => by
      obtain ⟨j, D', hj⟩ := of_owns z
      exact S.fresh hD (S.at_ j _ hj).2.1
    intro us
    induction us with
    | nil => exact h1
    | cons v vs ih => exact owns_un ih
  refine hg b G (D :: M) σ H' x _ S' r fun σ2 S2 hw2 => ⟨hw2, ?_⟩
  refine ht b G (D :: M) σ2 H' S2 _ fun k H3 S3 e3 pk => ?_
  have hw3 : H3 D = some (.lst ws) := e3 D _ (by rw [hid_out hT]; exact hw)
  have hr3 : RpL (hid (D :: M) H3) ws acc := hr.up (hid_T S'.tm e3)
  have e13 : Same (hid b.T H1) H3 := sameT_trans e' e3
  cases k with
  | false => exact ⟨S'.go e3 S3.tape, e13, hT, h0, hD, acc, ws, hw3, hr3, hn acc hA pk, Nat.le_succ_of_le hz⟩
  | true =>
    refine he acc hA pk b G (D :: M) σ2 H3 S3 _ fun y dy H4 S4 e4 py ry => ?_
    have hw4 : H4 D = some (.lst ws) := e4 D _ (by rw [hid_out hT]; exact hw3)
    have hl := hr.length
    refine ⟨ws, hw4, sz_lt (by omega), ?_⟩
    have S5 : Sat b G (D :: M) (wipeE Γ vs) (wipe σ vs) H4 := S'.go (sameT_trans e3 e4) S4.tape
    refine ⟨S5.poke List.mem_cons_self hT h0 (hno vs), fun a o z => ?_, hT, h0, hD, acc ++ [dy], ws ++ [y], upd_same, ?_, py, ?_⟩
    · have z2 := sameT_trans e13 e4 a o z
      rw [upd_ne (ne_of_none (hid_some z).2 hD)]
      exact z2
    · rw [hid_upd List.mem_cons_self]
      exact (hr3.up (hid_T S'.tm e4)).snoc ry
    · rw [List.length_append]
      show acc.length + 1 ≤ i + 1
      omega
theorem pvc_end {b : Bs} {G : List (V × PyData)} {M : List Addr} {σ : L2.St} {H0' H1 : Hp} {D : Addr} {Acc : Nat → List PyData → Prop} {i : Nat} {H' : Hp} {Q : VK} (S : Sat b G M Γ σ H1) (e1 : Same (hid b.T H0') H1) (hT1 : ∀ p ∈ b.T, H0' p ≠ none → H1 p ≠ none) (p : PvC b G M (wipeE Γ vs) (wipe σ vs) H1 D Acc i H')
    (q : ∀ p vs ds H', H0' p = none → Sat b G M Γ σ H' → Same (hid b.T H0') H' → H' p = some (.lst vs) → Acc i ds → RpL (hid (p :: M) H') vs ds → Q (.ref p) H') : Q (.ref D) H' := by
  obtain ⟨S', e', hT, h0, hD, acc, ws, hw, hr, hA, hz⟩ := p
  refine q D ws acc H' ?_ (S.go e' fun t ht => (S'.tape t ht).anti fun a ha => List.mem_cons_of_mem _ ha) (sameT_trans e1 e') hw hA hr
  cases z : H0' D with
  | none => rfl
  | some o =>
    rw [e1 D o (by rw [hid_out hT]; exact z)] at hD
    cases hD
theorem tape_kept {b : Bs} {G : List (V × PyData)} {M : List Addr} {σ : L2.St} {H0' H1 : Hp} (S : Sat b G M Γ σ H1) : ∀ p ∈ b.T, H0' p ≠ none → H1 p ≠ none := fun p hp _ => S.trk p (S.tm p hp)
/-- [te for g in a tuple if tt] -/
theorem en_lc_tup {ds : List PyData} (h : EvD Γ tl (.tuple ds)) (hz : ds.length ≤ 50000) (Acc : Nat → List PyData → Prop) (h0 : Acc 0 [])
    (hs : ∀ i d, ds[i]? = some d → ∃ Γ2 Pb, TgC g vs (wipeE Γ vs) d Γ2 ∧ EvB Γ2 tt Pb ∧ (∀ acc, Acc i acc → Pb true → EvR Γ2 te (fun r => Acc (i + 1) (acc ++ [r]))) ∧ (∀ acc, Acc i acc → Pb false → Acc (i + 1) acc)) :
    EvN Γ (tLc (iTup K tl) g tt te vs) (Acc ds.length) := fun b G M σ H S Q q => h b G M σ H S _ fun v d H1 S1 e1 p1 r1 => by
  subst p1
  obtain ⟨a, xs, rfl, ha, hr⟩ := r1.tup_inv
  have hl := hr.length
  refine ⟨a, rfl, ⟨xs, .inl (.inl (hid_le _ _ ha))⟩, fun D hD => ?_⟩
  have hDa : D ≠ a := fun z => by
    rw [z, hid_le _ _ ha] at hD
    cases hD
  have haM : a ∉ M := (hid_some ha).1
  refine lc_tup (xs := xs) (PvC b G M (wipeE Γ vs) (wipe σ vs) H1 D Acc) (pvc_start S1 hD h0) (fun i H' _ p => .inl (.inl (p.2.1 _ _ (by rw [hid_out fun z => haM (S1.tm a z)]; exact hid_le _ _ ha)))) (fun i x H' hx p => ?_) (fun H' p => pvc_end S1 e1 (tape_kept S1) (by rw [hl] at p; exact p) q)
  obtain ⟨d, hd, rd⟩ := hr.get' hx
  obtain ⟨Γ2, Pb, g1, g2, g3, g4⟩ := hs i d hd
  have hi : i < xs.length := (List.getElem?_eq_some_iff.mp hx).1
  refine pvc_turn S1 p (rd.up fun c o z => ?_) (by omega) g1 g2 g3 g4
  obtain ⟨z1, z2⟩ := hid_some z
  rw [hid_out (by simp only [List.mem_cons, not_or]; exact ⟨ne_of_none z2 hD, z1⟩)]
  exact p.2.1 _ _ (by rw [hid_out fun z => z1 (S1.tm c z)]; exact z2)
theorem en_lc_list {ds : List PyData} (h : EvD Γ tl (.list ds)) (hz : ds.length ≤ 50000) (Acc : Nat → List PyData → Prop) (h0 : Acc 0 [])
    (hs : ∀ i d, ds[i]? = some d → ∃ Γ2 Pb, TgC g vs (wipeE Γ vs) d Γ2 ∧ EvB Γ2 tt Pb ∧ (∀ acc, Acc i acc → Pb true → EvR Γ2 te (fun r => Acc (i + 1) (acc ++ [r]))) ∧ (∀ acc, Acc i acc → Pb false → Acc (i + 1) acc)) :
    EvN Γ (tLc (iList K tl) g tt te vs) (Acc ds.length) := fun b G M σ H S Q q => h b G M σ H S _ fun v d H1 S1 e1 p1 r1 => by
  subst p1
  obtain ⟨a, xs, rfl, ha, hr⟩ := r1.list_inv
  have hl := hr.length
  refine ⟨a, rfl, ⟨xs, .inl (.inl (hid_le _ _ ha))⟩, fun D hD => ?_⟩
  have haM : a ∉ M := (hid_some ha).1
  refine lc_list (xs := xs) (PvC b G M (wipeE Γ vs) (wipe σ vs) H1 D Acc) (pvc_start S1 hD h0) (fun i H' _ p => .inl (.inl (p.2.1 _ _ (by rw [hid_out fun z => haM (S1.tm a z)]; exact hid_le _ _ ha)))) (fun i x H' hx p => ?_) (fun H' p => pvc_end S1 e1 (tape_kept S1) (by rw [hl] at p; exact p) q)
  obtain ⟨d, hd, rd⟩ := hr.get' hx
  obtain ⟨Γ2, Pb, g1, g2, g3, g4⟩ := hs i d hd
  have hi : i < xs.length := (List.getElem?_eq_some_iff.mp hx).1
  refine pvc_turn S1 p (rd.up fun c o z => ?_) (by omega) g1 g2 g3 g4
  obtain ⟨z1, z2⟩ := hid_some z
  rw [hid_out (by simp only [List.mem_cons, not_or]; exact ⟨ne_of_none z2 hD, z1⟩)]
  exact p.2.1 _ _ (by rw [hid_out fun z => z1 (S1.tm c z)]; exact z2)
/-- over range(n), n from the tape too -/
theorem en_lc_rng1 {ta : TA} {N : Int → Prop} (h : EvA Γ ta (fun l => ∃ n : Int, l = [.int n] ∧ N n)) (hz : ∀ n, N n → -(2 ^ 62) ≤ n ∧ n ≤ 50000) (Acc : Nat → List PyData → Prop) (h0 : Acc 0 [])
    (hs : ∀ (n : Int) (i : Nat), N n → (i : Int) < n → ∃ Γ2 Pb, TgC g vs (wipeE Γ vs) (.int (i : Int)) Γ2 ∧ EvB Γ2 tt Pb ∧ (∀ acc, Acc i acc → Pb true → EvR Γ2 te (fun r => Acc (i + 1) (acc ++ [r]))) ∧ (∀ acc, Acc i acc → Pb false → Acc (i + 1) acc)) :
    EvN Γ (tLc (iRng1 ta) g tt te vs) (fun acc => ∃ n : Int, N n ∧ Acc n.toNat acc) := fun b G M σ H S Q q => h b G M σ H S _ fun vs' ds H1 S1 e1 p1 r1 => by
  obtain ⟨n, rfl, hn⟩ := p1
  cases r1 with
  | cons r1 r2 =>
    cases r2
    cases r1
    obtain ⟨z1, z2⟩ := hz n hn
    refine ⟨n, rfl, z1, by omega, fun D hD => ?_⟩
    refine lc_range (lo := 0) (n := n.toNat) (PvC b G M (wipeE Γ vs) (wipe σ vs) H1 D Acc) (pvc_start S1 hD h0) (fun i H' hi p => ?_) (fun H' p => pvc_end S1 e1 (tape_kept S1) p fun p vs ds H' x1 x2 x3 x4 x5 x6 => q p vs ds H' x1 x2 x3 x4 ⟨n, hn, x5⟩ x6)
    obtain ⟨Γ2, Pb, g1, g2, g3, g4⟩ := hs n i hn (by omega)
    rw [Int.zero_add]
    exact pvc_turn S1 p (.int _) (by omega) g1 g2 g3 g4
theorem en_lc_rng2 {ta : TA} {lo hi : Int} (h : EaD Γ ta [.int lo, .int hi]) (hz : -1000 ≤ lo ∧ lo ≤ 50000 ∧ -1000 ≤ hi ∧ hi ≤ 40000) (Acc : Nat → List PyData → Prop) (h0 : Acc 0 [])
    (hs : ∀ (i : Nat), lo + (i : Int) < hi → ∃ Γ2 Pb, TgC g vs (wipeE Γ vs) (.int (lo + (i : Int))) Γ2 ∧ EvB Γ2 tt Pb ∧ (∀ acc, Acc i acc → Pb true → EvR Γ2 te (fun r => Acc (i + 1) (acc ++ [r]))) ∧ (∀ acc, Acc i acc → Pb false → Acc (i + 1) acc)) :
    EvN Γ (tLc (iRng2 ta) g tt te vs) (Acc (hi - lo).toNat) := fun b G M σ H S Q q => h b G M σ H S _ fun vs' ds H1 S1 e1 p1 r1 => by
  subst p1
  cases r1 with
  | cons r1 r2 =>
    cases r2 with
    | cons r2 r3 =>
      cases r3
      cases r1
      cases r2
      refine ⟨lo, hi, rfl, by omega, fun D hD => ?_⟩
      refine lc_range (lo := lo) (n := (hi - lo).toNat) (PvC b G M (wipeE Γ vs) (wipe σ vs) H1 D Acc) (pvc_start S1 hD h0) (fun i H' hi p => ?_) (fun H' p => pvc_end S1 e1 (tape_kept S1) p q)
      obtain ⟨Γ2, Pb, g1, g2, g3, g4⟩ := hs i (by omega)
      exact pvc_turn S1 p (.int _) (by omega) g1 g2 g3 g4
/-- the usual one -/
theorem lc_fm {f : PyData → Bool} {e : PyData → PyData} {ds : List PyData} {Ac : Nat → List PyData → Prop} (hA : Ac = fun i acc => acc = ((ds.take i).filter f).map e) :
    Ac 0 [] ∧ (∀ i d acc, ds[i]? = some d → Ac i acc → f d = true → Ac (i + 1) (acc ++ [e d])) ∧ (∀ i d acc, ds[i]? = some d → Ac i acc → f d = false → Ac (i + 1) acc) := by
  subst hA
  refine ⟨by simp, fun i d acc hd h hf => ?_, fun i d acc hd h hf => ?_⟩
  · show acc ++ [e d] = _
    rw [List.take_add_one, hd, h]
    simp [hf]
  · show acc = _
    rw [List.take_add_one, hd, h]
    simp [hf]
theorem en_lc_tupD {ds : List PyData} (f : PyData → Bool) (e : PyData → PyData) (h : EvD Γ tl (.tuple ds)) (hz : ds.length ≤ 50000)
    (hs : ∀ d, d ∈ ds → ∃ Γ2, TgC g vs (wipeE Γ vs) d Γ2 ∧ EbD Γ2 tt (f d) ∧ (f d = true → EvD Γ2 te (e d))) : EnD Γ (tLc (iTup K tl) g tt te vs) ((ds.filter f).map e) := by
  obtain ⟨a1, a2, a3⟩ := lc_fm (f := f) (e := e) (ds := ds) rfl
  refine EvN.imp (en_lc_tup h hz (fun i acc => acc = ((ds.take i).filter f).map e) a1 fun i d hd => ?_) fun acc h => by rw [h, List.take_length]
  obtain ⟨Γ2, h1, h2, h3⟩ := hs d (List.mem_of_getElem? hd)
  exact ⟨Γ2, _, h1, h2, fun acc ha p => (h3 p.symm).imp fun r hr => by rw [hr]; exact a2 i d acc hd ha p.symm, fun acc ha p => a3 i d acc hd ha p.symm⟩
theorem en_lc_listD {ds : List PyData} (f : PyData → Bool) (e : PyData → PyData) (h : EvD Γ tl (.list ds)) (hz : ds.length ≤ 50000)
    (hs : ∀ d, d ∈ ds → ∃ Γ2, TgC g vs (wipeE Γ vs) d Γ2 ∧ EbD Γ2 tt (f d) ∧ (f d = true → EvD Γ2 te (e d))) : EnD Γ (tLc (iList K tl) g tt te vs) ((ds.filter f).map e) := by
  obtain ⟨a1, a2, a3⟩ := lc_fm (f := f) (e := e) (ds := ds) rfl
  refine EvN.imp (en_lc_list h hz (fun i acc => acc = ((ds.take i).filter f).map e) a1 fun i d hd => ?_) fun acc h => by rw [h, List.take_length]
  obtain ⟨Γ2, h1, h2, h3⟩ := hs d (List.mem_of_getElem? hd)
  exact ⟨Γ2, _, h1, h2, fun acc ha p => (h3 p.symm).imp fun r hr => by rw [hr]; exact a2 i d acc hd ha p.symm, fun acc ha p => a3 i d acc hd ha p.symm⟩
theorem range_get {lo : Int} {n i : Nat} (h : i < n) : ((List.range n).map fun k : Nat => PyData.int (lo + (k : Int)))[i]? = some (.int (lo + (i : Int))) := by
  rw [List.getElem?_map, List.getElem?_range h]
  rfl
theorem en_lc_rng1D {ta : TA} {n : Int} (f : PyData → Bool) (e : PyData → PyData) (h : EaD Γ ta [.int n]) (hz : -1000 ≤ n ∧ n ≤ 40000)
    (hs : ∀ (i : Nat), (i : Int) < n → ∃ Γ2, TgC g vs (wipeE Γ vs) (.int i) Γ2 ∧ EbD Γ2 tt (f (.int i)) ∧ (f (.int i) = true → EvD Γ2 te (e (.int i)))) : EnD Γ (tLc (iRng1 ta) g tt te vs) ((((List.range n.toNat).map fun k : Nat => PyData.int (k : Int)).filter f).map e) := by
  obtain ⟨a1, a2, a3⟩ := lc_fm (f := f) (e := e) (ds := (List.range n.toNat).map fun k : Nat => PyData.int (k : Int)) rfl
  have hr : ∀ i : Nat, (i : Int) < n → ((List.range n.toNat).map fun k : Nat => PyData.int (k : Int))[i]? = some (.int (i : Int)) := fun i hi => by
    rw [List.getElem?_map, List.getElem?_range (by omega)]
    rfl
  refine EvN.imp (en_lc_rng1 (N := (· = n)) (h.imp fun l e => ⟨n, e, rfl⟩) (fun n' e => by subst e; omega) (fun i acc => acc = ((((List.range n.toNat).map fun k : Nat => PyData.int (k : Int)).take i).filter f).map e) a1 fun n' i en hi => ?_) fun acc h => by
    obtain ⟨n', en, h⟩ := h
    subst en
    rw [h, List.take_of_length_le (by simp)]
  subst en
  obtain ⟨Γ2, h1, h2, h3⟩ := hs i hi
  exact ⟨Γ2, _, h1, h2, fun acc ha p => (h3 p.symm).imp fun r hr' => by rw [hr']; exact a2 i _ acc (hr i hi) ha p.symm, fun acc ha p => a3 i _ acc (hr i hi) ha p.symm⟩
theorem en_lc_rng2D {ta : TA} {lo hi : Int} (f : PyData → Bool) (e : PyData → PyData) (h : EaD Γ ta [.int lo, .int hi]) (hz : -1000 ≤ lo ∧ lo ≤ 50000 ∧ -1000 ≤ hi ∧ hi ≤ 40000)
    (hs : ∀ (i : Nat), lo + (i : Int) < hi → ∃ Γ2, TgC g vs (wipeE Γ vs) (.int (lo + (i : Int))) Γ2 ∧ EbD Γ2 tt (f (.int (lo + (i : Int)))) ∧ (f (.int (lo + (i : Int))) = true → EvD Γ2 te (e (.int (lo + (i : Int)))))) : EnD Γ (tLc (iRng2 ta) g tt te vs) ((((List.range (hi - lo).toNat).map fun k : Nat => PyData.int (lo + (k : Int))).filter f).map e) := by
  obtain ⟨a1, a2, a3⟩ := lc_fm (f := f) (e := e) (ds := (List.range (hi - lo).toNat).map fun k : Nat => PyData.int (lo + (k : Int))) rfl
  refine EvN.imp (en_lc_rng2 h hz (fun i acc => acc = ((((List.range (hi - lo).toNat).map fun k : Nat => PyData.int (lo + (k : Int))).take i).filter f).map e) a1 fun i hi => ?_) fun acc h => by
    rw [h, List.take_of_length_le (by simp)]
  obtain ⟨Γ2, h1, h2, h3⟩ := hs i hi
  exact ⟨Γ2, _, h1, h2, fun acc ha p => (h3 p.symm).imp fun r hr' => by rw [hr']; exact a2 i _ acc (range_get (by omega)) ha p.symm, fun acc ha p => a3 i _ acc (range_get (by omega)) ha p.symm⟩
theorem eb_yes : EbD Γ tYes true := fun b G M σ H S Q q => q true H S hid_le rfl
/-- over zip of two tuples -/
def zipD : List PyData → List PyData → List PyData
  | x :: xs, y :: ys => .tuple [x, y] :: zipD xs ys
  | _, _ => []
theorem zipD_length : ∀ xs ys, (zipD xs ys).length = min xs.length ys.length
  | [], _ => by simp [zipD]
  | _ :: _, [] => by simp [zipD]
  | x :: xs, y :: ys => by simp [zipD, zipD_length xs ys]
theorem zipD_get : ∀ {xs ys : List PyData} {i : Nat} {x y : PyData}, xs[i]? = some x → ys[i]? = some y → (zipD xs ys)[i]? = some (.tuple [x, y])
  | [], _, _, _, _, h, _ => by simp at h
  | _ :: _, [], _, _, _, _, h => by simp at h
  | x :: xs, y :: ys, 0, x', y', h, h' => by simp at h h'; subst h h'; simp [zipD]
  | x :: xs, y :: ys, i + 1, x', y', h, h' => by
    simp only [zipD, List.getElem?_cons_succ]
    exact zipD_get (by simpa using h) (by simpa using h')
theorem en_lc_zipD {ta : TA} {xs ys : List PyData} (f : PyData → Bool) (e : PyData → PyData) (h : EaD Γ ta [.tuple xs, .tuple ys]) (hz : xs.length ≤ 50000)
    (hs : ∀ d, d ∈ zipD xs ys → ∃ Γ2, TgC g vs (wipeE Γ vs) d Γ2 ∧ EbD Γ2 tt (f d) ∧ (f d = true → EvD Γ2 te (e d))) : EnD Γ (tLc (RZ.iZipA K ta) g tt te vs) (((zipD xs ys).filter f).map e) := fun b G M σ H S Q q => h b G M σ H S _ fun vs' ds H1 S1 e1 p1 r1 => by
  subst p1
  cases r1 with
  | cons r1 r2 =>
    cases r2 with
    | cons r2 r3 =>
      cases r3
      obtain ⟨a, us, rfl, ha, hr⟩ := r1.tup_inv
      obtain ⟨c, ws, rfl, hc, hr'⟩ := r2.tup_inv
      have hl := hr.length
      have hl' := hr'.length
      have zl := zipD_length xs ys
      obtain ⟨a1, a2, a3⟩ := lc_fm (f := f) (e := e) (ds := zipD xs ys) rfl
      refine ⟨a, c, us, ws, rfl, .inr ⟨.inl (.inl (hid_le _ _ ha)), .inl (.inl (hid_le _ _ hc)), fun D hD => ?_⟩⟩
      have haM : a ∉ M := (hid_some ha).1
      have hcM : c ∉ M := (hid_some hc).1
      have sqa : ∀ {H'}, Same (hid b.T H1) H' → SqT K H' a us := fun e => .inl (.inl (e _ _ (by rw [hid_out fun z => haM (S1.tm a z)]; exact hid_le _ _ ha)))
      have sqc : ∀ {H'}, Same (hid b.T H1) H' → SqT K H' c ws := fun e => .inl (.inl (e _ _ (by rw [hid_out fun z => hcM (S1.tm c z)]; exact hid_le _ _ hc)))
      refine ⟨fun i m H' => m = (zipD xs ys).length - i ∧ i ≤ (zipD xs ys).length ∧ PvC b G M (wipeE Γ vs) (wipe σ vs) H1 D (fun i acc => acc = (((zipD xs ys).take i).filter f).map e) i H', ⟨_, rfl, Nat.zero_le _, pvc_start S1 hD a1⟩, ?_⟩
      rintro i m H' ⟨rfl, hi, p⟩
      by_cases hlt : i < (zipD xs ys).length
      · have h1 : i < us.length := by omega
        have h2 : i < ws.length := by omega
        refine .inr ⟨⟨us, ws, us[i], ws[i], sqa p.2.1, sqc p.2.1, List.getElem?_eq_getElem h1, List.getElem?_eq_getElem h2⟩, PvC b G M (wipeE Γ vs) (wipe σ vs) H1 D _ (i + 1), fun H2 p2 => ⟨(zipD xs ys).length - (i + 1), by omega, rfl, hlt, p2⟩, fun x H2 y => ?_⟩
        obtain ⟨T, x1, x2, rfl, nT, rfl, f1, f2⟩ := y
        have g1 := f1 us (sqa p.2.1)
        have g2 := f2 ws (sqc p.2.1)
        obtain ⟨d1, k1, rd1⟩ := hr.get' g1
        obtain ⟨d2, k2, rd2⟩ := hr'.get' g2
        have hd := zipD_get k1 k2
        obtain ⟨Γ2, j1, j2, j3⟩ := hs _ (List.mem_of_getElem? hd)
        have up1 : ∀ {v : V} {d : PyData}, Rp (hid M H1) v d → Rp (hid (D :: M) (upd H' T (.tup [x1, x2]))) v d := fun r => r.up fun c o z => by
          obtain ⟨z1, z2⟩ := hid_some z
          have z3 := p.2.1 c o (by rw [hid_out fun z => z1 (S1.tm c z)]; exact z2)
          rw [hid_out (by simp only [List.mem_cons, not_or]; exact ⟨ne_of_none z2 hD, z1⟩), upd_ne (ne_of_none z3 nT)]
          exact z3
        have p' : PvC b G M (wipeE Γ vs) (wipe σ vs) H1 D (fun i acc => acc = (((zipD xs ys).take i).filter f).map e) i (upd H' T (.tup [x1, x2])) := by
          obtain ⟨S', e', hT, h0, hD1, acc, ws', hw, hrr, hA, hzz⟩ := p
          exact ⟨S'.same (same_upd nT), fun c o z => same_upd nT _ _ (e' c o z), hT, h0, hD1, acc, ws', same_upd nT _ _ hw, hrr.up (hid_mono (same_upd nT)), hA, hzz⟩
        have rT : Rp (hid (D :: M) (upd H' T (.tup [x1, x2]))) (.ref T) (.tuple [d1, d2]) := .tup (xs := [x1, x2]) (by
          rw [hid_out (p.1.fresh nT)]
          exact upd_same) (.cons (up1 rd1) (.cons (up1 rd2) .nil))
        exact pvc_turn S1 p' rT (by omega) j1 j2 (fun acc ha pk => (j3 pk.symm).imp fun r hr' => by rw [hr']; exact a2 i _ acc hd ha pk.symm) (fun acc ha pk => a3 i _ acc hd ha pk.symm)
      · have e : i = (zipD xs ys).length := by omega
        subst e
        refine .inl ⟨⟨us, ws, sqa p.2.1, sqc p.2.1, ?_⟩, pvc_end S1 e1 (tape_kept S1) p fun p vs ds H' x1 x2 x3 x4 x5 x6 => q p vs ds H' x1 x2 x3 x4 (by rw [x5, List.take_length]) x6⟩
        rw [zl, hl, hl']
        omega
end
end Dz

set_option Elab.async false
set_option linter.all false
set_option maxRecDepth 100000
set_option maxHeartbeats 2000000
namespace Dz
open PySem PySem.Spec PyProof.Rows L2

/-! ### statements -/
/-- a statement, then the rest, with a word between them -/
def tCutD (t u : TS) : TS := fun D σ H => ∃ Mid : L2.St → Hp → Prop, t { D with nx := Mid } σ H ∧ ∀ σ' H', Mid σ' H' → u D σ' H'
theorem pss_cutD {X : Cx} {st : Stmt} {rest : List Stmt} {t u : TS} (h1 : PS X st t) (h2 : PSs X rest u) : PSs X (st :: rest) (tCutD t u) := by
  refine ⟨fun pins s σ H D I h => ?_⟩
  obtain ⟨Mid, hm, hu⟩ := h
  refine wpAny_execs_cons (thn (h1.run pins s σ H { D with nx := Mid } I hm) fun f s1 q => ?_)
  cases f with
  | next =>
    obtain ⟨σ', H', I', q⟩ := q
    exact h2.run pins s1 σ' H' D I' (hu σ' H' q)
  | ret v => exact q
  | brk => exact q
  | cont => exact q
def Cont (b : Bs) (G : List (V × PyData)) (Γ : List Ent) (N : L2.St → Hp → Prop) : Prop := ∀ (M : List Addr) (σ : L2.St) (H : Hp), Sat b G M Γ σ H → N σ H
def Nx (b : Bs) (G : List (V × PyData)) (I : List Ent → Prop) : L2.St → Hp → Prop := fun σ H => ∃ (M : List Addr) (Γ : List Ent), Sat b G M Γ σ H ∧ I Γ
/-- what is wanted of the value handed back -/
def Fin (b : Bs) (Post : PyData → Prop) (Q : VK) : Prop := ∀ v d H', Same (hid b.T b.H0) H' → (∀ t ∈ b.T, TapeOk b.M0 H' t b.sc) → Post d → Rp (hid b.M0 H') v d → Q v H'
def FinN (b : Bs) (Post : List PyData → Prop) (Q : VK) : Prop := ∀ p ws ds H', b.H0 p = none → Same (hid b.T b.H0) H' → (∀ t ∈ b.T, TapeOk b.M0 H' t b.sc) → H' p = some (.lst ws) → Post ds → RpL (hid (p :: b.M0) H') ws ds → Q (.ref p) H'
theorem Sat.putD {b : Bs} {G : List (V × PyData)} {M : List Addr} {Γ : List Ent} {σ : L2.St} {H : Hp} {i : Nat} {v : V} {d : PyData} (S : Sat b G M Γ σ H) (hi : i < Γ.length) (r : Rp (hid M H) v d) : Sat b G M (Γ.set i (.dat d)) (σ.set i (some v)) H := S.put hi rfl ⟨v, rfl, r⟩
/-- a target, as data -/
def Tgt (g : TG) (Γ1 : List Ent) (d : PyData) (Γ2 : List Ent) : Prop := ∀ (b : Bs) (G : List (V × PyData)) (M : List Addr) (σ : L2.St) (H : Hp) (x : V) (Q : L2.St → Hp → Prop), Sat b G M Γ1 σ H → Rp (hid M H) x d →
  (∀ σ2, Sat b G M Γ2 σ2 H → Q σ2 H) → g x σ H Q
theorem tg_name {Γ : List Ent} {j : Nat} {d : PyData} (hj : j < Γ.length) : Tgt (gName j) Γ d (Γ.set j (.dat d)) := fun b G M σ H x Q S r q => q _ (S.put hj rfl ⟨x, rfl, r⟩)
theorem tg_pair {K : PySem.W.Frag} {Γ : List Ent} {i j : Nat} {d1 d2 : PyData} (hi : i < Γ.length) (hj : j < Γ.length) : Tgt (gTup K 2 (gCons (gName i) (gCons (gName j) gNil))) Γ (.tuple [d1, d2]) ((Γ.set i (.dat d1)).set j (.dat d2)) := fun b G M σ H x Q S r q => by
  obtain ⟨a, xs, rfl, ha, hr⟩ := r.tup_inv
  cases hr with
  | cons r1 hr =>
    cases hr with
    | cons r2 hr =>
      cases hr
      rename_i x1 x2
      exact ⟨a, [x1, x2], rfl, .inl (.inl (hid_le _ _ ha)), rfl, x1, [x2], rfl, x2, [], rfl, rfl, q _ ((S.putD hi r1).putD (by rw [List.length_set]; exact hj) r2)⟩
section
variable {K : PySem.W.Frag} {b : Bs} {G : List (V × PyData)} {Γ : List Ent} {te tl : TE} {tt : TT} {t u tb : TS} {g : TG} {D : Ends} {P : PyData → Prop} {N : L2.St → Hp → Prop} {i j : Nat} {d : PyData}
theorem c_seq (h : Cont b G Γ (t { D with nx := u D })) : Cont b G Γ (tSeq t u D) := h
theorem c_asg (h : EvR Γ te P) (k : ∀ d, P d → ∃ Γ2, Tgt g Γ d Γ2 ∧ Cont b G Γ2 D.nx) : Cont b G Γ (tAsg te g D) := fun M σ H S => h b G M σ H S _ fun v d H1 S1 e1 p1 r1 => by
  obtain ⟨Γ2, h1, h2⟩ := k d p1
  exact h1 b G M σ H1 v _ S1 r1 fun σ2 S2 => h2 M σ2 H1 S2
theorem q_asg (h : EvR Γ te P) (k : ∀ d, P d → ∃ Γ2, Tgt g Γ d Γ2 ∧ Cont b G Γ2 (u D)) : Cont b G Γ (tSeq (tAsg te g) u D) := c_asg (D := { D with nx := u D }) h k
theorem c_setR (h : EvR Γ te P) (k : ∀ d, P d → Cont b G (Γ.set i (.dat d)) D.nx) (hi : i < Γ.length := by simp) : Cont b G Γ (tAsg te (gName i) D) := c_asg h fun d p => ⟨_, tg_name hi, k d p⟩
theorem c_set (h : EvD Γ te d) (k : Cont b G (Γ.set i (.dat d)) D.nx) (hi : i < Γ.length := by simp) : Cont b G Γ (tAsg te (gName i) D) := c_setR h (fun d' e => by subst e; exact k) hi
theorem c_setN {Pl : List PyData → Prop} (h : EvN Γ te Pl) (k : ∀ p ds, Pl ds → Cont b G (Γ.set i (.own p (lD ds))) D.nx) (hi : i < Γ.length := by simp) : Cont b G Γ (tAsg te (gName i) D) := fun M σ H S => h b G M σ H S _ fun p vs ds H1 n S1 e1 hp pd r1 =>
  k p ds pd (p :: M) _ H1 (S.hold hi n e1 S1.tape hp ⟨vs, rfl, r1⟩)
theorem c_setND {ds : List PyData} (h : EnD Γ te ds) (k : ∀ p, Cont b G (Γ.set i (.own p (lD ds))) D.nx) (hi : i < Γ.length := by simp) : Cont b G Γ (tAsg te (gName i) D) := c_setN h (fun p ds' e => by subst e; exact k p) hi
/-- a, b = e1, e2 -/
theorem c_par {te' : TE} {d' : PyData} (h : EvD Γ te d) (h' : EvD Γ te' d') (k : Cont b G ((Γ.set i (.dat d)).set j (.dat d')) D.nx) (hi : i < Γ.length := by simp) (hj : j < Γ.length := by simp) : Cont b G Γ (tPar i j (tCons te (tCons te' tNil)) D) := fun M σ H S =>
  h b G M σ H S _ fun v d1 H1 S1 e1 p1 r1 => h' b G M σ H1 S1 _ fun v' d2 H2 S2 e2 p2 r2 => by
    have q1 : d1 = d := p1
    have q2 : d2 = d' := p2
    subst q1 q2
    exact ⟨v, v', rfl, k M _ H2 ((S2.putD hi (r1.up (hid_T S.tm e2))).putD (by rw [List.length_set]; exact hj) r2)⟩
theorem Sat.back {M : List Addr} {σ : L2.St} {H : Hp} (S : Sat b G M Γ σ H) : ∀ t ∈ b.T, TapeOk b.M0 H t b.sc := fun t ht => (S.tape t ht).anti S.m0
theorem c_retR {Post : PyData → Prop} (h : EvR Γ te P) (F : Fin b Post D.rt) (hp : ∀ d, P d → Post d) : Cont b G Γ (tRet te D) := fun M σ H S => h b G M σ H S _ fun v d H1 S1 e1 p1 r1 => F v d H1 S1.ext S1.back (hp d p1) (r1.up (hid_anti S1.m0))
theorem c_ret {Post : PyData → Prop} (h : EvD Γ te d) (F : Fin b Post D.rt) (hp : Post d) : Cont b G Γ (tRet te D) := c_retR h F fun d' e => by subst e; exact hp
theorem c_retE {d' : PyData} (h : EvD Γ te d) (F : Fin b (fun r => r = d') D.rt) (hp : d = d') : Cont b G Γ (tRet te D) := c_retR h F fun d'' e => by
  have e' : d'' = d := e
  show d'' = d'
  rw [e', hp]
theorem c_retF {d' : PyData} (F : Fin b (fun r => r = d') D.rt) (h : EvD Γ te d') : Cont b G Γ (tRet te D) := c_retE h F rfl
theorem c_retO {Post : List PyData → Prop} {p : Addr} {ds : List PyData} (hi : Γ[i]? = some (.own p (lD ds))) (F : FinN b Post D.rt) (hp : Post ds) : Cont b G Γ (tRet (tVar i) D) := fun M σ H S => by
  obtain ⟨h1, h2, h3, h4, h5, u, h6, vs, h7, h8⟩ := S.at_ i _ hi
  subst h7
  refine ⟨.ref p, sl_some h1, F p vs ds H h5 S.ext S.back h6 hp (h8.up (hid_anti fun a ha => ?_))⟩
  rcases List.mem_cons.mp ha with e | ha
  · rw [e]
    exact h2
  · exact S.m0 a ha
theorem c_retOE {p : Addr} {ds ds' : List PyData} (hi : Γ[i]? = some (.own p (lD ds))) (F : FinN b (fun r => r = ds') D.rt) (hp : ds = ds') : Cont b G Γ (tRet (tVar i) D) := c_retO hi F hp
theorem c_retN {Post Pl : List PyData → Prop} (h : EvN Γ te Pl) (F : FinN b Post D.rt) (hp : ∀ d, Pl d → Post d) : Cont b G Γ (tRet te D) := fun M σ H S => h b G M σ H S _ fun p vs ds H1 n S1 e1 hw pd r1 => by
  obtain ⟨_, _, _, _, h0, _⟩ := S.veil n e1 S1.tape (by rw [hw]; exact fun z => nomatch z)
  exact F p vs ds H1 h0 S1.ext S1.back hw (hp ds pd) (r1.up (hid_anti fun a ha => by
    rcases List.mem_cons.mp ha with e | ha
    · rw [e]
      exact List.mem_cons_self
    · exact List.mem_cons_of_mem _ (S1.m0 a ha)))
theorem c_retND {Post : List PyData → Prop} {ds : List PyData} (h : EnD Γ te ds) (F : FinN b Post D.rt) (hp : Post ds) : Cont b G Γ (tRet te D) := c_retN h F fun d e => by subst e; exact hp
theorem c_ifR {Pb : Bool → Prop} (h : EvB Γ tt Pb) (h1 : Pb true → Cont b G Γ (t D)) (h2 : Pb false → Cont b G Γ (u D)) : Cont b G Γ (tIfS tt t u D) := fun M σ H S => h b G M σ H S _ fun k H1 S1 e1 p1 => by
  cases k with
  | true => exact h1 p1 M σ H1 S1
  | false => exact h2 p1 M σ H1 S1
theorem c_if {k : Bool} (h : EbD Γ tt k) (h1 : k = true → Cont b G Γ (t D)) (h2 : k = false → Cont b G Γ (u D)) : Cont b G Γ (tIfS tt t u D) := c_ifR h (fun e => h1 e.symm) fun e => h2 e.symm
theorem c_whenR {Pb : Bool → Prop} (h : EvB Γ tt Pb) (h1 : Pb true → Cont b G Γ (t { D with nx := u D })) (h2 : Pb false → Cont b G Γ (u D)) : Cont b G Γ (tSeq (tIfS tt t tNext) u D) := c_ifR (D := { D with nx := u D }) h h1 h2
theorem c_when {k : Bool} (h : EbD Γ tt k) (h1 : k = true → Cont b G Γ (t { D with nx := u D })) (h2 : k = false → Cont b G Γ (u D)) : Cont b G Γ (tSeq (tIfS tt t tNext) u D) := c_whenR h (fun e => h1 e.symm) fun e => h2 e.symm
theorem q_setR (h : EvR Γ te P) (k : ∀ d, P d → Cont b G (Γ.set i (.dat d)) (u D)) (hi : i < Γ.length := by simp) : Cont b G Γ (tSeq (tAsg te (gName i)) u D) := c_setR (D := { D with nx := u D }) h k hi
theorem q_set (h : EvD Γ te d) (k : Cont b G (Γ.set i (.dat d)) (u D)) (hi : i < Γ.length := by simp) : Cont b G Γ (tSeq (tAsg te (gName i)) u D) := c_set (D := { D with nx := u D }) h k hi
theorem q_setND {ds : List PyData} (h : EnD Γ te ds) (k : ∀ p, Cont b G (Γ.set i (.own p (lD ds))) (u D)) (hi : i < Γ.length := by simp) : Cont b G Γ (tSeq (tAsg te (gName i)) u D) := c_setND (D := { D with nx := u D }) h k hi
theorem c_skip (h : Cont b G Γ D.nx) : Cont b G Γ (tNext D) := h
theorem c_nx {I : List Ent → Prop} (h : I Γ) : Cont b G Γ (Nx b G I) := fun M σ H S => ⟨M, Γ, S, h⟩
theorem c_of_nx {I : List Ent → Prop} (h : ∀ Γ, I Γ → Cont b G Γ N) : ∀ σ H, Nx b G I σ H → N σ H := fun σ H ⟨M, Γ, S, i⟩ => h Γ i M σ H S
theorem c_noghost {p : V × PyData} (h : Cont b G Γ N) : Cont b (p :: G) Γ N := fun M σ H S => h M σ H S.noghost
/-- what follows is shown once, from I -/
theorem c_cut {I : List Ent → Prop} (h : Cont b G Γ (t { D with nx := Nx b G I })) (k : ∀ Γ, I Γ → Cont b G Γ (u D)) : Cont b G Γ (tCutD t u D) := fun M σ H S => ⟨_, h M σ H S, c_of_nx k⟩
theorem c_free {p : Addr} {ds : List PyData} (hi : Γ[i]? = some (.own p (lD ds))) (h : Cont b G (Γ.set i (.dat (.list ds))) N) : Cont b G Γ N := fun M σ H S => h _ σ H (S.free hi)
theorem c_forget (i : Nat) (h : Cont b G (Γ.set i .un) N) : Cont b G Γ N := fun M σ H S => h _ σ H S.unsay
theorem c_drop (h : EvR Γ te P) (k : Cont b G Γ D.nx) : Cont b G Γ (tDrop te D) := fun M σ H S => h b G M σ H S _ fun v d H1 S1 e1 p1 r1 => k M σ H1 S1
/-! a list of our own -/
theorem own_at {M : List Addr} {σ : L2.St} {H : Hp} {p : Addr} {ds : List PyData} (S : Sat b G M Γ σ H) (hi : Γ[i]? = some (.own p (lD ds))) : σ[i]? = some (some (.ref p)) ∧ p ∈ M ∧ p ∉ b.T ∧ ∃ vs, H p = some (.lst vs) ∧ RpL (hid M H) vs ds := by
  obtain ⟨h1, h2, h3, h4, h5, u, h6, vs, h7, h8⟩ := S.at_ i _ hi
  subst h7
  exact ⟨sl_some h1, h2, h3, vs, h6, h8⟩
theorem c_appR {p : Addr} {ds : List PyData} (hi : Γ[i]? = some (.own p (lD ds))) (h : EvR Γ te P) (hz : ds.length < 50000) (k : ∀ d, P d → Cont b G (Γ.set i (.own p (lD (ds ++ [d])))) D.nx) : Cont b G Γ (tDrop (tBM K "list" rAppend (tVar i) (tCons te tNil)) D) := fun M σ H S => by
  obtain ⟨h1, h2, h3, vs, h6, h8⟩ := own_at S hi
  refine ⟨.ref p, h1, .inl ⟨rfl, vs, .inl (.inl h6)⟩, ?_⟩
  refine h b G M σ H S _ fun v d H1 S1 e1 p1 r1 => ?_
  obtain ⟨_, _, _, vs1, g6, g8⟩ := own_at S1 hi
  have hl := g8.length
  exact ⟨p, vs1, v, rfl, rfl, g6, sz_lt (by omega), k d p1 M σ _ (S1.write hi ⟨_, rfl, g8.snoc r1⟩)⟩
theorem c_app {p : Addr} {ds : List PyData} (hi : Γ[i]? = some (.own p (lD ds))) (h : EvD Γ te d) (hz : ds.length < 50000) (k : Cont b G (Γ.set i (.own p (lD (ds ++ [d])))) D.nx) : Cont b G Γ (tDrop (tBM K "list" rAppend (tVar i) (tCons te tNil)) D) := c_appR hi h hz fun d' e => by subst e; exact k
/-- xs.extend(a new list) -/
theorem c_extN {p : Addr} {ds es : List PyData} (hi : Γ[i]? = some (.own p (lD ds))) (h : EnD Γ te es) (hz : ds.length + es.length ≤ 50000) (k : Cont b G (Γ.set i (.own p (lD (ds ++ es)))) D.nx) : Cont b G Γ (tDrop (tBM K "list" rExtend (tVar i) (tCons te tNil)) D) := fun M σ H S => by
  obtain ⟨h1, h2, h3, vs, h6, h8⟩ := own_at S hi
  refine ⟨.ref p, h1, .inl ⟨rfl, vs, .inl (.inl h6)⟩, ?_⟩
  refine h b G M σ H S _ fun q vs' ds' H1 n S1 e1 hw p1 r1 => ?_
  have q1 : ds' = es := p1
  subst q1
  obtain ⟨_, _, _, vs1, g6, g8⟩ := own_at S1 hi
  have hl := g8.length
  have hl' := r1.length
  exact ⟨p, q, vs1, vs', rfl, rfl, g6, hw, sz_of (by omega), k M σ _ (S1.write hi ⟨_, rfl, g8.append (r1.up (hid_anti fun a ha => List.mem_cons_of_mem _ ha))⟩)⟩
/-- xs[k] = e -/
theorem c_setI {ti : TE} {p : Addr} {ds : List PyData} {I : Int → Prop} (hi : Γ[i]? = some (.own p (lD ds))) (h : EvR Γ te P) (hx : EvR Γ ti (fun d => ∃ z, d = .int z ∧ I z)) (hz : ∀ z, I z → 0 ≤ z ∧ z < ds.length) (k : ∀ d z, P d → I z → Cont b G (Γ.set i (.own p (lD (ds.set z.toNat d)))) D.nx) : Cont b G Γ (tAsg te (gSub (tVar i) ti rSetL) D) := fun M σ H S => by
  refine h b G M σ H S _ fun v d H1 S1 e1 p1 r1 => ?_
  refine ⟨.ref p, (own_at S1 hi).1, ?_⟩
  refine hx b G M σ H1 S1 _ fun v2 d2 H2 S2 e2 p2 r2 => ?_
  obtain ⟨z, rfl, hI⟩ := p2
  cases r2
  obtain ⟨_, _, _, vs1, g6, g8⟩ := own_at S2 hi
  have hl := g8.length
  obtain ⟨z0, z1⟩ := hz z hI
  refine ⟨p, vs1, z, z.toNat, rfl, rfl, g6, ?_, k d z p1 hI M σ _ (S2.write hi ⟨_, rfl, g8.set _ (r1.up (hid_T S.tm e2))⟩)⟩
  unfold ixN
  rw [if_pos z0, if_pos (by omega)]
/-- what an expression gives that only looks at a list of our own: a number, a text, a truth, none -/
def flatD : PyData → Bool
  | .list _ => false
  | .tuple _ => false
  | .dict _ => false
  | _ => true
theorem Rp.flat {H H' : Hp} {v : V} {d : PyData} (h : Rp H v d) (hf : flatD d = true) : Rp H' v d := by
  cases h with
  | non => exact .non
  | bl k => exact .bl k
  | int k => exact .int k
  | str k => exact .str k
  | lst h1 h2 => cases hf
  | tup h1 h2 => cases hf
theorem Sat.unfree {p : Addr} {ds : List PyData} {M : List Addr} {σ : L2.St} {H H' : Hp} (S : Sat b G M Γ σ H) (hi : Γ[i]? = some (.own p (lD ds))) (e : Same (hid b.T H) H') (S' : Sat b G (M.filter (fun a => decide (a ≠ p))) (Γ.set i (.dat (.list ds))) σ H') : Sat b G M Γ σ H' := by
  refine S.go e fun t ht => ?_
  obtain ⟨j, c, ns, g1, g2, g3⟩ := S'.tape t ht
  obtain ⟨i1, c1, ns1, k1, k2, k3⟩ := S.tape t ht
  obtain ⟨l1, l2⟩ := hid_some k2
  obtain ⟨m1, m2⟩ := hid_some g2
  exact ⟨j, c, ns, g1, by rw [hid_out l1]; exact m2, g3⟩
theorem ev_thaw {p : Addr} {ds : List PyData} (i : Nat) (hi : Γ[i]? = some (.own p (lD ds))) (h : EvR (Γ.set i (.dat (.list ds))) te P) (hf : ∀ d, P d → flatD d = true) : EvR Γ te P := fun b G M σ H S Q q =>
  h b G _ σ H (S.free hi) Q fun v d H1 S1 e1 p1 r1 => q v d H1 (S.unfree hi e1 S1) e1 p1 (r1.flat (hf d p1))
theorem eb_thaw {p : Addr} {ds : List PyData} {Pb : Bool → Prop} (i : Nat) (hi : Γ[i]? = some (.own p (lD ds))) (h : EvB (Γ.set i (.dat (.list ds))) tt Pb) : EvB Γ tt Pb := fun b G M σ H S Q q =>
  h b G _ σ H (S.free hi) Q fun k H1 S1 e1 p1 => q k H1 (S.unfree hi e1 S1) e1 p1

/-! ### loops -/
theorem ghost_at {M : List Addr} {σ : L2.St} {H : Hp} {v : V} (S : Sat b ((v, d) :: G) M Γ σ H) : Rp (hid M H) v d := S.gh _ List.mem_cons_self
theorem c_for_list {ds : List PyData} (h : EvD Γ tl (.list ds)) (I : Nat → List Ent → Prop) (h0 : I 0 Γ)
    (hs : ∀ G' i d Γ1, ds[i]? = some d → I i Γ1 → ∃ Γ2, Tgt g Γ1 d Γ2 ∧ Cont b G' Γ2 (tb { D with nx := Nx b G' (I (i + 1)), ct := Nx b G' (I (i + 1)), bk := D.nx }))
    (hd : ∀ Γ1, I ds.length Γ1 → Cont b G Γ1 D.nx) : Cont b G Γ (tFor (iList K tl) g tb D) := fun M σ H S => h b G M σ H S _ fun v d' H1 S1 e1 p1 r1 => by
  have p1' : d' = .list ds := p1
  subst p1'
  obtain ⟨a, xs, rfl, ha, hr⟩ := r1.list_inv
  have inv : ∀ {M' Γ' σ' H'}, Sat b ((.ref a, .list ds) :: G) M' Γ' σ' H' → ∃ ys, H' a = some (.lst ys) ∧ RpL (hid M' H') ys ds := fun S' => by
    obtain ⟨a', ys, ea, h1, h2⟩ := (ghost_at S').list_inv
    cases ea
    exact ⟨ys, hid_le _ _ h1, h2⟩
  refine ⟨a, rfl, ⟨xs, .inl (.inl (hid_le _ _ ha))⟩, fun i m σ' H' => m = ds.length - i ∧ i ≤ ds.length ∧ Nx b ((.ref a, .list ds) :: G) (I i) σ' H', ⟨_, rfl, Nat.zero_le _, M, Γ, S1.ghost r1, h0⟩, ?_⟩
  rintro i m σ' H' ⟨rfl, hi, M', Γ', S', hI⟩
  obtain ⟨ys, hy, hry⟩ := inv S'
  have hl := hry.length
  by_cases hlt : i < ds.length
  · have hyi : ys[i]? = some ys[i] := List.getElem?_eq_getElem (by omega)
    refine .inr ⟨⟨ys, ys[i], .inl (.inl hy), hyi⟩, Nx b ((.ref a, .list ds) :: G) (I (i + 1)), fun σ2 H2 q => ⟨ds.length - (i + 1), by omega, rfl, hlt, q⟩, fun x H2 y => ?_⟩
    obtain ⟨rfl, fx⟩ := y
    have ex : x = ys[i] := Option.some.inj ((fx ys (.inl (.inl hy))).symm.trans hyi)
    subst ex
    obtain ⟨d, hd', rd⟩ := hry.get' hyi
    obtain ⟨Γ2, t1, t2⟩ := hs _ i d Γ' hd' hI
    exact t1 b _ M' σ' _ _ _ S' rd fun σ2 S2 => t2 M' σ2 _ S2
  · have e : i = ds.length := by omega
    subst e
    exact .inl ⟨⟨ys, .inl (.inl hy), by omega⟩, hd Γ' hI M' σ' H' S'.noghost⟩
theorem c_for_tup {ds : List PyData} (h : EvD Γ tl (.tuple ds)) (I : Nat → List Ent → Prop) (h0 : I 0 Γ)
    (hs : ∀ G' i d Γ1, ds[i]? = some d → I i Γ1 → ∃ Γ2, Tgt g Γ1 d Γ2 ∧ Cont b G' Γ2 (tb { D with nx := Nx b G' (I (i + 1)), ct := Nx b G' (I (i + 1)), bk := D.nx }))
    (hd : ∀ Γ1, I ds.length Γ1 → Cont b G Γ1 D.nx) : Cont b G Γ (tFor (iTup K tl) g tb D) := fun M σ H S => h b G M σ H S _ fun v d' H1 S1 e1 p1 r1 => by
  have p1' : d' = .tuple ds := p1
  subst p1'
  obtain ⟨a, xs, rfl, ha, hr⟩ := r1.tup_inv
  have inv : ∀ {M' Γ' σ' H'}, Sat b ((.ref a, .tuple ds) :: G) M' Γ' σ' H' → ∃ ys, H' a = some (.tup ys) ∧ RpL (hid M' H') ys ds := fun S' => by
    obtain ⟨a', ys, ea, h1, h2⟩ := (ghost_at S').tup_inv
    cases ea
    exact ⟨ys, hid_le _ _ h1, h2⟩
  refine ⟨a, rfl, ⟨xs, .inl (.inl (hid_le _ _ ha))⟩, fun i m σ' H' => m = ds.length - i ∧ i ≤ ds.length ∧ Nx b ((.ref a, .tuple ds) :: G) (I i) σ' H', ⟨_, rfl, Nat.zero_le _, M, Γ, S1.ghost r1, h0⟩, ?_⟩
  rintro i m σ' H' ⟨rfl, hi, M', Γ', S', hI⟩
  obtain ⟨ys, hy, hry⟩ := inv S'
  have hl := hry.length
  by_cases hlt : i < ds.length
  · have hyi : ys[i]? = some ys[i] := List.getElem?_eq_getElem (by omega)
    refine .inr ⟨⟨ys, ys[i], .inl (.inl hy), hyi⟩, Nx b ((.ref a, .tuple ds) :: G) (I (i + 1)), fun σ2 H2 q => ⟨ds.length - (i + 1), by omega, rfl, hlt, q⟩, fun x H2 y => ?_⟩
    obtain ⟨rfl, fx⟩ := y
    have ex : x = ys[i] := Option.some.inj ((fx ys (.inl (.inl hy))).symm.trans hyi)
    subst ex
    obtain ⟨d, hd', rd⟩ := hry.get' hyi
    obtain ⟨Γ2, t1, t2⟩ := hs _ i d Γ' hd' hI
    exact t1 b _ M' σ' _ _ _ S' rd fun σ2 S2 => t2 M' σ2 _ S2
  · have e : i = ds.length := by omega
    subst e
    exact .inl ⟨⟨ys, .inl (.inl hy), by omega⟩, hd Γ' hI M' σ' H' S'.noghost⟩
theorem c_for_rng1 {ta : TA} {N : Int → Prop} (h : EvA Γ ta (fun l => ∃ n : Int, l = [.int n] ∧ N n)) (hz : ∀ n, N n → -1000 ≤ n ∧ n ≤ 100000) (I : Int → Nat → List Ent → Prop) (h0 : ∀ n, N n → I n 0 Γ)
    (hs : ∀ n (i : Nat) Γ1, N n → (i : Int) < n → I n i Γ1 → ∃ Γ2, Tgt g Γ1 (.int (i : Int)) Γ2 ∧ Cont b G Γ2 (tb { D with nx := Nx b G (I n (i + 1)), ct := Nx b G (I n (i + 1)), bk := D.nx }))
    (hd : ∀ n Γ1, N n → I n n.toNat Γ1 → Cont b G Γ1 D.nx) : Cont b G Γ (tFor (iRng1 ta) g tb D) := fun M σ H S => h b G M σ H S _ fun vs ds H1 S1 e1 p1 r1 => by
  obtain ⟨n, rfl, hn⟩ := p1
  cases r1 with
  | cons r1 r2 =>
    cases r2
    cases r1
    obtain ⟨z1, z2⟩ := hz n hn
    refine ⟨n, rfl, by omega, by omega, fun i m σ' H' => m = n.toNat - i ∧ i ≤ n.toNat ∧ Nx b G (I n i) σ' H', ⟨_, rfl, Nat.zero_le _, M, Γ, S1, h0 n hn⟩, ?_⟩
    rintro i m σ' H' ⟨rfl, hi, M', Γ', S', hI⟩
    by_cases hlt : i < n.toNat
    · refine .inr ⟨hlt, Nx b G (I n (i + 1)), fun σ2 H2 q => ⟨n.toNat - (i + 1), by omega, rfl, hlt, q⟩, fun x H2 y => ?_⟩
      obtain ⟨rfl, rfl⟩ := y
      rw [Int.zero_add]
      obtain ⟨Γ2, t1, t2⟩ := hs n i Γ' hn (by omega) hI
      exact t1 b _ M' σ' _ _ _ S' (.int _) fun σ2 S2 => t2 M' σ2 _ S2
    · have e : i = n.toNat := by omega
      subst e
      exact .inl ⟨Nat.le_refl _, hd n Γ' hn hI M' σ' H' S'⟩
theorem c_for_rng1D {ta : TA} {n : Int} (h : EaD Γ ta [.int n]) (hz : -1000 ≤ n ∧ n ≤ 100000) (I : Nat → List Ent → Prop) (h0 : I 0 Γ)
    (hs : ∀ (i : Nat) Γ1, (i : Int) < n → I i Γ1 → ∃ Γ2, Tgt g Γ1 (.int (i : Int)) Γ2 ∧ Cont b G Γ2 (tb { D with nx := Nx b G (I (i + 1)), ct := Nx b G (I (i + 1)), bk := D.nx }))
    (hd : ∀ Γ1, I n.toNat Γ1 → Cont b G Γ1 D.nx) : Cont b G Γ (tFor (iRng1 ta) g tb D) :=
  c_for_rng1 (N := (· = n)) (h.imp fun l e => ⟨n, e, rfl⟩) (fun n' e => by subst e; exact hz) (fun _ => I) (fun _ _ => h0) (fun n' i Γ1 e hi hI => by subst e; exact hs i Γ1 hi hI) fun n' Γ1 e hI => by subst e; exact hd Γ1 hI
theorem c_for_rng2 {ta : TA} {lo hi : Int} (h : EaD Γ ta [.int lo, .int hi]) (hz : -1000 ≤ lo ∧ lo ≤ 100000 ∧ -1000 ≤ hi ∧ hi ≤ 100000) (I : Nat → List Ent → Prop) (h0 : I 0 Γ)
    (hs : ∀ (i : Nat) Γ1, lo + (i : Int) < hi → I i Γ1 → ∃ Γ2, Tgt g Γ1 (.int (lo + (i : Int))) Γ2 ∧ Cont b G Γ2 (tb { D with nx := Nx b G (I (i + 1)), ct := Nx b G (I (i + 1)), bk := D.nx }))
    (hd : ∀ Γ1, I (hi - lo).toNat Γ1 → Cont b G Γ1 D.nx) : Cont b G Γ (tFor (iRng2 ta) g tb D) := fun M σ H S => h b G M σ H S _ fun vs ds H1 S1 e1 p1 r1 => by
  have p1' : ds = [.int lo, .int hi] := p1
  subst p1'
  cases r1 with
  | cons r1 r2 =>
    cases r2 with
    | cons r2 r3 =>
      cases r3
      cases r1
      cases r2
      refine ⟨lo, hi, rfl, by omega, fun i m σ' H' => m = (hi - lo).toNat - i ∧ i ≤ (hi - lo).toNat ∧ Nx b G (I i) σ' H', ⟨_, rfl, Nat.zero_le _, M, Γ, S1, h0⟩, ?_⟩
      rintro i m σ' H' ⟨rfl, hi', M', Γ', S', hI⟩
      by_cases hlt : i < (hi - lo).toNat
      · refine .inr ⟨hlt, Nx b G (I (i + 1)), fun σ2 H2 q => ⟨(hi - lo).toNat - (i + 1), by omega, rfl, hlt, q⟩, fun x H2 y => ?_⟩
        obtain ⟨rfl, rfl⟩ := y
        obtain ⟨Γ2, t1, t2⟩ := hs i Γ' (by omega) hI
        exact t1 b _ M' σ' _ _ _ S' (.int _) fun σ2 S2 => t2 M' σ2 _ S2
      · have e : i = (hi - lo).toNat := by omega
        subst e
        exact .inl ⟨Nat.le_refl _, hd Γ' hI M' σ' H' S'⟩
theorem q_for_list {ds : List PyData} (h : EvD Γ tl (.list ds)) (I : Nat → List Ent → Prop) (h0 : I 0 Γ)
    (hs : ∀ G' i d Γ1, ds[i]? = some d → I i Γ1 → ∃ Γ2, Tgt g Γ1 d Γ2 ∧ Cont b G' Γ2 (tb { D with nx := Nx b G' (I (i + 1)), ct := Nx b G' (I (i + 1)), bk := u D }))
    (hd : ∀ Γ1, I ds.length Γ1 → Cont b G Γ1 (u D)) : Cont b G Γ (tSeq (tFor (iList K tl) g tb) u D) := c_for_list (D := { D with nx := u D }) h I h0 hs hd
theorem q_for_tup {ds : List PyData} (h : EvD Γ tl (.tuple ds)) (I : Nat → List Ent → Prop) (h0 : I 0 Γ)
    (hs : ∀ G' i d Γ1, ds[i]? = some d → I i Γ1 → ∃ Γ2, Tgt g Γ1 d Γ2 ∧ Cont b G' Γ2 (tb { D with nx := Nx b G' (I (i + 1)), ct := Nx b G' (I (i + 1)), bk := u D }))
    (hd : ∀ Γ1, I ds.length Γ1 → Cont b G Γ1 (u D)) : Cont b G Γ (tSeq (tFor (iTup K tl) g tb) u D) := c_for_tup (D := { D with nx := u D }) h I h0 hs hd
theorem q_for_rng1 {ta : TA} {N : Int → Prop} (h : EvA Γ ta (fun l => ∃ n : Int, l = [.int n] ∧ N n)) (hz : ∀ n, N n → -1000 ≤ n ∧ n ≤ 100000) (I : Int → Nat → List Ent → Prop) (h0 : ∀ n, N n → I n 0 Γ)
    (hs : ∀ n (i : Nat) Γ1, N n → (i : Int) < n → I n i Γ1 → ∃ Γ2, Tgt g Γ1 (.int (i : Int)) Γ2 ∧ Cont b G Γ2 (tb { D with nx := Nx b G (I n (i + 1)), ct := Nx b G (I n (i + 1)), bk := u D }))
    (hd : ∀ n Γ1, N n → I n n.toNat Γ1 → Cont b G Γ1 (u D)) : Cont b G Γ (tSeq (tFor (iRng1 ta) g tb) u D) := c_for_rng1 (D := { D with nx := u D }) h hz I h0 hs hd
theorem q_for_rng1D {ta : TA} {n : Int} (h : EaD Γ ta [.int n]) (hz : -1000 ≤ n ∧ n ≤ 100000) (I : Nat → List Ent → Prop) (h0 : I 0 Γ)
    (hs : ∀ (i : Nat) Γ1, (i : Int) < n → I i Γ1 → ∃ Γ2, Tgt g Γ1 (.int (i : Int)) Γ2 ∧ Cont b G Γ2 (tb { D with nx := Nx b G (I (i + 1)), ct := Nx b G (I (i + 1)), bk := u D }))
    (hd : ∀ Γ1, I n.toNat Γ1 → Cont b G Γ1 (u D)) : Cont b G Γ (tSeq (tFor (iRng1 ta) g tb) u D) := c_for_rng1D (D := { D with nx := u D }) h hz I h0 hs hd
theorem q_for_rng2 {ta : TA} {lo hi : Int} (h : EaD Γ ta [.int lo, .int hi]) (hz : -1000 ≤ lo ∧ lo ≤ 100000 ∧ -1000 ≤ hi ∧ hi ≤ 100000) (I : Nat → List Ent → Prop) (h0 : I 0 Γ)
    (hs : ∀ (i : Nat) Γ1, lo + (i : Int) < hi → I i Γ1 → ∃ Γ2, Tgt g Γ1 (.int (lo + (i : Int))) Γ2 ∧ Cont b G Γ2 (tb { D with nx := Nx b G (I (i + 1)), ct := Nx b G (I (i + 1)), bk := u D }))
    (hd : ∀ Γ1, I (hi - lo).toNat Γ1 → Cont b G Γ1 (u D)) : Cont b G Γ (tSeq (tFor (iRng2 ta) g tb) u D) := c_for_rng2 (D := { D with nx := u D }) h hz I h0 hs hd
theorem c_while (I : Nat → List Ent → Prop) (m0 : Nat) (h0 : I m0 Γ)
    (hs : ∀ m Γ1, I m Γ1 → ∃ Pb, EvB Γ1 tt Pb ∧ (Pb true → Cont b G Γ1 (tb { D with nx := Nx b G (fun Γ' => ∃ m', m' < m ∧ I m' Γ'), ct := Nx b G (fun Γ' => ∃ m', m' < m ∧ I m' Γ'), bk := D.nx })) ∧ (Pb false → Cont b G Γ1 D.nx)) :
    Cont b G Γ (tWhile tt tb D) := fun M σ H S => by
  refine ⟨fun m σ' H' => Nx b G (I m) σ' H', ⟨m0, M, Γ, S, h0⟩, ?_⟩
  rintro m σ' H' ⟨M', Γ', S', hI⟩
  obtain ⟨Pb, h1, h2, h3⟩ := hs m Γ' hI
  refine h1 b G M' σ' H' S' _ fun k H2 S2 e2 p2 => ?_
  cases k with
  | true => exact ⟨_, fun σ3 H3 ⟨M3, Γ3, S3, m', hm, hI3⟩ => ⟨m', hm, M3, Γ3, S3, hI3⟩, h2 p2 M' σ' H2 S2⟩
  | false => exact h3 p2 M' σ' H2 S2
end

/-! ### defs -/
section
variable {P : Program} {w : World} {K : PySem.W.Frag} {mg : Str → Option Value} {base : Heap}
theorem sat_start {b : Bs} {M : List Addr} {H : Hp} {vs : List V} {ds : List PyData} {N : List Str} (hm0 : b.M0 = M) (hH0 : b.H0 = H) (hT : b.T = []) (hM : ∀ x ∈ M, H x ≠ none) (r : RpL (hid M H) vs ds) : Sat b [] M (ds.map Ent.dat ++ List.replicate (N.length - vs.length) Ent.un) (L2.start N vs) H where
  ext := by rw [hT, hH0]; exact hid_le
  m0 := fun a ha => by rw [hm0] at ha; exact ha
  tm := fun a ha => by rw [hT] at ha; cases ha
  trk := hM
  tape := fun a ha => by rw [hT] at ha; cases ha
  len := by
    unfold L2.start
    rw [List.length_append, List.length_append, List.length_map, List.length_map, List.length_replicate, List.length_replicate, r.length]
  at_ := fun i e h => by
    by_cases hi : i < ds.length
    · rw [List.getElem?_append_left (by simpa using hi), List.getElem?_map, List.getElem?_eq_getElem hi] at h
      cases h
      obtain ⟨v, hv, rv⟩ := r.get (List.getElem?_eq_getElem hi)
      refine ⟨v, ?_, rv⟩
      unfold sl L2.start
      rw [List.getElem?_append_left (by rw [List.length_map, r.length]; exact hi), List.getElem?_map, hv]
      rfl
    · rw [List.getElem?_append_right (by simpa using hi), List.getElem?_replicate] at h
      split at h
      · cases h
        exact True.intro
      · cases h
  gh := fun p hp => nomatch hp
  nd := by
    unfold owns
    have e : (ds.map Ent.dat ++ List.replicate (N.length - vs.length) Ent.un).filterMap ownA = [] := by
      rw [List.filterMap_eq_nil_iff]
      intro x hx
      rcases List.mem_append.mp hx with h | h
      · obtain ⟨d, _, rfl⟩ := List.mem_map.mp h
        rfl
      · rw [List.eq_of_mem_replicate h]
        rfl
    rw [e]
    exact List.nodup_nil
theorem okP {α : Type} {enc : α → List PyData} {Pre : α → Prop} {Post : α → PyData → Prop} {x qual : Str} {st : Stmt} {f : Addr} {fd : FuncData} {N ps : List Str} {k n : Nat} (F : Fun K x qual st f fd) (S : FnScope N ps (defScope st)) (hn : ps.length = n) (hl : ∀ a, (enc a).length = n)
    (hb : ∀ (cdv : Value) (A : Around) (outer : List Env) (s : Shared) (H : Hp) (E : XK) (a : α), Room k (A.deeper (envOfC qual (defScope st) s.heap.objs.size f cdv)) → Pre a →
      ∃ t, PSs (cxOf CX0 P w K mg base N qual (defScope st) f cdv A outer s H E).nox (defBody st) t ∧ ∀ (b : Bs) (Q : VK), b.T = [] → Fin b (Post a) Q → Cont b [] ((enc a).map Ent.dat ++ List.replicate (N.length - n) Ent.un) (t { nx := fun _ H' => Q .non H', rt := Q })) :
    FnOk P w K mg base CX0 (k + 1) f fd ps (spP enc Pre Post) := by
  refine F.ok S (fun vs H Q E h => ?_) (fun cdv A outer s H vs Q E hr h => ?_)
  · obtain ⟨M, a, _, r, _⟩ := h
    rw [r.length, hl, hn]
  · obtain ⟨M, a, hM, r, hp, q⟩ := h
    obtain ⟨t, h1, h2⟩ := hb cdv A outer s H E a hr hp
    have hvl : vs.length = n := by rw [r.length, hl]
    refine ⟨t, h1, h2 ⟨[], 0, H, M⟩ Q rfl (fun v d H' e _ pd rd => q v d H' (fun c o z => e c o (by rw [hid_out (by simp)]; exact z)) pd rd) M _ H ?_⟩
    have := sat_start (b := ⟨[], 0, H, M⟩) (N := N) rfl rfl rfl hM r
    rw [hvl] at this
    exact this
theorem okN {α : Type} {enc : α → List PyData} {Pre : α → Prop} {Post : α → List PyData → Prop} {x qual : Str} {st : Stmt} {f : Addr} {fd : FuncData} {N ps : List Str} {k n : Nat} (F : Fun K x qual st f fd) (S : FnScope N ps (defScope st)) (hn : ps.length = n) (hl : ∀ a, (enc a).length = n)
    (hb : ∀ (cdv : Value) (A : Around) (outer : List Env) (s : Shared) (H : Hp) (E : XK) (a : α), Room k (A.deeper (envOfC qual (defScope st) s.heap.objs.size f cdv)) → Pre a →
      ∃ t, PSs (cxOf CX0 P w K mg base N qual (defScope st) f cdv A outer s H E).nox (defBody st) t ∧ ∀ (b : Bs) (Q : VK), b.T = [] → FinN b (Post a) Q → Cont b [] ((enc a).map Ent.dat ++ List.replicate (N.length - n) Ent.un) (t { nx := fun _ H' => Q .non H', rt := Q })) :
    FnOk P w K mg base CX0 (k + 1) f fd ps (spN enc Pre Post) := by
  refine F.ok S (fun vs H Q E h => ?_) (fun cdv A outer s H vs Q E hr h => ?_)
  · obtain ⟨M, a, _, r, _⟩ := h
    rw [r.length, hl, hn]
  · obtain ⟨M, a, hM, r, hp, q⟩ := h
    obtain ⟨t, h1, h2⟩ := hb cdv A outer s H E a hr hp
    have hvl : vs.length = n := by rw [r.length, hl]
    refine ⟨t, h1, h2 ⟨[], 0, H, M⟩ Q rfl (fun p ws ds H' h0 e _ hw pd rd => q p ws ds H' h0 (fun c o z => e c o (by rw [hid_out (by simp)]; exact z)) hw pd rd) M _ H ?_⟩
    have := sat_start (b := ⟨[], 0, H, M⟩) (N := N) rfl rfl rfl hM r
    rw [hvl] at this
    exact this
theorem sat_startT {t sc : Addr} {M : List Addr} {H : Hp} {vs : List V} {ds : List PyData} {N : List Str} (ht : t ∈ M) (hT : TapeOk M H t sc) (hM : ∀ x ∈ M, H x ≠ none) (r : RpL (hid M H) vs ds) : Sat ⟨[t], sc, H, M⟩ [] M (.tp :: (ds.map Ent.dat ++ List.replicate (N.length - (vs.length + 1)) Ent.un)) (L2.start N (.ref t :: vs)) H where
  ext := hid_le
  m0 := fun a ha => ha
  tm := fun a ha => by
    have e : a = t := by simpa using ha
    rw [e]
    exact ht
  trk := hM
  tape := fun a ha => by
    have e : a = t := by simpa using ha
    rw [e]
    exact hT
  len := by
    unfold L2.start
    simp only [List.length_append, List.length_cons, List.length_map, List.length_replicate, r.length]
    omega
  at_ := fun i e h => by
    cases i with
    | zero =>
      cases h
      exact ⟨t, by simp, rfl⟩
    | succ i =>
      rw [List.getElem?_cons_succ] at h
      by_cases hi : i < ds.length
      · rw [List.getElem?_append_left (by simpa using hi), List.getElem?_map, List.getElem?_eq_getElem hi] at h
        cases h
        obtain ⟨v, hv, rv⟩ := r.get (List.getElem?_eq_getElem hi)
        refine ⟨v, ?_, rv⟩
        unfold sl L2.start
        rw [List.getElem?_append_left (by rw [List.length_map, List.length_cons, r.length]; omega), List.getElem?_map, List.getElem?_cons_succ, hv]
        rfl
      · rw [List.getElem?_append_right (by simpa using hi), List.getElem?_replicate] at h
        split at h
        · cases h
          exact True.intro
        · cases h
  gh := fun p hp => nomatch hp
  nd := by
    unfold owns
    have e : (Ent.tp :: (ds.map Ent.dat ++ List.replicate (N.length - (vs.length + 1)) Ent.un)).filterMap ownA = [] := by
      rw [List.filterMap_eq_nil_iff]
      intro x hx
      rcases List.mem_cons.mp hx with h | hx
      · rw [h]
        rfl
      · rcases List.mem_append.mp hx with h | h
        · obtain ⟨d, _, rfl⟩ := List.mem_map.mp h
          rfl
        · rw [List.eq_of_mem_replicate h]
          rfl
    rw [e]
    exact List.nodup_nil
theorem okT {α : Type} {enc : α → List PyData} {Pre : α → Prop} {Post : α → PyData → Prop} {x qual : Str} {st : Stmt} {f : Addr} {fd : FuncData} {N ps : List Str} {k n : Nat} (F : Fun K x qual st f fd) (S : FnScope N ps (defScope st)) (hn : ps.length = n + 1) (hl : ∀ a, (enc a).length = n)
    (hb : ∀ (cdv : Value) (A : Around) (outer : List Env) (s : Shared) (H : Hp) (E : XK) (a : α), Room k (A.deeper (envOfC qual (defScope st) s.heap.objs.size f cdv)) → Pre a →
      ∃ t, PSs (cxOf CX0 P w K mg base N qual (defScope st) f cdv A outer s H E).nox (defBody st) t ∧ ∀ (b : Bs) (Q : VK), Fin b (Post a) Q → Cont b [] (.tp :: ((enc a).map Ent.dat ++ List.replicate (N.length - (n + 1)) Ent.un)) (t { nx := fun _ H' => Q .non H', rt := Q })) :
    FnOk P w K mg base CX0 (k + 1) f fd ps (spT enc Pre Post) := by
  refine F.ok S (fun vs H Q E h => ?_) (fun cdv A outer s H vs Q E hr h => ?_)
  · obtain ⟨M, t, sc, us, a, rfl, _, _, _, r, _⟩ := h
    rw [List.length_cons, r.length, hl, hn]
  · obtain ⟨M, t, sc, us, a, rfl, ht, hM, hT, r, hp, q⟩ := h
    obtain ⟨ts, h1, h2⟩ := hb cdv A outer s H E a hr hp
    have hvl : us.length = n := by rw [r.length, hl]
    refine ⟨ts, h1, h2 ⟨[t], sc, H, M⟩ Q (fun v d H' e tp pd rd => q v d H' e (tp t (by simp)) pd rd) M _ H ?_⟩
    have := sat_startT (N := N) ht hT hM r
    rw [hvl] at this
    exact this
end
end Dz

set_option Elab.async false
set_option linter.all false
set_option maxRecDepth 100000
set_option maxHeartbeats 2000000
namespace Dz
open PySem PySem.Spec PyProof.Rows L2

/-! ### operators of any kind -/
def rAddS : R2 := fun x y H Q => ∃ i j, x = .str i ∧ y = .str j ∧ i.length + j.length ≤ sizeLine ∧ Q (.str (i ++ j)) H
def rAddU (K : PySem.W.Frag) : R2 := fun x y H Q => rI0 (fun i j => .int (i + j)) x y H Q ∨ (rCat x y H Q ∨ (rCatA K x y H Q ∨ rAddS x y H Q))
def rInT (K : PySem.W.Frag) (neg : Bool) : R2 := fun x y H Q => ∃ d ds, Dp K H x d ∧ Dp K H y (.tuple ds) ∧ SeqAt.shaped d = true ∧ SeqAt.shaped (.tuple ds) = true ∧ Q (.bl (neg != ds.any fun z => PyData.eqv z d)) H
def rInU (K : PySem.W.Frag) : R2 := fun x y H Q => rInD K x y H Q ∨ rInT K false x y H Q
def rNiU (K : PySem.W.Frag) : R2 := fun x y H Q => rNotInD K x y H Q ∨ rInT K true x y H Q
def rEqU (K : PySem.W.Frag) : R2 := fun x y H Q => rEqD K x y H Q ∨ rEq x y H Q
def rNeU (K : PySem.W.Frag) : R2 := fun x y H Q => rNeD K x y H Q ∨ rNe x y H Q
def rSlU (K : PySem.W.Frag) : V → Option Int → Option Int → Hp → VK → Prop := fun x lo hi H Q => rSlL K x lo hi H Q ∨ (rSlA K x lo hi H Q ∨ rSlS x lo hi H Q)
section
variable {X : Cx}
theorem op_addU {K : PySem.W.Frag} (hK : X.K = K := by rfl) : OpR X (binaryOp .Add) (rAddU K) := hK ▸ op_add.or (op_cat.or (op_catA.or op_add_str))
theorem op_inT (hu : X.A.units + 65 < cLine) : OpR X (compareOp .In) (rInT X.K false) := by
  intro pins s σ H x y v u Q I rx ry h
  obtain ⟨d, ds, hd, he, sd, se, q⟩ := h
  obtain ⟨as, r1⟩ := Dp.reads I d x v hd rx
  obtain ⟨bs, r2⟩ := Dp.reads I (.tuple ds) y u he ry
  have hr : X.A.units + 1 + min (PyData.depthAll ds) d.depth < cLine := room_in_shaped sd hu
  exact SeqAt.in_tuple_reads r2 r1 (by have := SeqAt.canLay_of_shaped se; simpa [PyData.canLay0] using this) (SeqAt.canLay_of_shaped sd) hr ⟨.bl _, H, I, rfl, by simpa using q⟩
theorem op_notInT (hu : X.A.units + 65 < cLine) : OpR X (compareOp .NotIn) (rInT X.K true) := by
  intro pins s σ H x y v u Q I rx ry h
  obtain ⟨d, ds, hd, he, sd, se, q⟩ := h
  obtain ⟨as, r1⟩ := Dp.reads I d x v hd rx
  obtain ⟨bs, r2⟩ := Dp.reads I (.tuple ds) y u he ry
  have hr : X.A.units + 1 + min (PyData.depthAll ds) d.depth < cLine := room_in_shaped sd hu
  exact SeqAt.notIn_tuple_reads r2 r1 (by have := SeqAt.canLay_of_shaped se; simpa [PyData.canLay0] using this) (SeqAt.canLay_of_shaped sd) hr ⟨.bl _, H, I, rfl, by simpa using q⟩
theorem op_inU {K : PySem.W.Frag} (hu : X.A.units + 65 < cLine) (hK : X.K = K := by rfl) : OpR X (compareOp .In) (rInU K) := hK ▸ (op_inD hu).or (op_inT hu)
theorem op_niU {K : PySem.W.Frag} (hu : X.A.units + 65 < cLine) (hK : X.K = K := by rfl) : OpR X (compareOp .NotIn) (rNiU K) := hK ▸ (op_notInD hu).or (op_notInT hu)
theorem op_eqU {K : PySem.W.Frag} (hu : X.A.units + 64 < cLine) (hK : X.K = K := by rfl) : OpR X (compareOp .Eq) (rEqU K) := hK ▸ (op_eqD hu).or op_eq
theorem op_neU {K : PySem.W.Frag} (hu : X.A.units + 64 < cLine) (hK : X.K = K := by rfl) : OpR X (compareOp .NotEq) (rNeU K) := hK ▸ (op_neD hu).or op_ne
theorem sl_U {K : PySem.W.Frag} (hK : X.K = K := by rfl) : SlR X (rSlU K) := hK ▸ sl_list.or (sl_tupA.or sl_str)
theorem ix_U {K : PySem.W.Frag} (hK : X.K = K := by rfl) : IxR X (rIx K) := hK ▸ ix_seq
theorem call_isiU {K : PySem.W.Frag} (hK : X.K = K := by rfl) : CallR X (.builtin "isinstance") (rIsi K) := hK ▸ call_isi
theorem call_isiTU {K : PySem.W.Frag} (hK : X.K = K := by rfl) : CallR X (.builtin "isinstance") (rIsiT K) := hK ▸ call_isiT
theorem call_allU {K : PySem.W.Frag} (hc : X.calm = true) (hK : X.K = K := by rfl) : CallR X (.builtin "all") (rAll K) := hK ▸ cr_all hc
theorem call_maxU {K : PySem.W.Frag} (hc : X.calm = true) (hK : X.K = K := by rfl) : CallR X (.builtin "max") (rMax K) := hK ▸ cr_max hc
theorem call_minU {K : PySem.W.Frag} (hc : X.calm = true) (hK : X.K = K := by rfl) : CallR X (.builtin "min") (rMin K) := hK ▸ cr_min hc
theorem pg_tupU {K : PySem.W.Frag} {es : List Expr} {k : Nat} {t : TGs} {n : Nat} {pos : Pos} (hc : X.calm = true) (h : PGs X es t) (hK : X.K = K := by rfl)
    (hn : (assignEach es X.env).length = n := by rfl) (hst : (assignEach es X.env).findIdx? (·.1) = none := by rfl) : PG X (.Tuple es k pos) (gTup K n t) := hK ▸ pg_tup hc h hn hst
end
theorem hu64 {A : Around} {k : Nat} (hr : Room k A) : A.units + 64 < cLine := by have := hr.un; omega
theorem hu65 {A : Around} {k : Nat} (hr : Room k A) : A.units + 65 < cLine := by have := hr.un; omega

/-! ### as data -/
section
variable {K : PySem.W.Frag} {i j : Int} {xs ys : List PyData} {x y : PyData}
theorem od_I0 {g : Int → Int → Int} : OpD (rI0 fun i j => .int (g i j)) (.int i) (.int j) (· = .int (g i j)) := fun M H vx vy t rx ry Q q => by
  cases rx
  cases ry
  exact ⟨i, j, rfl, rfl, q _ _ H (Same.refl _) rfl (.int _)⟩
theorem od_B0 {g : Int → Int → Bool} : OpD (rI0 fun i j => .bl (g i j)) (.int i) (.int j) (· = .bool (g i j)) := fun M H vx vy t rx ry Q q => by
  cases rx
  cases ry
  exact ⟨i, j, rfl, rfl, q _ _ H (Same.refl _) rfl (.bl _)⟩
theorem od_I {C : Int → Int → Prop} {g : Int → Int → Int} (hc : C i j) : OpD (rI C fun i j => .int (g i j)) (.int i) (.int j) (· = .int (g i j)) := fun M H vx vy t rx ry Q q => by
  cases rx
  cases ry
  exact ⟨i, j, rfl, rfl, hc, q _ _ H (Same.refl _) rfl (.int _)⟩
theorem od_addI : OpD (rAddU K) (.int i) (.int j) (· = .int (i + j)) := fun M H vx vy t rx ry Q q => .inl (od_I0 M H vx vy t rx ry Q q)
theorem od_addL (hz : xs.length + ys.length ≤ 100000) : OpD (rAddU K) (.list xs) (.list ys) (· = .list (xs ++ ys)) := fun M H vx vy t rx ry Q q => by
  obtain ⟨a, us, rfl, ha, hr⟩ := rx.list_inv
  obtain ⟨c, ws, rfl, hc, hr'⟩ := ry.list_inv
  have h1 := hr.length
  have h2 := hr'.length
  refine .inr (.inl ⟨a, c, us, ws, rfl, rfl, hid_le _ _ ha, hid_le _ _ hc, sz_of (by omega), fun p hp => q _ _ _ (same_upd hp) rfl (.lst (xs := us ++ ws) ?_ ((hr.append hr').up (hid_mono (same_upd hp))))⟩)
  rw [hid_out fun z => t p z hp]
  exact upd_same
theorem od_addT (hz : xs.length + ys.length ≤ 100000) : OpD (rAddU K) (.tuple xs) (.tuple ys) (· = .tuple (xs ++ ys)) := fun M H vx vy t rx ry Q q => by
  obtain ⟨a, us, rfl, ha, hr⟩ := rx.tup_inv
  obtain ⟨c, ws, rfl, hc, hr'⟩ := ry.tup_inv
  have h1 := hr.length
  have h2 := hr'.length
  refine .inr (.inr (.inl ⟨a, c, us, ws, rfl, rfl, .inl (.inl (hid_le _ _ ha)), .inl (.inl (hid_le _ _ hc)), sz_of (by omega), fun e => ?_, fun _ e => ?_, fun _ _ p hp => q _ _ _ (same_upd hp) rfl (.tup (xs := us ++ ws) ?_ ((hr.append hr').up (hid_mono (same_upd hp))))⟩))
  · subst e
    cases hr
    exact q _ _ H (Same.refl _) rfl ry
  · subst e
    cases hr'
    exact q _ _ H (Same.refl _) (by simp) rx
  · rw [hid_out fun z => t p z hp]
    exact upd_same
theorem od_addS {x y : Str} (hz : x.length + y.length ≤ 100000) : OpD (rAddU K) (.str x) (.str y) (· = .str (x ++ y)) := fun M H vx vy t rx ry Q q => by
  cases rx
  cases ry
  exact .inr (.inr (.inr ⟨x, y, rfl, rfl, sz_of hz, q _ _ H (Same.refl _) rfl (.str _)⟩))
theorem od_eq (hx : SeqAt.shaped x = true) (hy : SeqAt.shaped y = true) : OpD (rEqU K) x y (· = .bool (PyData.eqv x y)) := fun M H vx vy t rx ry Q q =>
  .inl ⟨x, y, (rx.up hid_le).dp, (ry.up hid_le).dp, hx, hy, q _ _ H (Same.refl _) rfl (.bl _)⟩
theorem od_ne (hx : SeqAt.shaped x = true) (hy : SeqAt.shaped y = true) : OpD (rNeU K) x y (· = .bool (!PyData.eqv x y)) := fun M H vx vy t rx ry Q q =>
  .inl ⟨x, y, (rx.up hid_le).dp, (ry.up hid_le).dp, hx, hy, q _ _ H (Same.refl _) rfl (.bl _)⟩
theorem od_eqS {x y : Str} : OpD (rEqU K) (.str x) (.str y) (· = .bool (decide (x = y))) := fun M H vx vy t rx ry Q q => by
  cases rx
  cases ry
  have e : decide (V.str x = V.str y) = decide (x = y) := by simp
  refine .inr ⟨rfl, ?_⟩
  rw [e]
  exact q _ _ H (Same.refl _) rfl (.bl _)
theorem od_neS {x y : Str} : OpD (rNeU K) (.str x) (.str y) (· = .bool (!decide (x = y))) := fun M H vx vy t rx ry Q q => by
  cases rx
  cases ry
  have e : decide (V.str x = V.str y) = decide (x = y) := by simp
  refine .inr ⟨rfl, ?_⟩
  rw [e]
  exact q _ _ H (Same.refl _) rfl (.bl _)
theorem od_inL (hx : SeqAt.shaped x = true) (hy : SeqAt.shaped (.list ys) = true) : OpD (rInU K) x (.list ys) (· = .bool (ys.any fun z => PyData.eqv z x)) := fun M H vx vy t rx ry Q q =>
  .inl ⟨x, ys, (rx.up hid_le).dp, (ry.up hid_le).dp, hx, hy, q _ _ H (Same.refl _) rfl (.bl _)⟩
theorem od_niL (hx : SeqAt.shaped x = true) (hy : SeqAt.shaped (.list ys) = true) : OpD (rNiU K) x (.list ys) (· = .bool (!ys.any fun z => PyData.eqv z x)) := fun M H vx vy t rx ry Q q =>
  .inl ⟨x, ys, (rx.up hid_le).dp, (ry.up hid_le).dp, hx, hy, q _ _ H (Same.refl _) rfl (.bl _)⟩
theorem od_inT (hx : SeqAt.shaped x = true) (hy : SeqAt.shaped (.tuple ys) = true) : OpD (rInU K) x (.tuple ys) (· = .bool (ys.any fun z => PyData.eqv z x)) := fun M H vx vy t rx ry Q q =>
  .inr ⟨x, ys, (rx.up hid_le).dp, (ry.up hid_le).dp, hx, hy, by simpa using q _ _ H (Same.refl _) rfl (.bl _)⟩
theorem od_niT (hx : SeqAt.shaped x = true) (hy : SeqAt.shaped (.tuple ys) = true) : OpD (rNiU K) x (.tuple ys) (· = .bool (!ys.any fun z => PyData.eqv z x)) := fun M H vx vy t rx ry Q q =>
  .inr ⟨x, ys, (rx.up hid_le).dp, (ry.up hid_le).dp, hx, hy, by simpa using q _ _ H (Same.refl _) rfl (.bl _)⟩
theorem atI_rp {H : Hp} {vs : List V} {ds : List PyData} {d : PyData} (r : RpL H vs ds) (h : atI ds i = some d) : ∃ v, atI vs i = some v ∧ Rp H v d := by
  unfold atI at h ⊢
  rw [r.length]
  cases e : ixN ds.length i with
  | none => rw [e] at h; cases h
  | some k => rw [e] at h; exact r.get h
theorem od_ixL {d : PyData} (h : atI xs i = some d) : OpD (rIx K) (.list xs) (.int i) (· = d) := fun M H vx vy t rx ry Q q => by
  obtain ⟨a, us, rfl, ha, hr⟩ := rx.list_inv
  cases ry
  obtain ⟨v, hv, rv⟩ := atI_rp hr h
  exact .inl ⟨a, us, i, v, rfl, rfl, .inl (.inl (hid_le _ _ ha)), hv, q _ _ H (Same.refl _) rfl rv⟩
theorem od_ixT {d : PyData} (h : atI xs i = some d) : OpD (rIx K) (.tuple xs) (.int i) (· = d) := fun M H vx vy t rx ry Q q => by
  obtain ⟨a, us, rfl, ha, hr⟩ := rx.tup_inv
  cases ry
  obtain ⟨v, hv, rv⟩ := atI_rp hr h
  exact .inr (.inl ⟨a, us, i, v, rfl, rfl, .inl (.inl (hid_le _ _ ha)), hv, q _ _ H (Same.refl _) rfl rv⟩)
/-! slices -/
def cutD (ds : List PyData) (lo hi : Option Int) : List PyData := (ds.drop (HT.sIx ds.length 0 lo)).take (HT.sIx ds.length ds.length hi - HT.sIx ds.length 0 lo)
theorem cut_rp {H : Hp} {vs : List V} {ds : List PyData} (r : RpL H vs ds) (lo hi : Option Int) : RpL H (cutV vs lo hi) (cutD ds lo hi) := by
  unfold cutV cutD
  rw [r.length]
  exact (r.drop _).take _
theorem cutD_all {ds : List PyData} {lo hi : Option Int} (h : HT.sIx ds.length 0 lo = 0 ∧ HT.sIx ds.length ds.length hi = ds.length) : cutD ds lo hi = ds := by
  unfold cutD
  rw [h.1, h.2]
  simp
end
def EoD (Γ : List Ent) (to : TO) (P : Option Int → Prop) : Prop := ∀ (b : Bs) (G : List (V × PyData)) (M : List Addr) (σ : L2.St) (H : Hp), Sat b G M Γ σ H →
  ∀ Q : Option Int → Hp → Prop, (∀ o H', Sat b G M Γ σ H' → Same (hid b.T H) H' → P o → Q o H') → to σ H Q
def SlD (r : V → Option Int → Option Int → Hp → VK → Prop) (x : PyData) (lo hi : Option Int) (P : PyData → Prop) : Prop := ∀ (M : List Addr) (H : Hp) (vx : V), (∀ a ∈ M, H a ≠ none) → Rp (hid M H) vx x →
  ∀ Q : VK, (∀ v d H', Same H H' → P d → Rp (hid M H') v d → Q v H') → r vx lo hi H Q
section
variable {K : PySem.W.Frag} {Γ : List Ent} {te ta tb : TE} {tl th : TO} {ar : TA} {x d : PyData} {xs ys : List PyData} {i j : Int} {lo hi : Option Int}
theorem eo_none : EoD Γ tNoPart (· = none) := fun b G M σ H S Q q => q none H S hid_le rfl
theorem eo_some {I : Int → Prop} (h : EvR Γ te (fun d => ∃ i, d = .int i ∧ I i)) : EoD Γ (tPart te) (fun o => ∃ i, o = some i ∧ I i) := fun b G M σ H S Q q => h b G M σ H S _ fun v d H1 S1 e1 p1 r1 => by
  obtain ⟨i, rfl, hi⟩ := p1
  cases r1
  exact ⟨i, rfl, q (some i) H1 S1 e1 ⟨i, rfl, hi⟩⟩
theorem eo_int (h : EvD Γ te (.int i)) : EoD Γ (tPart te) (· = some i) := fun b G M σ H S Q q => (eo_some (I := (· = i)) (h.imp fun d e => ⟨i, e, rfl⟩)) b G M σ H S Q fun o H' S' e p => q o H' S' e (by obtain ⟨k, h1, h2⟩ := p; rw [h1, h2])
theorem ev_sl {r : V → Option Int → Option Int → Hp → VK → Prop} {z : PyData} (h : EvD Γ te x) (hl : EoD Γ tl (· = lo)) (hh : EoD Γ th (· = hi)) (hr : SlD r x lo hi (· = z)) : EvD Γ (tSl r te tl th) z := fun b G M σ H S Q q =>
  h b G M σ H S _ fun v d H1 S1 e1 p1 r1 => hl b G M σ H1 S1 _ fun o1 H2 S2 e2 p2 => hh b G M σ H2 S2 _ fun o2 H3 S3 e3 p3 => by
    have q1 : d = x := p1
    have q2 : o1 = lo := p2
    have q3 : o2 = hi := p3
    subst q1 q2 q3
    exact hr M H3 v S3.trk ((r1.up (hid_T S.tm e2)).up (hid_T S.tm e3)) Q fun v' d' H4 e4 p4 r4 => q v' d' H4 (S3.same e4) (sameT_trans (sameT_trans (sameT_trans e1 e2) e3) (sameT_of e4)) p4 r4
theorem sd_L : SlD (rSlU K) (.list xs) lo hi (· = .list (cutD xs lo hi)) := fun M H vx t rx Q q => by
  obtain ⟨a, us, rfl, ha, hr⟩ := rx.list_inv
  refine .inl ⟨a, us, rfl, .inl (.inl (hid_le _ _ ha)), fun p hp => q _ _ _ (same_upd hp) rfl (.lst (xs := cutV us lo hi) ?_ ((cut_rp hr lo hi).up (hid_mono (same_upd hp))))⟩
  rw [hid_out fun z => t p z hp]
  exact upd_same
theorem sd_T : SlD (rSlU K) (.tuple xs) lo hi (· = .tuple (cutD xs lo hi)) := fun M H vx t rx Q q => by
  obtain ⟨a, us, rfl, ha, hr⟩ := rx.tup_inv
  have hl := hr.length
  refine .inr (.inl ⟨a, us, rfl, .inl (.inl (hid_le _ _ ha)), fun e => ?_, fun _ p hp => q _ _ _ (same_upd hp) rfl (.tup (xs := cutV us lo hi) ?_ ((cut_rp hr lo hi).up (hid_mono (same_upd hp))))⟩)
  · rw [hl] at e
    exact q _ _ H (Same.refl _) (by rw [cutD_all e]) rx
  · rw [hid_out fun z => t p z hp]
    exact upd_same
theorem sd_S {z : Str} (hz : z.length ≤ 100000) : SlD (rSlU K) (.str z) lo hi (· = .str (cutS z lo hi)) := fun M H vx t rx Q q => by
  cases rx
  exact .inr (.inr ⟨z, rfl, sz_of hz, q _ _ H (Same.refl _) rfl (.str _)⟩)
theorem ev_revL (h : EvD Γ te (.list xs)) : EvD Γ (tRevL K te) (.list xs.reverse) := fun b G M σ H S Q q => h b G M σ H S _ fun v d H1 S1 e1 p1 r1 => by
  subst p1
  obtain ⟨a, us, rfl, ha, hr⟩ := r1.list_inv
  refine ⟨a, us, rfl, .inl (.inl (hid_le _ _ ha)), fun p hp => q _ _ _ (S1.same (same_upd hp)) (sameT_trans e1 (sameT_of (same_upd hp))) rfl (.lst (xs := us.reverse) ?_ (hr.reverse.up (hid_mono (same_upd hp))))⟩
  rw [hid_out (S1.fresh hp)]
  exact upd_same
/-! calls -/
def rLenU (K : PySem.W.Frag) : List V → Hp → VK → Prop := fun xs H Q => ∃ x n, xs = [x] ∧ LenV K x H n ∧ Q (.int n) H
def rMin2 : List V → Hp → VK → Prop := fun xs H Q => ∃ i j, xs = [.int i, .int j] ∧ Q (.int (if j < i then j else i)) H
def rMax2 : List V → Hp → VK → Prop := fun xs H Q => ∃ i j, xs = [.int i, .int j] ∧ Q (.int (if j > i then j else i)) H
def rListU (K : PySem.W.Frag) : List V → Hp → VK → Prop := fun xs H Q => ∃ p ys, xs = [.ref p] ∧ (SqL K H p ys ∨ SqT K H p ys) ∧ ∀ l, H l = none → Q (.ref l) (upd H l (.lst ys))
def rTupU (K : PySem.W.Frag) : List V → Hp → VK → Prop := fun xs H Q => ∃ p ys, xs = [.ref p] ∧ ((SqL K H p ys ∧ ∀ l, H l = none → Q (.ref l) (upd H l (.tup ys))) ∨ (SqT K H p ys ∧ Q (.ref p) H))
theorem call_lenU {X : Cx} {K : PySem.W.Frag} (hK : X.K = K := by rfl) : CallR X (.builtin "len") (rLenU K) := hK ▸ call_len
theorem call_min2U {X : Cx} (hc : X.calm = true) : CallR X (.builtin "min") rMin2 := call_min2 hc
theorem call_max2U {X : Cx} (hc : X.calm = true) : CallR X (.builtin "max") rMax2 := call_max2 hc
theorem call_listU {X : Cx} {K : PySem.W.Frag} (hK : X.K = K := by rfl) : CallR X (.type "list") (rListU K) := hK ▸ call_list_of
theorem call_tupU {X : Cx} {K : PySem.W.Frag} (hK : X.K = K := by rfl) : CallR X (.type "tuple") (rTupU K) := hK ▸ call_tuple_of
theorem cd_lenL : CbD (rLenU K) [.list xs] (· = .int xs.length) := fun M H vs t r Q q => by
  cases r with
  | cons r1 r2 =>
    cases r2
    obtain ⟨a, us, rfl, ha, hr⟩ := r1.list_inv
    refine ⟨_, us.length, rfl, .inl ⟨us, .inl (.inl (hid_le _ _ ha)), rfl⟩, ?_⟩
    rw [hr.length]
    exact q _ _ H (Same.refl _) rfl (.int _)
theorem cd_lenT : CbD (rLenU K) [.tuple xs] (· = .int xs.length) := fun M H vs t r Q q => by
  cases r with
  | cons r1 r2 =>
    cases r2
    obtain ⟨a, us, rfl, ha, hr⟩ := r1.tup_inv
    refine ⟨_, us.length, rfl, .inr ⟨us, .inl (.inl (hid_le _ _ ha)), rfl⟩, ?_⟩
    rw [hr.length]
    exact q _ _ H (Same.refl _) rfl (.int _)
theorem cd_lenS {z : Str} (hz : z.length ≤ 100000) : CbD (rLenU K) [.str z] (· = .int z.length) := fun M H vs t r Q q => by
  cases r with
  | cons r1 r2 =>
    cases r2
    cases r1
    exact ⟨_, z.length, rfl, ⟨sz_of hz, rfl⟩, q _ _ H (Same.refl _) rfl (.int _)⟩
theorem cd_min2 : CbD rMin2 [.int i, .int j] (· = .int (if j < i then j else i)) := fun M H vs t r Q q => by
  cases r with
  | cons r1 r2 =>
    cases r2 with
    | cons r2 r3 =>
      cases r3
      cases r1
      cases r2
      exact ⟨i, j, rfl, q _ _ H (Same.refl _) rfl (.int _)⟩
theorem cd_max2 : CbD rMax2 [.int i, .int j] (· = .int (if j > i then j else i)) := fun M H vs t r Q q => by
  cases r with
  | cons r1 r2 =>
    cases r2 with
    | cons r2 r3 =>
      cases r3
      cases r1
      cases r2
      exact ⟨i, j, rfl, q _ _ H (Same.refl _) rfl (.int _)⟩
theorem rp_new {M : List Addr} {H : Hp} {p : Addr} {us : List V} (t : ∀ a ∈ M, H a ≠ none) (hp : H p = none) (hr : RpL (hid M H) us xs) : Rp (hid M (upd H p (.lst us))) (.ref p) (.list xs) := .lst (xs := us) (by
  rw [hid_out fun z => t p z hp]
  exact upd_same) (hr.up (hid_mono (same_upd hp)))
theorem rp_newT {M : List Addr} {H : Hp} {p : Addr} {us : List V} (t : ∀ a ∈ M, H a ≠ none) (hp : H p = none) (hr : RpL (hid M H) us xs) : Rp (hid M (upd H p (.tup us))) (.ref p) (.tuple xs) := .tup (xs := us) (by
  rw [hid_out fun z => t p z hp]
  exact upd_same) (hr.up (hid_mono (same_upd hp)))
theorem cd_listL : CbD (rListU K) [.list xs] (· = .list xs) := fun M H vs t r Q q => by
  cases r with
  | cons r1 r2 =>
    cases r2
    obtain ⟨a, us, rfl, ha, hr⟩ := r1.list_inv
    exact ⟨a, us, rfl, .inl (.inl (.inl (hid_le _ _ ha))), fun p hp => q _ _ _ (same_upd hp) rfl (rp_new t hp hr)⟩
theorem cd_listT : CbD (rListU K) [.tuple xs] (· = .list xs) := fun M H vs t r Q q => by
  cases r with
  | cons r1 r2 =>
    cases r2
    obtain ⟨a, us, rfl, ha, hr⟩ := r1.tup_inv
    exact ⟨a, us, rfl, .inr (.inl (.inl (hid_le _ _ ha))), fun p hp => q _ _ _ (same_upd hp) rfl (rp_new t hp hr)⟩
theorem cd_tupL : CbD (rTupU K) [.list xs] (· = .tuple xs) := fun M H vs t r Q q => by
  cases r with
  | cons r1 r2 =>
    cases r2
    obtain ⟨a, us, rfl, ha, hr⟩ := r1.list_inv
    exact ⟨a, us, rfl, .inl ⟨.inl (.inl (hid_le _ _ ha)), fun p hp => q _ _ _ (same_upd hp) rfl (rp_newT t hp hr)⟩⟩
theorem cd_tupT : CbD (rTupU K) [.tuple xs] (· = .tuple xs) := fun M H vs t r Q q => by
  cases r with
  | cons r1 r2 =>
    cases r2
    obtain ⟨a, us, rfl, ha, hr⟩ := id r1.tup_inv
    exact ⟨a, us, rfl, .inr ⟨.inl (.inl (hid_le _ _ ha)), q _ _ H (Same.refl _) rfl r1⟩⟩
theorem cd_all {bs : List Bool} : CbD (rAll K) [.list (bs.map .bool)] (· = .bool (bs.all id)) := fun M H vs t r Q q => by
  cases r with
  | cons r1 r2 =>
    cases r2
    obtain ⟨a, us, rfl, ha, hr⟩ := r1.list_inv
    rw [hr.bools] at ha
    exact ⟨a, bs, rfl, .inl (.inl (hid_le _ _ ha)), q _ _ H (Same.refl _) rfl (.bl _)⟩
theorem cd_max {ns : List Int} {m : Int} (hm : m ∈ ns) (hg : ∀ y ∈ ns, y ≤ m) : CbD (rMax K) [.list (ns.map .int)] (· = .int m) := fun M H vs t r Q q => by
  cases r with
  | cons r1 r2 =>
    cases r2
    obtain ⟨a, us, rfl, ha, hr⟩ := r1.list_inv
    rw [hr.ints] at ha
    refine ⟨a, ns, rfl, .inl (.inl (hid_le _ _ ha)), List.length_pos_of_mem hm, fun m' h1 h2 => ?_⟩
    have e : m' = m := Int.le_antisymm (hg m' h1) (h2 m hm)
    subst e
    exact q _ _ H (Same.refl _) rfl (.int _)
theorem cd_min {ns : List Int} {m : Int} (hm : m ∈ ns) (hg : ∀ y ∈ ns, m ≤ y) : CbD (rMin K) [.list (ns.map .int)] (· = .int m) := fun M H vs t r Q q => by
  cases r with
  | cons r1 r2 =>
    cases r2
    obtain ⟨a, us, rfl, ha, hr⟩ := r1.list_inv
    rw [hr.ints] at ha
    refine ⟨a, ns, rfl, .inl (.inl (hid_le _ _ ha)), List.length_pos_of_mem hm, fun m' h1 h2 => ?_⟩
    have e : m' = m := Int.le_antisymm (h2 m hm) (hg m' h1)
    subst e
    exact q _ _ H (Same.refl _) rfl (.int _)
/-! isinstance -/
def tyD : PyData → String
  | .none => "NoneType"
  | .bool _ => "bool"
  | .int _ => "int"
  | .str _ => "str"
  | .list _ => "list"
  | .tuple _ => "tuple"
  | .dict _ => "dict"
theorem tyx_of {M : List Addr} {H : Hp} {v : V} (r : Rp (hid M H) v d) : TyX K H v (.type (tyD d)) := by
  cases r with
  | non => exact .base .non
  | bl k => exact .base (.bl k)
  | int k => exact .base (.int k)
  | str k => exact .base (.str k)
  | lst h1 h2 => exact .base (.lst (hid_le _ _ h1))
  | tup h1 h2 => exact .base (.tup (hid_le _ _ h1))
theorem ev_isi {n : String} {r : Bool} (h : EvD Γ ta d) (hk : kitB (tyD d) n = some r) : EvD Γ (tCB (rIsi K) (tCons ta (tCons (tC (.ty n)) tNil))) (.bool r) := fun b G M σ H S Q q => h b G M σ H S _ fun v d' H1 S1 e1 p1 r1 => by
  have p1' : d' = d := p1
  subst p1'
  exact ⟨v, .ty n, .type (tyD d'), .type n, r, rfl, .ty n, tyx_of r1, kit_ty hk, q _ _ H1 S1 e1 rfl (.bl _)⟩
theorem ev_isi2 {n n2 : String} {r1 r2 : Bool} (h : EvD Γ ta d) (hk : kitB (tyD d) n = some r1) (hk2 : kitB (tyD d) n2 = some r2) : EvD Γ (tCB (rIsiT K) (tCons ta (tCons (tTup (tCons (tC (.ty n)) (tCons (tC (.ty n2)) tNil))) tNil))) (.bool (r1 || r2)) := fun b G M σ H S Q q => h b G M σ H S _ fun v d' H1 S1 e1 p1 rr => by
  have p1' : d' = d := p1
  subst p1'
  refine ⟨by show 2 ≤ sizeLine; decide, fun p hp => ?_⟩
  have e2 := same_upd (o := .tup [V.ty n, V.ty n2]) hp
  refine ⟨v, p, [.ty n, .ty n2], .type (tyD d'), [.type n, .type n2], r1 || r2, rfl, upd_same, .cons (.ty n) (.cons (.ty n2) .nil), tyx_of (rr.up (hid_mono e2)), ?_, q _ _ _ (S1.same e2) (sameT_trans e1 (sameT_of e2)) rfl (.bl _)⟩
  exact kitAny_cons (kit_ty hk) (fun e => by
    subst e
    exact kitAny_cons (kit_ty hk2) (fun e => by rw [kitAny_nil, e]; rfl) fun e => by rw [e]; rfl) fun e => by rw [e]; rfl
end
end Dz

set_option Elab.async false
set_option linter.all false
set_option maxRecDepth 100000
set_option maxHeartbeats 2000000
/-! sorted of tuples and lists of data -/
namespace PySem.W
open PySem PySem.Calls PyProof.Rows PySem.SeqAt
section
variable {prog : Program} {w : World} {A : Around} {E : Value → Shared → Prop} {s : Shared}
theorem collect_tupD {l : Addr} {vs : List Value} {Q : List Value → Shared → Prop} (hl : IsTup s.heap l vs.toArray)
    (h : Q vs { s with heap := (s.heap.push (seqObj "list" #[] 0)).update s.heap.objs.size (Obj.mapSeq (· ++ vs.toArray)) }) (hsz : vs.length ≤ sizeLine) :
    wpAny (model prog w) A (collect (.ref l)) Q E s := by
  obtain ⟨o, ho, hc, n, hd⟩ := id hl
  unfold collect
  refine wpAny_bind (wpAny_runValue (codeAny_builtin entry_proto_collect' ?_))
  show wpAny _ _ (do again (.builtin "list.__iadd__" ⟨[← newList [], .ref l], []⟩)) _ _ s
  refine wpAny_bind (wpAny_newList (wpAny_pure ⟨Code.quiet_builtin _ (by decide +kernel), codeAny_builtin entry_list_iadd' ?_⟩))
  show wpAny _ _ (Builtin.List.listExtendWith (.ref s.heap.objs.size) (.ref l) (.ref s.heap.objs.size)) _ _ { s with heap := s.heap.push (seqObj "list" #[] 0) }
  unfold Builtin.List.listExtendWith
  have ho' : (s.heap.push (seqObj "list" #[] 0)).get? l = some o := Heap.get?_push_of_some _ ho
  refine wpAny_bind (wpAny_typeOf (T := "tuple") ⟨o, ho', hc⟩ ?_)
  have ht : (Value.type "tuple" == Value.type "tuple") = true := by rfl
  rw [if_pos (by rw [ht]; simp)]
  refine wpAny_bind (listItems_at ho' hd ?_)
  refine wpAny_bind (listItems_at (xs := #[]) (n := 0) (Heap.get?_push_size _ rfl) rfl ?_)
  rw [if_neg (by simp)]
  refine wpAny_bind (listUpdate_at (xs := #[]) (n := 0) (Heap.get?_push_size _ rfl) rfl ?_ (Nat.zero_le _) (by show (#[] ++ vs.toArray).size ≤ sizeLine + 1; simp only [Array.size_append, List.size_toArray, List.length_nil]; omega))
  refine wpAny_pure ?_
  show wpAny (model prog w) A (do
      let o ← load s.heap.objs.size
      match o.data with
      | .seq xs _ => pure xs.toList
      | _ => unsupported "internal:collect") Q E { s with heap := (s.heap.push (seqObj "list" #[] 0)).update s.heap.objs.size (Obj.mapSeq (· ++ vs.toArray)) }
  refine wpAny_bind (wpAny_load (get?_update_seq (Heap.get?_push_size _ rfl) _) ?_)
  show wpAny _ _ (pure ((#[] : Array Value) ++ vs.toArray).toList) Q E _
  rw [show ((#[] : Array Value) ++ vs.toArray).toList = vs by simp]
  exact wpAny_pure h
theorem sorted_of_sortT {l : Addr} {vs : List Value} {kw : List (Str × Value)} {Q : Value → Shared → Prop} (hl : IsTup s.heap l vs.toArray) (hL : vs.length ≤ sizeLine) (ha1 : argsOk "sorted" ⟨[.ref l], kw⟩) (ha2 : ∀ x, argsOk "list.sort" ⟨[.ref x], kw⟩)
    (body : ∀ E' : Value → Shared → Prop, wpAny (model prog w) A.in1.in1 (Builtin.«list.sort» ⟨[.ref (s.heap.objs.size + 1)], kw⟩) (fun f s' => f = .done (.ret .none) ∧ Q (.ref (s.heap.objs.size + 1)) s') E' { s with heap := copyHeap s.heap vs }) :
    wpAny (model prog w) A (call (.builtin "sorted") [.ref l] kw) Q E s := by
  refine call_function_entry_kw kind_sorted plain_sorted entry_sorted ha1 ?_
  unfold Builtin.«sorted»
  refine wpAny_bind (m := checkCount "sorted" 1 1 _) (wpAny_pure ?_)
  refine wpAny_bind (collect_tupD hl ?_ hL)
  refine wpAny_bind (wpAny_newList ?_ hL)
  have hsz : ((s.heap.push (seqObj "list" #[] 0)).update s.heap.objs.size (Obj.mapSeq (· ++ vs.toArray))).objs.size = s.heap.objs.size + 1 := by
    rw [Heap.size_update, size_push']
  show wpAny _ _ _ _ _ { s with heap := copyHeap s.heap vs }
  rw [hsz]
  refine wpAny_bind (wpAny_holding (wpAny_call_entry_kw slot_list_sort ⟨_, copyHeap_at s.heap vs, rfl⟩ entry_list_sort ?body (ha2 _)))
  case body =>
    show wpAny (model prog w) A.in1.in1 (Builtin.«list.sort» ⟨[.ref (s.heap.objs.size + 1)], kw⟩) _ _ _
    refine wpAny_mono (body _) (fun f s' hf => ?_) fun _ _ e => e
    obtain ⟨rfl, hq⟩ := hf
    exact ⟨_, rfl, wpAny_pure ⟨_, rfl, hq⟩⟩
/-- a tuple against a tuple, as sorting compares them -/
theorem call_tuple_ltD {Q : Value → Shared → Prop} {l b : Addr} {items items2 : Array Value} {e r : Nat → Bool} (hl : s.heap.IsTuple l items) (hb : s.heap.IsTuple b items2)
    (he : ∀ j (h1 : j < items.size) (h2 : j < items2.size), EqAt A.in1 s items[j] items2[j] (e j)) (hr : ∀ j (h1 : j < items.size) (h2 : j < items2.size), e j = false → RcLt A.in1 s items[j] items2[j] (r j))
    (h : Q (.bool (firstLt e r (decide (items.size < items2.size)) (List.range (min items.size items2.size)))) s) : wpAny (model prog w) A (call (.builtin "tuple.__lt__") [.ref l, .ref b]) Q E s := by
  obtain ⟨⟨cls, dd, data, sl⟩, ho, hc, n, hd⟩ := id hl
  obtain ⟨⟨cls2, dd2, data2, sl2⟩, ho2, hc2, n2, hd2⟩ := id hb
  simp only at hc hd hc2 hd2
  subst hc hd hc2 hd2
  exact call_meets F.slot_tuple_lt ⟨_, ho, rfl⟩ F.entry_tuple_lt (F.args_tuple_lt_2 _ _) (tuple_ltAt l b items items2 n n2 dd dd2 sl sl2 e r) ⟨ho, ho2, he, hr, h⟩
theorem oneLt_tupD {xs ys : List PyData} {a b : Value} {as bs : List Addr} {Q : Bool → Shared → Prop} (ra : Reads s.heap a (.tuple xs) as) (rb : Reads s.heap b (.tuple ys) bs) (hal : alikeAll xs ys = true)
    (hu : A.units + min (PyData.tuple xs).depth (PyData.tuple ys).depth < cLine) (hq : Q (dataLt (.tuple xs) (.tuple ys)) s) : wpAny (model prog w) A (oneLt' true a b) Q E s := by
  cases ra with
  | @tuple l o vs n _ as₁ h1 h2 h3 h4 =>
    cases rb with
    | @tuple l' o' vs' n' _ bs₁ k1 k2 k3 k4 =>
      have n1 : vs.size = xs.length := by simpa using ReadsAll.length _ _ _ h4
      have n2 : vs'.size = ys.length := by simpa using ReadsAll.length _ _ _ k4
      rw [dataLt_tuple, ← firstLt_toks xs ys hal, ← n1, ← n2] at hq
      rw [oneLt'_eq]
      simp only [if_true]
      refine wpAny_bind (wpAny_cRoomFor (room_here hu) ?_)
      refine wpAny_bind (wpAny_callSpecialIfBound?_slot (T := "tuple") ⟨_, h1, h2⟩ F.slot_tuple_lt (call_tuple_ltD (e := pairEq xs ys) (r := fun j => dataLt (xs.getD j .none) (ys.getD j .none)) ⟨_, h1, h2, _, h3⟩ ⟨_, k1, k2, _, k3⟩ (fun j j1 j2 => ?_) (fun j j1 j2 hj => ?_) ?_))
      · have := eqAt_alikeAll xs ys A.in1 s vs.toList vs'.toList _ _ h4 k4 hal (room_in hu) j (by simpa using j1) (by simpa using j2)
        simpa using this
      · have := rcLt_alikeAll xs ys A.in1 s vs.toList vs'.toList _ _ h4 k4 hal (room_in hu) j (by simpa using j1) (by simpa using j2) hj
        simpa using this
      · exact wpAny_truthy_bool hq
theorem mapM_each {M : Model} {α β : Type} {f : α → Sem β} {r : α → β} : ∀ (l : List α) {Q : List β → Shared → Prop}, (∀ v ∈ l, ∀ (Q' : β → Shared → Prop), Q' (r v) s → wpAny M A (f v) Q' E s) → Q (l.map r) s → wpAny M A (l.mapM f) Q E s
  | [], _, _, h => by rw [List.mapM_nil]; exact wpAny_pure h
  | x :: l, Q, hf, h => by
    rw [List.mapM_cons]
    exact wpAny_bind (hf x (.head _) _ (wpAny_bind (mapM_each l (Q := fun bs s' => wpAny M A (pure (r x :: bs)) Q E s') (fun v hv => hf v (.tail _ hv)) (wpAny_pure h))))
/-- the first key an empty tuple, all keys tuples -/
theorem kind_empty {v₀ : Value} {vs : List Value} {Q : SortKind → Shared → Prop} {items : Value → Array Value} (hT : ∀ v ∈ v₀ :: vs, ∃ l, v = .ref l ∧ IsTup s.heap l (items v)) (h0 : items v₀ = #[]) (h : Q oneType' s) :
    wpAny (model prog w) A (keyKind' (v₀ :: vs).toArray) Q E s := by
  rw [keyKind'_eq, List.mapM_toArray, map_eq_pure_bind]
  refine wpAny_bind (wpAny_bind (mapM_each (r := fun v => (items v)[0]?) _ (fun v hv Q' hq => ?_) (wpAny_pure ?_)))
  · rw [kas_first_eq]
    obtain ⟨l, rfl, o, ho, hc, n, hd⟩ := hT v hv
    refine wpAny_bind (wpAny_typeOf (T := "tuple") ⟨o, ho, hc⟩ ?_)
    rw [if_neg (by decide)]
    refine wpAny_bind (listItems_at ho hd ?_)
    exact wpAny_pure hq
  · rw [if_neg (by simp [h0]), if_neg (by simp [h0])]
    rw [oneTypeOnly'_eq, List.mapM_toArray, map_eq_pure_bind]
    refine wpAny_bind (wpAny_bind (wpAny_bind (mapM_each (r := fun _ => Value.type "tuple") _ (fun v hv Q' hq => ?_) (wpAny_pure ?_))))
    · obtain ⟨l, rfl, o, ho, hc, n, hd⟩ := hT v hv
      exact wpAny_typeOf (T := "tuple") ⟨o, ho, hc⟩ hq
    · have hall : ((List.map (fun _ => Value.type "tuple") (v₀ :: vs)).toArray.all fun x => x == Value.type "tuple") = true := by
        simp only [List.all_toArray, List.all_map, List.all_eq_true]
        intro _ _
        rfl
      have h0 : (List.map (fun _ => Value.type "tuple") (v₀ :: vs)).toArray[0]? = some (Value.type "tuple") := by simp
      rw [h0]
      simp only [hall, if_true]
      exact wpAny_pure (wpAny_pure h)
/-- what the values of tuples hold -/
theorem SortsAt.zeroD {vs : List Value} {ds : List PyData} (e : EachIs (fun v d => ∃ as, Reads s.heap v d as) vs (.tuple [] :: ds)) (hal : AllAlike (.tuple [] :: ds)) (hk : ∀ d ∈ ds, ∃ xs, d = .tuple xs) (hu : ∀ d, d ∈ PyData.tuple [] :: ds → A.units + d.depth < cLine) : SortsAt prog w A s (dataKind s.heap (.tuple [] :: ds)) vs := by
  have hk' : ∀ d, d ∈ PyData.tuple [] :: ds → ∃ xs, d = .tuple xs := fun d hd => by
    rcases List.mem_cons.mp hd with e | hd
    · exact ⟨[], e⟩
    · exact hk d hd
  refine ⟨fun v hv => ?_, oneType', ?_, fun h2 E Q hq => ?_⟩
  · obtain ⟨d, hd, as, r⟩ := e.left v hv
    exact ⟨_, dataKind_some hal hd r⟩
  · intro E x y a b Q ha hb hq
    obtain ⟨d, as, hd, ra, rfl⟩ := dataKind_inv ha
    obtain ⟨d', as', hd', rb, rfl⟩ := dataKind_inv hb
    rw [keyLt'_oneType]
    have hdd := hal d hd d' hd'
    have hroom := Nat.lt_of_le_of_lt (Nat.add_le_add_left (Nat.min_le_left _ d'.depth) _) (hu d hd)
    obtain ⟨x1, rfl⟩ := hk' d hd
    obtain ⟨x2, rfl⟩ := hk' d' hd'
    exact oneLt_tupD ra rb (by simpa [alike] using hdd) hroom hq
  · cases e with
    | @cons v₀ _ vs' _ h0 t =>
      obtain ⟨as, r0⟩ := h0
      have each : ∀ v ∈ v₀ :: vs', ∃ l its, v = .ref l ∧ IsTup s.heap l its := fun v hv => by
        have : ∃ d, d ∈ PyData.tuple [] :: ds ∧ ∃ as, Reads s.heap v d as := by
          rcases List.mem_cons.mp hv with e | hv
          · exact ⟨_, List.mem_cons_self, as, e ▸ r0⟩
          · obtain ⟨d, hd, as, r⟩ := t.left v hv
            exact ⟨d, List.mem_cons_of_mem _ hd, as, r⟩
        obtain ⟨d, hd, as, r⟩ := this
        obtain ⟨xs, rfl⟩ := hk' d hd
        cases r with
        | @tuple l o us n _ _ h1 h2 h3 h4 => exact ⟨l, us, rfl, o, h1, h2, n, h3⟩
      have pick : ∃ items : Value → Array Value, (∀ v ∈ v₀ :: vs', ∃ l, v = .ref l ∧ IsTup s.heap l (items v)) := by
        refine ⟨fun v => (match v with | .ref l => (match s.heap.get? l with | some o => (match o.data with | .seq us _ => us | _ => #[]) | none => #[]) | _ => #[]), fun v hv => ?_⟩
        obtain ⟨l, its, rfl, o, h1, h2, n, h3⟩ := each v hv
        refine ⟨l, rfl, o, h1, h2, n, ?_⟩
        simp only [h1, h3]
      obtain ⟨items, hi⟩ := pick
      refine kind_empty (items := items) hi ?_ hq
      obtain ⟨l, hl, o, h1, h2, n, h3⟩ := hi v₀ List.mem_cons_self
      subst hl
      cases r0 with
      | @tuple l' o' us n' _ _ g1 g2 g3 g4 =>
        rw [h1] at g1
        cases g1
        rw [h3] at g3
        have g3' : items (.ref l) = us := by injection g3
        rw [g3']
        cases q : us.toList with
        | nil => exact Array.toList_eq_nil_iff.mp q
        | cons f fr => rw [q] at g4; cases g4
end
end PySem.W

namespace Dz
open PySem PySem.Spec PyProof.Rows L2
/-- what can be sorted: all tuples of one item at least, or none a tuple or None, or the first one empty and all tuples -/
def Srt (ds : List PyData) : Prop := PySem.W.Sortable ds ∨ ∃ es, ds = .tuple [] :: es ∧ ∀ d ∈ es, ∃ xs, d = .tuple xs
def sortD (ds : List PyData) : List PyData := ds.mergeSort (PySem.W.dataLe false id)
/-- sorted(a list or a tuple): Rr is what is known of its items -/
def rSortU (K : PySem.W.Frag) : List V → Hp → VK → Prop := fun vs H Q => ∃ (a : Addr) (xs : List V) (ds : List PyData) (Rr : V → PyData → Prop), vs = [.ref a] ∧ (SqL K H a xs ∨ SqT K H a xs) ∧ Paired Rr xs ds ∧ (∀ x d, Rr x d → Dp K H x d) ∧ PySem.W.AllAlike ds ∧ Srt ds ∧ (∀ d ∈ ds, d.depth ≤ 16) ∧
  ∀ (p : Addr) (ys : List V), H p = none → Paired Rr ys (sortD ds) → Q (.ref p) (upd H p (.lst ys))
theorem each_paired {α β : Type} {R : α → β → Prop} : ∀ {as : List α} {bs : List β}, PySem.W.EachIs R as bs → Paired R as bs
  | _, _, .nil => .nil
  | _, _, .cons h t => .cons h (each_paired t)
theorem paired_split {R : V → PyData → Prop} : ∀ {us : List Value} {ds : List PyData}, PySem.W.EachIs (fun u d => ∃ x, RelV x u ∧ R x d) us ds → ∃ ys, Vals ys us ∧ Paired R ys ds
  | _, _, .nil => ⟨[], .nil, .nil⟩
  | _, _, .cons ⟨x, h1, h2⟩ t => by
    obtain ⟨ys, g1, g2⟩ := paired_split t
    exact ⟨x :: ys, .cons h1 g1, .cons h2 g2⟩
theorem each_of_vals {R : V → PyData → Prop} : ∀ {xs : List V} {us : List Value} {ds : List PyData}, Vals xs us → Paired R xs ds → PySem.W.EachIs (fun u d => ∃ x, RelV x u ∧ R x d) us ds
  | _, _, _, .nil, .nil => .nil
  | _, _, _, .cons r t, .cons p q => .cons ⟨_, r, p⟩ (each_of_vals t q)
theorem vals_len {xs : List V} {us : List Value} (r : Vals xs us) : us.length = xs.length := r.length.symm
theorem call_sortU {X : Cx} (hu : X.A.units + 64 < cLine) : CallR X (.builtin "sorted") (rSortU X.K) := by
  intro pins s σ H vs us Q I r h
  obtain ⟨a, xs, ds, Rr, rfl, hq, hp, hd, hal, hsrt, hdep, q⟩ := h
  obtain ⟨u, rfl, ru⟩ := vals1 r
  cases ru
  have main : ∀ its : List Value, Vals xs its → xs.length ≤ sizeLine → (∀ (out : List Value), out.length = ds.length → PySem.W.EachIs (fun u d => ∃ x, RelV x u ∧ Rr x d) out (sortD ds) → EP X pins σ Q (.ref (s.heap.objs.size + 1)) { s with heap := sortedAll s.heap its (List.toArray out) }) := fun its rv hz out ho he => by
    obtain ⟨ys, g1, g2⟩ := paired_split he
    obtain ⟨ep, he'⟩ := PyProof.Rows.sortedAll_at s.heap its (List.toArray out)
    have hl1 := hp.length
    have hl2 := g1.length
    refine ⟨.ref _, upd H (s.heap.objs.size + 1) (.lst ys), I.laid (t' := s.toks) (fun _ _ => PyProof.Rows.sortedAll_old) (Nat.le_succ _) ⟨by omega, out, ep, g1, by simpa using he'⟩, rfl, q _ ys (I.hok.fresh (Nat.le_succ _)) g2⟩
  have reads : ∀ its : List Value, Vals xs its → PySem.W.EachIs (fun v d => ∃ as, Reads s.heap v d as) its ds := fun its rv =>
    (each_of_vals rv hp).mono fun u d ⟨x, h1, h2⟩ => Dp.reads I d x u (hd x d h2) h1
  have hub : ∀ d, d ∈ ds → X.A.in1.in1.units + d.depth < cLine := fun d hd => by
    have := hdep d hd
    show X.A.units + 1 + 1 + d.depth < cLine
    omega
  have sorts : ∀ (its : List Value) (rv : Vals xs its), PySem.W.SortsAt X.prog X.w X.A.in1.in1 { s with heap := PySem.W.sortingHeap (PySem.W.copyHeap s.heap its) (s.heap.objs.size + 1) its } (PySem.W.dataKind (PySem.W.sortingHeap (PySem.W.copyHeap s.heap its) (s.heap.objs.size + 1) its) ds) its := fun its rv => by
    have er : PySem.W.EachIs (fun v d => ∃ as, Reads (PySem.W.sortingHeap (PySem.W.copyHeap s.heap its) (s.heap.objs.size + 1) its) v d as) its ds := (reads its rv).mono fun _ _ ⟨as, r⟩ => ⟨as, PyProof.Rows.Reads.keeps (fun _ _ => PySem.W.sorting_copy_old) r⟩
    rcases hsrt with h | ⟨es, rfl, h⟩
    · exact PySem.W.SortsAt.data (s := { s with heap := PySem.W.sortingHeap (PySem.W.copyHeap s.heap its) (s.heap.objs.size + 1) its }) er hal h hub
    · exact PySem.W.SortsAt.zeroD (s := { s with heap := PySem.W.sortingHeap (PySem.W.copyHeap s.heap its) (s.heap.objs.size + 1) its }) er hal h hub
  have fin : ∀ (its : List Value) (rv : Vals xs its) (hz : xs.length ≤ sizeLine), EP X pins σ Q (.ref (s.heap.objs.size + 1)) { s with heap := sortedAll s.heap its (PySem.W.sortVals (PySem.W.dataKind (PySem.W.sortingHeap (PySem.W.copyHeap s.heap its) (s.heap.objs.size + 1) its) ds) false its its).toArray } := fun its rv hz => by
    have er : PySem.W.EachIs (fun v d => ∃ as, Reads (PySem.W.sortingHeap (PySem.W.copyHeap s.heap its) (s.heap.objs.size + 1) its) v d as) its ds := (reads its rv).mono fun _ _ ⟨as, r⟩ => ⟨as, PyProof.Rows.Reads.keeps (fun _ _ => PySem.W.sorting_copy_old) r⟩
    have e0 := each_of_vals rv hp
    refine main its rv hz _ (by rw [PySem.W.sortVals_length false rfl]; exact e0.length) ?_
    have hal' : PySem.W.AllAlike (ds.map id) := by rw [List.map_id]; exact hal
    have := PySem.W.sortVals_data (enc := id) false e0 er hal'
    rw [List.map_id] at this
    exact this
  rcases hq with hq | hq
  · obtain ⟨its, rv, hl, hz⟩ := I.list hq
    have hlen := rv.length
    exact PySem.W.sorted_vals hl.isList (sorts its rv) (by omega) (fin its rv hz)
  · obtain ⟨its, rv, hl, hz⟩ := I.tuple hq
    have hlen := rv.length
    exact PySem.W.sorted_of_sortT hl (by omega) (args_sorted1 _) (fun _ => args_list_sort _) fun _ => PySem.W.list_sort_vals (s := { s with heap := PySem.W.copyHeap s.heap its }) (PySem.W.copyHeap_at s.heap its) (sorts its rv) (by omega) ⟨rfl, fin its rv hz⟩
theorem call_sortE {X : Cx} {K : PySem.W.Frag} (hu : X.A.units + 64 < cLine) (hK : X.K = K := by rfl) : CallR X (.builtin "sorted") (rSortU K) := hK ▸ call_sortU hu
section
variable {K : PySem.W.Frag} {xs : List PyData}
theorem paired_of {H : Hp} : ∀ {vs : List V} {ds : List PyData}, RpL H vs ds → Paired (Rp H) vs ds
  | _, _, .nil => .nil
  | _, _, .cons r t => .cons r (paired_of t)
theorem of_paired {H : Hp} : ∀ {vs : List V} {ds : List PyData}, Paired (Rp H) vs ds → RpL H vs ds
  | _, _, .nil => .nil
  | _, _, .cons r t => .cons r (of_paired t)
theorem cd_sortL (hal : PySem.W.AllAlike xs) (hs : Srt xs) (hd : ∀ d ∈ xs, d.depth ≤ 16) : CbD (rSortU K) [.list xs] (· = .list (sortD xs)) := fun M H vs t r Q q => by
  cases r with
  | cons r1 r2 =>
    cases r2
    obtain ⟨a, us, rfl, ha, hr⟩ := r1.list_inv
    exact ⟨a, us, xs, Rp (hid M H), rfl, .inl (.inl (.inl (hid_le _ _ ha))), paired_of hr, fun x d h => (h.up hid_le).dp, hal, hs, hd, fun p ys hp h => q _ _ _ (same_upd hp) rfl (rp_new t hp (of_paired h))⟩
theorem cd_sortT (hal : PySem.W.AllAlike xs) (hs : Srt xs) (hd : ∀ d ∈ xs, d.depth ≤ 16) : CbD (rSortU K) [.tuple xs] (· = .list (sortD xs)) := fun M H vs t r Q q => by
  cases r with
  | cons r1 r2 =>
    cases r2
    obtain ⟨a, us, rfl, ha, hr⟩ := r1.tup_inv
    exact ⟨a, us, xs, Rp (hid M H), rfl, .inr (.inl (.inl (hid_le _ _ ha))), paired_of hr, fun x d h => (h.up hid_le).dp, hal, hs, hd, fun p ys hp h => q _ _ _ (same_upd hp) rfl (rp_new t hp (of_paired h))⟩
end
end Dz

set_option Elab.async false
set_option linter.all false
set_option maxRecDepth 100000
set_option maxHeartbeats 2000000
namespace Dz
open PySem PySem.Spec PyProof.Rows L2

/-! ### defs that are called -/
structure Callee (P : Program) (w : World) (K : PySem.W.Frag) (mg : Str → Option Value) (base : Heap) (x : Str) (k : Nat) (ps : List Str) (sp : Sp) : Prop where
  ex : ∃ (f : Addr) (fd : FuncData), FnOk P w K mg base CX0 k f fd ps sp ∧ PySem.W.keepIn K (.ref f) = true ∧ Binds K fd ps [] ∧ mg x = some (.ref f)
section
variable {X : Cx} {x : Str} {k : Nat} {ps : List Str} {sp : Sp} {e : Expr} {es : List Expr} {t : TA} {p pos : Pos}
theorem pe_callC (C : Callee X.prog X.w X.K X.mg X.base x k ps sp) (hr : Room k X.A) (hg : Gl X x) (ha : PA X (e :: es) t) (hdb : (x == ("__debug__" : Str)) = false := by decide) (he : starEach (e :: es) X.env = (false, eval e X.env) :: starEach es X.env := by rfl)
    (hpl : (backTo pos (starEach es X.env)).any (·.1) = false := by rfl) : PE X (.Call (.Name x p) (e :: es) [] pos) (tCall sp [] E0 t) := by
  obtain ⟨f, fd, F, hk, hb, hm⟩ := C.ex
  exact pe_call F hr hg hm hk hb .nil pass0 ha hdb he hpl
theorem pe_constI {i : Int} (h : ∃ t, X.mg x = some (.int i t)) (hg : Gl X x) (hdb : (x == ("__debug__" : Str)) = false := by decide) : PE X (.Name x p) (tC (.int i)) := by
  obtain ⟨t, h⟩ := h
  exact pe_glob hg h ⟨t, rfl⟩ hdb
end
theorem Callee.mono {P : Program} {w : World} {K : PySem.W.Frag} {mg : Str → Option Value} {base : Heap} {x : Str} {k j : Nat} {ps : List Str} {sp : Sp} (C : Callee P w K mg base x k ps sp) (h : k ≤ j) : Callee P w K mg base x j ps sp := by
  obtain ⟨f, fd, F, r⟩ := C.ex
  exact ⟨f, fd, F.mono h, r⟩
theorem Callee.imp {P : Program} {w : World} {K : PySem.W.Frag} {mg : Str → Option Value} {base : Heap} {x : Str} {k : Nat} {ps : List Str} {sp sp' : Sp} (C : Callee P w K mg base x k ps sp) (h : ∀ vs H Q E, sp' vs H Q E → sp vs H Q E) : Callee P w K mg base x k ps sp' := by
  obtain ⟨f, fd, F, r⟩ := C.ex
  exact ⟨f, fd, F.imp h, r⟩

/-! ### shapes, equality of small data -/
theorem sh_int {i : Int} : SeqAt.shaped (.int i) = true := by simp [SeqAt.shaped, PyData.canLay0, PyData.depth]
theorem sh_bool {i : Bool} : SeqAt.shaped (.bool i) = true := by simp [SeqAt.shaped, PyData.canLay0, PyData.depth]
theorem sh_none : SeqAt.shaped .none = true := by simp [SeqAt.shaped, PyData.canLay0, PyData.depth]
theorem eqv_int {i j : Int} : PyData.eqv (.int i) (.int j) = decide (i = j) := by
  rw [PyData.eqv]
  exact Bool.beq_eq_decide_eq i j
theorem eqv_bool {i j : Bool} : PyData.eqv (.bool i) (.bool j) = decide (i = j) := by
  rw [PyData.eqv]
  exact Bool.beq_eq_decide_eq i j
section
variable {K : PySem.W.Frag}
theorem od_eqI {i j : Int} : OpD (rEqU K) (.int i) (.int j) (· = .bool (decide (i = j))) := by
  rw [← eqv_int]
  exact od_eq sh_int sh_int
theorem od_neI {i j : Int} : OpD (rNeU K) (.int i) (.int j) (· = .bool (!decide (i = j))) := by
  rw [← eqv_int]
  exact od_ne sh_int sh_int
theorem od_eqB {i j : Bool} : OpD (rEqU K) (.bool i) (.bool j) (· = .bool (decide (i = j))) := by
  rw [← eqv_bool]
  exact od_eq sh_bool sh_bool
theorem od_neB {i j : Bool} : OpD (rNeU K) (.bool i) (.bool j) (· = .bool (!decide (i = j))) := by
  rw [← eqv_bool]
  exact od_ne sh_bool sh_bool
theorem shaped_all {ds : List PyData} (h : ∀ d ∈ ds, d.canLay0 = true ∧ d.depth ≤ 32) : PyData.canLayAll0 ds = true ∧ PyData.depthAll ds ≤ 32 := by
  induction ds with
  | nil => exact ⟨by simp [PyData.canLayAll0], by simp [PyData.depthAll]⟩
  | cons d ds ih =>
    obtain ⟨h1, h2⟩ := h d List.mem_cons_self
    obtain ⟨g1, g2⟩ := ih fun d hd => h d (List.mem_cons_of_mem _ hd)
    exact ⟨by simp [PyData.canLayAll0, h1, g1], by simp only [PyData.depthAll]; omega⟩
theorem sh_list {ds : List PyData} (h : ∀ d ∈ ds, d.canLay0 = true ∧ d.depth ≤ 32) : SeqAt.shaped (.list ds) = true := by
  obtain ⟨g1, g2⟩ := shaped_all h
  show ((PyData.list ds).canLay0 && decide ((PyData.list ds).depth ≤ 64)) = true
  rw [Bool.and_eq_true]
  exact ⟨by simp only [PyData.canLay0]; exact g1, decide_eq_true (by simp only [PyData.depth]; omega)⟩
theorem sh_tuple {ds : List PyData} (h : ∀ d ∈ ds, d.canLay0 = true ∧ d.depth ≤ 32) : SeqAt.shaped (.tuple ds) = true := by
  obtain ⟨g1, g2⟩ := shaped_all h
  show ((PyData.tuple ds).canLay0 && decide ((PyData.tuple ds).depth ≤ 64)) = true
  rw [Bool.and_eq_true]
  exact ⟨by simp only [PyData.canLay0]; exact g1, decide_eq_true (by simp only [PyData.depth]; omega)⟩
theorem sh_nil : SeqAt.shaped (.list []) = true := sh_list fun _ h => nomatch h
theorem eqv_nil {ds : List PyData} : PyData.eqv (.list ds) (.list []) = ds.isEmpty := by
  cases ds <;> simp [PyData.eqv, PyData.eqvAll]
/-! places -/
theorem at0 {d : PyData} {ds : List PyData} : atI (d :: ds) 0 = some d := atI_nat (j := 0) rfl
theorem at1 {d e : PyData} {ds : List PyData} : atI (d :: e :: ds) 1 = some e := atI_nat (j := 1) rfl
theorem at_nat {ds : List PyData} {j : Nat} {d : PyData} (h : ds[j]? = some d) : atI ds (j : Int) = some d := atI_nat h
theorem at_last (ds : List PyData) (d : PyData) : atI (ds ++ [d]) (-1) = some d := by
  unfold atI ixN
  rw [if_neg (by decide), List.length_append]
  show (if -((ds.length + 1 : Nat) : Int) ≤ -1 then some ((-1 : Int) + ((ds.length + 1 : Nat) : Int)).toNat else none).bind (fun j => (ds ++ [d])[j]?) = some d
  rw [if_pos (by omega)]
  have e : ((-1 : Int) + ((ds.length + 1 : Nat) : Int)).toNat = ds.length := by omega
  rw [e]
  show (ds ++ [d])[ds.length]? = some d
  simp
end

/-! ### kinds -/
def isIntD : PyData → Bool
  | .int _ => true
  | .bool _ => true
  | _ => false
def isBoolD : PyData → Bool
  | .bool _ => true
  | _ => false
def isStrD : PyData → Bool
  | .str _ => true
  | _ => false
def isListD : PyData → Bool
  | .list _ => true
  | _ => false
def isTupD : PyData → Bool
  | .tuple _ => true
  | _ => false
theorem kit_int : ∀ d : PyData, kitB (tyD d) "int" = some (isIntD d)
  | .none => (by decide +kernel : kitB "NoneType" "int" = some false)
  | .bool _ => (by decide +kernel : kitB "bool" "int" = some true)
  | .int _ => (by decide +kernel : kitB "int" "int" = some true)
  | .str _ => (by decide +kernel : kitB "str" "int" = some false)
  | .list _ => (by decide +kernel : kitB "list" "int" = some false)
  | .tuple _ => (by decide +kernel : kitB "tuple" "int" = some false)
  | .dict _ => (by decide +kernel : kitB "dict" "int" = some false)
theorem kit_bool : ∀ d : PyData, kitB (tyD d) "bool" = some (isBoolD d)
  | .none => (by decide +kernel : kitB "NoneType" "bool" = some false)
  | .bool _ => (by decide +kernel : kitB "bool" "bool" = some true)
  | .int _ => (by decide +kernel : kitB "int" "bool" = some false)
  | .str _ => (by decide +kernel : kitB "str" "bool" = some false)
  | .list _ => (by decide +kernel : kitB "list" "bool" = some false)
  | .tuple _ => (by decide +kernel : kitB "tuple" "bool" = some false)
  | .dict _ => (by decide +kernel : kitB "dict" "bool" = some false)
theorem kit_str : ∀ d : PyData, kitB (tyD d) "str" = some (isStrD d)
  | .none => (by decide +kernel : kitB "NoneType" "str" = some false)
  | .bool _ => (by decide +kernel : kitB "bool" "str" = some false)
  | .int _ => (by decide +kernel : kitB "int" "str" = some false)
  | .str _ => (by decide +kernel : kitB "str" "str" = some true)
  | .list _ => (by decide +kernel : kitB "list" "str" = some false)
  | .tuple _ => (by decide +kernel : kitB "tuple" "str" = some false)
  | .dict _ => (by decide +kernel : kitB "dict" "str" = some false)
theorem kit_list : ∀ d : PyData, kitB (tyD d) "list" = some (isListD d)
  | .none => (by decide +kernel : kitB "NoneType" "list" = some false)
  | .bool _ => (by decide +kernel : kitB "bool" "list" = some false)
  | .int _ => (by decide +kernel : kitB "int" "list" = some false)
  | .str _ => (by decide +kernel : kitB "str" "list" = some false)
  | .list _ => (by decide +kernel : kitB "list" "list" = some true)
  | .tuple _ => (by decide +kernel : kitB "tuple" "list" = some false)
  | .dict _ => (by decide +kernel : kitB "dict" "list" = some false)
theorem kit_tup : ∀ d : PyData, kitB (tyD d) "tuple" = some (isTupD d)
  | .none => (by decide +kernel : kitB "NoneType" "tuple" = some false)
  | .bool _ => (by decide +kernel : kitB "bool" "tuple" = some false)
  | .int _ => (by decide +kernel : kitB "int" "tuple" = some false)
  | .str _ => (by decide +kernel : kitB "str" "tuple" = some false)
  | .list _ => (by decide +kernel : kitB "list" "tuple" = some false)
  | .tuple _ => (by decide +kernel : kitB "tuple" "tuple" = some true)
  | .dict _ => (by decide +kernel : kitB "dict" "tuple" = some false)
section
variable {K : PySem.W.Frag} {Γ : List Ent} {ta : TE} {d : PyData}
theorem ev_isInt (h : EvD Γ ta d) : EvD Γ (tCB (rIsi K) (tCons ta (tCons (tC (.ty "int")) tNil))) (.bool (isIntD d)) := ev_isi h (kit_int d)
theorem ev_isBool (h : EvD Γ ta d) : EvD Γ (tCB (rIsi K) (tCons ta (tCons (tC (.ty "bool")) tNil))) (.bool (isBoolD d)) := ev_isi h (kit_bool d)
theorem ev_isStr (h : EvD Γ ta d) : EvD Γ (tCB (rIsi K) (tCons ta (tCons (tC (.ty "str")) tNil))) (.bool (isStrD d)) := ev_isi h (kit_str d)
theorem ev_isList (h : EvD Γ ta d) : EvD Γ (tCB (rIsi K) (tCons ta (tCons (tC (.ty "list")) tNil))) (.bool (isListD d)) := ev_isi h (kit_list d)
theorem ev_isTup (h : EvD Γ ta d) : EvD Γ (tCB (rIsi K) (tCons ta (tCons (tC (.ty "tuple")) tNil))) (.bool (isTupD d)) := ev_isi h (kit_tup d)
theorem ev_isLT (h : EvD Γ ta d) : EvD Γ (tCB (rIsiT K) (tCons ta (tCons (tTup (tCons (tC (.ty "list")) (tCons (tC (.ty "tuple")) tNil))) tNil))) (.bool (isListD d || isTupD d)) := ev_isi2 h (kit_list d) (kit_tup d)
theorem ev_isTL (h : EvD Γ ta d) : EvD Γ (tCB (rIsiT K) (tCons ta (tCons (tTup (tCons (tC (.ty "tuple")) (tCons (tC (.ty "list")) tNil))) tNil))) (.bool (isTupD d || isListD d)) := ev_isi2 h (kit_tup d) (kit_list d)
end
theorem cutD_1 (ds : List PyData) : cutD ds (some 1) none = ds.drop 1 := by
  unfold cutD
  rw [show HT.sIx ds.length 0 (some 1) = min 1 ds.length from HT.sIx_nat ds.length 0 1, HT.sIx_none]
  cases ds with
  | nil => rfl
  | cons x r =>
    rw [show min 1 (x :: r).length = 1 by rw [List.length_cons]; omega]
    show (List.take ((x :: r).length - 1) r) = r
    rw [List.length_cons, Nat.add_sub_cancel]
    exact List.take_length
theorem mem_zipD : ∀ {xs ys : List PyData} {d : PyData}, d ∈ zipD xs ys → ∃ x ∈ xs, ∃ y ∈ ys, d = .tuple [x, y]
  | [], _, _, h => by simp [zipD] at h
  | _ :: _, [], _, h => by simp [zipD] at h
  | x :: xs, y :: ys, d, h => by
    simp only [zipD, List.mem_cons] at h
    rcases h with rfl | h
    · exact ⟨x, List.mem_cons_self, y, List.mem_cons_self, rfl⟩
    · obtain ⟨a, ha, b, hb, e⟩ := mem_zipD h
      exact ⟨a, List.mem_cons_of_mem _ ha, b, List.mem_cons_of_mem _ hb, e⟩
theorem filter_yes {α : Type} (l : List α) : l.filter (fun _ => true) = l := by
  rw [List.filter_eq_self]
  intro _ _
  rfl
end Dz

set_option Elab.async false
set_option linter.all false
set_option maxRecDepth 100000
set_option maxHeartbeats 2000000
/-! The mathematics of coats and doings, and how they stand as data. -/
namespace Bt
open PySem Dz

abbrev Pr := Nat × Nat
def eP (p : Pr) : PyData := .tuple [.int p.1, .int p.2]
def eD (l : List Pr) : PyData := .tuple (l.map eP)
def okC (c : Pr) : Bool := 1 ≤ c.1 && c.1 ≤ 5 && 1 ≤ c.2 && c.2 ≤ 5
def inC (c p : Pr) : Bool := 1 ≤ p.1 && p.1 ≤ c.1 && 1 ≤ p.2 && p.2 ≤ c.2
def lt2 (p q : Pr) : Bool := p.1 < q.1 && p.2 < q.2
def chain : List Pr → Bool
  | p :: q :: r => lt2 p q && chain (q :: r)
  | _ => true
def okD (c : Pr) (l : List Pr) : Bool := l.all (inC c) && chain l

/-! ### what is a pair, a doing, of anything -/
def isWithin (d : PyData) (lo hi : Int) : Bool := match d with
  | .int i => decide (lo ≤ i) && decide (i ≤ hi)
  | _ => false
def isCoatD (d : PyData) : Bool := match d with
  | .tuple [x, y] => isWithin x 1 5 && isWithin y 1 5
  | _ => false
def isPairD (c : Pr) (d : PyData) : Bool := match d with
  | .tuple [x, y] => isWithin x 1 c.1 && isWithin y 1 c.2
  | _ => false
def pOf (d : PyData) : Int × Int := match d with
  | .tuple [.int a, .int b] => (a, b)
  | _ => (0, 0)
def stepD (d : PyData) : Bool := match d with
  | .tuple [x, y] => decide ((pOf x).1 < (pOf y).1) && decide ((pOf x).2 < (pOf y).2)
  | _ => false
def isDoingD (c : Pr) (d : PyData) : Bool := match d with
  | .tuple xs => xs.all (isPairD c) && (zipD xs (xs.drop 1)).all stepD
  | _ => false
theorem isWithin_inv {d : PyData} {lo hi : Int} (h : isWithin d lo hi = true) : ∃ i, d = .int i ∧ lo ≤ i ∧ i ≤ hi := by
  cases d with
  | int i =>
    simp only [isWithin, Bool.and_eq_true, decide_eq_true_eq] at h
    exact ⟨i, rfl, h.1, h.2⟩
  | _ => cases h
theorem isPairD_inv {c : Pr} {d : PyData} (h : isPairD c d = true) : ∃ p : Pr, d = eP p ∧ inC c p = true := by
  unfold isPairD at h
  split at h
  · rename_i x y
    rw [Bool.and_eq_true] at h
    obtain ⟨i, rfl, h1, h2⟩ := isWithin_inv h.1
    obtain ⟨j, rfl, h3, h4⟩ := isWithin_inv h.2
    refine ⟨(i.toNat, j.toNat), ?_, ?_⟩
    · unfold eP
      rw [Int.toNat_of_nonneg (by omega), Int.toNat_of_nonneg (by omega)]
    · unfold inC
      simp only [Bool.and_eq_true, decide_eq_true_eq]
      omega
  · cases h
theorem isPairD_eP (c p : Pr) : isPairD c (eP p) = inC c p := by
  unfold isPairD eP isWithin inC
  simp only
  rw [Bool.eq_iff_iff]
  simp only [Bool.and_eq_true, decide_eq_true_eq]
  omega
theorem pOf_eP (p : Pr) : pOf (eP p) = ((p.1 : Int), (p.2 : Int)) := rfl
theorem stepD_eP (p q : Pr) : stepD (.tuple [eP p, eP q]) = lt2 p q := by
  show (decide (((p.1 : Int)) < (q.1 : Int)) && decide ((p.2 : Int) < (q.2 : Int))) = _
  unfold lt2
  rw [Bool.eq_iff_iff]
  simp only [Bool.and_eq_true, decide_eq_true_eq]
  omega
theorem zip_chain : ∀ l : List Pr, (zipD (l.map eP) ((l.map eP).drop 1)).all stepD = chain l
  | [] => rfl
  | [p] => rfl
  | p :: q :: r => by
    have ih := zip_chain (q :: r)
    show (stepD (.tuple [eP p, eP q]) && (zipD ((q :: r).map eP) (((q :: r).map eP).drop 1)).all stepD) = (lt2 p q && chain (q :: r))
    rw [ih, stepD_eP]
theorem all_pair (c : Pr) (l : List Pr) : (l.map eP).all (isPairD c) = l.all (inC c) := by
  rw [List.all_map]
  congr 1
  funext p
  exact isPairD_eP c p
theorem isDoingD_eD (c : Pr) (l : List Pr) : isDoingD c (eD l) = okD c l := by
  show ((l.map eP).all (isPairD c) && (zipD (l.map eP) ((l.map eP).drop 1)).all stepD) = _
  rw [zip_chain, all_pair]
  rfl
theorem pairs_inv {c : Pr} : ∀ {xs : List PyData}, xs.all (isPairD c) = true → ∃ l : List Pr, xs = l.map eP
  | [], _ => ⟨[], rfl⟩
  | x :: xs, h => by
    rw [List.all_cons, Bool.and_eq_true] at h
    obtain ⟨p, rfl, _⟩ := isPairD_inv h.1
    obtain ⟨l, rfl⟩ := pairs_inv h.2
    exact ⟨p :: l, rfl⟩
theorem isDoingD_inv {c : Pr} {d : PyData} (h : isDoingD c d = true) : ∃ l, d = eD l ∧ okD c l = true := by
  unfold isDoingD at h
  split at h
  · rename_i xs
    obtain ⟨l, rfl⟩ := pairs_inv (Bool.and_eq_true_iff.mp h).1
    refine ⟨l, rfl, ?_⟩
    rw [← isDoingD_eD]
    exact h
  · cases h

/-! ### equality of pairs, of doings, as data -/
theorem eqv_eP (p q : Pr) : PyData.eqv (eP p) (eP q) = decide (p = q) := by
  obtain ⟨a, b⟩ := p
  obtain ⟨c, d⟩ := q
  have e : PyData.eqv (eP (a, b)) (eP (c, d)) = (((a : Int) == (c : Int)) && (((b : Int) == (d : Int)) && true)) := by simp only [eP, PyData.eqv, PyData.eqvAll]
  rw [e, Bool.eq_iff_iff]
  simp only [Bool.and_eq_true, beq_iff_eq, decide_eq_true_eq, Prod.mk.injEq, and_true]
  omega
theorem eP_inj {p q : Pr} (h : eP p = eP q) : p = q := by
  have e := eqv_eP p q
  have h2 : PyData.eqv (eP p) (eP p) = decide (p = p) := eqv_eP p p
  rw [← h, h2] at e
  simpa using e.symm
theorem eqvAll_map : ∀ l m : List Pr, PyData.eqvAll (l.map eP) (m.map eP) = decide (l = m)
  | [], [] => by simp [PyData.eqvAll]
  | [], _ :: _ => by simp [PyData.eqvAll]
  | _ :: _, [] => by simp [PyData.eqvAll]
  | p :: l, q :: m => by
    rw [List.map_cons, List.map_cons, PyData.eqvAll, eqv_eP, eqvAll_map l m, Bool.eq_iff_iff]
    simp
theorem eqv_eD (l m : List Pr) : PyData.eqv (eD l) (eD m) = decide (l = m) := by
  unfold eD
  rw [PyData.eqv, eqvAll_map]
theorem map_eP_inj : ∀ {l m : List Pr}, l.map eP = m.map eP → l = m
  | [], [], _ => rfl
  | [], _ :: _, h => by cases h
  | _ :: _, [], h => by cases h
  | p :: l, q :: m, h => by
    rw [List.map_cons, List.map_cons] at h
    injection h with h1 h2
    rw [eP_inj h1, map_eP_inj h2]
theorem eD_inj {l m : List Pr} (h : eD l = eD m) : l = m := by
  unfold eD at h
  injection h with h
  exact map_eP_inj h
theorem lay_eP (p : Pr) : (eP p).canLay0 = true ∧ (eP p).depth ≤ 32 := ⟨by simp [eP, PyData.canLay0, PyData.canLayAll0], by simp [eP, PyData.depth, PyData.depthAll]⟩
theorem dep_eP (p : Pr) : (eP p).depth = 1 := by simp [eP, PyData.depth, PyData.depthAll]
theorem depAll_eP : ∀ l : List Pr, PyData.depthAll (l.map eP) ≤ 1
  | [] => by simp [PyData.depthAll]
  | p :: l => by
    have := depAll_eP l
    have h2 := dep_eP p
    simp only [List.map_cons, PyData.depthAll]
    omega
theorem dep_eD (l : List Pr) : (eD l).depth ≤ 2 := by
  have := depAll_eP l
  simp only [eD, PyData.depth]
  omega
theorem sh_eP (p : Pr) : SeqAt.shaped (eP p) = true := sh_tuple fun d hd => by
  have : d = .int p.1 ∨ d = .int p.2 := by simpa using hd
  rcases this with rfl | rfl
  · exact ⟨by simp [PyData.canLay0], by simp [PyData.depth]⟩
  · exact ⟨by simp [PyData.canLay0], by simp [PyData.depth]⟩
theorem lay_eD (l : List Pr) : (eD l).canLay0 = true ∧ (eD l).depth ≤ 32 := by
  obtain ⟨h1, h2⟩ := shaped_all (ds := l.map eP) fun d hd => by
    obtain ⟨p, _, rfl⟩ := List.mem_map.mp hd
    exact lay_eP p
  refine ⟨?_, Nat.le_trans (dep_eD l) (by decide)⟩
  unfold eD
  simp only [PyData.canLay0]
  exact h1
theorem sh_eD (l : List Pr) : SeqAt.shaped (eD l) = true := sh_tuple fun d hd => by
  obtain ⟨p, _, rfl⟩ := List.mem_map.mp hd
  exact lay_eP p
theorem sh_ePs (l : List Pr) : SeqAt.shaped (.list (l.map eP)) = true := sh_list fun d hd => by
  obtain ⟨p, _, rfl⟩ := List.mem_map.mp hd
  exact lay_eP p
theorem any_eP (p : Pr) (l : List Pr) : ((l.map eP).any fun z => PyData.eqv z (eP p)) = l.contains p := by
  rw [List.any_map]
  induction l with
  | nil => rfl
  | cons q l ih =>
    rw [List.any_cons, ih, List.contains_cons]
    congr 1
    show PyData.eqv (eP q) (eP p) = _
    rw [eqv_eP, Bool.eq_iff_iff]
    simp only [decide_eq_true_eq, beq_iff_eq]
    exact eq_comm

/-! ### sorting pairs -/
def leP (p q : Pr) : Bool := p.1 < q.1 || (p.1 == q.1 && p.2 ≤ q.2)
def sortP (l : List Pr) : List Pr := l.mergeSort leP
theorem sortD_eP (l : List Pr) : sortD (l.map eP) = (sortP l).map eP := by
  unfold sortD sortP
  refine (List.map_mergeSort fun a _ b _ => ?_).symm
  have e := congrFun (congrFun (PySem.W.dataLe_ii (fun p : Pr => (p.1 : Int)) (fun p : Pr => (p.2 : Int))) a) b
  show leP a b = PySem.W.dataLe false id (eP a) (eP b)
  have e2 : PySem.W.dataLe false id (eP a) (eP b) = PySem.W.dataLe false (fun p : Pr => PyData.tuple [.int p.1, .int p.2]) a b := rfl
  rw [e2, e]
  unfold leP
  rw [Bool.eq_iff_iff]
  simp only [Bool.or_eq_true, Bool.and_eq_true, beq_iff_eq, decide_eq_true_eq]
  omega
theorem alike_eP (l : List Pr) : PySem.W.AllAlike (l.map eP) := PySem.W.AllAlike.of fun _ _ => by simp [eP, PySem.W.alike, PySem.W.alikeAll]
theorem srt_eP (l : List Pr) : Srt (l.map eP) := .inl (PySem.W.Sortable.tuples fun p => ⟨_, _, rfl⟩)
theorem dep_of_map (l : List Pr) : ∀ d ∈ l.map eP, d.depth ≤ 16 := fun d hd => by
  obtain ⟨p, _, rfl⟩ := List.mem_map.mp hd
  rw [dep_eP]
  decide
/-- a pair put at its place -/
def insP (p : Pr) : List Pr → List Pr
  | [] => [p]
  | q :: r => if leP p q then p :: q :: r else q :: insP p r
theorem leP_trans {a b c : Pr} (h : leP a b = true) (h' : leP b c = true) : leP a c = true := by
  unfold leP at *
  simp only [Bool.or_eq_true, Bool.and_eq_true, beq_iff_eq, decide_eq_true_eq] at *
  omega
theorem leP_total (a b : Pr) : (leP a b || leP b a) = true := by
  unfold leP
  simp only [Bool.or_eq_true, Bool.and_eq_true, beq_iff_eq, decide_eq_true_eq]
  omega
theorem leP_anti {a b : Pr} (h : leP a b = true) (h' : leP b a = true) : a = b := by
  unfold leP at *
  simp only [Bool.or_eq_true, Bool.and_eq_true, beq_iff_eq, decide_eq_true_eq] at *
  obtain ⟨a1, a2⟩ := a
  obtain ⟨b1, b2⟩ := b
  simp only [Prod.mk.injEq] at *
  omega
theorem ins_perm (p : Pr) : ∀ l, (insP p l).Perm (p :: l)
  | [] => .refl _
  | q :: r => by
    unfold insP
    split
    · exact .refl _
    · exact ((ins_perm p r).cons q).trans (.swap p q r)
theorem ins_sorted (p : Pr) : ∀ l : List Pr, l.Pairwise (fun a b => leP a b = true) → (insP p l).Pairwise (fun a b => leP a b = true)
  | [], _ => by simp [insP]
  | q :: r, h => by
    obtain ⟨h1, h2⟩ := List.pairwise_cons.mp h
    unfold insP
    split
    · rename_i hp
      refine List.pairwise_cons.mpr ⟨fun x hx => ?_, h⟩
      rcases List.mem_cons.mp hx with rfl | hx
      · exact hp
      · exact leP_trans hp (h1 x hx)
    · rename_i hp
      refine List.pairwise_cons.mpr ⟨fun x hx => ?_, ins_sorted p r h2⟩
      rcases List.mem_cons.mp ((ins_perm p r).mem_iff.mp hx) with rfl | hx
      · have := leP_total x q
        simpa [hp] using this
      · exact h1 x hx
theorem sorted_unique : ∀ {l m : List Pr}, l.Perm m → l.Pairwise (fun a b => leP a b = true) → m.Pairwise (fun a b => leP a b = true) → l = m
  | [], m, h, _, _ => h.nil_eq
  | a :: l, [], h, _, _ => (by have := h.length_eq; cases this)
  | a :: l, b :: m, h, h1, h2 => by
    obtain ⟨h3, h4⟩ := List.pairwise_cons.mp h1
    obtain ⟨h5, h6⟩ := List.pairwise_cons.mp h2
    have e : a = b := by
      have ma : a ∈ b :: m := h.mem_iff.mp List.mem_cons_self
      have mb : b ∈ a :: l := h.mem_iff.mpr List.mem_cons_self
      rcases List.mem_cons.mp ma with e | ma
      · exact e
      · rcases List.mem_cons.mp mb with e | mb
        · exact e.symm
        · exact leP_anti (h3 b mb) (h5 a ma)
    subst e
    rw [sorted_unique (List.Perm.cons_inv h) h4 h6]
theorem chain_tail {p : Pr} {l : List Pr} (h : chain (p :: l) = true) : chain l = true := by
  cases l with
  | nil => rfl
  | cons q r =>
    unfold chain at h
    exact (Bool.and_eq_true_iff.mp h).2
theorem lt2_trans {a b c : Pr} (h : lt2 a b = true) (h' : lt2 b c = true) : lt2 a c = true := by
  unfold lt2 at *
  simp only [Bool.and_eq_true, decide_eq_true_eq] at *
  omega
theorem chain_lt : ∀ {p : Pr} {l : List Pr}, chain (p :: l) = true → ∀ q ∈ l, lt2 p q = true
  | p, [], _, q, hq => by cases hq
  | p, r :: l, h, q, hq => by
    unfold chain at h
    obtain ⟨h1, h2⟩ := Bool.and_eq_true_iff.mp h
    rcases List.mem_cons.mp hq with rfl | hq
    · exact h1
    · exact lt2_trans h1 (chain_lt h2 q hq)
theorem lt2_le {a b : Pr} (h : lt2 a b = true) : leP a b = true := by
  unfold lt2 leP at *
  simp only [Bool.or_eq_true, Bool.and_eq_true, beq_iff_eq, decide_eq_true_eq] at *
  omega
theorem chain_sorted : ∀ {l : List Pr}, chain l = true → l.Pairwise (fun a b => leP a b = true)
  | [], _ => .nil
  | p :: l, h => List.pairwise_cons.mpr ⟨fun q hq => lt2_le (chain_lt h q hq), chain_sorted (chain_tail h)⟩
theorem chain_pair : ∀ {l : List Pr}, chain l = true → l.Pairwise (fun a b => lt2 a b = true)
  | [], _ => .nil
  | p :: l, h => List.pairwise_cons.mpr ⟨chain_lt h, chain_pair (chain_tail h)⟩
theorem pair_chain : ∀ {l : List Pr}, l.Pairwise (fun a b => lt2 a b = true) → chain l = true
  | [], _ => rfl
  | [p], _ => rfl
  | p :: q :: l, h => by
    obtain ⟨h1, h2⟩ := List.pairwise_cons.mp h
    unfold chain
    rw [h1 q List.mem_cons_self, pair_chain h2]
    rfl
theorem sort_ins {l : List Pr} (p : Pr) (h : chain l = true) : sortP (l ++ [p]) = insP p l := by
  unfold sortP
  refine sorted_unique ((List.mergeSort_perm _ _).trans ((List.perm_append_comm (l₁ := l) (l₂ := [p])).trans (ins_perm p l).symm)) ?_ (ins_sorted p l (chain_sorted h))
  have := List.pairwise_mergeSort (le := leP) (fun a b c => leP_trans) leP_total (l ++ [p])
  simpa using this
theorem okD_chain {c : Pr} {l : List Pr} (h : okD c l = true) : chain l = true := (Bool.and_eq_true_iff.mp h).2
theorem okD_in {c : Pr} {l : List Pr} (h : okD c l = true) : ∀ p ∈ l, inC c p = true := fun p hp => List.all_eq_true.mp (Bool.and_eq_true_iff.mp h).1 p hp
theorem chain_len : ∀ {l : List Pr} {n m : Nat}, chain l = true → (∀ p ∈ l, m < p.1 ∧ p.1 ≤ n) → m + l.length ≤ n ∨ l = []
  | [], n, m, _, _ => .inr rfl
  | p :: l, n, m, h, hb => by
    obtain ⟨b1, b2⟩ := hb p List.mem_cons_self
    left
    rcases chain_len (n := n) (m := p.1) (chain_tail h) (fun q hq => by
      have h1 := chain_lt h q hq
      unfold lt2 at h1
      simp only [Bool.and_eq_true, decide_eq_true_eq] at h1
      exact ⟨h1.1, (hb q (List.mem_cons_of_mem _ hq)).2⟩) with h2 | h2
    · rw [List.length_cons]
      omega
    · rw [h2]
      show m + 1 ≤ n
      omega
theorem inC_iff {c p : Pr} : inC c p = true ↔ 1 ≤ p.1 ∧ p.1 ≤ c.1 ∧ 1 ≤ p.2 ∧ p.2 ≤ c.2 := by
  unfold inC
  simp only [Bool.and_eq_true, decide_eq_true_eq, and_assoc]
theorem okC_iff {c : Pr} : okC c = true ↔ 1 ≤ c.1 ∧ c.1 ≤ 5 ∧ 1 ≤ c.2 ∧ c.2 ≤ 5 := by
  unfold okC
  simp only [Bool.and_eq_true, decide_eq_true_eq, and_assoc]
theorem okD_len {c : Pr} {l : List Pr} (hc : okC c = true) (h : okD c l = true) : l.length ≤ 5 := by
  have h1 := okC_iff.mp hc
  rcases chain_len (n := c.1) (m := 0) (okD_chain h) (fun p hp => by
    have := inC_iff.mp (okD_in h p hp)
    omega) with h2 | h2
  · omega
  · rw [h2]; decide

/-! ### what fits -/
def rowC (c : Pr) (b : Nat) : List Pr := (List.range c.2).map fun j => (b, 1 + j)
def pairsC (c : Pr) : List Pr := (List.range c.1).flatMap fun i => rowC c (1 + i)
theorem rowC_len (c : Pr) (b : Nat) : (rowC c b).length = c.2 := by simp [rowC]
theorem rows_len (c : Pr) (n : Nat) : ((List.range n).flatMap fun i => rowC c (1 + i)).length = n * c.2 := by
  induction n with
  | zero => simp
  | succ n ih =>
    rw [List.range_succ, List.flatMap_append, List.length_append, ih]
    simp only [List.flatMap_cons, List.flatMap_nil, List.append_nil, rowC_len]
    rw [Nat.succ_mul]
def goes (c : Pr) (l : List Pr) (p : Pr) : Bool := !l.contains p && okD c (insP p l)
def fitsM (c : Pr) (l : List Pr) : List Pr := (pairsC c).filter (goes c l)
def meets (p q : Pr) : Bool := decide (((p.1 : Int) - q.1) * ((p.2 : Int) - q.2) ≤ 0)
def fitL (c : Pr) (l : List Pr) : List Pr := (pairsC c).filter fun p => l.all fun q => !meets q p
def without (l : List Pr) (p : Pr) : List Pr := l.filter fun q => decide (q ≠ p)

theorem step_yes {A : List Pr} {g : Nat → Pr} {f : Pr → Bool} {j : Nat} (h : f (g j) = true) : ((A ++ (List.range (j + 1)).map g).filter f).map eP = ((A ++ (List.range j).map g).filter f).map eP ++ [eP (g j)] := by
  rw [List.range_succ, List.map_append, ← List.append_assoc, List.filter_append, List.map_append]
  simp [h]
theorem step_no {A : List Pr} {g : Nat → Pr} {f : Pr → Bool} {j : Nat} (h : f (g j) = false) : ((A ++ (List.range (j + 1)).map g).filter f).map eP = ((A ++ (List.range j).map g).filter f).map eP := by
  rw [List.range_succ, List.map_append, ← List.append_assoc, List.filter_append, List.map_append]
  simp [h]
theorem step_row {c : Pr} {i : Nat} : ((List.range i).flatMap fun i => rowC c (1 + i)) ++ (List.range c.2).map (fun j => (1 + i, 1 + j)) = (List.range (i + 1)).flatMap fun i => rowC c (1 + i) := by
  rw [List.range_succ, List.flatMap_append]
  simp [rowC]
/-! ### all doings -/
/-- all doings with buttons above b and holes above h -/
def chains (c : Pr) : Nat → Nat → Nat → List (List Pr)
  | 0, _, _ => [[]]
  | n + 1, b, h => chains c n (b + 1) h ++ ((List.range (c.2 - h)).flatMap fun j => (chains c n (b + 1) (h + 1 + j)).map fun l => (b + 1, h + 1 + j) :: l)
def allD (c : Pr) : List (List Pr) := chains c c.1 0 0
def allC : List Pr := (List.range 5).flatMap fun i => (List.range 5).map fun j => (i + 1, j + 1)
theorem mem_chains (c : Pr) : ∀ (n b h : Nat) (l : List Pr), chain l = true → (∀ p ∈ l, b < p.1 ∧ p.1 ≤ b + n ∧ h < p.2 ∧ p.2 ≤ c.2) → l ∈ chains c n b h
  | 0, b, h, l, hl, hb => by
    cases l with
    | nil => simp [chains]
    | cons p l =>
      have := hb p List.mem_cons_self
      omega
  | n + 1, b, h, l, hl, hb => by
    unfold chains
    rw [List.mem_append]
    cases l with
    | nil => exact .inl (mem_chains c n (b + 1) h [] rfl fun _ hp => nomatch hp)
    | cons p l =>
      obtain ⟨h1, h2, h3, h4⟩ := hb p List.mem_cons_self
      have up : ∀ q ∈ l, p.1 < q.1 ∧ p.2 < q.2 := fun q hq => by
        have := chain_lt hl q hq
        unfold lt2 at this
        simpa using this
      by_cases e : p.1 = b + 1
      · refine .inr (List.mem_flatMap.mpr ⟨p.2 - h - 1, by simp; omega, List.mem_map.mpr ⟨l, mem_chains c n (b + 1) _ l (chain_tail hl) fun q hq => ?_, ?_⟩⟩)
        · have := up q hq
          have := hb q (List.mem_cons_of_mem _ hq)
          omega
        · have e2 : h + 1 + (p.2 - h - 1) = p.2 := by omega
          rw [e2, ← e]
      · refine .inl (mem_chains c n (b + 1) h (p :: l) hl fun q hq => ?_)
        have := hb q hq
        rcases List.mem_cons.mp hq with rfl | hq
        · omega
        · have := up q hq
          omega
theorem mem_allD {c : Pr} {l : List Pr} (h : okD c l = true) : l ∈ allD c := mem_chains c c.1 0 0 l (okD_chain h) fun p hp => by
  have := inC_iff.mp (okD_in h p hp)
  omega
theorem mem_allC {c : Pr} (h : okC c = true) : c ∈ allC := by
  have h1 := okC_iff.mp h
  refine List.mem_flatMap.mpr ⟨c.1 - 1, by simp; omega, List.mem_map.mpr ⟨c.2 - 1, by simp; omega, ?_⟩⟩
  have e1 : c.1 - 1 + 1 = c.1 := by omega
  have e2 : c.2 - 1 + 1 = c.2 := by omega
  rw [e1, e2]
/-- what holds of all doings of all coats, by trying -/
theorem try_all {P : Pr → List Pr → Bool} (h : (allC.all fun c => (allD c).all fun l => P c l) = true) {c : Pr} {l : List Pr} (hc : okC c = true) (hl : okD c l = true) : P c l = true :=
  List.all_eq_true.mp (List.all_eq_true.mp h c (mem_allC hc)) l (mem_allD hl)
theorem fits_eq {c : Pr} {l : List Pr} (hc : okC c = true) (hl : okD c l = true) : fitsM c l = fitL c l := by
  have := try_all (P := fun c l => decide (fitsM c l = fitL c l)) (by decide +kernel) hc hl
  exact of_decide_eq_true this
theorem ins_ok {c : Pr} {l : List Pr} {p : Pr} (hp : p ∈ fitsM c l) : okD c (insP p l) = true := by
  have := (List.mem_filter.mp hp).2
  unfold goes at this
  exact (Bool.and_eq_true_iff.mp this).2
theorem filter_ok {c : Pr} {l : List Pr} (f : Pr → Bool) (h : okD c l = true) : okD c (l.filter f) = true := by
  unfold okD
  rw [Bool.and_eq_true]
  exact ⟨List.all_eq_true.mpr fun p hp => okD_in h p (List.mem_filter.mp hp).1, pair_chain ((chain_pair (okD_chain h)).filter f)⟩
theorem without_ok {c : Pr} {l : List Pr} {p : Pr} (h : okD c l = true) : okD c (without l p) = true := filter_ok _ h
end Bt

set_option Elab.async false
set_option linter.all false
set_option maxRecDepth 100000
set_option maxHeartbeats 2000000
namespace Dz
open PySem PySem.Spec PyProof.Rows L2

/-! ### expressions that leave the heap as it is -/
def Xv (σ : L2.St) (H : Hp) (te : TE) (v : V) : Prop := ∀ Q : VK, Q v H → te σ H Q
def Xt (σ : L2.St) (H : Hp) (tt : TT) (k : Bool) : Prop := ∀ Q : Bool → Hp → Prop, Q k H → tt σ H Q
section
variable {K : PySem.W.Frag} {σ : L2.St} {H : Hp} {te ta tb : TE} {tt tu : TT} {v x y z : V} {i j : Int}
theorem xv_var {n : Nat} (h : σ[n]? = some (some v)) : Xv σ H (tVar n) v := fun Q q => ⟨v, h, q⟩
theorem xv_c : Xv σ H (tC v) v := fun Q q => q
theorem xv_op {r : R2} (ha : Xv σ H ta x) (hb : Xv σ H tb y) (hr : ∀ Q : VK, Q z H → r x y H Q) : Xv σ H (tOp r ta tb) z := fun Q q => ha _ (hb _ (hr Q q))
theorem xr_add {Q : VK} (q : Q (.int (i + j)) H) : rAddU K (.int i) (.int j) H Q := .inl ⟨i, j, rfl, rfl, q⟩
theorem xr_I {C : Int → Int → Prop} {g : Int → Int → Int} (hc : C i j) {Q : VK} (q : Q (.int (g i j)) H) : rI C (fun i j => .int (g i j)) (.int i) (.int j) H Q := ⟨i, j, rfl, rfl, hc, q⟩
theorem xr_B {g : Int → Int → Bool} {Q : VK} (q : Q (.bl (g i j)) H) : rI0 (fun i j => .bl (g i j)) (.int i) (.int j) H Q := ⟨i, j, rfl, rfl, q⟩
theorem xr_ix {p : Addr} {xs : List V} (h : SqL K H p xs) (hv : atI xs i = some v) {Q : VK} (q : Q v H) : rIx K (.ref p) (.int i) H Q := .inl ⟨p, xs, i, v, rfl, rfl, h, hv, q⟩
theorem xv_len {p : Addr} {xs : List V} (ha : Xv σ H ta (.ref p)) (h : SqL K H p xs) : Xv σ H (tCB (rLenU K) (tCons ta tNil)) (.int xs.length) := fun Q q => ha _ ⟨.ref p, xs.length, rfl, .inl ⟨xs, h, rfl⟩, q⟩
theorem xt_test {k : Bool} (h : Xv σ H te (.bl k)) : Xt σ H (tTest te) k := fun Q q => h _ ⟨k, rfl, q⟩
theorem xt_or {a b : Bool} (h1 : Xt σ H tt a) (h2 : a = false → Xt σ H tu b) : Xt σ H (tOr tt tu) (a || b) := fun Q q => h1 _ (by
  cases a with
  | true => exact q
  | false => exact h2 rfl Q q)
theorem x_set {n : Nat} {u : TS} {D : Ends} (h : Xv σ H te v) (k : u D (σ.set n (some v)) H) : tSeq (tAsg te (gName n)) u D σ H := h _ k
theorem x_set1 {n : Nat} {D : Ends} (h : Xv σ H te v) (k : D.nx (σ.set n (some v)) H) : tAsg te (gName n) D σ H := h _ k
theorem x_cut {t u : TS} {D : Ends} (Mid : L2.St → Hp → Prop) (h : t { D with nx := Mid } σ H) (k : ∀ σ' H', Mid σ' H' → u D σ' H') : tCutD t u D σ H := ⟨Mid, h, k⟩
theorem x_if {k : Bool} {t u : TS} {D : Ends} (h : Xt σ H tt k) (h1 : k = true → t D σ H) (h2 : k = false → u D σ H) : tIfS tt t u D σ H := h _ (by
  cases k with
  | true => exact h1 rfl
  | false => exact h2 rfl)
theorem x_put {p : Addr} {xs : List V} {n : Nat} {D : Ends} {to ti : TE} (h : Xv σ H te v) (ho : Xv σ H to (.ref p)) (hi : Xv σ H ti (.int (n : Int))) (hp : H p = some (.lst xs)) (hn : n < xs.length) (k : D.nx σ (upd H p (.lst (xs.set n v)))) : tAsg te (gSub to ti rSetL) D σ H := h _ (ho _ (hi _ ⟨p, xs, (n : Int), n, rfl, rfl, hp, by
  unfold ixN
  rw [if_pos (by omega), if_pos (by omega)]
  simp, k⟩))
end

/-! ### what is only partly known -/
theorem OpD.imp {r : R2} {x y : PyData} {P P' : PyData → Prop} (h : OpD r x y P) (i : ∀ d, P d → P' d) : OpD r x y P' := fun M H vx vy t rx ry Q q => h M H vx vy t rx ry Q fun v d H' e p rr => q v d H' e (i d p) rr
theorem CbD.imp {r : List V → Hp → VK → Prop} {xs : List PyData} {P P' : PyData → Prop} (h : CbD r xs P) (i : ∀ d, P d → P' d) : CbD r xs P' := fun M H vs t rx Q q => h M H vs t rx Q fun v d H' e p rr => q v d H' e (i d p) rr
theorem ev_cb1R {Γ : List Ent} {te : TE} {P R : PyData → Prop} {r : List V → Hp → VK → Prop} (h : EvR Γ te P) (hr : ∀ x, P x → CbD r [x] R) : EvR Γ (tCB r (tCons te tNil)) R := ev_cbR (ea_1R h) fun xs ⟨d, e, p⟩ => by rw [e]; exact hr d p
theorem ev_tup1R {Γ : List Ent} {te : TE} {P : PyData → Prop} (h : EvR Γ te P) : EvR Γ (tTup (tCons te tNil)) (fun d => ∃ x, d = .tuple [x] ∧ P x) := (ev_tupR (ea_1R h) fun ds ⟨d, e, _⟩ => by rw [e]; simp).imp fun d ⟨ds, e, x, e', p⟩ => ⟨x, by rw [e, e'], p⟩

/-- an item of a list of our own -/
theorem ev_ixO {K : PySem.W.Frag} {Γ : List Ent} {ti : TE} {i : Nat} {j : Int} {p : Addr} {ds : List PyData} {d : PyData} (hi : Γ[i]? = some (.own p (lD ds))) (h : EvD Γ ti (.int j)) (hd : atI ds j = some d) : EvD Γ (tOp (rIx K) (tVar i) ti) d := fun b G M σ H S Q q => by
  obtain ⟨h1, _, _, vs, _, _⟩ := own_at S hi
  refine ⟨.ref p, h1, ?_⟩
  refine h b G M σ H S _ fun v dv H1 S1 e1 p1 r1 => ?_
  have p1' : dv = .int j := p1
  subst p1'
  cases r1
  obtain ⟨_, _, _, vs1, g1, g2⟩ := own_at S1 hi
  obtain ⟨x, hx, rx⟩ := atI_rp g2 hd
  exact .inl ⟨p, vs1, j, x, rfl, rfl, .inl (.inl g1), hx, q _ _ H1 S1 e1 rfl rx⟩
theorem ud_neg {i : Int} : UnD (rU fun i => .int (-i)) (.int i) (· = .int (-i)) := fun M H vx t rx Q q => by
  cases rx
  exact ⟨i, rfl, q _ _ H (Same.refl _) rfl (.int _)⟩

theorem min_ex : ∀ (n : Int) (ns : List Int), ∃ m ∈ n :: ns, ∀ y ∈ n :: ns, m ≤ y
  | n, [] => ⟨n, List.mem_cons_self, fun y hy => by
      have : y = n := (by simpa using hy)
      omega⟩
  | n, k :: ns => by
    obtain ⟨m, h1, h2⟩ := min_ex k ns
    by_cases h : n ≤ m
    · refine ⟨n, List.mem_cons_self, fun y hy => ?_⟩
      rcases List.mem_cons.mp hy with rfl | hy
      · omega
      · exact Int.le_trans h (h2 y hy)
    · refine ⟨m, List.mem_cons_of_mem _ h1, fun y hy => ?_⟩
      rcases List.mem_cons.mp hy with rfl | hy
      · omega
      · exact h2 y hy
theorem cd_minR {K : PySem.W.Frag} {ns : List Int} (h : ns ≠ []) : CbD (rMin K) [.list (ns.map .int)] (fun d => ∃ m ∈ ns, d = .int m ∧ ∀ y ∈ ns, m ≤ y) := by
  cases ns with
  | nil => exact absurd rfl h
  | cons n ns =>
    obtain ⟨m, h1, h2⟩ := min_ex n ns
    exact (cd_min h1 h2).imp fun d e => ⟨m, h1, e, h2⟩

/-! ### the law's own def -/
/-- what the law promises: True -/
def sp_law (K : PySem.W.Frag) : Sp := fun vs H Q _ => ∃ (a : Addr) (ns : List Int), vs = [.ref a] ∧ SqL K H a (ns.map V.int) ∧ ∀ H', Q (.bl true) H'
section
variable {P : Program} {w : World} {K : PySem.W.Frag} {mg : Str → Option Value} {base : Heap}
/-- tape = [list(script), 0, 0], then the rest -/
theorem okLaw {x qual : Str} {st : Stmt} {f : Addr} {fd : FuncData} {N : List Str} {k : Nat} (F : Fun K x qual st f fd) (S : FnScope N ["script"] (defScope st)) (hN : 2 ≤ N.length)
    (hb : ∀ (cdv : Value) (A : Around) (outer : List Env) (s : Shared) (H : Hp) (E : XK), Room k (A.deeper (envOfC qual (defScope st) s.heap.objs.size f cdv)) →
      ∃ tz, PSs (cxOf CX0 P w K mg base N qual (defScope st) f cdv A outer s H E).nox (defBody st) (tSeq (tAsg (tLst (tCons (tCB (rListU K) (tCons (tVar 0) tNil)) (tCons (tC (.int 0)) (tCons (tC (.int 0)) tNil)))) (gName 1)) tz) ∧
        ∀ (b : Bs) (Q : VK), Fin b (· = .bool true) Q → Cont b [] (.un :: .tp :: List.replicate (N.length - 2) Ent.un) (tz { nx := fun _ H' => Q .non H', rt := Q })) :
    FnOk P w K mg base CX0 (k + 1) f fd ["script"] (sp_law K) := by
  refine F.ok S (fun vs H Q E h => ?_) (fun cdv A outer s H vs Q E hr h => ?_)
  · obtain ⟨a, ns, rfl, _⟩ := h
    rfl
  obtain ⟨a, ns, rfl, hS, q⟩ := h
  obtain ⟨tz, h1, h2⟩ := hb cdv A outer s H E hr
  refine ⟨_, h1, ?_⟩
  obtain ⟨n, hn⟩ : ∃ n, N.length = n + 2 := ⟨N.length - 2, by omega⟩
  have e2 : L2.start N [.ref a] = some (.ref a) :: none :: List.replicate n none := by
    unfold L2.start
    rw [hn]
    rfl
  rw [e2]
  refine ⟨_, rfl, a, ns.map V.int, rfl, .inl hS, fun sc hsc => ?_⟩
  refine ⟨by show 3 ≤ sizeLine; decide, fun t ht => ?_⟩
  have hts : t ≠ sc := fun z => by
    rw [z, upd_same] at ht
    cases ht
  have g2 := h2 ⟨[t], sc, upd (upd H sc (.lst (ns.map V.int))) t (.lst [.ref sc, .int 0, .int 0]), [t]⟩ Q (fun v d H' _ _ pd rd => by
    have pd' : d = .bool true := pd
    subst pd'
    cases rd
    exact q H')
  have S0 : Sat ⟨[t], sc, upd (upd H sc (.lst (ns.map V.int))) t (.lst [.ref sc, .int 0, .int 0]), [t]⟩ [] [t] (.un :: .tp :: List.replicate (N.length - 2) Ent.un) (some (.ref a) :: some (.ref t) :: List.replicate n none) (upd (upd H sc (.lst (ns.map V.int))) t (.lst [.ref sc, .int 0, .int 0])) := by
    refine ⟨hid_le, fun a h => h, fun a h => h, fun a h => ?_, fun a h => ?_, ?_, fun i e hi => ?_, fun p hp => (by cases hp), ?_⟩
    · have : a = t := by simpa using h
      rw [this, upd_same]
      exact fun z => nomatch z
    · have : a = t := by simpa using h
      subst this
      exact ⟨0, 0, ns, upd_same, by rw [hid_out (by simpa using hts.symm), upd_ne hts.symm, upd_same], Int.le_refl _, Int.le_refl _⟩
    · rw [hn]
      simp
    · cases i with
      | zero =>
        cases hi
        exact True.intro
      | succ i =>
        cases i with
        | zero =>
          cases hi
          exact ⟨t, by simp, rfl⟩
        | succ i =>
          have : e = .un := by
            have h3 : (List.replicate (N.length - 2) Ent.un)[i]? = some e := hi
            rw [List.getElem?_replicate] at h3
            split at h3
            · exact (Option.some.inj h3).symm
            · cases h3
          subst this
          exact True.intro
    · unfold owns
      have e : (Ent.un :: Ent.tp :: List.replicate (N.length - 2) Ent.un).filterMap ownA = [] := by
        rw [List.filterMap_eq_nil_iff]
        intro x hx
        rcases List.mem_cons.mp hx with h | hx
        · rw [h]; rfl
        · rcases List.mem_cons.mp hx with h | hx
          · rw [h]; rfl
          · rw [List.eq_of_mem_replicate hx]; rfl
      rw [e]
      exact List.nodup_nil
  exact g2 [t] _ _ S0
end

/-! ### promises that ask the impossible -/
theorem fn_false {P : Program} {w : World} {K : PySem.W.Frag} {mg : Str → Option Value} {base : Heap} {k : Nat} {f : Addr} {fd : FuncData} {ps : List Str} {α : Type} {enc : α → List PyData} {Pre : α → Prop} {Post : α → PyData → Prop} (h : ∀ a, ¬ Pre a) : FnOk P w K mg base CX0 k f fd ps (spP enc Pre Post) :=
  ⟨fun vs H Q E ⟨_, a, _, _, p, _⟩ => (h a p).elim, fun _ _ _ _ _ _ _ _ _ _ _ _ _ ⟨_, a, _, _, p, _⟩ => (h a p).elim⟩
theorem fn_falseT {P : Program} {w : World} {K : PySem.W.Frag} {mg : Str → Option Value} {base : Heap} {k : Nat} {f : Addr} {fd : FuncData} {ps : List Str} {α : Type} {enc : α → List PyData} {Pre : α → Prop} {Post : α → PyData → Prop} (h : ∀ a, ¬ Pre a) : FnOk P w K mg base CX0 k f fd ps (spT enc Pre Post) :=
  ⟨fun vs H Q E ⟨_, _, _, _, a, _, _, _, _, _, p, _⟩ => (h a p).elim, fun _ _ _ _ _ _ _ _ _ _ _ _ _ ⟨_, _, _, _, a, _, _, _, _, _, p, _⟩ => (h a p).elim⟩
theorem c_dict {b : Bs} {G : List (V × PyData)} {Γ : List Ent} {N : L2.St → Hp → Prop} {i : Nat} {kvs : List (PyData × PyData)} (h : Γ[i]? = some (.dat (.dict kvs))) : Cont b G Γ N := fun M σ H S => by
  obtain ⟨v, _, r⟩ := S.at_ i _ h
  cases r

/-! ### the same datum -/

noncomputable def sameD (a b : PyData) : Bool := @decide (a = b) (Classical.propDecidable _)
theorem sameD_iff {a b : PyData} : sameD a b = true ↔ a = b := by
  unfold sameD
  exact @decide_eq_true_iff _ (Classical.propDecidable _)
theorem sameD_self (a : PyData) : sameD a a = true := sameD_iff.mpr rfl
theorem sameD_ne {a b : PyData} (h : a ≠ b) : sameD a b = false := by
  cases e : sameD a b with
  | false => rfl
  | true => exact absurd (sameD_iff.mp e) h
theorem flat_eq {K : PySem.W.Frag} : ∀ {x y : PyData}, flatD x = true → flatD y = true → isBoolD x = isBoolD y → OpD (rEqU K) x y (· = .bool (sameD x y))
  | .int i, .int j, _, _, _ => by
    have e : sameD (.int i) (.int j) = decide (i = j) := by
      by_cases h : i = j
      · rw [h, sameD_self, decide_eq_true rfl]
      · rw [sameD_ne fun z => h (PyData.int.inj z), decide_eq_false h]
    rw [e]
    exact od_eqI
  | .bool i, .bool j, _, _, _ => by
    have e : sameD (.bool i) (.bool j) = decide (i = j) := by
      by_cases h : i = j
      · rw [h, sameD_self, decide_eq_true rfl]
      · rw [sameD_ne fun z => h (PyData.bool.inj z), decide_eq_false h]
    rw [e]
    exact od_eqB
  | .str i, .str j, _, _, _ => by
    have e : sameD (.str i) (.str j) = decide (i = j) := by
      by_cases h : i = j
      · rw [h, sameD_self, decide_eq_true rfl]
      · rw [sameD_ne fun z => h (PyData.str.inj z), decide_eq_false h]
    rw [e]
    exact od_eqS
  | .none, .none, _, _, _ => by
    rw [sameD_self]
    exact fun M H vx vy t rx ry Q q => by
      cases rx
      cases ry
      exact .inr ⟨rfl, q _ _ H (Same.refl _) rfl (.bl _)⟩
  | .none, .int j, _, _, _ => by
    rw [sameD_ne (by simp)]
    exact fun M H vx vy t rx ry Q q => by
      cases rx
      cases ry
      exact .inr ⟨rfl, q _ _ H (Same.refl _) rfl (.bl _)⟩
  | .int j, .none, _, _, _ => by
    rw [sameD_ne (by simp)]
    exact fun M H vx vy t rx ry Q q => by
      cases rx
      cases ry
      exact .inr ⟨rfl, q _ _ H (Same.refl _) rfl (.bl _)⟩
  | .none, .str j, _, _, _ => by
    rw [sameD_ne (by simp)]
    exact fun M H vx vy t rx ry Q q => by
      cases rx
      cases ry
      exact .inr ⟨rfl, q _ _ H (Same.refl _) rfl (.bl _)⟩
  | .str j, .none, _, _, _ => by
    rw [sameD_ne (by simp)]
    exact fun M H vx vy t rx ry Q q => by
      cases rx
      cases ry
      exact .inr ⟨rfl, q _ _ H (Same.refl _) rfl (.bl _)⟩
  | .int i, .str j, _, _, _ => by
    rw [sameD_ne (by simp)]
    exact fun M H vx vy t rx ry Q q => by
      cases rx
      cases ry
      exact .inr ⟨rfl, q _ _ H (Same.refl _) rfl (.bl _)⟩
  | .str i, .int j, _, _, _ => by
    rw [sameD_ne (by simp)]
    exact fun M H vx vy t rx ry Q q => by
      cases rx
      cases ry
      exact .inr ⟨rfl, q _ _ H (Same.refl _) rfl (.bl _)⟩
  | .list _, _, h, _, _ => nomatch h
  | .tuple _, _, h, _, _ => nomatch h
  | .dict _, _, h, _, _ => nomatch h
  | _, .list _, _, h, _ => nomatch h
  | _, .tuple _, _, h, _ => nomatch h
  | _, .dict _, _, h, _ => nomatch h
  | .bool _, .int _, _, _, h => nomatch h
  | .bool _, .str _, _, _, h => nomatch h
  | .bool _, .none, _, _, h => nomatch h
  | .int _, .bool _, _, _, h => nomatch h
  | .str _, .bool _, _, _, h => nomatch h
  | .none, .bool _, _, _, h => nomatch h

/-! ### min of a tuple of two -/
def rMinT (K : PySem.W.Frag) : List V → Hp → VK → Prop := fun xs H Q => ∃ (p : Addr) (i j : Int), xs = [.ref p] ∧ SqT K H p [.int i, .int j] ∧ Q (.int (min i j)) H
theorem call_minT {X : Cx} {K : PySem.W.Frag} (hu : X.A.units + 64 < cLine) (hc : X.calm = true) (hK : X.K = K := by rfl) : CallR X (.builtin "min") (rMinT K) := by
  subst hK
  intro pins s σ H vs us Q I r h
  obtain ⟨p, i, j, rfl, hs, q⟩ := h
  obtain ⟨u, rfl, ru⟩ := vals1 r
  cases ru
  obtain ⟨its, rv, ⟨o, ho, hc', n, hd⟩, _⟩ := I.tuple hs
  cases rv with
  | cons r1 rv =>
    cases rv with
    | cons r2 rv =>
      cases rv
      obtain ⟨t1, rfl⟩ := r1
      obtain ⟨t2, rfl⟩ := r2
      refine PySem.W.min_tuple_data (x := .int i) (xs := [.int j]) (as := []) (I.ok.hd hc) ⟨o, ho, hc', n, hd⟩ (.cons (.int _ _) (.cons (.int _ _) .nil)) ⟨?_, ?_⟩ ?_ fun k v h' tk bs hv rd hk => ?_
      · intro a ha b hb
        have ha : a = .int i ∨ a = .int j := by simpa using ha
        have hb : b = .int i ∨ b = .int j := by simpa using hb
        rcases ha with rfl | rfl <;> rcases hb with rfl | rfl <;> simp [PySem.W.alike]
      · intro a ha
        have ha : a = .int i ∨ a = .int j := by simpa using ha
        rcases ha with rfl | rfl <;> simp
      · simp only [PyData.depthAll, PyData.depth]
        omega
      · have e : PySem.W.minD (.int i) [.int j] = .int (min i j) := PySem.W.minD_ints i [j]
        rw [e] at rd
        cases rd
        exact ⟨.int _, H, I.kept hk, ⟨_, rfl⟩, q⟩
theorem cd_minT {K : PySem.W.Frag} {i j : Int} : CbD (rMinT K) [.tuple [.int i, .int j]] (· = .int (min i j)) := fun M H vs t r Q q => by
  cases r with
  | cons r1 r2 =>
    cases r2
    obtain ⟨a, us, rfl, ha, hr⟩ := r1.tup_inv
    cases hr with
    | cons k1 hr =>
      cases hr with
      | cons k2 hr =>
        cases hr
        cases k1
        cases k2
        exact ⟨a, i, j, rfl, .inl (.inl (hid_le _ _ ha)), q _ _ H (Same.refl _) rfl (.int _)⟩
end Dz

set_option Elab.async false
set_option linter.all false
set_option maxRecDepth 100000
set_option maxHeartbeats 2000000
/-! Moves, ways, and how a doing is made straight. -/
namespace Bt
open PySem Dz

/-- a move: true opens -/
abbrev Mv := Bool × Pr
def word (k : Bool) : Str := if k then "open" else "do"
def eM (m : Mv) : PyData := .tuple [.str (word m.1), eP m.2]
theorem word_inj {a b : Bool} (h : word a = word b) : a = b := by
  cases a <;> cases b <;> first | rfl | (exact absurd h (by decide))
theorem eM_inj {a b : Mv} (h : eM a = eM b) : a = b := by
  obtain ⟨a1, a2⟩ := a
  obtain ⟨b1, b2⟩ := b
  unfold eM at h
  injection h with h
  injection h with h1 h2
  injection h1 with h1
  injection h2 with h2
  exact Prod.ext (word_inj h1) (eP_inj h2)
theorem same_eM (a b : Mv) : sameD (eM a) (eM b) = decide (a = b) := by
  by_cases h : a = b
  · rw [h, sameD_self, decide_eq_true rfl]
  · rw [sameD_ne fun z => h (eM_inj z), decide_eq_false h]
theorem dep_eM (m : Mv) : (eM m).depth = 2 := by
  have := dep_eP m.2
  simp only [eM, PyData.depth, PyData.depthAll]
  omega

theorem lay_eM (m : Mv) : (eM m).canLay0 = true ∧ (eM m).depth ≤ 32 := by
  refine ⟨?_, by rw [dep_eM]; decide⟩
  obtain ⟨h1, _⟩ := lay_eP m.2
  have h2 : PyData.strOk (word m.1) = true := by cases m.1 <;> decide +kernel
  simp [eM, PyData.canLay0, PyData.canLayAll0, h1, h2]
/-! ### steps, ways -/
def steps (c : Pr) (l : List Pr) : List (Mv × List Pr) := l.map (fun p => ((true, p), without l p)) ++ (fitL c l).map fun p => ((false, p), insP p l)
def eSt (s : Mv × List Pr) : PyData := .tuple [eM s.1, eD s.2]
noncomputable def nextD (c : Pr) (l : List Pr) (m : PyData) : Option (List Pr) := (((steps c l).filter fun s => sameD (eM s.1) m).map (·.2)).head?
noncomputable def pathS (c : Pr) (f : List (List Pr)) (l : List Pr) : List PyData → Option (List (List Pr) × List Pr)
  | [] => some (f, l)
  | m :: ms => match nextD c l m with
    | none => none
    | some l' => pathS c (f ++ [l]) l' ms
noncomputable def pathD (c : Pr) (l : List Pr) (d : PyData) : PyData := match d with
  | .list ms => (match pathS c [] l ms with
    | some (f, l') => .list ((f ++ [l']).map eD)
    | none => .none)
  | _ => .none
theorem pathD_none {c : Pr} {l : List Pr} {ms : List PyData} (h : pathS c [] l ms = none) : pathD c l (.list ms) = .none := by
  show (match pathS c [] l ms with
    | some (f, l') => PyData.list ((f ++ [l']).map eD)
    | none => .none) = _
  rw [h]
theorem pathD_list {c : Pr} {l : List Pr} {ms : List PyData} {f : List (List Pr)} {l' : List Pr} (h : pathS c [] l ms = some (f, l')) : pathD c l (.list ms) = .list ((f ++ [l']).map eD) := by
  show (match pathS c [] l ms with
    | some (f, l') => PyData.list ((f ++ [l']).map eD)
    | none => .none) = _
  rw [h]
theorem pathS_none {c : Pr} {f : List (List Pr)} {l : List Pr} {m : PyData} {ms : List PyData} (h : nextD c l m = none) : pathS c f l (m :: ms) = none := by
  rw [pathS, h]
theorem pathS_some {c : Pr} {f : List (List Pr)} {l l' : List Pr} {m : PyData} {ms : List PyData} (h : nextD c l m = some l') : pathS c f l (m :: ms) = pathS c (f ++ [l]) l' ms := by
  rw [pathS, h]
/-- of moves of the known kind -/
def nextM (c : Pr) (l : List Pr) (m : Mv) : Option (List Pr) := (((steps c l).filter fun s => decide (s.1 = m)).map (·.2)).head?
def pathM (c : Pr) (f : List (List Pr)) (l : List Pr) : List Mv → Option (List (List Pr) × List Pr)
  | [] => some (f, l)
  | m :: ms => match nextM c l m with
    | none => none
    | some l' => pathM c (f ++ [l]) l' ms
theorem pathM_len {c : Pr} : ∀ {ms : List Mv} {f f' : List (List Pr)} {l l' : List Pr}, pathM c f l ms = some (f', l') → f'.length = f.length + ms.length
  | [], f, f', l, l', h => by
    unfold pathM at h
    injection h with h
    injection h with h1 h2
    rw [← h1]
    rfl
  | m :: ms, f, f', l, l', h => by
    unfold pathM at h
    split at h
    · cases h
    · rw [pathM_len h, List.length_append, List.length_cons, List.length_cons, List.length_nil]
      omega
theorem nextD_eM (c : Pr) (l : List Pr) (m : Mv) : nextD c l (eM m) = nextM c l m := by
  unfold nextD nextM
  congr 2
  exact List.filter_congr fun s _ => same_eM s.1 m
theorem pathS_eM (c : Pr) : ∀ (ms : List Mv) (f : List (List Pr)) (l : List Pr), pathS c f l (ms.map eM) = pathM c f l ms
  | [], f, l => rfl
  | m :: ms, f, l => by
    rw [List.map_cons]
    unfold pathS pathM
    rw [nextD_eM]
    cases nextM c l m with
    | none => rfl
    | some l' => exact pathS_eM c ms (f ++ [l]) l'
theorem steps_ok {c : Pr} {l : List Pr} (hc : okC c = true) (hl : okD c l = true) {s : Mv × List Pr} (hs : s ∈ steps c l) : okD c s.2 = true := by
  unfold steps at hs
  rcases List.mem_append.mp hs with h | h
  · obtain ⟨p, _, rfl⟩ := List.mem_map.mp h
    exact without_ok hl
  · obtain ⟨p, hp, rfl⟩ := List.mem_map.mp h
    rw [← fits_eq hc hl] at hp
    exact ins_ok hp
theorem nextD_ok {c : Pr} {l l' : List Pr} {m : PyData} (hc : okC c = true) (hl : okD c l = true) (h : nextD c l m = some l') : okD c l' = true := by
  unfold nextD at h
  have := List.mem_of_head? h
  obtain ⟨s, hs, rfl⟩ := List.mem_map.mp this
  exact steps_ok hc hl (List.mem_filter.mp hs).1
theorem fitL_len {c : Pr} (hc : okC c = true) (l : List Pr) : (fitL c l).length ≤ 25 := by
  have h1 := okC_iff.mp hc
  refine Nat.le_trans (List.length_filter_le _ _) ?_
  have h2 := rows_len c c.1
  have h3 : c.1 * c.2 ≤ 5 * 5 := Nat.mul_le_mul (by omega) (by omega)
  unfold pairsC
  omega
theorem fitsM_len {c : Pr} (hc : okC c = true) (l : List Pr) : (fitsM c l).length ≤ 25 := by
  have h1 := okC_iff.mp hc
  refine Nat.le_trans (List.length_filter_le _ _) ?_
  have h2 := rows_len c c.1
  have h3 : c.1 * c.2 ≤ 5 * 5 := Nat.mul_le_mul (by omega) (by omega)
  unfold pairsC
  omega
theorem steps_len {c : Pr} (hc : okC c = true) (l : List Pr) : (steps c l).length ≤ l.length + 25 := by
  have := fitL_len hc l
  unfold steps
  rw [List.length_append, List.length_map, List.length_map]
  omega

theorem filter_map_eP' (l : List Pr) (f : PyData → Bool) (g : Pr → Bool) (h : ∀ p, f (eP p) = g p) : ((l.map eP).filter f).map id = (l.filter g).map eP := by
  rw [List.map_id, List.filter_map]
  congr 1
  exact List.filter_congr fun p _ => h p

end Bt

set_option Elab.async false
set_option linter.all false
set_option maxRecDepth 100000
set_option maxHeartbeats 2000000
namespace Bt
open PySem Dz
/-! ### straight -/
def straight (p : Pr) : Bool := p.1 == p.2
def stepF (a : List Pr × List Mv) (p : Pr) : List Pr × List Mv := if straight p then (insP p a.1, a.2 ++ [(false, p)]) else a
def doneS (c : Pr) (l : List Pr) : List Pr × List Mv := (fitsM c l).foldl stepF (l, [])
def stepS (c : Pr) (a : List Pr × List Mv) (p : Pr) : List Pr × List Mv := if straight p then a else ((doneS c (without a.1 p)).1, a.2 ++ [(true, p)] ++ (doneS c (without a.1 p)).2)
def straightM (c : Pr) (l : List Pr) : List Pr × List Mv := l.foldl (stepS c) (doneS c l)
def goalM (c : Pr) : List Pr := (List.range (min c.1 c.2)).map fun k => (1 + k, 1 + k)
def apartM (one other : List Pr) : Nat := (one.filter fun p => !other.contains p).length + (other.filter fun p => !one.contains p).length
theorem done_ok {c : Pr} {l : List Pr} (hc : okC c = true) (hl : okD c l = true) (n : Nat) : okD c (((fitsM c l).take n).foldl stepF (l, [])).1 = true ∧ (((fitsM c l).take n).foldl stepF (l, [])).2.length ≤ 25 := by
  have h := try_all (P := fun c l => (List.range 26).all fun n => okD c (((fitsM c l).take n).foldl stepF (l, [])).1 && decide ((((fitsM c l).take n).foldl stepF (l, [])).2.length ≤ 25)) (by decide +kernel) hc hl
  have hlen := fitsM_len hc l
  have key : ∀ m, m < 26 → okD c (((fitsM c l).take m).foldl stepF (l, [])).1 = true ∧ (((fitsM c l).take m).foldl stepF (l, [])).2.length ≤ 25 := fun m hm => by
    have := List.all_eq_true.mp h m (List.mem_range.mpr hm)
    simpa using this
  by_cases hn : n < 26
  · exact key n hn
  · have e : (fitsM c l).take n = (fitsM c l).take 25 := by
      rw [List.take_of_length_le (by omega), List.take_of_length_le (by omega)]
    rw [e]
    exact key 25 (by omega)
theorem doneS_ok {c : Pr} {l : List Pr} (hc : okC c = true) (hl : okD c l = true) : okD c (doneS c l).1 = true ∧ (doneS c l).2.length ≤ 25 := by
  have := done_ok hc hl (fitsM c l).length
  rw [List.take_length] at this
  exact this
theorem straight_ok {c : Pr} {l : List Pr} (hc : okC c = true) (hl : okD c l = true) (n : Nat) : okD c ((l.take n).foldl (stepS c) (doneS c l)).1 = true ∧ ((l.take n).foldl (stepS c) (doneS c l)).2.length ≤ 200 := by
  have h : ∀ (m : List Pr) (a : List Pr × List Mv), okD c a.1 = true → okD c (m.foldl (stepS c) a).1 = true ∧ (m.foldl (stepS c) a).2.length ≤ a.2.length + 26 * m.length := by
    intro m
    induction m with
    | nil => exact fun a ha => ⟨ha, by simp⟩
    | cons p m ih =>
      intro a ha
      have hw := without_ok (p := p) ha
      obtain ⟨d1, d2⟩ := doneS_ok hc hw
      have hs : okD c (stepS c a p).1 = true ∧ (stepS c a p).2.length ≤ a.2.length + 26 := by
        unfold stepS
        split
        · exact ⟨ha, by omega⟩
        · refine ⟨d1, ?_⟩
          simp only [List.length_append, List.length_cons, List.length_nil]
          omega
      obtain ⟨i1, i2⟩ := ih (stepS c a p) hs.1
      refine ⟨i1, ?_⟩
      rw [List.foldl_cons, List.length_cons]
      omega
  obtain ⟨d1, d2⟩ := doneS_ok hc hl
  obtain ⟨g1, g2⟩ := h (l.take n) (doneS c l) d1
  have := okD_len hc hl
  have : (l.take n).length ≤ l.length := List.length_take_le' ..
  exact ⟨g1, by omega⟩
/-- the law of the straight way -/
def straightLaw (c : Pr) (l : List Pr) : Bool :=
  match pathM c [] l (straightM c l).2 with
  | none => false
  | some (f, l') => decide (l' = goalM c) && decide ((straightM c l).2.length = apartM l (goalM c)) && (f ++ [l']).all (fun x => decide (l.length ≤ x.length + 1)) && (straightM c l).2.all (fun m => m.1 != straight m.2) && (!decide (l = goalM c) || (straightM c l).2.isEmpty)
theorem straight_law {c : Pr} {l : List Pr} (hc : okC c = true) (hl : okD c l = true) : straightLaw c l = true := try_all (P := straightLaw) (by decide +kernel) hc hl
end Bt

set_option Elab.async false
set_option linter.all false
set_option maxRecDepth 100000
set_option maxHeartbeats 2000000
/-! Dz9: a tuple from its end; a new list of a tuple's or a list's things, of two lists; what is put into a list of our own and taken out; rows whose things are drawn -/
namespace Dz
open PySem PySem.Spec PyProof.Rows L2

section
variable {prog : Program} {w : World} {A : Around} {E : Value → Shared → Prop} {s : Shared}
theorem places_back (n : Nat) : Builtin.Slice.slicePlaces ((n : Int) - 1) (-1) (-1) = n := by
  unfold Builtin.Slice.slicePlaces
  rw [if_neg (by decide)]
  by_cases h : 0 < n
  · rw [if_pos (by omega), show (- -1 : Int) = 1 by decide, Int.ediv_one]
    omega
  · rw [if_neg (by omega)]
    omega
theorem pick_back (xs : Array Value) : ((List.range xs.size).filterMap fun (m : Nat) => xs[(((xs.size : Int) - 1) + (m : Int) * (-1)).toNat]?).toArray = xs.toList.reverse.toArray := by
  have h := PySem.W.krv_pick xs
  unfold slicePick at h
  rw [PySem.W.krv_bounds] at h
  have h' : ((sliceRange ((xs.size : Int) - 1) (-1) (-1)).filterMap (xs[·]?)).toArray = xs.toList.reverse.toArray := h
  rw [PySem.W.krv_sliceRange, List.filterMap_map] at h'
  rw [← h']
  congr 1
  congr 1
  funext m
  have : (((xs.size : Int) - 1) + (m : Int) * (-1)).toNat = xs.size - 1 - m := by omega
  rw [this]
  rfl
/-- a slice from the end, of the whole -/
theorem sliceApplied_back {sl : Addr} {u : Tok} {n : Nat} {Q : Int × Int × Nat → Shared → Prop} (hs : s.heap.IsSliceOf sl .none .none (.int (-1) u)) (h : Q ((n : Int) - 1, -1, n) s) : wpAny (model prog w) A (Builtin.Slice.sliceApplied (.ref sl) (pure (n : Int))) Q E s := by
  obtain ⟨os, h1, h2, h3⟩ := id hs
  unfold Builtin.Slice.sliceApplied Builtin.Slice.sliceFields
  refine wpAny_bind (wpAny_bind (wpAny_field h1 h3 (x := .none) rfl (wpAny_bind (wpAny_field h1 h3 (x := .none) rfl (wpAny_bind (wpAny_field h1 h3 (x := .int (-1) u) rfl (wpAny_pure ?_)))))))
  refine wpAny_bind (slicePart_int (i := -1) ?_)
  show wpAny _ _ (if ((-1 : Int) == 0) = true then _ else _) _ _ s
  rw [if_neg (by decide)]
  refine wpAny_bind (slicePart_none (wpAny_bind (slicePart_none (wpAny_bind (wpAny_pure (a := (n : Int)) ?_)))))
  show wpAny _ _ (pure ((n : Int) - 1, (-1 : Int), Builtin.Slice.slicePlaces ((n : Int) - 1) (-1) (-1))) _ _ s
  rw [places_back]
  exact wpAny_pure h
theorem getItem_tuple_back {t sl : Addr} {items : Array Value} {u : Tok} {Q : Value → Shared → Prop} (ht : IsTup s.heap t items) (hs : s.heap.IsSliceOf sl .none .none (.int (-1) u)) (hsz : items.size ≤ sizeLine)
    (h : Q (.ref s.heap.objs.size) { s with heap := s.heap.push { cls := .type "tuple", data := .seq items.toList.reverse.toArray } }) : wpAny (model prog w) A (getItem (.ref t) (.ref sl)) Q E s := by
  obtain ⟨os, h1, h2, h3⟩ := id hs
  have hT : s.TypeIs (.ref sl) "slice" := ⟨os, h1, h2⟩
  have htake : sizeOk (.seq items.toList.reverse.toArray) := by
    show items.toList.reverse.toArray.size ≤ sizeLine
    rw [List.size_toArray, List.length_reverse, Array.length_toList]
    exact hsz
  unfold getItem
  try with_reducible refine wpAny_holding ?_
  first | refine wpAny_bind (wpAny_pure ?_) | skip
  refine wpAny_bind (wpAny_sequenceKey ht.typeIs (by decide) (wpAny_bind (wpAny_callSpecial?_slot (name := Str.ofString "__getitem__") ht.typeIs PyProof.Rows.slot_tuple_getitem (wpAny_call_entry PyProof.Rows.slot_tuple_getitem ht.typeIs entry_tuple_getitem ?_ (args_tuple_getitem _ _)))))
  show wpAny _ _ (Builtin.Tuple.tupleItemsOf (.ref t) >>= _) _ _ s
  refine wpAny_bind (tupleItemsOf_ ht (wpAny_bind (wpAny_typeOf hT ?_)))
  rw [if_pos (by decide)]
  refine wpAny_bind (sliceApplied_back hs ?_)
  have hno : ¬ ((((items.size : Int) - 1) == 0 && (-1 : Int) == 1 && items.size == items.size) = true) := by
    intro q
    rw [Bool.and_eq_true, Bool.and_eq_true] at q
    exact absurd (eq_of_beq q.1.2) (by decide)
  show wpAny _ _ (if (((items.size : Int) - 1) == 0 && (-1 : Int) == 1 && items.size == items.size) = true then _ else _) _ _ s
  rw [if_neg hno, pick_back]
  first
    | exact wpAny_bind (m := Builtin.Tuple.tupleExact _) (wpAny_newObj_type (wpAny_pure ⟨_, rfl, (wpAny_pure h)⟩) htake)
    | exact wpAny_bind (m := Builtin.Tuple.tupleExact _) (wpAny_newObj_type (wpAny_bind (wpAny_pure (wpAny_pure ⟨_, rfl, (wpAny_pure h)⟩))) htake)
    | exact wpAny_bind (wpAny_bind (m := Builtin.Tuple.tupleExact _) (wpAny_newObj_type (wpAny_pure (wpAny_pure ⟨_, rfl, (wpAny_pure h)⟩)) htake))
    | exact wpAny_bind (wpAny_bind (m := Builtin.Tuple.tupleExact _) (wpAny_newObj_type (wpAny_pure ⟨_, rfl, (wpAny_pure h)⟩) htake))
end
def tRevT (K : PySem.W.Frag) (te : TE) : TE := fun σ H Q => te σ H fun x H1 => ∃ a xs, x = .ref a ∧ SqT K H1 a xs ∧ ∀ p, H1 p = none → Q (.ref p) (upd H1 p (.tup xs.reverse))
section
variable {X : Cx}
theorem pe_revT {e : Expr} {te : TE} {k : Nat} {p1 p2 p3 pos : Pos} (he : PE X e te) : PE X (.Subscript e (.Slice none none (some (.UnaryOp .USub (.Constant (.int 1) k p1) p2)) p3) pos) (tRevT X.K te) := by
  refine ⟨fun pins s σ H Q I h => Subscript_ (thn (he.run pins s σ H _ I h) fun v s1 ⟨x, H1, I1, r1, q1⟩ => ?_)⟩
  obtain ⟨a, xs, ex, hx, q⟩ := q1
  subst ex
  cases r1
  have hst : PO X (some (.UnaryOp .USub (.Constant (.int 1) k p1) p2)) (tPart (tUn (rU fun i => .int (-i)) (tC (.int 1)))) := po_some (pe_un un_neg pe_int)
  refine wpAny_Slice (thn (po_none.run pins s1 σ H1 (fun o H2 => o = none ∧ H2 = H1) I1 ⟨rfl, rfl⟩) fun vl s2 ⟨l, H2, I2, pl, el, e2⟩ => ?_)
  subst el e2
  refine thn (po_none.run pins s2 σ H2 (fun o H3 => o = none ∧ H3 = H2) I2 ⟨rfl, rfl⟩) fun vu s3 ⟨u, H3, I3, pu, eu, e3⟩ => ?_
  subst eu e3
  refine thn (hst.run pins s3 σ H3 (fun o H4 => o = some (-1) ∧ H4 = H3) I3 ⟨1, rfl, -1, rfl, rfl, rfl⟩) fun vs s4 ⟨o, H4, I4, ps, eo, e4⟩ => ?_
  subst eo e4
  cases pl
  cases pu
  cases ps with
  | int _ u =>
  have I5 : Inv X pins σ H4 { s4 with heap := s4.heap.push { cls := .type "slice", data := .fields #[.none, .none, .int (-1) u] } } := I4.kept (t' := s4.toks) fun b ob q => Heap.get?_push_of_some _ q
  obtain ⟨its, r, ht, hz⟩ := I5.tuple hx
  have hlen := r.length
  show wpAny (model X.prog X.w) X.A (subscriptTail e (.Slice none none (some (.UnaryOp .USub (.Constant (.int 1) k p1) p2)) p3) (.ref a) (.ref s4.heap.objs.size)) (EP X pins σ Q) X.xe { s4 with heap := s4.heap.push { cls := .type "slice", data := .fields #[.none, .none, .int (-1) u] } }
  refine tail_any (ops := [.ref a, .ref s4.heap.objs.size]) ht.typeIs PyProof.Rows.slot_tuple_getitem.lookup ?_ (by with_unfolding_all rfl)
  refine getItem_tuple_back ht (Heap.IsSliceOf.new _ _ _ _) (by rw [List.size_toArray]; omega) ?_
  refine ⟨.ref _, _, I5.laid (t' := s4.toks) (o := .tup xs.reverse) (fun b ob q => Heap.get?_push_of_some _ q) (Nat.le_refl _) ?_, rfl, q _ (I5.hok.fresh (Nat.le_refl _))⟩
  exact ⟨by rw [List.length_reverse]; exact hz, _, r.reverse, IsTup.new _ _⟩
end
section
variable {K : PySem.W.Frag} {Γ : List Ent} {te ta tb ti tl : TE} {P R : PyData → Prop} {xs ys : List PyData} {b : Bs} {G : List (V × PyData)} {D : Ends} {i : Nat}
theorem ev_revT (h : EvD Γ te (.tuple xs)) : EvD Γ (tRevT K te) (.tuple xs.reverse) := fun b G M σ H S Q q => h b G M σ H S _ fun v d H1 S1 e1 p1 r1 => by
  subst p1
  obtain ⟨a, us, rfl, ha, hr⟩ := r1.tup_inv
  refine ⟨a, us, rfl, .inl (.inl (hid_le _ _ ha)), fun p hp => q _ _ _ (S1.same (same_upd hp)) (sameT_trans e1 (sameT_of (same_upd hp))) rfl (.tup (xs := us.reverse) ?_ (hr.reverse.up (hid_mono (same_upd hp))))⟩
  rw [hid_out (S1.fresh hp)]
  exact upd_same
theorem none_back {M : List Addr} {σ : L2.St} {H H1 : Hp} {p : Addr} (S1 : Sat b G M Γ σ H1) (e1 : Same (hid b.T H) H1) (hp : H1 p = none) : H p = none := by
  cases z : H p with
  | none => rfl
  | some o =>
    by_cases ht : p ∈ b.T
    · obtain ⟨i, c, ns, h1, _⟩ := S1.tape p ht
      rw [h1] at hp
      cases hp
    · rw [e1 p o (by rw [hid_out ht]; exact z)] at hp
      cases hp
/-- a list laid anew is a new list -/
theorem new_of {M : List Addr} {σ : L2.St} {H H1 : Hp} {vs : List V} {ds : List PyData} {Pl : List PyData → Prop} {Q : VK} (S1 : Sat b G M Γ σ H1) (e1 : Same (hid b.T H) H1) (r : RpL (hid M H1) vs ds) (hP : Pl ds)
    (q : ∀ p vs ds H', H p = none → Sat b G M Γ σ H' → Same (hid b.T H) H' → H' p = some (.lst vs) → Pl ds → RpL (hid (p :: M) H') vs ds → Q (.ref p) H') : ∀ p, H1 p = none → Q (.ref p) (upd H1 p (.lst vs)) := fun p hp =>
  q p vs ds _ (none_back S1 e1 hp) (S1.same (same_upd hp)) (sameT_trans e1 (sameT_of (same_upd hp))) upd_same hP (r.up (hid_cons_new hp))
theorem en_listT (h : EvD Γ te (.tuple xs)) : EnD Γ (tCB (rListU K) (tCons te tNil)) xs := fun b G M σ H S Q q => h b G M σ H S _ fun v d H1 S1 e1 p1 r1 => by
  subst p1
  obtain ⟨a, us, rfl, ha, hr⟩ := r1.tup_inv
  exact ⟨a, us, rfl, .inr (.inl (.inl (hid_le _ _ ha))), new_of (Pl := (· = xs)) S1 e1 hr rfl q⟩
theorem en_listL (h : EvD Γ te (.list xs)) : EnD Γ (tCB (rListU K) (tCons te tNil)) xs := fun b G M σ H S Q q => h b G M σ H S _ fun v d H1 S1 e1 p1 r1 => by
  subst p1
  obtain ⟨a, us, rfl, ha, hr⟩ := r1.list_inv
  exact ⟨a, us, rfl, .inl (.inl (.inl (hid_le _ _ ha))), new_of (Pl := (· = xs)) S1 e1 hr rfl q⟩
theorem en_addR {Pl : List PyData → Prop} (ha : EvD Γ ta (.list xs)) (hb : EvR Γ tb (fun d => ∃ ys, d = .list ys ∧ Pl ys)) (hz : ∀ ys, Pl ys → xs.length + ys.length ≤ 100000) : EvN Γ (tOp (rAddU K) ta tb) (fun zs => ∃ ys, zs = xs ++ ys ∧ Pl ys) := fun b G M σ H S Q q =>
  ha b G M σ H S _ fun v1 d1 H1 S1 e1 p1 r1 => hb b G M σ H1 S1 _ fun v2 d2 H2 S2 e2 p2 r2 => by
    have p1' : d1 = .list xs := p1
    subst p1'
    obtain ⟨ys, rfl, hp⟩ := p2
    obtain ⟨a, us, rfl, ha', hr⟩ := (r1.up (hid_T S.tm e2)).list_inv
    obtain ⟨a2, us2, rfl, ha2, hr2⟩ := r2.list_inv
    exact .inr (.inl ⟨a, a2, us, us2, rfl, rfl, hid_le _ _ ha', hid_le _ _ ha2, sz_of (by rw [hr.length, hr2.length]; exact hz ys hp), new_of S2 (sameT_trans e1 e2) (hr.append hr2) ⟨ys, rfl, hp⟩ q⟩)
theorem en_addL (ha : EvD Γ ta (.list xs)) (hb : EvD Γ tb (.list ys)) (hz : xs.length + ys.length ≤ 100000) : EnD Γ (tOp (rAddU K) ta tb) (xs ++ ys) := (en_addR (Pl := (· = ys)) ha (hb.imp fun d e => ⟨ys, e, rfl⟩) fun z e => by rw [e]; exact hz).imp fun d ⟨z, h1, h2⟩ => by rw [h1, h2]
/-! in and out of a list of our own -/
theorem c_popO {p : Addr} {k : Nat} (hi : Γ[i]? = some (.own p (lD xs))) (h : EvD Γ te (.int (k : Int))) (hk : k < xs.length) (hz : xs.length ≤ 50000) (c : Cont b G (Γ.set i (.own p (lD (xs.eraseIdx k)))) D.nx) : Cont b G Γ (tDrop (tBM K "list" rPopAt (tVar i) (tCons te tNil)) D) := fun M σ H S => by
  obtain ⟨h1, h2, h3, vs, h6, h8⟩ := own_at S hi
  refine ⟨.ref p, h1, .inl ⟨rfl, vs, .inl (.inl h6)⟩, ?_⟩
  refine h b G M σ H S _ fun v d H1 S1 e1 p1 r1 => ?_
  have p1' : d = .int (k : Int) := p1
  subst p1'
  cases r1
  obtain ⟨_, _, _, vs1, g6, g8⟩ := own_at S1 hi
  have hl := g8.length
  have hy : vs1[k]? = some vs1[k] := List.getElem?_eq_getElem (by omega)
  have hkl : k < vs1.length := by omega
  refine ⟨p, vs1, (k : Int), k, vs1[k], rfl, rfl, g6, ?_, ?_, ?_, hy, c M σ _ (S1.write hi ⟨_, rfl, g8.erase k⟩)⟩
  · exact Int.le_trans (by decide) (Int.natCast_nonneg k)
  · have : (k : Int) < 100000 := by omega
    exact Int.lt_trans this (by decide)
  · exact PyProof.Rows.seqIndex_at (i := (k : Int)) (by omega) (by omega)
theorem RpL.ins {H : Hp} {vs : List V} {ds : List PyData} {v : V} {d : PyData} (k : Nat) (r : RpL H vs ds) (h : Rp H v d) : RpL H (vs.take k ++ [v] ++ vs.drop k) (ds.take k ++ [d] ++ ds.drop k) := ((r.take k).append (.one h)).append (r.drop k)
theorem c_insO {p : Addr} {k : Nat} {r : V → List V → Hp → VK → Prop} (hr : r = fun x vs H Q => ∃ (l : Addr) (xs : List V) (i : Int) (y : V), x = .ref l ∧ vs = [.int i, y] ∧ H l = some (.lst xs) ∧ xs.length < sizeLine ∧ 0 ≤ i ∧ i < 2 ^ 63 ∧ Q .non (upd H l (.lst (xs.take i.toNat ++ [y] ++ xs.drop i.toNat))))
    (hi : Γ[i]? = some (.own p (lD xs))) (hk : EvD Γ ti (.int (k : Int))) (h : EvR Γ te P) (hz : xs.length < 50000) (hk2 : k ≤ 100000) (c : ∀ d, P d → Cont b G (Γ.set i (.own p (lD (xs.take k ++ [d] ++ xs.drop k)))) D.nx) : Cont b G Γ (tDrop (tBM K "list" r (tVar i) (tCons ti (tCons te tNil))) D) := fun M σ H S => by
  subst hr
  obtain ⟨h1, h2, h3, vs, h6, h8⟩ := own_at S hi
  refine ⟨.ref p, h1, .inl ⟨rfl, vs, .inl (.inl h6)⟩, ?_⟩
  refine hk b G M σ H S _ fun v0 d0 H0 S0 e0 p0 r0 => h b G M σ H0 S0 _ fun v d H1 S1 e1 p1 r1 => ?_
  have p0' : d0 = .int (k : Int) := p0
  subst p0'
  cases r0
  obtain ⟨_, _, _, vs1, g6, g8⟩ := own_at S1 hi
  have hl := g8.length
  exact ⟨p, vs1, (k : Int), v, rfl, rfl, g6, sz_lt (by omega), by omega, by omega, c d p1 M σ _ (S1.write hi ⟨_, rfl, RpL.ins k g8 r1⟩)⟩
theorem c_setO {p : Addr} {k : Nat} (hi : Γ[i]? = some (.own p (lD xs))) (h : EvR Γ te P) (hx : EvD Γ ti (.int (k : Int))) (hk : k < xs.length) (c : ∀ d, P d → Cont b G (Γ.set i (.own p (lD (xs.set k d)))) D.nx) : Cont b G Γ (tAsg te (gSub (tVar i) ti rSetL) D) :=
  c_setI (I := (· = (k : Int))) hi h (hx.imp fun d e => ⟨_, e, rfl⟩) (fun z e => by rw [e]; omega) fun d z hd e => by subst e; exact c d hd
/-- a list of our own, now told from elsewhere -/
theorem q_setN {Pl : List PyData → Prop} {u : TS} (h : EvN Γ te Pl) (k : ∀ p ds, Pl ds → Cont b G (Γ.set i (.own p (lD ds))) (u D)) (hi : i < Γ.length := by simp) : Cont b G Γ (tSeq (tAsg te (gName i)) u D) := c_setN (D := { D with nx := u D }) h k hi
/-! rows whose things are drawn -/
def A (n : Nat) (P : PyData → Prop) (ds : List PyData) : Prop := ds.length = n ∧ ∀ x ∈ ds, P x
theorem ea_A0 {P : PyData → Prop} : EvA Γ tNil (A 0 P) := ea_nil.imp fun ds e => by rw [e]; exact ⟨rfl, fun _ h => nomatch h⟩
theorem ea_A1 {P : PyData → Prop} {n : Nat} {tr : TA} (h : EvR Γ te P) (hr : EvA Γ tr (A n P)) : EvA Γ (tCons te tr) (A (n + 1) P) := (ea_consR h hr).imp fun l ⟨d, ds, e, h1, h2, h3⟩ => by
  rw [e]
  exact ⟨by rw [List.length_cons, h2], fun x hx => (List.mem_cons.mp hx).elim (fun e => e ▸ h1) (h3 x)⟩
theorem ev_lstA {P : PyData → Prop} {n : Nat} {tr : TA} (h : EvA Γ tr (A n P)) (hn : n ≤ 1000) : EvR Γ (tLst tr) (fun d => ∃ ds, d = .list ds ∧ A n P ds) := EvN.ev (en_lstR h fun ds hd => by rw [hd.1]; omega)
/-- one of a row, which one is drawn -/
theorem ev_pick {P : PyData → Prop} {n : Nat} (h : EvR Γ te (fun d => ∃ ds, d = .list ds ∧ A n P ds)) (hx : EvR Γ ti (fun d => ∃ r : Int, d = .int r ∧ 0 ≤ r ∧ r < (n : Int))) : EvR Γ (tOp (rIx K) te ti) P := ev_opR h hx fun x y ⟨ds, e, hn, hd⟩ ⟨r, e2, r0, r1⟩ => by
  subst e e2
  have hr : r.toNat < ds.length := by omega
  have := at_nat (List.getElem?_eq_getElem hr)
  rw [Int.toNat_of_nonneg r0] at this
  exact (od_ixL this).imp fun d e => by rw [e]; exact hd _ (List.getElem_mem hr)
/-- over a list that is drawn -/
theorem c_for_listR {g : TG} {tb : TS} {Pl : List PyData → Prop} (h : EvR Γ tl (fun d => ∃ ds, d = .list ds ∧ Pl ds)) (I : List PyData → Nat → List Ent → Prop) (h0 : ∀ ds, Pl ds → I ds 0 Γ)
    (hs : ∀ ds, Pl ds → ∀ G' i d Γ1, ds[i]? = some d → I ds i Γ1 → ∃ Γ2, Tgt g Γ1 d Γ2 ∧ Cont b G' Γ2 (tb { D with nx := Nx b G' (I ds (i + 1)), ct := Nx b G' (I ds (i + 1)), bk := D.nx }))
    (hd : ∀ ds, Pl ds → ∀ Γ1, I ds ds.length Γ1 → Cont b G Γ1 D.nx) : Cont b G Γ (tFor (iList K tl) g tb D) := fun M σ H S => h b G M σ H S _ fun v d' H1 S1 e1 p1 r1 => by
  obtain ⟨ds, rfl, hp⟩ := p1
  obtain ⟨a, xs, rfl, ha, hr⟩ := r1.list_inv
  have inv : ∀ {M' Γ' σ' H'}, Sat b ((.ref a, .list ds) :: G) M' Γ' σ' H' → ∃ ys, H' a = some (.lst ys) ∧ RpL (hid M' H') ys ds := fun S' => by
    obtain ⟨a', ys, ea, h1, h2⟩ := (ghost_at S').list_inv
    cases ea
    exact ⟨ys, hid_le _ _ h1, h2⟩
  refine ⟨a, rfl, ⟨xs, .inl (.inl (hid_le _ _ ha))⟩, fun i m σ' H' => m = ds.length - i ∧ i ≤ ds.length ∧ Nx b ((.ref a, .list ds) :: G) (I ds i) σ' H', ⟨_, rfl, Nat.zero_le _, M, Γ, S1.ghost r1, h0 ds hp⟩, ?_⟩
  rintro i m σ' H' ⟨rfl, hi, M', Γ', S', hI⟩
  obtain ⟨ys, hy, hry⟩ := inv S'
  have hl := hry.length
  by_cases hlt : i < ds.length
  · have hyi : ys[i]? = some ys[i] := List.getElem?_eq_getElem (by omega)
    refine .inr ⟨⟨ys, ys[i], .inl (.inl hy), hyi⟩, Nx b ((.ref a, .list ds) :: G) (I ds (i + 1)), fun σ2 H2 q => ⟨ds.length - (i + 1), by omega, rfl, hlt, q⟩, fun x H2 y => ?_⟩
    obtain ⟨rfl, fx⟩ := y
    have ex : x = ys[i] := Option.some.inj ((fx ys (.inl (.inl hy))).symm.trans hyi)
    subst ex
    obtain ⟨d, hd', rd⟩ := hry.get' hyi
    obtain ⟨Γ2, t1, t2⟩ := hs ds hp _ i d Γ' hd' hI
    exact t1 b _ M' σ' _ _ _ S' rd fun σ2 S2 => t2 M' σ2 _ S2
  · have e : i = ds.length := by omega
    subst e
    exact .inl ⟨⟨ys, .inl (.inl hy), by omega⟩, hd ds hp Γ' hI M' σ' H' S'.noghost⟩
theorem q_for_listR {g : TG} {tb u : TS} {Pl : List PyData → Prop} (h : EvR Γ tl (fun d => ∃ ds, d = .list ds ∧ Pl ds)) (I : List PyData → Nat → List Ent → Prop) (h0 : ∀ ds, Pl ds → I ds 0 Γ)
    (hs : ∀ ds, Pl ds → ∀ G' i d Γ1, ds[i]? = some d → I ds i Γ1 → ∃ Γ2, Tgt g Γ1 d Γ2 ∧ Cont b G' Γ2 (tb { D with nx := Nx b G' (I ds (i + 1)), ct := Nx b G' (I ds (i + 1)), bk := u D }))
    (hd : ∀ ds, Pl ds → ∀ Γ1, I ds ds.length Γ1 → Cont b G Γ1 (u D)) : Cont b G Γ (tSeq (tFor (iList K tl) g tb) u D) := c_for_listR (D := { D with nx := u D }) h I h0 hs hd
end
end Dz

set_option Elab.async false
set_option linter.all false
set_option maxRecDepth 100000
set_option maxHeartbeats 2000000
/-! Dz10: data that is not too deep and not too long; calls with a tape and known arguments -/
namespace Dz
open PySem PySem.Spec PyProof.Rows L2

section
variable {K : PySem.W.Frag} {Γ : List Ent} {te ta tb ti tl : TE} {ar : TA} {P R : PyData → Prop} {xs ys : List PyData} {b : Bs} {G : List (V × PyData)} {D : Ends} {α : Type} {enc : α → List PyData} {Pre : α → Prop} {Post : α → PyData → Prop} {E : XK}
theorem ev_callTX {i : Nat} (a : α) (hi : Γ[i]? = some .tp) (ha : EaD Γ ar (enc a)) (hp : Pre a) : EvR Γ (tCall (spT enc Pre Post) [] E (tCons (tVar i) ar)) (Post a) := fun b G M σ H S Q q => by
  obtain ⟨t, ht, hs⟩ := S.at_ i _ hi
  refine ⟨.ref t, sl_some hs, ?_⟩
  refine ha b G M σ H S _ fun vs ds H1 S1 e1 p1 r1 => ?_
  have p1' : ds = enc a := p1
  subst p1'
  refine ⟨M, t, b.sc, vs, a, by rw [List.append_nil], S1.tm t ht, S1.trk, S1.tape t ht, r1, hp, fun v d H2 e2 tp p2 r2 => ?_⟩
  have sT : Same (hid b.T H1) H2 := fun x o h => by
    obtain ⟨h1, h2⟩ := hid_some h
    exact e2 x o (by rw [hid_out (by simp; exact fun z => h1 (z ▸ ht))]; exact h2)
  have tpo : ∀ t' ∈ b.T, TapeOk M H2 t' b.sc := fun t' ht' => by
    by_cases z : t' = t
    · rw [z]
      exact tp
    · obtain ⟨i, c, ns, g1, g2, g3⟩ := S1.tape t' ht'
      refine ⟨i, c, ns, e2 t' _ (by rw [hid_out (by simpa using z)]; exact g1), hid_T S1.tm sT _ _ g2, g3⟩
  exact q v d H2 (S1.go sT tpo) (sameT_trans e1 sT) p2 r2
/-- an item of a list of our own, which one is drawn -/
theorem ev_pickO {i : Nat} {p : Addr} (hi : Γ[i]? = some (.own p (lD xs))) (h : EvR Γ ti (fun d => ∃ r : Int, d = .int r ∧ 0 ≤ r ∧ r < (xs.length : Int))) : EvR Γ (tOp (rIx K) (tVar i) ti) (fun d => d ∈ xs) := fun b G M σ H S Q q => by
  obtain ⟨h1, _, _, vs, _, _⟩ := own_at S hi
  refine ⟨.ref p, h1, ?_⟩
  refine h b G M σ H S _ fun v dv H1 S1 e1 p1 r1 => ?_
  obtain ⟨r, rfl, r0, r2⟩ := p1
  cases r1
  obtain ⟨_, _, _, vs1, g1, g2⟩ := own_at S1 hi
  have hr : r.toNat < xs.length := by omega
  have ha := at_nat (List.getElem?_eq_getElem hr)
  rw [Int.toNat_of_nonneg r0] at ha
  obtain ⟨x, hx, rx⟩ := atI_rp g2 ha
  exact .inl ⟨p, vs1, r, x, rfl, rfl, .inl (.inl g1), hx, q x _ H1 S1 e1 (List.getElem_mem hr) rx⟩
end

/-! ### tame data -/
mutual
def tm (B : Nat) : PyData → Bool
  | .list xs => decide (xs.length ≤ B) && tmAll B xs
  | .tuple xs => decide (xs.length ≤ B) && tmAll B xs
  | .str x => decide (x.length ≤ 10 * B)
  | _ => true
def tmAll (B : Nat) : List PyData → Bool
  | [] => true
  | x :: xs => tm B x && tmAll B xs
end
theorem tmAll_iff {B : Nat} : ∀ {xs : List PyData}, tmAll B xs = true ↔ ∀ x ∈ xs, tm B x = true
  | [] => by simp [tmAll]
  | x :: xs => by rw [tmAll, Bool.and_eq_true, tmAll_iff]; simp
theorem dpAll_iff {n : Nat} : ∀ {xs : List PyData}, PyData.depthAll xs ≤ n ↔ ∀ x ∈ xs, x.depth ≤ n
  | [] => by simp [PyData.depthAll]
  | x :: xs => by
    rw [PyData.depthAll]
    simp only [List.mem_cons, forall_eq_or_imp]
    rw [← dpAll_iff (xs := xs)]
    omega
/-- not deeper than n, no row longer than B -/
def Tame (n B : Nat) (d : PyData) : Prop := d.depth ≤ n ∧ tm B d = true
theorem tame_list {n B : Nat} {xs : List PyData} : Tame (n + 1) B (.list xs) ↔ xs.length ≤ B ∧ ∀ x ∈ xs, Tame n B x := by
  unfold Tame
  rw [PyData.depth, tm, Bool.and_eq_true, decide_eq_true_eq, tmAll_iff]
  constructor
  · intro ⟨h1, h2, h3⟩
    exact ⟨h2, fun x hx => ⟨dpAll_iff.mp (by omega) x hx, h3 x hx⟩⟩
  · intro ⟨h1, h2⟩
    have := dpAll_iff.mpr fun x hx => (h2 x hx).1
    exact ⟨by omega, h1, fun x hx => (h2 x hx).2⟩
theorem tame_tuple {n B : Nat} {xs : List PyData} : Tame (n + 1) B (.tuple xs) ↔ xs.length ≤ B ∧ ∀ x ∈ xs, Tame n B x := by
  unfold Tame
  rw [PyData.depth, tm, Bool.and_eq_true, decide_eq_true_eq, tmAll_iff]
  constructor
  · intro ⟨h1, h2, h3⟩
    exact ⟨h2, fun x hx => ⟨dpAll_iff.mp (by omega) x hx, h3 x hx⟩⟩
  · intro ⟨h1, h2⟩
    have := dpAll_iff.mpr fun x hx => (h2 x hx).1
    exact ⟨by omega, h1, fun x hx => (h2 x hx).2⟩
theorem tame_list0 {n B : Nat} {xs : List PyData} (h : Tame n B (.list xs)) : ∃ m, n = m + 1 := by
  have := h.1
  rw [PyData.depth] at this
  exact ⟨n - 1, by omega⟩
theorem tame_tuple0 {n B : Nat} {xs : List PyData} (h : Tame n B (.tuple xs)) : ∃ m, n = m + 1 := by
  have := h.1
  rw [PyData.depth] at this
  exact ⟨n - 1, by omega⟩
mutual
theorem tm_mono {B B' : Nat} (h : B ≤ B') : ∀ d : PyData, tm B d = true → tm B' d = true
  | .list xs, e => by
    rw [tm, Bool.and_eq_true, decide_eq_true_eq] at e ⊢
    exact ⟨by omega, tmAll_mono h xs e.2⟩
  | .tuple xs, e => by
    rw [tm, Bool.and_eq_true, decide_eq_true_eq] at e ⊢
    exact ⟨by omega, tmAll_mono h xs e.2⟩
  | .str x, e => by
    rw [tm, decide_eq_true_eq] at e ⊢
    omega
  | .none, _ => rfl
  | .int _, _ => rfl
  | .bool _, _ => rfl
  | .dict _, _ => rfl
theorem tmAll_mono {B B' : Nat} (h : B ≤ B') : ∀ ds : List PyData, tmAll B ds = true → tmAll B' ds = true
  | [], _ => rfl
  | d :: ds, e => by
    rw [tmAll, Bool.and_eq_true] at e ⊢
    exact ⟨tm_mono h d e.1, tmAll_mono h ds e.2⟩
end
theorem Tame.mono {n n' B B' : Nat} {d : PyData} (h : Tame n B d) (hn : n ≤ n') (hB : B ≤ B') : Tame n' B' d := ⟨Nat.le_trans h.1 hn, tm_mono hB d h.2⟩
theorem tame_int {n B : Nat} {i : Int} : Tame n B (.int i) := ⟨by simp [PyData.depth], rfl⟩
theorem tame_bool {n B : Nat} {i : Bool} : Tame n B (.bool i) := ⟨by simp [PyData.depth], rfl⟩
theorem tame_none {n B : Nat} : Tame n B .none := ⟨by simp [PyData.depth], rfl⟩
theorem tame_str {n B : Nat} {x : Str} : Tame n B (.str x) ↔ x.length ≤ 10 * B := by
  unfold Tame
  rw [tm, decide_eq_true_eq]
  simp [PyData.depth]
/-- a tuple is not too long -/
def Short (d : PyData) : Prop := ∀ xs, d = .tuple xs → xs.length ≤ 1000
theorem Tame.short {n B : Nat} {d : PyData} (h : Tame n B d) (hB : B ≤ 1000) : Short d := fun xs e => by
  subst e
  obtain ⟨m, rfl⟩ := tame_tuple0 h
  have := (tame_tuple.mp h).1
  omega
end Dz

set_option Elab.async false
set_option linter.all false
set_option maxRecDepth 100000
set_option maxHeartbeats 2000000
/-! One move, ways by hand, the least number done. -/
namespace Bt
open PySem Dz L2

theorem head_pick {α β : Type} [DecidableEq α] (p : α) (h : α → β) : ∀ l : List α, (p ∈ l → ((l.filter fun q => decide (q = p)).map h).head? = some (h p)) ∧ (p ∉ l → ((l.filter fun q => decide (q = p)).map h).head? = none)
  | [] => ⟨(fun z => nomatch z), fun _ => rfl⟩
  | q :: l => by
    rw [List.filter_cons]
    by_cases e : q = p
    · subst e
      exact ⟨fun _ => by simp, fun z => absurd List.mem_cons_self z⟩
    · rw [if_neg (by simpa using e)]
      obtain ⟨h1, h2⟩ := head_pick p h l
      exact ⟨fun z => h1 ((List.mem_cons.mp z).resolve_left fun z => e z.symm), fun z => h2 fun y => z (List.mem_cons_of_mem _ y)⟩
theorem filter_none {α : Type} {f : α → Bool} {l : List α} (h : ∀ x ∈ l, f x = false) : l.filter f = [] := by
  rw [List.filter_eq_nil_iff]
  intro x hx
  rw [h x hx]
  exact Bool.false_ne_true
theorem next_open (c : Pr) (l : List Pr) (p : Pr) : (p ∈ l → nextD c l (eM (true, p)) = some (without l p)) ∧ (p ∉ l → nextD c l (eM (true, p)) = none) := by
  rw [nextD_eM]
  unfold nextM steps
  rw [List.filter_append, List.filter_map, List.filter_map, filter_none (l := fitL c l) fun x _ => by simp, List.map_nil, List.append_nil, List.map_map]
  have e : (fun q : Pr => decide (q = p)) = (fun s : Mv × List Pr => decide (s.1 = (true, p))) ∘ fun q => ((true, q), without l q) := by
    funext q
    simp
  rw [← e]
  exact head_pick p (without l) l
theorem next_do (c : Pr) (l : List Pr) (p : Pr) : (p ∈ fitL c l → nextD c l (eM (false, p)) = some (insP p l)) ∧ (p ∉ fitL c l → nextD c l (eM (false, p)) = none) := by
  rw [nextD_eM]
  unfold nextM steps
  rw [List.filter_append, List.filter_map, List.filter_map, filter_none (l := l) fun x _ => by simp, List.map_nil, List.nil_append, List.map_map]
  have e : (fun q : Pr => decide (q = p)) = (fun s : Mv × List Pr => decide (s.1 = (false, p))) ∘ fun q => ((false, q), insP q l) := by
    funext q
    simp
  rw [← e]
  exact head_pick p (fun q => insP q l) (fitL c l)
theorem in_pairs {c q : Pr} (h : q ∈ pairsC c) : inC c q = true := by
  unfold pairsC rowC at h
  obtain ⟨i, hi, h⟩ := List.mem_flatMap.mp h
  obtain ⟨j, hj, rfl⟩ := List.mem_map.mp h
  have := List.mem_range.mp hi
  have := List.mem_range.mp hj
  exact inC_iff.mpr ⟨by omega, by omega, by omega, by omega⟩
theorem next_none {c : Pr} {l : List Pr} {d : PyData} (hl : okD c l = true) (h : ∀ (k : Bool) (q : Pr), inC c q = true → eM (k, q) ≠ d) : nextD c l d = none := by
  unfold nextD
  rw [filter_none, List.map_nil]
  · rfl
  · intro s hs
    refine sameD_ne ?_
    unfold steps at hs
    rcases List.mem_append.mp hs with z | z
    · obtain ⟨p, hp, rfl⟩ := List.mem_map.mp z
      exact h _ _ (okD_in hl p hp)
    · obtain ⟨p, hp, rfl⟩ := List.mem_map.mp z
      exact h _ _ (in_pairs (List.mem_filter.mp hp).1)
noncomputable def moveD (c : Pr) (l : List Pr) (d : PyData) : PyData := match nextD c l d with
  | some l' => eD l'
  | none => .none
theorem moveD_none {c : Pr} {l : List Pr} {d : PyData} (h : nextD c l d = none) : moveD c l d = .none := by
  unfold moveD
  rw [h]
theorem moveD_some {c : Pr} {l l' : List Pr} {d : PyData} (h : nextD c l d = some l') : moveD c l d = eD l' := by
  unfold moveD
  rw [h]
noncomputable def pathO (c : Pr) (l : List Pr) (d : PyData) : Option (List (List Pr) × List Pr) := match d with
  | .list ms => pathS c [] l ms
  | _ => none
theorem pathD_O (c : Pr) (l : List Pr) (d : PyData) : pathD c l d = match pathO c l d with
  | some (f, l') => .list ((f ++ [l']).map eD)
  | none => .none := by
  cases d <;> rfl
theorem pathS_len {c : Pr} : ∀ {ms : List PyData} {f f' : List (List Pr)} {l l' : List Pr}, pathS c f l ms = some (f', l') → f'.length = f.length + ms.length
  | [], f, f', l, l', h => by
    unfold pathS at h
    injection h with h
    injection h with h1 h2
    rw [← h1]
    rfl
  | m :: ms, f, f', l, l', h => by
    unfold pathS at h
    split at h
    · cases h
    · rw [pathS_len h, List.length_append, List.length_cons, List.length_cons, List.length_nil]
      omega
/-! the least of numbers -/
def minI : List Int → Int
  | [] => 0
  | [n] => n
  | n :: m :: r => min n (minI (m :: r))
theorem minI_mem : ∀ {ns : List Int}, ns ≠ [] → minI ns ∈ ns
  | [], h => absurd rfl h
  | [n], _ => List.mem_singleton.mpr rfl
  | n :: m :: r, _ => by
    have ih := minI_mem (ns := m :: r) (by simp)
    rw [minI]
    by_cases h : n ≤ minI (m :: r)
    · rw [Int.min_eq_left h]
      exact List.mem_cons_self
    · rw [Int.min_eq_right (by omega)]
      exact List.mem_cons_of_mem _ ih
theorem minI_le : ∀ {ns : List Int} {y : Int}, y ∈ ns → minI ns ≤ y
  | [n], y, h => by
    rw [List.mem_singleton.mp h]
    exact Int.le_refl _
  | n :: m :: r, y, h => by
    rw [minI]
    rcases List.mem_cons.mp h with rfl | h
    · exact Int.min_le_left _ _
    · exact Int.le_trans (Int.min_le_right _ _) (minI_le h)
def lens (f : List (List Pr)) : List Int := f.map fun x => (x.length : Int)
def least (f : List (List Pr)) : Int := minI (lens f)
theorem cd_least {K : PySem.W.Frag} {f : List (List Pr)} (h : f ≠ []) : CbD (rMin K) [.list ((lens f).map .int)] (· = .int (least f)) := cd_min (minI_mem (by unfold lens; simpa using h)) fun y hy => minI_le hy
noncomputable def behD (c : Pr) (l : List Pr) (d : PyData) : PyData := match pathO c l d with
  | some (_, l') => eD l'
  | none => .none
noncomputable def fewD (c : Pr) (l : List Pr) (d : PyData) : PyData := match pathO c l d with
  | some (f, l') => .int (least (f ++ [l']))
  | none => .none
theorem behD_some {c : Pr} {l l' : List Pr} {f : List (List Pr)} {d : PyData} (h : pathO c l d = some (f, l')) : behD c l d = eD l' := by unfold behD; rw [h]
theorem behD_none {c : Pr} {l : List Pr} {d : PyData} (h : pathO c l d = none) : behD c l d = .none := by unfold behD; rw [h]
theorem fewD_some {c : Pr} {l l' : List Pr} {f : List (List Pr)} {d : PyData} (h : pathO c l d = some (f, l')) : fewD c l d = .int (least (f ++ [l'])) := by unfold fewD; rw [h]
theorem fewD_none {c : Pr} {l : List Pr} {d : PyData} (h : pathO c l d = none) : fewD c l d = .none := by unfold fewD; rw [h]
theorem pathD_some {c : Pr} {l l' : List Pr} {f : List (List Pr)} {d : PyData} (h : pathO c l d = some (f, l')) : pathD c l d = .list ((f ++ [l']).map eD) := by rw [pathD_O, h]
theorem pathD_no {c : Pr} {l : List Pr} {d : PyData} (h : pathO c l d = none) : pathD c l d = .none := by rw [pathD_O, h]
/-- how long a way's row of doings is -/
theorem pathO_len {c : Pr} {l l' : List Pr} {f : List (List Pr)} {d : PyData} (h : pathO c l d = some (f, l')) : ∃ ms, d = .list ms ∧ f.length = ms.length := by
  cases d with
  | list ms => exact ⟨ms, rfl, by have := pathS_len (f := []) h; simpa using this⟩
  | _ => cases h
theorem steps_some {c : Pr} {l : List Pr} (hc : okC c = true) (hl : okD c l = true) : 0 < (steps c l).length := by
  have h := try_all (P := fun c l => decide (0 < (steps c l).length)) (by decide +kernel) hc hl
  exact of_decide_eq_true h
end Bt

set_option Elab.async false
set_option linter.all false
set_option maxRecDepth 100000
set_option maxHeartbeats 2000000
/-! Dq1: a dict whose keys are doings: what stands in the heap, by values. -/
namespace Dq
open PySem PySem.Spec PyProof.Rows L2 Dz Bt

def nkP (p : Pr) : NestedKey := .tup [.num p.1, .num p.2]
def nkD (l : List Pr) : NestedKey := .tup (l.map nkP)
theorem nkP_inj {p q : Pr} (h : nkP p = nkP q) : p = q := by
  unfold nkP at h
  injection h with h
  injection h with h1 h
  injection h with h2 _
  injection h1 with h1
  injection h2 with h2
  exact Prod.ext (by omega) (by omega)
theorem mapP_inj : ∀ {l m : List Pr}, l.map nkP = m.map nkP → l = m
  | [], [], _ => rfl
  | [], _ :: _, h => by cases h
  | _ :: _, [], h => by cases h
  | p :: l, q :: m, h => by
    rw [List.map_cons, List.map_cons] at h
    injection h with h1 h2
    rw [nkP_inj h1, mapP_inj h2]
theorem nkD_inj {l m : List Pr} (h : nkD l = nkD m) : l = m := by
  unfold nkD at h
  injection h with h
  exact mapP_inj h
theorem nkP_depth : ∀ l : List Pr, NestedKey.depthAll (l.map nkP) ≤ 1
  | [] => by simp [NestedKey.depthAll]
  | p :: l => by
    have := nkP_depth l
    have h : (nkP p).depth = 1 := by simp [nkP, NestedKey.depth, NestedKey.depthAll]
    rw [List.map_cons, NestedKey.depthAll, h]
    omega
theorem nkD_depth (l : List Pr) : (nkD l).depth ≤ 8 := by
  have := nkP_depth l
  rw [nkD, NestedKey.depth]
  omega
section
variable {P : Program} {w : World} {H : Hp} {h : Heap}
theorem all_is (ok : HOk P w H h) : ∀ {l : List Pr} {xs : List V} {its : List Value}, RpL H xs (l.map eP) → Vals xs its → NestedAll h (l.map nkP) its
  | [], _, _, r, v => by
    cases r
    cases v
    exact .nil
  | p :: l, _, _, r, v => by
    rw [List.map_cons] at r
    cases r with
    | cons r1 r2 =>
      cases v with
      | cons v1 v2 =>
        obtain ⟨a, us, rfl, ha, hr⟩ := r1.tup_inv
        obtain rfl : _ = Value.ref a := v1
        refine .cons ?_ (all_is ok r2 v2)
        cases hr with
        | cons q1 q2 =>
          cases q2 with
          | cons q2 q3 =>
            cases q3
            cases q1
            cases q2
            obtain ⟨_, its, rv, o, ho, hc, n, hd⟩ := (show ObjOk P w H h a (.tup _) from ok a _ ha)
            obtain ⟨u1, u2, rfl, ⟨t1, rfl⟩, ⟨t2, rfl⟩⟩ := rv.two
            exact .tup ho hc hd (.cons (.int _ _) (.cons (.int _ _) .nil))
/-- a doing's tuple is a key -/
theorem key_is (ok : HOk P w H h) {a : Addr} {l : List Pr} (r : Rp H (.ref a) (eD l)) : (nestedKind P w).is h (nkD l) a := by
  obtain ⟨b, us, e, ha, hr⟩ := r.tup_inv
  cases e
  obtain ⟨_, its, rv, o, ho, hc, n, hd⟩ := (show ObjOk P w H h a (.tup us) from ok a _ ha)
  exact ⟨.tup ho hc hd (all_is ok hr rv), nkD_depth l⟩
end
/-! ### entries -/
abbrev En := List Pr × Addr × V
def EnR (p : En) (q : NestedKey × Addr × Value) : Prop := q.1 = nkD p.1 ∧ q.2.1 = p.2.1 ∧ RelV p.2.2 q.2.2
def dictAt (P : Program) (w : World) (d : Addr) (xs : List En) : Heap → Prop := fun h => xs.length ≤ 50000 ∧ (d == sysModules) = false ∧ ∃ ys : List (NestedKey × Addr × Value), Paired EnR xs ys ∧
  ∃ o es ep, h.get? d = some o ∧ o.ExactDict ∧ o.data = .dict es ep ∧ es.toList = ys.map (entryOfKey (nestedKind P w)) ∧ (ys.map (·.1)).Nodup
def DO (P : Program) (w : World) (d : Addr) (xs : List En) : HO := .ext (dictAt P w d xs)
/-- the keys stand where the entries say -/
def Keyed (H : Hp) (xs : List En) : Prop := ∀ e ∈ xs, Rp H (.ref e.2.1) (eD e.1)
def atE (xs : List En) (k : List Pr) : Option V := (xs.find? fun x => decide (x.1 = k)).map (·.2.2)
theorem atE_pos {p : En} {r : List En} {k : List Pr} (e : p.1 = k) : atE (p :: r) k = some p.2.2 := by simp [atE, List.find?_cons, e]
theorem atE_neg {p : En} {r : List En} {k : List Pr} (e : ¬ p.1 = k) : atE (p :: r) k = atE r k := by simp [atE, List.find?_cons, e]
theorem at_rel {xs : List En} {ys : List (NestedKey × Addr × Value)} (r : Paired EnR xs ys) (k : List Pr) : RelO (atE xs k) ((atKey ys (nkD k)).map (·.2)) := by
  induction r with
  | nil => exact True.intro
  | @cons p q ps qs h t ih =>
    obtain ⟨h1, _, h2⟩ := h
    by_cases e : p.1 = k
    · have e' : q.1 = nkD k := by rw [h1, e]
      have b : atKey (q :: qs) (nkD k) = some q.2 := by simp [atKey, List.find?_cons, e']
      rw [atE_pos e, b]
      exact h2
    · have e' : ¬ q.1 = nkD k := fun z => e (nkD_inj (h1.symm.trans z))
      have b : atKey (q :: qs) (nkD k) = atKey qs (nkD k) := by simp [atKey, List.find?_cons, e']
      rw [atE_neg e, b]
      exact ih
section
variable {P : Program} {w : World} {H : Hp} {h : Heap} {d : Addr} {xs : List En}
theorem keyed_rel {ys : List (NestedKey × Addr × Value)} (ok : HOk P w H h) (kd : Keyed H xs) (r : Paired EnR xs ys) : ∀ y ∈ ys, (nestedKind P w).is h y.1 y.2.1 := by
  induction r with
  | nil => intro y hy; exact nomatch hy
  | @cons p q ps qs hq t ih =>
    intro y hy
    rcases List.mem_cons.mp hy with e | hy
    · subst e
      rw [hq.1, hq.2.1]
      exact key_is ok (kd p List.mem_cons_self)
    · exact ih (fun e he => kd e (List.mem_cons_of_mem _ he)) y hy
theorem dict_of (ok : HOk P w H h) (e : H d = some (DO P w d xs)) (kd : Keyed H xs) : xs.length ≤ 50000 ∧ (d == sysModules) = false ∧ ∃ ys, Paired EnR xs ys ∧ h.DictOfH (nestedKind P w) d ys := by
  obtain ⟨⟨z, y, ys, r, o, es, ep, h1, h2, h3, h4, h5⟩, _, _⟩ := (show ObjOk P w H h d (.ext (dictAt P w d xs)) from ok d _ e)
  exact ⟨z, y, ys, r, o, es, ep, h1, h2, h3, h4, keyed_rel ok kd r, h5⟩
theorem dict_ok {H' : Hp} {ys : List (NestedKey × Addr × Value)} (z : xs.length ≤ 50000) (y : (d == sysModules) = false) (r : Paired EnR xs ys) (dd : h.DictOfH (nestedKind P w) d ys) : ObjOk P w H' h d (DO P w d xs) := by
  obtain ⟨o, es, ep, h1, h2, h3, h4, _, h5⟩ := dd
  refine ⟨⟨z, y, ys, r, o, es, ep, h1, h2, h3, h4, h5⟩, ⟨o, h1⟩, fun ha hb ⟨z, y, ys, r, o, es, ep, h1, c⟩ k => ⟨z, y, ys, r, o, es, ep, k _ h1, c⟩⟩
end
theorem room_nk {A : Around} {P : Program} {w : World} (hu : A.units + 65 < cLine) : (nestedKind P w).room A.in1 := by
  show A.in1.units + 8 < cLine
  have : A.in1.units = A.units + 1 := rfl
  omega
/-! ### in, not in, d[k], d[k] = v -/
def rInK (P : Program) (w : World) (neg : Bool) : R2 := fun x y H Q => ∃ b d l xs, x = .ref b ∧ y = .ref d ∧ Rp H (.ref b) (eD l) ∧ H d = some (DO P w d xs) ∧ Keyed H xs ∧ Q (.bl (neg != (atE xs l).isSome)) H
def rIxK (P : Program) (w : World) : R2 := fun x y H Q => ∃ d b l xs v, x = .ref d ∧ y = .ref b ∧ Rp H (.ref b) (eD l) ∧ H d = some (DO P w d xs) ∧ Keyed H xs ∧ atE xs l = some v ∧ Q v H
def rSetK (P : Program) (w : World) : V → V → V → Hp → (Hp → Prop) → Prop := fun o i v H Q => ∃ d b l xs, o = .ref d ∧ i = .ref b ∧ Rp H (.ref b) (eD l) ∧ H d = some (DO P w d xs) ∧ Keyed H xs ∧ atE xs l = none ∧ xs.length < 50000 ∧ Q (upd H d (DO P w d (xs ++ [(l, b, v)])))
section
variable {X : Cx} {P : Program} {w : World}
theorem op_inK (hu : X.A.units + 65 < cLine) (hP : X.prog = P := by rfl) (hw : X.w = w := by rfl) : OpR X (compareOp .In) (rInK P w false) := by
  intro pins s σ H x y v u Q I rx ry h
  obtain ⟨b, d, l, xs, rfl, rfl, rl, hd, kd, q⟩ := h
  subst hP hw
  obtain rfl : v = Value.ref b := rx
  obtain rfl : u = Value.ref d := ry
  obtain ⟨z, hs, ys, r, dd⟩ := dict_of I.hok hd kd
  refine wpAny_in_heap (room_nk hu) (key_is I.hok rl) hs dd ?_
  have e := (at_rel r l).isSome_eq
  rw [Option.isSome_map] at e
  rw [← e]
  exact ⟨.bl (atE xs l).isSome, H, I.tok _, rfl, by simpa using q⟩
theorem op_niK (hu : X.A.units + 65 < cLine) (hP : X.prog = P := by rfl) (hw : X.w = w := by rfl) : OpR X (compareOp .NotIn) (rInK P w true) := by
  intro pins s σ H x y v u Q I rx ry h
  obtain ⟨b, d, l, xs, rfl, rfl, rl, hd, kd, q⟩ := h
  subst hP hw
  obtain rfl : v = Value.ref b := rx
  obtain rfl : u = Value.ref d := ry
  obtain ⟨z, hs, ys, r, dd⟩ := dict_of I.hok hd kd
  refine wpAny_notIn_heap (room_nk hu) (key_is I.hok rl) hs dd ?_
  have e := (at_rel r l).isSome_eq
  rw [Option.isSome_map] at e
  rw [← e]
  exact ⟨.bl (!(atE xs l).isSome), H, I.tok _, rfl, by simpa using q⟩
theorem ix_K (hu : X.A.units + 65 < cLine) (hP : X.prog = P := by rfl) (hw : X.w = w := by rfl) : IxR X (rIxK P w) := by
  intro value slice pins s σ H x y v u Q I rx ry h hs
  obtain ⟨d, b, l, xs, z, rfl, rfl, rl, hd, kd, hz, q⟩ := h
  subst hP hw
  obtain rfl : v = Value.ref d := rx
  obtain rfl : u = Value.ref b := ry
  obtain ⟨_, _, ys, r, dd⟩ := dict_of I.hok hd kd
  obtain ⟨w', hw', rw'⟩ := RelO.some_of (v := z) (o := (atKey ys (nkD l)).map (·.2)) (by rw [← hz]; exact at_rel r l)
  obtain ⟨p, hp, hp2⟩ := Option.map_eq_some_iff.mp hw'
  refine tail_any (ops := [.ref d, .ref b]) dd.typeIs PySem.F.slot_dict_getitem.lookup (wpAny_getItem_heap (room_nk hu) (key_is I.hok rl) dd hp ?_) hs
  rw [hp2]
  exact ⟨z, H, I.tok _, rw', q⟩
theorem set_K (hu : X.A.units + 65 < cLine) (hP : X.prog = P := by rfl) (hw : X.w = w := by rfl) : PSet X (rSetK P w) := by
  intro pins s σ H o i v ov iv u Q I ro ri rv h
  obtain ⟨d, b, l, xs, rfl, rfl, rl, hd, kd, hn, hz, q⟩ := h
  subst hP hw
  obtain rfl : ov = Value.ref d := ro
  obtain rfl : iv = Value.ref b := ri
  obtain ⟨_, hs, ys, r, dd⟩ := dict_of I.hok hd kd
  have hl := Paired.length r
  have hn' : atKey ys (nkD l) = none := by
    have e := (at_rel r l).isSome_eq
    rw [hn, Option.isSome_map] at e
    cases q : atKey ys (nkD l) with
    | none => rfl
    | some p => rw [q] at e; cases e
  refine wpAny_setItem_heap (hsz := sz_of (by omega)) (room_nk hu) (key_is I.hok rl) dd fun h' dd' hb => ⟨_, ?_, q⟩
  rw [storedH_new hn'] at dd'
  have he : ∃ q, h'.get? d = some q := let ⟨q, _, _, hq, _⟩ := dd'; ⟨q, hq⟩
  refine d_write I (by rw [hd]; exact True.intro) hb he (dict_ok (by rw [List.length_append, List.length_singleton]; omega) hs (Paired.snoc r ⟨rfl, rfl, rv⟩) dd')
end
/-! ### {}, {k: v} -/
def tNewK (P : Program) (w : World) : TE := fun _ H Q => ∀ p, H p = none → Q (.ref p) (upd H p (DO P w p []))
def tOneK (P : Program) (w : World) (tk tv : TE) : TE := fun σ H Q => ∀ p, H p = none → tk σ (upd H p (DO P w p [])) fun x H1 => tv σ H1 fun v H2 => ∃ b l, x = .ref b ∧ Rp H2 (.ref b) (eD l) ∧ H2 p = some (DO P w p []) ∧ Q (.ref p) (upd H2 p (DO P w p [(l, b, v)]))
theorem dict_shown {P : Program} {w : World} {A : Around} {E : Value → Shared → Prop} {s : Shared} {env : Env} {keys : List (Option Expr)} {values : List Expr} {pos : Pos} {Q : Value → Shared → Prop} (hu : (nestedKind P w).room A) (pairs : List (Sem Value × Sem Value))
    (hs : (evalEachOpt keys env).zip ((evalEach values env).map fun v => do let x ← v; standAt pos; pure x) = pairs.map fun p => (some p.1, p.2)) (h0 : pairs ≠ []) (hl : pairs.length ≤ 15)
    (h : wpAny (model P w) A (evalPairs pairs) (fun vs t => ∃ ps, CarriesH (nestedKind P w) t.heap vs ps ∧ t.heap.DictOfH (nestedKind P w) s.heap.objs.size [] ∧ ∀ h' k, h'.DictOfH (nestedKind P w) s.heap.objs.size (storedAllH [] ps) → Heap.SameBut s.heap.objs.size t.heap h' → Q (.ref s.heap.objs.size) { t with heap := h', toks := k }) E { s with heap := s.heap.push { cls := .type "dict", data := .dict #[] } }) :
    wpAny (model P w) A (eval (.Dict keys values pos) env) Q E s := by
  rw [arm_eval_Dict, hs, dictDisplay_pairs pairs h0 (by omega)]
  refine wpAny_bind (wpAny_standAt (wpAny_bind (wpAny_subDictH (knd := nestedKind P w) (Q := fun d t => wpAny (model P w) A (pure (Value.ref d)) Q E t) hu hl ?_)))
  refine thn h fun vs t ⟨ps, hc, hm, hq⟩ => ⟨ps, hc, hm, fun h' k a b => wpAny_pure (hq h' k a b)⟩
section
variable {X : Cx} {P : Program} {w : World} {pos : Pos}
theorem empty_ok {H : Hp} (h : Heap) (hb : sysModules < h.objs.size) : ObjOk P w H (h.push { cls := .type "dict", data := .dict #[] }) h.objs.size (DO P w h.objs.size []) :=
  dict_ok (Nat.zero_le _) (beq_eq_false_iff_ne.mpr (Ne.symm (Nat.ne_of_lt hb))) .nil (Heap.DictOfH.new h)
theorem pe_newK (hP : X.prog = P := by rfl) (hw : X.w = w := by rfl) : PE X (.Dict [] [] pos) (tNewK P w) := by
  subst hP hw
  exact ⟨fun pins s σ H Q I h => wpAny_Dict_empty ⟨.ref s.heap.objs.size, _, I.laid (a := s.heap.objs.size) (o := DO X.prog X.w s.heap.objs.size []) (t' := s.toks) (fun _ _ q => Heap.get?_push_of_some _ q) (Nat.le_refl _) (empty_ok s.heap I.big), rfl, h _ (I.hok.fresh (Nat.le_refl _))⟩⟩
theorem pe_oneK {k v : Expr} {tk tv : TE} (hu : X.A.units + 65 < cLine) (hk : PE X k tk) (hv : PE X v tv) (hP : X.prog = P := by rfl) (hw : X.w = w := by rfl) : PE X (.Dict [some k] [v] pos) (tOneK P w tk tv) := by
  subst hP hw
  refine ⟨fun pins s σ H Q I q => ?_⟩
  have hn := I.hok.fresh (Nat.le_refl s.heap.objs.size)
  have I1 := I.laid (a := s.heap.objs.size) (o := DO X.prog X.w s.heap.objs.size []) (h' := s.heap.push { cls := .type "dict", data := .dict #[] }) (t' := s.toks) (fun _ _ q => Heap.get?_push_of_some _ q) (Nat.le_refl _) (empty_ok s.heap I.big)
  have hr : (nestedKind X.prog X.w).room X.A := by
    show X.A.units + 8 < cLine
    omega
  refine dict_shown hr (pairTrees [some k] [v] X.env pos) (zip_pairTrees [some k] [v] X.env pos rfl rfl) (by intro e; cases e) (by rw [pairTrees_length [some k] [v] X.env pos rfl rfl]; simp) (pairTrees_cons_walk (thn (hk.run pins _ σ _ _ I1 (q _ hn)) fun u s1 ⟨x, H1, I2, rx, q1⟩ => thn (hv.run pins s1 σ H1 _ I2 q1) fun y s2 ⟨vv, H2, I3, ry, b, l, ex, rl, hd, q2⟩ => pairTrees_nil_walk ?_))
  subst ex
  obtain rfl : u = Value.ref b := rx
  obtain ⟨_, hs, ys, r, dd⟩ := dict_of I3.hok hd fun _ h => nomatch h
  cases r
  refine ⟨[(nkD l, b, y)], ⟨rfl, rfl, key_is I3.hok rl, True.intro⟩, dd, fun h' tk dd' hb => ⟨.ref s.heap.objs.size, _, ?_, rfl, q2⟩⟩
  have he : ∃ q, h'.get? s.heap.objs.size = some q := let ⟨q, _, _, hq, _⟩ := dd'; ⟨q, hq⟩
  exact d_write I3 (by rw [hd]; exact True.intro) hb he (dict_ok (by simp) hs (.cons ⟨rfl, rfl, ry⟩ .nil) dd')
end
end Dq

set_option Elab.async false
set_option linter.all false
set_option maxRecDepth 100000
set_option maxHeartbeats 2000000
/-! Dq2: a dict of our own whose keys are doings, as data; defs that hand one back; a def that looks at one. -/
namespace Dq
open PySem PySem.Spec PyProof.Rows L2 Dz Bt

/-! ### a dict stands for no datum here -/
mutual
theorem rp_only {R R' : Hp} (k : ∀ a xs, (R a = some (.lst xs) → R' a = some (.lst xs)) ∧ (R a = some (.tup xs) → R' a = some (.tup xs))) : ∀ (d : PyData) (v : V), Rp R v d → Rp R' v d
  | .none, _, h => by cases h; exact .non
  | .bool _, _, h => by cases h; exact .bl _
  | .int _, _, h => by cases h; exact .int _
  | .str _, _, h => by cases h; exact .str _
  | .list ds, _, h => by
    cases h with
    | lst h1 h2 => exact .lst ((k _ _).1 h1) (rpl_only k ds _ h2)
  | .tuple ds, _, h => by
    cases h with
    | tup h1 h2 => exact .tup ((k _ _).2 h1) (rpl_only k ds _ h2)
  | .dict _, _, h => by cases h
theorem rpl_only {R R' : Hp} (k : ∀ a xs, (R a = some (.lst xs) → R' a = some (.lst xs)) ∧ (R a = some (.tup xs) → R' a = some (.tup xs))) : ∀ (ds : List PyData) (vs : List V), RpL R vs ds → RpL R' vs ds
  | [], _, h => by cases h; exact .nil
  | d :: ds, _, h => by
    cases h with
    | cons h1 h2 => exact .cons (rp_only k d _ h1) (rpl_only k ds _ h2)
end
theorem rp_hide {M : List Addr} {H : Hp} {p : Addr} {φ : Heap → Prop} {v : V} {d : PyData} (hp : H p = some (.ext φ)) (r : Rp (hid M H) v d) : Rp (hid (p :: M) H) v d := rp_only (fun a xs => by
  constructor <;> intro e
  · obtain ⟨e1, e2⟩ := hid_some e
    have : a ≠ p := fun z => by rw [z, hp] at e2; cases e2
    rw [hid_out (by simp [this, e1])]
    exact e2
  · obtain ⟨e1, e2⟩ := hid_some e
    have : a ≠ p := fun z => by rw [z, hp] at e2; cases e2
    rw [hid_out (by simp [this, e1])]
    exact e2) d v r
/-! ### the dict's content -/
abbrev Kv := List (List Pr × PyData)
def EnD (R : Hp) (p : List Pr × PyData) (e : En) : Prop := e.1 = p.1 ∧ Rp R (.ref e.2.1) (eD p.1) ∧ Rp R e.2.2 p.2
def Cn (R : Hp) (kvs : Kv) (xs : List En) : Prop := Paired (EnD R) kvs xs
def dget (kvs : Kv) (k : List Pr) : Option PyData := (kvs.find? fun x => decide (x.1 = k)).map (·.2)
theorem dget_pos {p : List Pr × PyData} {r : Kv} {k : List Pr} (e : p.1 = k) : dget (p :: r) k = some p.2 := by simp [dget, List.find?_cons, e]
theorem dget_neg {p : List Pr × PyData} {r : Kv} {k : List Pr} (e : ¬ p.1 = k) : dget (p :: r) k = dget r k := by simp [dget, List.find?_cons, e]
theorem Cn.mono {R R' : Hp} {kvs : Kv} {xs : List En} (c : Cn R kvs xs) (s : Same R R') : Cn R' kvs xs := Paired.mapP c fun p e h => ⟨h.1, h.2.1.up s, h.2.2.up s⟩
theorem Cn.keyed {R : Hp} {kvs : Kv} {xs : List En} (c : Cn R kvs xs) : Keyed R xs := by
  induction c with
  | nil => exact fun e h => nomatch h
  | @cons p q ps qs h t ih =>
    intro e he
    rcases List.mem_cons.mp he with rfl | he
    · rw [h.1]
      exact h.2.1
    · exact ih e he
theorem Cn.len {R : Hp} {kvs : Kv} {xs : List En} (c : Cn R kvs xs) : kvs.length = xs.length := Paired.length c
theorem Cn.some {R : Hp} {kvs : Kv} {xs : List En} (c : Cn R kvs xs) (k : List Pr) : (atE xs k).isSome = (dget kvs k).isSome := by
  induction c with
  | nil => rfl
  | @cons p q ps qs h t ih =>
    by_cases e : p.1 = k
    · rw [dget_pos e, atE_pos (h.1.trans e)]
      rfl
    · rw [dget_neg e, atE_neg fun z => e (h.1.symm.trans z)]
      exact ih
theorem Cn.get {R : Hp} {kvs : Kv} {xs : List En} (c : Cn R kvs xs) {k : List Pr} {d : PyData} (g : dget kvs k = .some d) : ∃ v, atE xs k = .some v ∧ Rp R v d := by
  induction c with
  | nil => cases g
  | @cons p q ps qs h t ih =>
    by_cases e : p.1 = k
    · rw [dget_pos e] at g
      cases g
      exact ⟨_, atE_pos (h.1.trans e), h.2.2⟩
    · rw [dget_neg e] at g
      obtain ⟨v, h1, h2⟩ := ih g
      exact ⟨v, by rw [atE_neg fun z => e (h.1.symm.trans z)]; exact h1, h2⟩
theorem Keyed.mono {R R' : Hp} {xs : List En} (k : Keyed R xs) (s : Same R R') : Keyed R' xs := fun e he => (k e he).up s
/-- what is known of a dict of our own -/
def dD (P : Program) (w : World) (p : Addr) (kvs : Kv) : Desc := ⟨fun R o => ∃ xs, o = DO P w p xs ∧ Cn R kvs xs, fun s ⟨xs, h1, h2⟩ => ⟨xs, h1, h2.mono s⟩⟩
/-- .. and its entries -/
def xD (P : Program) (w : World) (p : Addr) (kvs : Kv) (xs : List En) : Desc := ⟨fun R o => o = DO P w p xs ∧ Cn R kvs xs, fun s ⟨h1, h2⟩ => ⟨h1, h2.mono s⟩⟩
/-- an expression that gives a new dict -/
def EvK (P : Program) (w : World) (Γ : List Ent) (te : TE) (Pk : Kv → Prop) : Prop := ∀ (b : Bs) (G : List (V × PyData)) (M : List Addr) (σ : L2.St) (H : Hp), Sat b G M Γ σ H →
  ∀ Q : VK, (∀ p xs kvs H', H p = none → Sat b G M Γ σ H' → Same (hid b.T H) H' → H' p = some (DO P w p xs) → Pk kvs → Cn (hid M H') kvs xs → Q (.ref p) H') → te σ H Q
/-- a def that hands back a new dict -/
def spD (P : Program) (w : World) {α : Type} (enc : α → List PyData) (Pre : α → Prop) (Post : α → Kv → Prop) : Sp := fun vs H Q _ => ∃ (M : List Addr) (a : α), (∀ x ∈ M, H x ≠ none) ∧ RpL (hid M H) vs (enc a) ∧ Pre a ∧
  ∀ p xs kvs H', H p = none → Same H H' → H' p = some (DO P w p xs) → Post a kvs → Cn (hid M H') kvs xs → Q (.ref p) H'
def FinK (P : Program) (w : World) (b : Bs) (Post : Kv → Prop) (Q : VK) : Prop := ∀ p xs kvs H', b.H0 p = none → Same (hid b.T b.H0) H' → (∀ t ∈ b.T, TapeOk b.M0 H' t b.sc) → H' p = some (DO P w p xs) → Post kvs → Cn (hid b.M0 H') kvs xs → Q (.ref p) H'
section
variable {P : Program} {w : World} {K : PySem.W.Frag} {Γ : List Ent} {te tk ta : TE} {ar : TA} {tu : TS} {b : Bs} {G : List (V × PyData)} {D : Ends} {i j : Nat} {p : Addr} {kvs : Kv} {l : List Pr} {d : PyData} {Pk : Kv → Prop}
theorem ownK {M : List Addr} {σ : L2.St} {H : Hp} (S : Sat b G M Γ σ H) (hi : Γ[i]? = some (.own p (dD P w p kvs))) : σ[i]? = some (some (.ref p)) ∧ ∃ xs, H p = some (DO P w p xs) ∧ Cn (hid M H) kvs xs := by
  obtain ⟨h1, h2, h3, h4, h5, u, h6, xs, h7, h8⟩ := S.at_ i _ hi
  subst h7
  exact ⟨sl_some h1, xs, h6, h8⟩
theorem doing_ref {H : Hp} {v : V} {l : List Pr} (r : Rp H v (eD l)) : ∃ a, v = .ref a ∧ Rp H (.ref a) (eD l) := by
  obtain ⟨a, xs, rfl, h1, h2⟩ := r.tup_inv
  exact ⟨a, rfl, .tup h1 h2⟩
/-- l in d, l not in d -/
theorem ev_inK {neg : Bool} (h : EvD Γ te (eD l)) (hi : Γ[i]? = some (.own p (dD P w p kvs))) : EvD Γ (tOp (rInK P w neg) te (tVar i)) (.bool (neg != (dget kvs l).isSome)) := fun b G M σ H S Q q => h b G M σ H S _ fun v d H1 S1 e1 p1 r1 => by
  have p1' : d = eD l := p1
  subst p1'
  obtain ⟨h2, xs, hd, hc⟩ := ownK S1 hi
  obtain ⟨a, rfl, ra⟩ := doing_ref r1
  refine ⟨.ref p, h2, a, p, l, xs, rfl, rfl, ra.up hid_le, hd, hc.keyed.mono hid_le, ?_⟩
  rw [hc.some]
  exact q _ _ H1 S1 e1 rfl (.bl _)
/-- d[l] -/
theorem ev_ixK (hi : Γ[i]? = some (.own p (dD P w p kvs))) (h : EvD Γ te (eD l)) (hg : dget kvs l = some d) : EvD Γ (tOp (rIxK P w) (tVar i) te) d := fun b G M σ H S Q q => by
  refine ⟨.ref p, (ownK S hi).1, ?_⟩
  refine h b G M σ H S _ fun v d' H1 S1 e1 p1 r1 => ?_
  have p1' : d' = eD l := p1
  subst p1'
  obtain ⟨_, xs, hd, hc⟩ := ownK S1 hi
  obtain ⟨a, rfl, ra⟩ := doing_ref r1
  obtain ⟨z, hz, rz⟩ := hc.get hg
  exact ⟨p, a, l, xs, z, rfl, rfl, ra.up hid_le, hd, hc.keyed.mono hid_le, hz, q z _ H1 S1 e1 rfl rz⟩
/-- d[l] = e, for a new l -/
theorem c_setK (hi : Γ[i]? = some (.own p (dD P w p kvs))) (h : EvD Γ te d) (hk : EvD Γ tk (eD l)) (hn : dget kvs l = none) (hz : kvs.length < 50000) (k : Cont b G (Γ.set i (.own p (dD P w p (kvs ++ [(l, d)])))) D.nx) : Cont b G Γ (tAsg te (gSub (tVar i) tk (rSetK P w)) D) := fun M σ H S => by
  refine h b G M σ H S _ fun v dv H1 S1 e1 p1 r1 => ?_
  refine ⟨.ref p, (ownK S1 hi).1, ?_⟩
  refine hk b G M σ H1 S1 _ fun v2 d2 H2 S2 e2 p2 r2 => ?_
  have p1' : dv = d := p1
  have p2' : d2 = eD l := p2
  subst p1' p2'
  obtain ⟨_, xs, hd, hc⟩ := ownK S2 hi
  obtain ⟨a, rfl, ra⟩ := doing_ref r2
  have hs := hc.some l
  rw [hn] at hs
  have hl := hc.len
  refine ⟨p, a, l, xs, rfl, rfl, ra.up hid_le, hd, hc.keyed.mono hid_le, ?_, by omega, k M σ _ (S2.write hi ⟨_, rfl, Paired.snoc hc ⟨rfl, ra, r1.up (hid_T S2.tm e2)⟩⟩)⟩
  cases z : atE xs l with
  | none => rfl
  | some y => rw [z] at hs; cases hs
theorem q_setK (hi : Γ[i]? = some (.own p (dD P w p kvs))) (h : EvD Γ te d) (hk : EvD Γ tk (eD l)) (hn : dget kvs l = none) (hz : kvs.length < 50000) (k : Cont b G (Γ.set i (.own p (dD P w p (kvs ++ [(l, d)])))) (tu D)) : Cont b G Γ (tSeq (tAsg te (gSub (tVar i) tk (rSetK P w))) tu D) := c_setK (D := { D with nx := tu D }) hi h hk hn hz k
/-- {}, {l: e} -/
theorem ek_new : EvK P w Γ (tNewK P w) (· = []) := fun b G M σ H S Q q p hp => q p [] [] _ hp (S.same (same_upd hp)) (sameT_of (same_upd hp)) upd_same rfl .nil
theorem ek_one (hk : EvD Γ tk (eD l)) (h : EvD Γ te d) : EvK P w Γ (tOneK P w tk te) (· = [(l, d)]) := fun b G M σ H S Q q p hp => by
  obtain ⟨S0, pM, pT, p0, h0, ho⟩ := S.veil hp (sameT_of (same_upd (o := DO P w p []) hp)) (fun t ht => (S.tape t ht).same (same_upd hp)) (by rw [upd_same]; exact fun z => nomatch z)
  refine hk b G (p :: M) σ _ S0 _ fun v1 d1 H1 S1 e1 p1 r1 => h b G (p :: M) σ H1 S1 _ fun v2 d2 H2 S2 e2 p2 r2 => ?_
  have p1' : d1 = eD l := p1
  have p2' : d2 = d := p2
  subst p1' p2'
  obtain ⟨a, rfl, ra⟩ := doing_ref (r1.up (hid_T S1.tm e2))
  have hp2 : H2 p = some (DO P w p []) := (sameT_trans e1 e2) p _ (by rw [hid_out pT]; exact upd_same)
  have S3 : Sat b G (p :: M) Γ σ (upd H2 p (DO P w p [(l, a, v2)])) := S2.poke List.mem_cons_self pT h0 ho
  have e3 : Same (hid b.T H) (upd H2 p (DO P w p [(l, a, v2)])) := fun c o z => by
    obtain ⟨z1, z2⟩ := hid_some z
    have hc : c ≠ p := ne_of_none z2 hp
    rw [upd_ne hc]
    exact (sameT_trans e1 e2) c o (by rw [hid_out z1, upd_ne hc]; exact z2)
  have up : ∀ {v : V} {d : PyData}, Rp (hid (p :: M) H2) v d → Rp (hid M (upd H2 p (DO P w p [(l, a, v2)]))) v d := fun {v d} r => by
    have r' : Rp (hid (p :: M) (upd H2 p (DO P w p [(l, a, v2)]))) v d := by
      rw [hid_upd List.mem_cons_self]
      exact r
    exact r'.up (hid_anti fun a ha => List.mem_cons_of_mem _ ha)
  exact ⟨a, l, rfl, ra.up hid_le, hp2, q p _ [(l, d2)] _ hp (S.go e3 fun t ht => (S3.tape t ht).anti fun a ha => List.mem_cons_of_mem _ ha) e3 upd_same rfl (.cons ⟨rfl, up ra, up r2⟩ .nil)⟩
theorem none_old {M : List Addr} {σ : L2.St} {H H1 : Hp} {p : Addr} (S1 : Sat b G M Γ σ H1) (e1 : Same (hid b.T H) H1) (hp : H1 p = none) : H p = none := none_back S1 e1 hp
theorem ek_call {α : Type} {enc : α → List PyData} {Pre : α → Prop} {Post : α → Kv → Prop} {E : XK} (a : α) (ha : EaD Γ ar (enc a)) (hp : Pre a) : EvK P w Γ (tCall (spD P w enc Pre Post) [] E ar) (Post a) := fun b G M σ H S Q q =>
  ha b G M σ H S _ fun vs ds H1 S1 e1 p1 r1 => by
    have p1' : ds = enc a := p1
    subst p1'
    refine ⟨M, a, S1.trk, ?_, hp, fun p xs kvs H2 n e2 hd p2 c2 => q p xs kvs H2 (none_back S1 e1 n) (S1.same e2) (sameT_trans e1 (sameT_of e2)) hd p2 c2⟩
    rw [List.append_nil]
    exact r1
/-- l in (a new dict) -/
theorem ev_inE {neg : Bool} {R : PyData → Prop} (h : EvD Γ te (eD l)) (hk : EvK P w Γ tk Pk) (hR : ∀ kvs, Pk kvs → R (.bool (neg != (dget kvs l).isSome))) : EvR Γ (tOp (rInK P w neg) te tk) R := fun b G M σ H S Q q => h b G M σ H S _ fun v d H1 S1 e1 p1 r1 => by
  have p1' : d = eD l := p1
  subst p1'
  refine hk b G M σ H1 S1 _ fun p xs kvs H2 n S2 e2 hd p2 hc => ?_
  obtain ⟨a, rfl, ra⟩ := doing_ref (r1.up (hid_T S1.tm e2))
  refine ⟨a, p, l, xs, rfl, rfl, ra.up hid_le, hd, hc.keyed.mono hid_le, ?_⟩
  rw [hc.some]
  exact q _ _ H2 S2 (sameT_trans e1 e2) (hR kvs p2) (.bl _)
/-- a dict, taken as our own -/
theorem c_setNK (h : EvK P w Γ te Pk) (k : ∀ p kvs, Pk kvs → Cont b G (Γ.set i (.own p (dD P w p kvs))) D.nx) (hi : i < Γ.length := by simp) : Cont b G Γ (tAsg te (gName i) D) := fun M σ H S => h b G M σ H S _ fun p xs kvs H1 n S1 e1 hp pd c1 => by
  exact k p kvs pd (p :: M) _ H1 (S.hold hi n e1 S1.tape hp ⟨xs, rfl, Paired.mapP c1 fun a e z => ⟨z.1, rp_hide hp z.2.1, rp_hide hp z.2.2⟩⟩)
/-- a, b = (a dict), e -/
theorem c_parK {te' : TE} {d' : PyData} (h : EvK P w Γ te Pk) (h' : EvD Γ te' d') (k : ∀ p kvs, Pk kvs → Cont b G ((Γ.set i (.own p (dD P w p kvs))).set j (.dat d')) D.nx) (hi : i < Γ.length := by simp) (hj : j < Γ.length := by simp) : Cont b G Γ (tPar i j (tCons te (tCons te' tNil)) D) := fun M σ H S =>
  h b G M σ H S _ fun p xs kvs H1 n S1 e1 hp pd c1 => h' b G M σ H1 S1 _ fun v' d2 H2 S2 e2 p2 r2 => by
    have q2 : d2 = d' := p2
    subst q2
    have pT : p ∉ b.T := fun z => by
      obtain ⟨t1, t2, t3, h1, _⟩ := S1.tape p z
      rw [h1] at hp
      cases hp
    have hp2 : H2 p = some (DO P w p xs) := e2 p _ (by rw [hid_out pT]; exact hp)
    have S3 := S.hold hi n (sameT_trans e1 e2) S2.tape hp2 (D := dD P w p kvs) ⟨xs, rfl, Paired.mapP c1 fun a e z => ⟨z.1, rp_hide hp2 (z.2.1.up (hid_T S1.tm e2)), rp_hide hp2 (z.2.2.up (hid_T S1.tm e2))⟩⟩
    exact ⟨.ref p, v', rfl, k p kvs pd (p :: M) _ H2 (S3.putD (by rw [List.length_set]; exact hj) (rp_hide hp2 r2))⟩
theorem q_parK {te' : TE} {d' : PyData} (h : EvK P w Γ te Pk) (h' : EvD Γ te' d') (k : ∀ p kvs, Pk kvs → Cont b G ((Γ.set i (.own p (dD P w p kvs))).set j (.dat d')) (tu D)) (hi : i < Γ.length := by simp) (hj : j < Γ.length := by simp) : Cont b G Γ (tSeq (tPar i j (tCons te (tCons te' tNil))) tu D) := c_parK (D := { D with nx := tu D }) h h' k hi hj
/-- return d -/
theorem c_retK {Post : Kv → Prop} (hi : Γ[i]? = some (.own p (dD P w p kvs))) (F : FinK P w b Post D.rt) (hp : Post kvs) : Cont b G Γ (tRet (tVar i) D) := fun M σ H S => by
  obtain ⟨h1, h2, h3, h4, h5, u, h6, xs, h7, h8⟩ := S.at_ i _ hi
  subst h7
  exact ⟨.ref p, sl_some h1, F p xs kvs H h5 S.ext S.back h6 hp (h8.mono (hid_anti S.m0))⟩
theorem c_retNK {Post : Kv → Prop} (h : EvK P w Γ te Pk) (F : FinK P w b Post D.rt) (hp : ∀ kvs, Pk kvs → Post kvs) : Cont b G Γ (tRet te D) := fun M σ H S => h b G M σ H S _ fun p xs kvs H1 n S1 e1 hd pd c1 => by
  obtain ⟨_, _, _, _, h0, _⟩ := S.veil n e1 S1.tape (by rw [hd]; exact fun z => nomatch z)
  exact F p xs kvs H1 h0 S1.ext S1.back hd (hp kvs pd) (c1.mono (hid_anti S1.m0))
end
section
variable {P : Program} {w : World} {K : PySem.W.Frag} {mg : Str → Option Value} {base : Heap}
theorem okD {α : Type} {enc : α → List PyData} {Pre : α → Prop} {Post : α → Kv → Prop} {x qual : Str} {st : Stmt} {f : Addr} {fd : FuncData} {N ps : List Str} {k n : Nat} (F : Fun K x qual st f fd) (S : FnScope N ps (defScope st)) (hn : ps.length = n) (hl : ∀ a, (enc a).length = n)
    (hb : ∀ (cdv : Value) (A : Around) (outer : List Env) (s : Shared) (H : Hp) (E : XK) (a : α), Room k (A.deeper (envOfC qual (defScope st) s.heap.objs.size f cdv)) → Pre a →
      ∃ t, PSs (cxOf CX0 P w K mg base N qual (defScope st) f cdv A outer s H E).nox (defBody st) t ∧ ∀ (b : Bs) (Q : VK), b.T = [] → FinK P w b (Post a) Q → Cont b [] ((enc a).map Ent.dat ++ List.replicate (N.length - n) Ent.un) (t { nx := fun _ H' => Q .non H', rt := Q })) :
    FnOk P w K mg base CX0 (k + 1) f fd ps (spD P w enc Pre Post) := by
  refine F.ok S (fun vs H Q E h => ?_) (fun cdv A outer s H vs Q E hr h => ?_)
  · obtain ⟨M, a, _, r, _⟩ := h
    rw [r.length, hl, hn]
  · obtain ⟨M, a, hM, r, hp, q⟩ := h
    obtain ⟨t, h1, h2⟩ := hb cdv A outer s H E a hr hp
    have hvl : vs.length = n := by rw [r.length, hl]
    refine ⟨t, h1, h2 ⟨[], 0, H, M⟩ Q rfl (fun p xs kvs H' h0 e _ hd pd c => q p xs kvs H' h0 (fun c o z => e c o (by rw [hid_out (by simp)]; exact z)) hd pd c) M _ H ?_⟩
    have := sat_start (b := ⟨[], 0, H, M⟩) (N := N) rfl rfl rfl hM r
    rw [hvl] at this
    exact this
end
end Dq

set_option Elab.async false
set_option linter.all false
set_option maxRecDepth 100000
set_option maxHeartbeats 2000000
/-! Dq3: sorted(d), d.get(k, x). -/
namespace Dq
open PySem PySem.Spec PySem.Calls PySem.W PyProof.Rows L2 Dz Bt

def rSortK (P : Program) (w : World) : List V → Hp → VK → Prop := fun vs H Q => ∃ (d : Addr) (xs : List En) (Rr : V → PyData → Prop), vs = [.ref d] ∧ H d = some (DO P w d xs) ∧ Keyed H xs ∧ Paired Rr (xs.map fun e => V.ref e.2.1) (xs.map fun e => eD e.1) ∧ (∀ x z, Rr x z → Rp H x z) ∧ PySem.W.AllAlike (xs.map fun e => eD e.1) ∧ Srt (xs.map fun e => eD e.1) ∧
  ∀ (p : Addr) (ys : List V), H p = none → Paired Rr ys (sortD (xs.map fun e => eD e.1)) → Q (.ref p) (upd H p (.lst ys))
theorem keyed_paired {H : Hp} : ∀ {xs : List En}, Keyed H xs → Paired (Rp H) (xs.map fun e => V.ref e.2.1) (xs.map fun e => eD e.1)
  | [], _ => .nil
  | e :: xs, h => .cons (h e List.mem_cons_self) (keyed_paired fun x hx => h x (List.mem_cons_of_mem _ hx))
theorem vals_refs : ∀ (xs : List En), Vals (xs.map fun e => V.ref e.2.1) (xs.map fun e => Value.ref e.2.1)
  | [] => .nil
  | e :: xs => .cons rfl (vals_refs xs)
theorem rel_at {xs : List En} {ys : List (NestedKey × Addr × Value)} (r : Paired EnR xs ys) : ∀ {i : Nat} {y : NestedKey × Addr × Value}, ys[i]? = some y → (xs.map fun e => Value.ref e.2.1)[i]? = some (.ref y.2.1) := by
  induction r with
  | nil => intro i y h; simp at h
  | @cons p q ps qs h t ih =>
    intro i y hy
    cases i with
    | zero =>
      simp at hy
      subst hy
      simp [h.2.1]
    | succ i =>
      rw [List.getElem?_cons_succ] at hy
      rw [List.map_cons, List.getElem?_cons_succ]
      exact ih hy
theorem call_sortK {X : Cx} {P : Program} {w : World} (hu : X.A.units + 64 < cLine) (hc : X.calm = true) (hP : X.prog = P := by rfl) (hw : X.w = w := by rfl) : CallR X (.builtin "sorted") (rSortK P w) := by
  intro pins s σ H vs us Q I r h
  obtain ⟨d, xs, Rr, rfl, hd, kd, hp, hR, hal, hsrt, q⟩ := h
  subst hP hw
  obtain ⟨u, rfl, ru⟩ := vals1 r
  obtain rfl : u = Value.ref d := ru
  obtain ⟨hz, lo, ys, rel, dd⟩ := dict_of I.hok hd kd
  obtain ⟨es, ep, hraw, hsz, hes⟩ := dd.raw
  have hlen := Paired.length rel
  refine call_function_entry kind_sorted plain_sorted entry_sorted (args_sorted1 _) ?_
  unfold Builtin.«sorted»
  refine wpAny_bind (m := checkCount "sorted" 1 1 _) (wpAny_pure ?_)
  refine wpAny_bind (kdu_collect (A := X.A.in1) (KdlSrc.rawDict lo) (I.ok.hd hc) hraw (sz_of (by omega)) fun h' tk acc hk hacc => ?_)
  have hat : acc.toList = xs.map fun e => Value.ref e.2.1 := by
    apply List.ext_getElem?
    intro i
    by_cases hi : i < es.size
    · have hia : i < acc.size := by rw [hacc.1]; exact hi
      obtain ⟨y, hy, e1, _⟩ := hes i hi
      rw [rel_at rel hy, Array.getElem?_toList, Array.getElem?_eq_getElem hia]
      obtain ⟨_, e⟩ := hacc.2 i _ (Array.getElem?_eq_getElem hia)
      rw [e, e1]
    · rw [List.getElem?_eq_none (by rw [Array.length_toList, hacc.1]; omega), List.getElem?_eq_none (by rw [List.length_map]; omega)]
  have hl : acc.toList.length ≤ sizeLine := by rw [hat, List.length_map]; exact sz_of (by omega)
  have I2 : Inv X pins σ H { s with heap := h', toks := tk } := I.kept (t' := tk) hk
  refine wpAny_bind (wpAny_newList ?_ hl)
  rw [hat]
  have hil : (xs.map fun e => Value.ref e.2.1).length ≤ sizeLine := by
    rw [List.length_map]
    exact sz_of (by omega)
  have rv := vals_refs xs
  generalize (xs.map fun e => Value.ref e.2.1) = its at rv hil ⊢
  generalize (xs.map fun e => V.ref e.2.1) = vv at rv hp
  have hdep : ∀ z, z ∈ (xs.map fun e => eD e.1) → z.depth ≤ 16 := fun z hz => by
    obtain ⟨e, _, rfl⟩ := List.mem_map.mp hz
    have := dep_eD e.1
    omega
  generalize (xs.map fun e => eD e.1) = ds at hp hal hsrt hdep q
  have hl1 := rv.length
  have hl2 := hp.length
  have er : PySem.W.EachIs (fun v z => ∃ as, Reads (PySem.W.sortingHeap (h'.push (seqObj "list" its.toArray 0)) h'.objs.size its) v z as) its ds := ((each_of_vals rv hp).mono fun u z ⟨x, h1, h2⟩ => Dp.reads I2 z x u (hR x z h2).dp h1).mono fun _ _ ⟨as, r⟩ => ⟨as, PyProof.Rows.Reads.keeps (fun _ _ e => PySem.W.sortingHeap_old (Nat.ne_of_lt (Heap.lt_size e)) (Heap.get?_push_of_some _ e)) r⟩
  have hub : ∀ z, z ∈ ds → X.A.in1.in1.units + z.depth < cLine := fun z hz => by
    have := hdep z hz
    show X.A.units + 1 + 1 + z.depth < cLine
    omega
  have S : PySem.W.SortsAt X.prog X.w X.A.in1.in1 { s with heap := PySem.W.sortingHeap (h'.push (seqObj "list" its.toArray 0)) h'.objs.size its, toks := tk } (PySem.W.dataKind (PySem.W.sortingHeap (h'.push (seqObj "list" its.toArray 0)) h'.objs.size its) ds) its := by
    rcases hsrt with h | ⟨es, rfl, h⟩
    · exact PySem.W.SortsAt.data (s := { s with heap := PySem.W.sortingHeap (h'.push (seqObj "list" its.toArray 0)) h'.objs.size its, toks := tk }) er hal h hub
    · exact PySem.W.SortsAt.zeroD (s := { s with heap := PySem.W.sortingHeap (h'.push (seqObj "list" its.toArray 0)) h'.objs.size its, toks := tk }) er hal h hub
  have ho : (h'.push (seqObj "list" its.toArray 0)).get? h'.objs.size = some (seqObj "list" its.toArray 0) := Heap.get?_push_size _ rfl
  refine wpAny_bind (wpAny_holding (wpAny_call_entry slot_list_sort ⟨_, ho, rfl⟩ entry_list_sort ?_ (args_list_sort _)))
  refine wpAny_mono (PySem.W.list_sort_vals (s := { s with heap := h'.push (seqObj "list" its.toArray 0), toks := tk }) ho S hil (P := fun f t => f = .done (.ret .none) ∧ t = { s with heap := sortedHeap (h'.push (seqObj "list" its.toArray 0)) h'.objs.size its (PySem.W.sortVals (PySem.W.dataKind (PySem.W.sortingHeap (h'.push (seqObj "list" its.toArray 0)) h'.objs.size its) ds) false its its).toArray, toks := tk }) ⟨rfl, rfl⟩) (fun f t hf => ?_) fun _ _ e => e
  obtain ⟨rfl, rfl⟩ := hf
  refine ⟨_, rfl, wpAny_pure ⟨_, rfl, ?_⟩⟩
  have hal' : PySem.W.AllAlike (ds.map id) := by
    rw [List.map_id]
    exact hal
  have e0 := each_of_vals rv hp
  have sd := PySem.W.sortVals_data (enc := id) false e0 er hal'
  rw [List.map_id] at sd
  obtain ⟨out, g1, g2⟩ := paired_split sd
  obtain ⟨ee, hat'⟩ := PyProof.Rows.sortedHeap_at (out := (PySem.W.sortVals (PySem.W.dataKind (PySem.W.sortingHeap (h'.push (seqObj "list" its.toArray 0)) h'.objs.size its) ds) false its its).toArray) ho
  have hol := g1.length
  have hsl := PySem.W.sortVals_length (κ := PySem.W.dataKind (PySem.W.sortingHeap (h'.push (seqObj "list" its.toArray 0)) h'.objs.size its) ds) (ks := its) (vs := its) false rfl
  refine ⟨.ref h'.objs.size, upd H h'.objs.size (.lst out), I2.laid (t' := tk) (fun b o e => ?_) (Nat.le_refl _) ⟨by omega, _, ee, g1, by simpa using hat'⟩, rfl, q _ out (I2.hok.fresh (Nat.le_refl _)) g2⟩
  have hb : b < h'.objs.size := Heap.lt_size e
  rw [PyProof.Rows.sortedHeap_old (Nat.ne_of_lt hb) (by rw [size_push']; exact Nat.lt_succ_of_lt hb)]
  exact Heap.get?_push_of_some _ e
/-! ### d.get(k, x) -/
def tGetK (P : Program) (w : World) (td ty tx : TE) : TE := fun σ H Q => td σ H fun x H1 => ∃ a zs, x = .ref a ∧ H1 a = some (DO P w a zs) ∧ ty σ H1 fun y H2 => tx σ H2 fun z H3 => ∃ b l xs, y = .ref b ∧ Rp H3 (.ref b) (eD l) ∧ H3 a = some (DO P w a xs) ∧ Keyed H3 xs ∧ Q ((atE xs l).getD z) H3
theorem pe_getK {X : Cx} {P : Program} {w : World} {o e f : Expr} {apos cpos : Pos} {td ty tx : TE} (hu : X.A.units + 65 < cLine) (ho : PE X o td) (he : PE X e ty) (hf : PE X f tx) (m : M2 X o "get" apos e f cpos := by exact ⟨rfl, rfl, rfl, rfl⟩) (hP : X.prog = P := by rfl) (hw : X.w = w := by rfl) :
    PE X (.Call (.Attribute o "get" apos) [e, f] [] cpos) (tGetK P w td ty tx) := by
  subst hP hw
  refine ⟨fun pins s σ H Q I h => wpAny_Call_method m.base m.few m.line PySem.F.plainAttrs_dict PySem.F.slot_dict_get PySem.F.type_dict_get (thn (ho.run pins s σ H _ I h) fun u s1 ⟨x, H1, I1, rx, a, zs, ex, hd, q1⟩ => ?_)⟩
  subst ex
  obtain rfl : u = Value.ref a := rx
  obtain ⟨⟨_, _, _, _, ob, es, ep, g1, g2, _⟩, _, _⟩ := (show ObjOk X.prog X.w H1 s1.heap a (.ext (dictAt X.prog X.w a zs)) from I1.hok a _ hd)
  refine ⟨⟨ob, g1, g2.1⟩, fun b q => ?_, ?_⟩
  · cases q
    exact ⟨ob, g1, g2.2.1⟩
  rw [m.trees]
  refine Calls.callWith_builtin rfl (Calls.evalArgs_plain (Calls.spliced_cons (thn (he.run pins s1 σ H1 _ I1 q1) fun iv s2 ⟨y, H2, I2, ry, q2⟩ => Calls.spliced_cons (thn (hf.run pins s2 σ H2 _ I2 q2) fun fv s3 ⟨z, H3, I3, rz, b, l, xs, ey, rl, hd3, kd, q3⟩ => Calls.spliced_nil ?_))))
  subst ey
  obtain rfl : iv = Value.ref b := ry
  obtain ⟨_, lo, ys, rel, dd⟩ := dict_of I3.hok hd3 kd
  exact call_meetsIn PySem.F.slot_dict_get dd.typeIs PySem.F.entry_dict_get (PySem.F.args_dict_get_3 _ _ _) (meetsH_dict_get_default (nestedKind X.prog X.w) a b lo fv) ⟨room_nk hu, nkD l, ys, key_is I3.hok rl, dd, (atE xs l).getD z, H3, I3.tok _, (at_rel rel l).getD rz, q3⟩
section
variable {P : Program} {w : World} {K : PySem.W.Frag} {Γ : List Ent} {te tk ta : TE} {kvs : Kv} {l : List Pr} {d : PyData} {Pk : Kv → Prop} {R : PyData → Prop}
theorem Cn.getD {H : Hp} {kvs : Kv} {xs : List En} (c : Cn H kvs xs) {k : List Pr} {z : V} {d : PyData} (r : Rp H z d) : Rp H ((atE xs k).getD z) ((dget kvs k).getD d) := by
  cases g : dget kvs k with
  | none =>
    have := c.some k
    rw [g] at this
    cases q : atE xs k with
    | none => exact r
    | some v => rw [q] at this; cases this
  | some d' =>
    obtain ⟨v, h1, h2⟩ := c.get g
    rw [h1]
    exact h2
theorem ev_getE (hk : EvK P w Γ tk Pk) (h : EvD Γ te (eD l)) (hx : EvD Γ ta d) (hR : ∀ kvs, Pk kvs → R ((dget kvs l).getD d)) : EvR Γ (tGetK P w tk te ta) R := fun b G M σ H S Q q => hk b G M σ H S _ fun p xs kvs H1 n S1 e1 hd pd hc => by
  refine ⟨p, xs, rfl, hd, ?_⟩
  refine h b G M σ H1 S1 _ fun v dv H2 S2 e2 p2 r2 => hx b G M σ H2 S2 _ fun v3 d3 H3 S3 e3 p3 r3 => ?_
  have p2' : dv = eD l := p2
  have p3' : d3 = d := p3
  subst p2' p3'
  have pT : p ∉ b.T := fun z => by
    obtain ⟨t1, t2, t3, h1, _⟩ := S1.tape p z
    rw [h1] at hd
    cases hd
  have hd3 : H3 p = some (DO P w p xs) := e3 p _ (by rw [hid_out pT]; exact e2 p _ (by rw [hid_out pT]; exact hd))
  obtain ⟨a, rfl, ra⟩ := doing_ref (r2.up (hid_T S2.tm e3))
  have c3 : Cn (hid M H3) kvs xs := (hc.mono (hid_T S1.tm e2)).mono (hid_T S2.tm e3)
  exact ⟨a, l, xs, rfl, ra.up hid_le, hd3, c3.keyed.mono hid_le, q _ _ H3 S3 (sameT_trans (sameT_trans e1 e2) e3) (hR kvs pd) (c3.getD r3)⟩
theorem Cn.keys {H : Hp} {kvs : Kv} {xs : List En} (c : Cn H kvs xs) : (xs.map fun e => eD e.1) = kvs.map fun e => eD e.1 := by
  induction c with
  | nil => rfl
  | @cons p q ps qs h t ih => rw [List.map_cons, List.map_cons, ih, h.1]
theorem rpl_paired {H : Hp} : ∀ {vs : List V} {ds : List PyData}, Paired (Rp H) vs ds → RpL H vs ds
  | _, _, .nil => .nil
  | _, _, .cons r t => .cons r (rpl_paired t)
/-- sorted(a new dict) -/
theorem ev_sortE {Pl : List PyData → Prop} (hk : EvK P w Γ tk Pk) (hs : ∀ kvs, Pk kvs → PySem.W.AllAlike (kvs.map fun e => eD e.1) ∧ Srt (kvs.map fun e => eD e.1) ∧ Pl (sortD (kvs.map fun e => eD e.1))) : EvN Γ (tCB (rSortK P w) (tCons tk tNil)) Pl := fun b G M σ H S Q q => hk b G M σ H S _ fun p xs kvs H1 n S1 e1 hd pd hc => by
  obtain ⟨s1, s2, s3⟩ := hs kvs pd
  rw [← hc.keys] at s1 s2 s3
  refine ⟨p, xs, Rp (hid M H1), rfl, hd, hc.keyed.mono hid_le, keyed_paired hc.keyed, fun x z r => r.up hid_le, s1, s2, fun a ys ha hy => ?_⟩
  exact new_of (Pl := Pl) S1 e1 (rpl_paired hy) s3 q a ha
end
end Dq

set_option Elab.async false
set_option linter.all false
set_option maxRecDepth 100000
set_option maxHeartbeats 2000000
/-! Breadth first: layers of doings, how far each is, from where it was come to. -/
namespace Bt
open PySem Dz

/-- a doing, how far, from which doing by which move -/
abbrev Node := List Pr × Nat × Option (List Pr × Mv)
def look (F : List Node) (l : List Pr) : Option (Nat × Option (List Pr × Mv)) := (F.find? fun e => decide (e.1 = l)).map (·.2)
def has (F : List Node) (l : List Pr) : Bool := F.any fun e => decide (e.1 = l)
abbrev St := List Node × List (List Pr)
def visit (b n : Nat) (here : List Pr) (st : St) (s : Mv × List Pr) : St := if !has st.1 s.2 && decide (b ≤ s.2.length) then (st.1 ++ [(s.2, n + 1, some (here, s.1))], st.2 ++ [s.2]) else st
def visits (c : Pr) (b n : Nat) (st : St) (here : List Pr) : St := (steps c here).foldl (visit b n here) st
def layer (c : Pr) (b n : Nat) (F : List Node) (line : List (List Pr)) : St := line.foldl (visits c b n) (F, [])
def bfs (c : Pr) (b : Nat) : Nat → Nat → List Node → List (List Pr) → List Node
  | 0, _, F, _ => F
  | k + 1, n, F, line => if line.isEmpty then F else bfs c b k (n + 1) (layer c b n F line).1 (layer c b n F line).2
def bfsTo (c : Pr) (b : Nat) (l : List Pr) : Nat → Nat → List Node → List (List Pr) → List Node
  | 0, _, F, _ => F
  | k + 1, n, F, line => if line.isEmpty || has F l then F else bfsTo c b l k (n + 1) (layer c b n F line).1 (layer c b n F line).2
theorem bfs_nil {c : Pr} {b n : Nat} {F : List Node} : ∀ k, bfs c b k n F [] = F
  | 0 => rfl
  | k + 1 => rfl
theorem bfs_cons {c : Pr} {b n k : Nat} {F : List Node} {line : List (List Pr)} (h : line ≠ []) : bfs c b (k + 1) n F line = bfs c b k (n + 1) (layer c b n F line).1 (layer c b n F line).2 := by
  rw [bfs, if_neg]
  simpa using h
theorem has_look (F : List Node) (l : List Pr) : has F l = (look F l).isSome := by
  unfold has look
  rw [Option.isSome_map]
  induction F with
  | nil => rfl
  | cons e F ih =>
    rw [List.any_cons, List.find?_cons, ih]
    cases decide (e.1 = l) <;> rfl
theorem look_app {F : List Node} {l : List Pr} {x : Nat × Option (List Pr × Mv)} (G : List Node) (h : look F l = some x) : look (F ++ G) l = some x := by
  unfold look at h ⊢
  rw [List.find?_append]
  obtain ⟨e, h1, h2⟩ := Option.map_eq_some_iff.mp h
  rw [h1]
  exact congrArg some h2
theorem look_new {F : List Node} {l : List Pr} {x : Nat × Option (List Pr × Mv)} (h : has F l = false) : look (F ++ [(l, x)]) l = some x := by
  rw [has_look] at h
  unfold look at h ⊢
  rw [Option.isSome_map] at h
  have h' : F.find? (fun e => decide (e.1 = l)) = none := by
    cases q : F.find? (fun e => decide (e.1 = l)) with
    | none => rfl
    | some y => rw [q] at h; cases h
  rw [List.find?_append, h']
  simp
theorem look_mem {F : List Node} {l : List Pr} {x : Nat × Option (List Pr × Mv)} (h : look F l = some x) : (l, x) ∈ F := by
  unfold look at h
  obtain ⟨e, h1, h2⟩ := Option.map_eq_some_iff.mp h
  have := List.find?_some h1
  have e1 : e.1 = l := of_decide_eq_true this
  have := List.mem_of_find?_eq_some h1
  rw [← e1, ← h2]
  exact this
/-! ### what stays true -/
/-- the keys are doings of c with b done at least, each once; whatever was come to came by a step, from a doing one less far -/
structure Good (c : Pr) (b : Nat) (start : List Pr) (F : List Node) : Prop where
  ok : ∀ e ∈ F, okD c e.1 = true ∧ b ≤ e.1.length
  nd : (F.map (·.1)).Nodup
  st : look F start = some (0, none)
  from_ : ∀ e ∈ F, (e = (start, 0, none)) ∨ ∃ n h m, e.2 = (n + 1, some (h, m)) ∧ (m, e.1) ∈ steps c h ∧ ∃ x, look F h = some (n, x)
/-- .. and every doing of the line is n far -/
structure Lined (n : Nat) (F : List Node) (line : List (List Pr)) : Prop where
  at_ : ∀ l ∈ line, ∃ x, look F l = some (n, x)
section
variable {c : Pr} {b n : Nat} {start here : List Pr} {F : List Node} {later : List (List Pr)} {s : Mv × List Pr}
theorem good_visit (hc : okC c = true) (g : Good c b start F) (hh : ∃ x, look F here = some (n, x)) (hl : Lined (n + 1) F later) (hs : s ∈ steps c here) : Good c b start (visit b n here (F, later) s).1 ∧ Lined (n + 1) (visit b n here (F, later) s).1 (visit b n here (F, later) s).2 := by
  unfold visit
  by_cases h : (!has F s.2 && decide (b ≤ s.2.length)) = true
  · rw [if_pos h]
    rw [Bool.and_eq_true, Bool.not_eq_true', decide_eq_true_eq] at h
    obtain ⟨h1, h2⟩ := h
    have hok : okD c here = true := by
      obtain ⟨x, hx⟩ := hh
      exact (g.ok _ (look_mem hx)).1
    refine ⟨⟨fun e he => ?_, ?_, look_app _ g.st, fun e he => ?_⟩, ⟨fun l hl' => ?_⟩⟩
    · rcases List.mem_append.mp he with he | he
      · exact g.ok e he
      · rw [List.mem_singleton.mp he]
        exact ⟨steps_ok hc hok hs, h2⟩
    · rw [List.map_append, List.nodup_append]
      refine ⟨g.nd, List.nodup_cons.mpr ⟨fun h => (nomatch h), List.nodup_nil⟩, fun a ha b' hb' e => ?_⟩
      rw [List.mem_singleton.mp hb'] at e
      obtain ⟨y, hy, rfl⟩ := List.mem_map.mp ha
      have : has F s.2 = true := List.any_eq_true.mpr ⟨y, hy, decide_eq_true e⟩
      rw [h1] at this
      cases this
    · rcases List.mem_append.mp he with he | he
      · rcases g.from_ e he with h | ⟨n', h', m, e1, e2, x, e3⟩
        · exact .inl h
        · exact .inr ⟨n', h', m, e1, e2, x, look_app _ e3⟩
      · rw [List.mem_singleton.mp he]
        obtain ⟨x, hx⟩ := hh
        exact .inr ⟨n, here, s.1, rfl, hs, x, look_app _ hx⟩
    · rcases List.mem_append.mp hl' with hl' | hl'
      · obtain ⟨x, hx⟩ := hl.at_ l hl'
        exact ⟨x, look_app _ hx⟩
      · rw [List.mem_singleton.mp hl']
        exact ⟨_, look_new h1⟩
  · rw [if_neg h]
    exact ⟨g, hl⟩
/-- a state only grows -/
def Grows (F F' : List Node) : Prop := ∃ G, F' = F ++ G
theorem Grows.refl (F : List Node) : Grows F F := ⟨[], (List.append_nil F).symm⟩
theorem Grows.trans {A B C : List Node} (h : Grows A B) (h' : Grows B C) : Grows A C := by
  obtain ⟨G, rfl⟩ := h
  obtain ⟨G', rfl⟩ := h'
  exact ⟨G ++ G', List.append_assoc ..⟩
theorem Grows.look {F F' : List Node} {l : List Pr} {x : Nat × Option (List Pr × Mv)} (h : Grows F F') (e : look F l = some x) : look F' l = some x := by
  obtain ⟨G, rfl⟩ := h
  exact look_app G e
theorem grows_visit (st : St) : Grows st.1 (visit b n here st s).1 := by
  unfold visit
  split
  · exact ⟨_, rfl⟩
  · exact .refl _
theorem good_visits (hc : okC c = true) : ∀ (ss : List (Mv × List Pr)) (st : St), (∀ s ∈ ss, s ∈ steps c here) → Good c b start st.1 → (∃ x, look st.1 here = some (n, x)) → Lined (n + 1) st.1 st.2 →
    Good c b start (ss.foldl (visit b n here) st).1 ∧ Lined (n + 1) (ss.foldl (visit b n here) st).1 (ss.foldl (visit b n here) st).2 ∧ Grows st.1 (ss.foldl (visit b n here) st).1
  | [], st, _, g, _, hl => ⟨g, hl, .refl _⟩
  | s :: ss, st, hs, g, hh, hl => by
    obtain ⟨g1, l1⟩ := good_visit hc g hh hl (hs s List.mem_cons_self)
    have gr := grows_visit (b := b) (n := n) (here := here) (s := s) st
    obtain ⟨x, hx⟩ := hh
    obtain ⟨g2, l2, gr2⟩ := good_visits hc ss (visit b n here st s) (fun t ht => hs t (List.mem_cons_of_mem _ ht)) g1 ⟨x, gr.look hx⟩ l1
    exact ⟨g2, l2, gr.trans gr2⟩
theorem good_layer (hc : okC c = true) : ∀ (line : List (List Pr)) (st : St), Good c b start st.1 → Lined n st.1 line → Lined (n + 1) st.1 st.2 →
    Good c b start (line.foldl (visits c b n) st).1 ∧ Lined (n + 1) (line.foldl (visits c b n) st).1 (line.foldl (visits c b n) st).2 ∧ Grows st.1 (line.foldl (visits c b n) st).1
  | [], st, g, _, hl => ⟨g, hl, .refl _⟩
  | here :: line, st, g, hn, hl => by
    obtain ⟨g1, l1, gr1⟩ := good_visits (b := b) hc (steps c here) st (fun _ h => h) g (hn.at_ here List.mem_cons_self) hl
    obtain ⟨g2, l2, gr2⟩ := good_layer hc line (visits c b n st here) g1 ⟨fun l h => by
      obtain ⟨x, hx⟩ := hn.at_ l (List.mem_cons_of_mem _ h)
      exact ⟨x, gr1.look hx⟩⟩ l1
    exact ⟨g2, l2, gr1.trans gr2⟩
end
end Bt

set_option Elab.async false
set_option linter.all false
set_option maxRecDepth 100000
set_option maxHeartbeats 2000000
/-! What breadth first finds: how many at most, the same if stopped early, the ways told backward. -/
namespace Bt
open PySem Dz

section
variable {c : Pr} {b n : Nat} {start : List Pr} {F : List Node} {line : List (List Pr)}
theorem visits_count {here : List Pr} : ∀ (ss : List (Mv × List Pr)) (st : St), ∃ G : List Node, ∃ L : List (List Pr), (ss.foldl (visit b n here) st).1 = st.1 ++ G ∧ (ss.foldl (visit b n here) st).2 = st.2 ++ L ∧ G.map (·.1) = L
  | [], st => ⟨[], [], by simp, by simp, rfl⟩
  | s :: ss, st => by
    obtain ⟨G, L, h1, h2, h3⟩ := visits_count ss (visit b n here st s)
    rw [List.foldl_cons, h1, h2]
    unfold visit
    split
    · exact ⟨(s.2, n + 1, some (here, s.1)) :: G, s.2 :: L, by simp, by simp, by rw [List.map_cons, h3]⟩
    · exact ⟨G, L, rfl, rfl, h3⟩
theorem layer_count : ∀ (line : List (List Pr)) (st : St), ∃ G : List Node, ∃ L : List (List Pr), (line.foldl (visits c b n) st).1 = st.1 ++ G ∧ (line.foldl (visits c b n) st).2 = st.2 ++ L ∧ G.map (·.1) = L
  | [], st => ⟨[], [], by simp, by simp, rfl⟩
  | here :: line, st => by
    obtain ⟨G1, L1, a1, a2, a3⟩ := visits_count (b := b) (n := n) (here := here) (steps c here) st
    obtain ⟨G, L, h1, h2, h3⟩ := layer_count line (visits c b n st here)
    refine ⟨G1 ++ G, L1 ++ L, ?_, ?_, by rw [List.map_append, a3, h3]⟩
    · rw [List.foldl_cons, h1]
      unfold visits
      rw [a1, List.append_assoc]
    · rw [List.foldl_cons, h2]
      unfold visits
      rw [a2, List.append_assoc]
theorem grows_layer (F : List Node) (line : List (List Pr)) : Grows F (layer c b n F line).1 := by
  obtain ⟨G, L, h1, _, _⟩ := layer_count (c := c) (b := b) (n := n) line (F, [])
  exact ⟨G, h1⟩
theorem layer_length (F : List Node) (line : List (List Pr)) : (layer c b n F line).1.length = F.length + (layer c b n F line).2.length := by
  obtain ⟨G, L, h1, h2, h3⟩ := layer_count (c := c) (b := b) (n := n) line (F, [])
  unfold layer
  rw [h1, h2, List.length_append, List.nil_append, ← h3, List.length_map]
theorem grows_bfs : ∀ (k n : Nat) (F : List Node) (line : List (List Pr)), Grows F (bfs c b k n F line)
  | 0, _, F, _ => .refl F
  | k + 1, n, F, line => by
    unfold bfs
    split
    · exact .refl F
    · exact (grows_layer F line).trans (grows_bfs k (n + 1) _ _)
/-- to stop as soon as l is found changes nothing for l -/
theorem look_to (l : List Pr) : ∀ (k n : Nat) (F : List Node) (line : List (List Pr)), look (bfsTo c b l k n F line) l = look (bfs c b k n F line) l
  | 0, _, _, _ => rfl
  | k + 1, n, F, line => by
    unfold bfsTo bfs
    by_cases h1 : line.isEmpty = true
    · rw [if_pos h1, if_pos (by rw [h1]; rfl)]
    · rw [if_neg h1]
      by_cases h2 : has F l = true
      · rw [if_pos (by rw [h2, Bool.or_true])]
        rw [has_look] at h2
        obtain ⟨x, hx⟩ := Option.isSome_iff_exists.mp h2
        rw [hx, ((grows_layer F line).trans (grows_bfs k (n + 1) _ _)).look hx]
      · rw [if_neg (by simp [h1, h2])]
        exact look_to l k (n + 1) _ _
theorem nodup_le {α : Type} [DecidableEq α] : ∀ {l m : List α}, l.Nodup → (∀ x ∈ l, x ∈ m) → l.length ≤ m.length
  | [], _, _, _ => Nat.zero_le _
  | x :: l, m, hn, hs => by
    rw [List.nodup_cons] at hn
    have hx := hs x List.mem_cons_self
    have h := nodup_le (l := l) (m := m.erase x) hn.2 fun y hy => (List.mem_erase_of_ne fun e => by subst e; exact hn.1 hy).mpr (hs y (List.mem_cons_of_mem _ hy))
    rw [List.length_erase_of_mem hx] at h
    have := List.length_pos_of_mem hx
    rw [List.length_cons]
    omega
theorem allD_len (hc : okC c = true) : (allD c).length ≤ 252 := by
  have h : (allC.all fun c => decide ((allD c).length ≤ 252)) = true := by decide +kernel
  exact of_decide_eq_true (List.all_eq_true.mp h c (mem_allC hc))
theorem good_len (hc : okC c = true) (g : Good c b start F) : F.length ≤ 252 := by
  have := nodup_le g.nd fun l hl => by
    obtain ⟨e, he, rfl⟩ := List.mem_map.mp hl
    exact mem_allD (g.ok e he).1
  rw [List.length_map] at this
  exact Nat.le_trans this (allD_len hc)
theorem good_start {l : List Pr} (hl : okD c l = true) (hb : b ≤ l.length) : Good c b l [(l, 0, none)] ∧ Lined 0 [(l, 0, none)] [l] := by
  refine ⟨⟨fun e he => ?_, by simp, ?_, fun e he => .inl (List.mem_singleton.mp he)⟩, ⟨fun m hm => ?_⟩⟩
  · rw [List.mem_singleton.mp he]
    exact ⟨hl, hb⟩
  · simp [look]
  · rw [List.mem_singleton.mp hm]
    exact ⟨none, by simp [look]⟩
/-! ### how long it can go on -/
def room (F : List Node) (line : List (List Pr)) : Nat := 2 * (252 - F.length) + (if line.isEmpty then 0 else 1)
theorem room_down (hc : okC c = true) (g : Good c b start F) (hn : Lined n F line) (h : line ≠ []) : room (layer c b n F line).1 (layer c b n F line).2 < room F line := by
  obtain ⟨g1, _, _⟩ := good_layer hc line (F, []) g hn ⟨fun _ h => nomatch h⟩
  have h1 := good_len hc g1
  have h2 := layer_length (c := c) (b := b) (n := n) F line
  have e : (line.foldl (visits c b n) (F, [])).1 = (layer c b n F line).1 := rfl
  rw [e] at h1
  unfold room
  have hl : line.isEmpty = false := by cases line with
    | nil => exact absurd rfl h
    | cons _ _ => rfl
  rw [hl]
  cases q : (layer c b n F line).2 with
  | nil =>
    rw [q] at h2
    simp at h2 ⊢
    omega
  | cons x r =>
    rw [q, List.length_cons] at h2
    simp
    omega
/-- all that is found from l, with b done at least -/
def far (c : Pr) (b : Nat) (l : List Pr) : List Node := bfs c b 506 0 [(l, 0, none)] [l]
def farTo (c : Pr) (b : Nat) (l m : List Pr) : List Node := bfsTo c b m 506 0 [(l, 0, none)] [l]
theorem room_start (l : List Pr) : room [(l, 0, none)] [l] ≤ 506 := by unfold room; simp
theorem good_bfs (hc : okC c = true) : ∀ (k n : Nat) (F : List Node) (line : List (List Pr)), Good c b start F → Lined n F line → Good c b start (bfs c b k n F line)
  | 0, _, _, _, g, _ => g
  | k + 1, n, F, line, g, hn => by
    unfold bfs
    split
    · exact g
    · obtain ⟨g1, l1, _⟩ := good_layer hc line (F, []) g hn ⟨fun _ h => nomatch h⟩
      exact good_bfs hc k (n + 1) _ _ g1 l1
theorem good_to (hc : okC c = true) {m : List Pr} : ∀ (k n : Nat) (F : List Node) (line : List (List Pr)), Good c b start F → Lined n F line → Good c b start (bfsTo c b m k n F line)
  | 0, _, _, _, g, _ => g
  | k + 1, n, F, line, g, hn => by
    unfold bfsTo
    split
    · exact g
    · obtain ⟨g1, l1, _⟩ := good_layer hc line (F, []) g hn ⟨fun _ h => nomatch h⟩
      exact good_to hc k (n + 1) _ _ g1 l1
/-! ### the way back -/
def back (F : List Node) : Nat → List Pr → List Mv
  | 0, _ => []
  | k + 1, l => match look F l with
    | some (_, some (h, m)) => m :: back F k h
    | _ => []
theorem step_next {l l' : List Pr} {m : Mv} (h : (m, l') ∈ steps c l) : nextM c l m = some l' := by
  unfold steps at h
  rcases List.mem_append.mp h with h | h
  · obtain ⟨p, hp, e⟩ := List.mem_map.mp h
    injection e with e1 e2
    subst e1 e2
    rw [← nextD_eM]
    exact (next_open c l p).1 hp
  · obtain ⟨p, hp, e⟩ := List.mem_map.mp h
    injection e with e1 e2
    subst e1 e2
    rw [← nextD_eM]
    exact (next_do c l p).1 hp
theorem pathM_one {f : List (List Pr)} {l l' : List Pr} {m : Mv} {ms : List Mv} (h : nextM c l m = some l') : pathM c f l (m :: ms) = pathM c (f ++ [l]) l' ms := by
  rw [pathM, h]
theorem pathM_snoc : ∀ {ms : List Mv} {f f' : List (List Pr)} {l l' l'' : List Pr} {m : Mv}, pathM c f l ms = some (f', l') → nextM c l' m = some l'' → pathM c f l (ms ++ [m]) = some (f' ++ [l'], l'')
  | [], f, f', l, l', l'', m, h, h2 => by
    unfold pathM at h
    injection h with h
    injection h with h1 h3
    subst h1 h3
    rw [List.nil_append, pathM_one h2]
    rfl
  | x :: ms, f, f', l, l', l'', m, h, h2 => by
    cases hn : nextM c l x with
    | none => rw [pathM, hn] at h; cases h
    | some y =>
      rw [pathM_one hn] at h
      rw [List.cons_append, pathM_one hn]
      exact pathM_snoc h h2
theorem look_zero (g : Good c b start F) {l : List Pr} {x : Option (List Pr × Mv)} (h : look F l = some (0, x)) : l = start ∧ x = none := by
  rcases g.from_ _ (look_mem h) with e | ⟨n, h', m, e, _⟩
  · injection e with e1 e2
    injection e2 with _ e3
    exact ⟨e1, e3⟩
  · injection e with e _
    omega
theorem look_succ (g : Good c b start F) {l : List Pr} {x : Option (List Pr × Mv)} (h : look F l = some (n + 1, x)) : ∃ h' m, x = some (h', m) ∧ (m, l) ∈ steps c h' ∧ ∃ y, look F h' = some (n, y) := by
  rcases g.from_ _ (look_mem h) with e | ⟨k, h', m, e, e2, e3⟩
  · injection e with _ e2
    injection e2 with e2 _
    omega
  · injection e with e e'
    obtain rfl : n = k := by omega
    exact ⟨h', m, e', e2, e3⟩
/-- the way told leads to l, with never fewer than b done -/
theorem back_path (g : Good c b start F) : ∀ (n : Nat) {l : List Pr} {x : Option (List Pr × Mv)}, look F l = some (n, x) →
    ∃ f, pathM c [] start (back F n l).reverse = some (f, l) ∧ (∀ z ∈ f ++ [l], b ≤ z.length) ∧ (back F n l).length = n
  | 0, l, x, h => by
    obtain ⟨rfl, _⟩ := look_zero g h
    refine ⟨[], rfl, fun z hz => ?_, rfl⟩
    rw [List.nil_append] at hz
    rw [List.mem_singleton.mp hz]
    exact (g.ok _ (look_mem h)).2
  | n + 1, l, x, h => by
    obtain ⟨h', m, rfl, hs, y, hy⟩ := look_succ g h
    obtain ⟨f, p1, p2, p3⟩ := back_path g n hy
    have e : back F (n + 1) l = m :: back F n h' := by rw [back, h]
    refine ⟨f ++ [h'], ?_, fun z hz => ?_, by rw [e, List.length_cons, p3]⟩
    · rw [e, List.reverse_cons]
      exact pathM_snoc p1 (step_next hs)
    · rcases List.mem_append.mp hz with hz | hz
      · exact p2 z hz
      · rw [List.mem_singleton.mp hz]
        exact (g.ok _ (look_mem h)).2
end
end Bt

set_option Elab.async false
set_option linter.all false
set_option maxRecDepth 100000
set_option maxHeartbeats 2000000
/-! What can be come to: breadth first finds all of it. -/
namespace Bt
open PySem Dz

/-- m is come to from l by steps, with b done at least behind each -/
inductive Conn (c : Pr) (b : Nat) (l : List Pr) : List Pr → Prop
  | refl : Conn c b l l
  | step {h m : List Pr} {mv : Mv} : Conn c b l h → (mv, m) ∈ steps c h → b ≤ m.length → Conn c b l m
section
variable {c : Pr} {b n : Nat} {start l m h : List Pr} {F : List Node} {line : List (List Pr)}
theorem Conn.trans (a : Conn c b l h) (k : Conn c b h m) : Conn c b l m := by
  induction k with
  | refl => exact a
  | step _ hs hb ih => exact .step ih hs hb
theorem Conn.okk (hc : okC c = true) (hl : okD c l = true) (k : Conn c b l m) : okD c m = true := by
  induction k with
  | refl => exact hl
  | step _ hs _ ih => exact steps_ok hc ih hs
theorem Conn.first (k : Conn c b l m) : l = m ∨ ∃ s ∈ steps c l, b ≤ s.2.length := by
  induction k with
  | refl => exact .inl rfl
  | @step h m mv _ hs hb ih =>
    rcases ih with e | e
    · subst e
      exact .inr ⟨_, hs, hb⟩
    · exact .inr e
theorem Conn.least (k : Conn c b l m) (hb : b ≤ l.length) : b ≤ m.length := by
  cases k with
  | refl => exact hb
  | step _ _ h => exact h
theorem back_step (hc : okC c = true) (hl : okD c l = true) {mv : Mv} (hs : (mv, m) ∈ steps c l) : ∃ mv', (mv', l) ∈ steps c m := by
  have h := try_all (P := fun c l => (l.all fun p => (fitL c (without l p)).contains p && decide (insP p (without l p) = l)) && ((fitL c l).all fun p => (insP p l).contains p && decide (without (insP p l) p = l))) (by decide +kernel) hc hl
  rw [Bool.and_eq_true, List.all_eq_true, List.all_eq_true] at h
  unfold steps at hs
  rcases List.mem_append.mp hs with z | z
  · obtain ⟨p, hp, e⟩ := List.mem_map.mp z
    injection e with _ e
    subst e
    have := h.1 p hp
    rw [Bool.and_eq_true, decide_eq_true_eq] at this
    refine ⟨(false, p), List.mem_append.mpr (.inr (List.mem_map.mpr ⟨p, by simpa using this.1, ?_⟩))⟩
    rw [this.2]
  · obtain ⟨p, hp, e⟩ := List.mem_map.mp z
    injection e with _ e
    subst e
    have := h.2 p hp
    rw [Bool.and_eq_true, decide_eq_true_eq] at this
    refine ⟨(true, p), List.mem_append.mpr (.inl (List.mem_map.mpr ⟨p, by simpa using this.1, ?_⟩))⟩
    rw [this.2]
theorem Conn.symm (hc : okC c = true) (hl : okD c l = true) (hb : b ≤ l.length) (k : Conn c b l m) : Conn c b m l := by
  induction k with
  | refl => exact .refl
  | @step h m mv k hs hm ih =>
    obtain ⟨mv', hs'⟩ := back_step hc (k.okk hc hl) hs
    exact (Conn.step .refl hs' (k.least hb)).trans ih
theorem step_of_next {mv : Mv} (hn : nextM c l mv = some m) : (mv, m) ∈ steps c l := by
  unfold nextM at hn
  have := List.mem_of_head? hn
  obtain ⟨s, hs, rfl⟩ := List.mem_map.mp this
  obtain ⟨h1, h2⟩ := List.mem_filter.mp hs
  have e := of_decide_eq_true h2
  rw [← e]
  exact h1
theorem path_mem : ∀ {ms : List Mv} {f f' : List (List Pr)} {l l' : List Pr}, pathM c f l ms = some (f', l') → ∃ g, f' ++ [l'] = f ++ l :: g
  | [], f, f', l, l', h => by
    unfold pathM at h
    injection h with h
    injection h with h1 h2
    subst h1 h2
    exact ⟨[], rfl⟩
  | x :: ms, f, f', l, l', h => by
    cases hn : nextM c l x with
    | none => rw [pathM, hn] at h; cases h
    | some y =>
      rw [pathM_one hn] at h
      obtain ⟨g, hg⟩ := path_mem h
      exact ⟨y :: g, by rw [hg, List.append_assoc]; rfl⟩
/-- a way makes a connection -/
theorem path_conn : ∀ {ms : List Mv} {f f' : List (List Pr)} {l l' : List Pr}, pathM c f l ms = some (f', l') → (∀ z ∈ f' ++ [l'], b ≤ z.length) → Conn c b l l'
  | [], f, f', l, l', h, _ => by
    unfold pathM at h
    injection h with h
    injection h with h1 h2
    subst h2
    exact .refl
  | x :: ms, f, f', l, l', h, hb => by
    cases hn : nextM c l x with
    | none => rw [pathM, hn] at h; cases h
    | some y =>
      rw [pathM_one hn] at h
      obtain ⟨g, hg⟩ := path_mem h
      exact (Conn.step .refl (step_of_next hn) (hb y (by rw [hg]; simp))).trans (path_conn h hb)
/-! ### breadth first finds all -/
/-- every step from what is found and not in the line leads to what is found -/
def Closed (c : Pr) (b : Nat) (F : List Node) (line : List (List Pr)) : Prop := ∀ l, has F l = true → l ∉ line → ∀ s ∈ steps c l, b ≤ s.2.length → has F s.2 = true
theorem Grows.has {F F' : List Node} (g : Grows F F') (h : has F l = true) : has F' l = true := by
  rw [has_look] at h ⊢
  obtain ⟨x, hx⟩ := Option.isSome_iff_exists.mp h
  rw [g.look hx]
  rfl
theorem has_new {F : List Node} {x : Nat × Option (List Pr × Mv)} : has (F ++ [(l, x)]) l = true := by
  unfold has
  rw [List.any_append]
  simp
theorem visit_has {here : List Pr} {st : St} {s : Mv × List Pr} (h : b ≤ s.2.length) : has (visit b n here st s).1 s.2 = true := by
  unfold visit
  split
  · exact has_new
  · rename_i z
    simp only [Bool.and_eq_true, Bool.not_eq_true', decide_eq_true_eq] at z
    cases q : has st.1 s.2 with
    | true => rfl
    | false => exact absurd ⟨q, h⟩ z
theorem visits_grow {here : List Pr} (ss : List (Mv × List Pr)) (st : St) : Grows st.1 (ss.foldl (visit b n here) st).1 := by
  obtain ⟨G, _, h, _⟩ := visits_count (b := b) (n := n) (here := here) ss st
  exact ⟨G, h⟩
theorem visits_has {here : List Pr} : ∀ (ss : List (Mv × List Pr)) (st : St), ∀ s ∈ ss, b ≤ s.2.length → has (ss.foldl (visit b n here) st).1 s.2 = true
  | [], _, s, h, _ => nomatch h
  | t :: ss, st, s, h, hb => by
    rw [List.foldl_cons]
    rcases List.mem_cons.mp h with rfl | h
    · exact (visits_grow ss _).has (visit_has hb)
    · exact visits_has ss _ s h hb
theorem layer_grow (line : List (List Pr)) (st : St) : Grows st.1 (line.foldl (visits c b n) st).1 := by
  obtain ⟨G, _, h, _⟩ := layer_count (c := c) (b := b) (n := n) line st
  exact ⟨G, h⟩
theorem layer_has : ∀ (line : List (List Pr)) (st : St), ∀ l ∈ line, ∀ s ∈ steps c l, b ≤ s.2.length → has (line.foldl (visits c b n) st).1 s.2 = true
  | [], _, l, h, _, _, _ => nomatch h
  | k :: line, st, l, h, s, hs, hb => by
    rw [List.foldl_cons]
    rcases List.mem_cons.mp h with rfl | h
    · exact (layer_grow line _).has (visits_has (steps c l) st s hs hb)
    · exact layer_has line _ l h s hs hb
theorem closed_layer (hcl : Closed c b F line) : Closed c b (layer c b n F line).1 (layer c b n F line).2 := fun l hl hno s hs hb => by
  obtain ⟨G, L, h1, h2, h3⟩ := layer_count (c := c) (b := b) (n := n) line (F, [])
  have hF : has F l = true := by
    unfold has at hl ⊢
    unfold layer at hl hno
    rw [h1, List.any_append, Bool.or_eq_true] at hl
    rcases hl with hl | hl
    · exact hl
    · obtain ⟨e, he, hd⟩ := List.any_eq_true.mp hl
      refine absurd ?_ hno
      rw [h2, ← h3]
      exact List.mem_append.mpr (.inr (List.mem_map.mpr ⟨e, he, of_decide_eq_true hd⟩))
  by_cases hin : l ∈ line
  · exact layer_has line (F, []) l hin s hs hb
  · exact (grows_layer F line).has (hcl l hF hin s hs hb)
theorem closed_bfs (hc : okC c = true) : ∀ (k n : Nat) (F : List Node) (line : List (List Pr)), Good c b start F → Lined n F line → room F line ≤ k → Closed c b F line → Closed c b (bfs c b k n F line) []
  | 0, n, F, line, _, _, hr, hcl => by
    have : line = [] := by
      cases line with
      | nil => rfl
      | cons x r => unfold room at hr; simp at hr
    subst this
    exact hcl
  | k + 1, n, F, line, g, hn, hr, hcl => by
    by_cases he : line = []
    · subst he
      rw [bfs_nil]
      exact hcl
    · rw [bfs_cons he]
      obtain ⟨g1, l1, _⟩ := good_layer hc line (F, []) g hn ⟨fun _ h => nomatch h⟩
      have := room_down hc g hn he
      exact closed_bfs hc k (n + 1) _ _ g1 l1 (by omega) (closed_layer hcl)
theorem closed_far (hc : okC c = true) (hl : okD c l = true) (hb : b ≤ l.length) : Closed c b (far c b l) [] := by
  obtain ⟨g, hn⟩ := good_start hl hb
  refine closed_bfs hc 506 0 _ _ g hn (room_start l) fun m hm hno => absurd ?_ hno
  unfold has at hm
  simp at hm
  rw [hm]
  exact List.mem_singleton.mpr rfl
theorem good_far (hc : okC c = true) (hl : okD c l = true) (hb : b ≤ l.length) : Good c b l (far c b l) := by
  obtain ⟨g, hn⟩ := good_start hl hb
  exact good_bfs hc 506 0 _ _ g hn
theorem far_of_conn (hc : okC c = true) (hl : okD c l = true) (hb : b ≤ l.length) (k : Conn c b l m) : has (far c b l) m = true := by
  induction k with
  | refl =>
    rw [has_look, (good_far hc hl hb).st]
    rfl
  | @step h m mv _ hs hm ih => exact closed_far hc hl hb h ih (fun h => nomatch h) _ hs hm
theorem conn_of_far (hc : okC c = true) (hl : okD c l = true) (hb : b ≤ l.length) (h : has (far c b l) m = true) : Conn c b l m := by
  rw [has_look] at h
  obtain ⟨⟨n, x⟩, hx⟩ := Option.isSome_iff_exists.mp h
  obtain ⟨f, h1, h2, _⟩ := back_path (good_far hc hl hb) n hx
  exact path_conn h1 h2
/-! ### how many can stay -/
def boundM (c : Pr) (l : List Pr) : Nat := if (fitL c l).isEmpty then l.length - 1 else l.length
def canM (c : Pr) (l m : List Pr) : Nat := if l = m then l.length else min (boundM c l) (boundM c m)
theorem bound_le (c : Pr) (l : List Pr) : boundM c l ≤ l.length := by
  unfold boundM
  split <;> omega
theorem bound_ge (c : Pr) (l : List Pr) : l.length ≤ boundM c l + 1 := by
  unfold boundM
  split <;> omega
theorem can_comm (c : Pr) (l m : List Pr) : canM c l m = canM c m l := by
  unfold canM
  by_cases h : l = m
  · rw [if_pos h, if_pos h.symm, h]
  · rw [if_neg h, if_neg fun z => h z.symm, Nat.min_comm]
theorem can_le (c : Pr) (l m : List Pr) : canM c l m ≤ l.length ∧ canM c l m ≤ m.length := by
  unfold canM
  have h1 := bound_le c l
  have h2 := bound_le c m
  split
  · rename_i h
    subst h
    omega
  · omega
theorem to_goal_low (hc : okC c = true) (hl : okD c l = true) (hb : b ≤ l.length - 1) : Conn c b l (goalM c) := by
  have h := straight_law hc hl
  unfold straightLaw at h
  split at h
  · cases h
  rename_i f l' hpath
  simp only [Bool.and_eq_true, decide_eq_true_eq, List.all_eq_true] at h
  obtain ⟨⟨⟨⟨g1, g2⟩, g3⟩, g4⟩, g5⟩ := h
  subst g1
  refine path_conn hpath fun z hz => ?_
  have := g3 z hz
  omega
theorem to_goal (hc : okC c = true) (hl : okD c l = true) : Conn c (boundM c l) l (goalM c) := by
  unfold boundM
  cases e : fitL c l with
  | nil => exact to_goal_low hc hl (Nat.le_refl _)
  | cons p r =>
    have hp : p ∈ fitL c l := by rw [e]; exact List.mem_cons_self
    have hs : ((false, p), insP p l) ∈ steps c l := List.mem_append.mpr (.inr (List.mem_map.mpr ⟨p, hp, rfl⟩))
    have hlen : (insP p l).length = l.length + 1 := by
      have := (ins_perm p l).length_eq
      simpa using this
    show Conn c l.length l (goalM c)
    exact (Conn.step .refl hs (by omega)).trans (to_goal_low hc (steps_ok hc hl hs) (by omega))
theorem Conn.weak {b' : Nat} (k : Conn c b l m) (h : b' ≤ b) : Conn c b' l m := by
  induction k with
  | refl => exact .refl
  | step _ hs hb ih => exact .step ih hs (by omega)
theorem can_conn (hc : okC c = true) (hl : okD c l = true) (hm : okD c m = true) : Conn c (canM c l m) l m := by
  unfold canM
  split
  · rename_i h
    subst h
    exact .refl
  · have h1 := (to_goal hc hl).weak (Nat.min_le_left (boundM c l) (boundM c m))
    have h2 := (to_goal hc hm).weak (Nat.min_le_right (boundM c l) (boundM c m))
    have := bound_le c m
    exact h1.trans (h2.symm hc hm (by omega))
theorem stuck (he : (fitL c l).isEmpty = true) (hne : l ≠ m) (hb : l.length ≤ b) : ¬ Conn c b l m := fun k => by
  rcases k.first with e | ⟨s, hs, hl⟩
  · exact hne e
  · unfold steps at hs
    rw [List.isEmpty_iff.mp he, List.map_nil, List.append_nil] at hs
    obtain ⟨p, hp, rfl⟩ := List.mem_map.mp hs
    have : (without l p).length < l.length := by
      unfold without
      exact List.length_filter_lt_length_iff_exists.mpr ⟨p, hp, by simp⟩
    simp only at hl
    omega
theorem can_most (hc : okC c = true) (hl : okD c l = true) (hm : okD c m = true) (h1 : canM c l m + 1 ≤ l.length) : ¬ Conn c (canM c l m + 1) l m := fun k => by
  have h2 := k.least h1
  unfold canM at k h1 h2
  split at k
  · rename_i h
    rw [if_pos h] at h1
    omega
  · rename_i hne
    rw [if_neg hne] at h1 h2
    by_cases hle : boundM c l ≤ boundM c m
    · rw [Nat.min_eq_left hle] at k h1
      unfold boundM at k h1
      split at k
      · rename_i he
        exact stuck he hne (by omega) k
      · rename_i he
        rw [if_neg he] at h1
        omega
    · rw [Nat.min_eq_right (by omega)] at k h1 h2
      have k' := k.symm hc hl h1
      unfold boundM at k' h2
      split at k'
      · rename_i he
        exact stuck he (fun z => hne z.symm) (by omega) k'
      · rename_i he
        rw [if_neg he] at h2
        omega
end
end Bt

set_option Elab.async false
set_option linter.all false
set_option maxRecDepth 100000
set_option maxHeartbeats 2000000
/-! Dq4: what breadth first finds, as dicts. -/
namespace Dq
open PySem PySem.Spec PyProof.Rows L2 Dz Bt

/-- the law's dict: how far -/
def kvL (F : List Node) : Kv := F.map fun e => (e.1, PyData.int (e.2.1 : Int))
/-- the program's: from where, by which move -/
def fromD : Option (List Pr × Mv) → PyData
  | none => .none
  | some (h, m) => .tuple [eD h, eM m]
def kvP (F : List Node) : Kv := F.map fun e => (e.1, fromD e.2.2)
theorem dget_map (g : Nat × Option (List Pr × Mv) → PyData) (F : List Node) (l : List Pr) : dget (F.map fun e => (e.1, g e.2)) l = (look F l).map g := by
  induction F with
  | nil => rfl
  | cons e F ih =>
    rw [List.map_cons]
    by_cases h : e.1 = l
    · rw [dget_pos (p := (e.1, g e.2)) h]
      have : look (e :: F) l = some e.2 := by simp [look, List.find?_cons, h]
      rw [this]
      rfl
    · rw [dget_neg (p := (e.1, g e.2)) h, ih]
      have : look (e :: F) l = look F l := by simp [look, List.find?_cons, h]
      rw [this]
theorem dget_L (F : List Node) (l : List Pr) : dget (kvL F) l = (look F l).map fun x => PyData.int (x.1 : Int) := dget_map (fun x => PyData.int (x.1 : Int)) F l
theorem dget_P (F : List Node) (l : List Pr) : dget (kvP F) l = (look F l).map fun x => fromD x.2 := dget_map (fun x => fromD x.2) F l
theorem has_L (F : List Node) (l : List Pr) : (dget (kvL F) l).isSome = has F l := by rw [dget_L, Option.isSome_map, has_look]
theorem has_P (F : List Node) (l : List Pr) : (dget (kvP F) l).isSome = has F l := by rw [dget_P, Option.isSome_map, has_look]
theorem none_L {F : List Node} {l : List Pr} (h : has F l = false) : dget (kvL F) l = none := by
  have := has_L F l
  rw [h] at this
  cases q : dget (kvL F) l with
  | none => rfl
  | some d => rw [q] at this; cases this
theorem none_P {F : List Node} {l : List Pr} (h : has F l = false) : dget (kvP F) l = none := by
  have := has_P F l
  rw [h] at this
  cases q : dget (kvP F) l with
  | none => rfl
  | some d => rw [q] at this; cases this
theorem sh_Ds (ls : List (List Pr)) : SeqAt.shaped (.list (ls.map eD)) = true := sh_list fun d hd => by
  obtain ⟨l, _, rfl⟩ := List.mem_map.mp hd
  exact lay_eD l
theorem isEmpty_map {α β : Type} (f : α → β) (l : List α) : (l.map f).isEmpty = l.isEmpty := by cases l <;> rfl
def farL (c : Pr) (b : Nat) (l : List Pr) : List Node := if l.length < b then [] else far c b l
theorem visit_le {b n : Nat} {here : List Pr} {st : Bt.St} {s : Mv × List Pr} (h : st.2.length ≤ st.1.length) : (visit b n here st s).2.length ≤ (visit b n here st s).1.length := by
  unfold visit
  split
  · simp
    exact h
  · exact h
/-- a, b = e1, e2, both drawn -/
theorem q_parR {Γ : List Ent} {te te' : TE} {P P' : PyData → Prop} {b : Bs} {G : List (V × PyData)} {D : Ends} {i j : Nat} {tu : TS} (h : EvR Γ te P) (h' : EvR Γ te' P') (k : ∀ d d', P d → P' d' → Cont b G ((Γ.set i (.dat d)).set j (.dat d')) (tu D)) (hi : i < Γ.length := by simp) (hj : j < Γ.length := by simp) : Cont b G Γ (tSeq (tPar i j (tCons te (tCons te' tNil))) tu D) := fun M σ H S =>
  h b G M σ H S _ fun v d1 H1 S1 e1 p1 r1 => h' b G M σ H1 S1 _ fun v' d2 H2 S2 e2 p2 r2 => ⟨v, v', rfl, k d1 d2 p1 p2 M _ H2 ((S2.putD hi (r1.up (hid_T S.tm e2))).putD (by rw [List.length_set]; exact hj) r2)⟩
theorem has_farL {c : Pr} {b : Nat} {l m : List Pr} (hc : okC c = true) (hl : Bt.okD c l = true) (h : b ≤ l.length) (k : Conn c b l m) : has (farL c b l) m = true := by
  unfold farL
  rw [if_neg (by omega)]
  exact far_of_conn hc hl h k
theorem no_farL {c : Pr} {b : Nat} {l m : List Pr} (hc : okC c = true) (hl : Bt.okD c l = true) (h : b ≤ l.length → ¬ Conn c b l m) : has (farL c b l) m = false := by
  unfold farL
  by_cases hb : l.length < b
  · rw [if_pos hb]
    rfl
  · rw [if_neg hb]
    cases q : has (far c b l) m with
    | false => rfl
    | true => exact absurd (conn_of_far hc hl (by omega) q) (h (by omega))
end Dq

set_option Elab.async false
set_option linter.all false
set_option maxRecDepth 100000
set_option maxHeartbeats 2000000
/-! Breadth first is shortest; ways turned about; how many pairs differ. -/
namespace Bt
open PySem Dz

/-- k steps lead from l to m, with b done at least behind each -/
inductive ConnN (c : Pr) (b : Nat) (l : List Pr) : Nat → List Pr → Prop
  | refl : ConnN c b l 0 l
  | step {k : Nat} {h m : List Pr} {mv : Mv} : ConnN c b l k h → (mv, m) ∈ steps c h → b ≤ m.length → ConnN c b l (k + 1) m
section
variable {c : Pr} {b n k j : Nat} {start l m h : List Pr} {F : List Node} {line : List (List Pr)}
theorem ConnN.conn (a : ConnN c b l k m) : Conn c b l m := by
  induction a with
  | refl => exact .refl
  | step _ hs hb ih => exact .step ih hs hb
theorem ConnN.trans (a : ConnN c b l k h) (e : ConnN c b h j m) : ConnN c b l (k + j) m := by
  induction e with
  | refl => exact a
  | step _ hs hb ih => exact .step ih hs hb
theorem ConnN.weak {b' : Nat} (a : ConnN c b l k m) (hb : b' ≤ b) : ConnN c b' l k m := by
  induction a with
  | refl => exact .refl
  | step _ hs h ih => exact .step ih hs (by omega)
theorem ConnN.symm (hc : okC c = true) (hl : okD c l = true) (hb : b ≤ l.length) (a : ConnN c b l k m) : ConnN c b m k l := by
  induction a with
  | refl => exact .refl
  | @step k h m mv a hs hm ih =>
    obtain ⟨mv', hs'⟩ := back_step hc (a.conn.okk hc hl) hs
    have := (ConnN.step .refl hs' (a.conn.least hb)).trans ih
    rwa [Nat.zero_add, Nat.add_comm] at this
theorem path_connN : ∀ {ms : List Mv} {f f' : List (List Pr)} {l l' : List Pr}, pathM c f l ms = some (f', l') → (∀ z ∈ f' ++ [l'], b ≤ z.length) → ConnN c b l ms.length l'
  | [], f, f', l, l', h, _ => by
    unfold pathM at h
    injection h with h
    injection h with h1 h2
    subst h2
    exact .refl
  | x :: ms, f, f', l, l', h, hb => by
    cases hn : nextM c l x with
    | none => rw [pathM, hn] at h; cases h
    | some y =>
      rw [pathM_one hn] at h
      obtain ⟨g, hg⟩ := path_mem h
      have := (ConnN.step .refl (step_of_next hn) (hb y (by rw [hg]; simp))).trans (path_connN h hb)
      rw [Nat.zero_add, Nat.add_comm] at this
      exact this
/-! ### shortest -/
def MaxD (n : Nat) (F : List Node) : Prop := ∀ e ∈ F, e.2.1 ≤ n
theorem max_visit {here : List Pr} {st : St} {s : Mv × List Pr} (h : MaxD (n + 1) st.1) : MaxD (n + 1) (visit b n here st s).1 := by
  unfold visit
  split
  · intro e he
    rcases List.mem_append.mp he with he | he
    · exact h e he
    · rw [List.mem_singleton.mp he]
      exact Nat.le_refl _
  · exact h
theorem max_visits {here : List Pr} : ∀ (ss : List (Mv × List Pr)) (st : St), MaxD (n + 1) st.1 → MaxD (n + 1) (ss.foldl (visit b n here) st).1
  | [], _, h => h
  | s :: ss, st, h => max_visits ss _ (max_visit h)
theorem max_layer : ∀ (line : List (List Pr)) (st : St), MaxD (n + 1) st.1 → MaxD (n + 1) (line.foldl (visits c b n) st).1
  | [], _, h => h
  | l :: line, st, h => max_layer line _ (max_visits (steps c l) st h)
/-- a step goes at most one further -/
def Near (c : Pr) (b : Nat) (F : List Node) (line : List (List Pr)) : Prop := ∀ l n x, look F l = some (n, x) → l ∉ line → ∀ s ∈ steps c l, b ≤ s.2.length → ∃ k y, look F s.2 = some (k, y) ∧ k ≤ n + 1
theorem near_layer (g : Good c b start F) (hn : Lined n F line) (hx : MaxD n F) (hcl : Closed c b F line) (hnr : Near c b F line) : Near c b (layer c b n F line).1 (layer c b n F line).2 := fun l n' x hl hno s hs hb => by
  obtain ⟨G, L, h1, h2, h3⟩ := layer_count (c := c) (b := b) (n := n) line (F, [])
  have hxl : MaxD (n + 1) (layer c b n F line).1 := max_layer line (F, []) fun e he => Nat.le_succ_of_le (hx e he)
  have hF : has F l = true := by
    have hl' : has (layer c b n F line).1 l = true := by rw [has_look, hl]; rfl
    unfold has at hl' ⊢
    unfold layer at hl' hno
    rw [h1, List.any_append, Bool.or_eq_true] at hl'
    rcases hl' with hl' | hl'
    · exact hl'
    · obtain ⟨e, he, hd⟩ := List.any_eq_true.mp hl'
      refine absurd ?_ hno
      rw [h2, ← h3]
      exact List.mem_append.mpr (.inr (List.mem_map.mpr ⟨e, he, of_decide_eq_true hd⟩))
  rw [has_look] at hF
  obtain ⟨⟨n2, y⟩, hy⟩ := Option.isSome_iff_exists.mp hF
  have e := (grows_layer (c := c) (b := b) (n := n) F line).look hy
  rw [hl] at e
  injection e with e
  injection e with e1 e2
  subst e1 e2
  by_cases hin : l ∈ line
  · have hh := layer_has (b := b) (n := n) line (F, []) l hin s hs hb
    have hh' : has (layer c b n F line).1 s.2 = true := hh
    rw [has_look] at hh'
    obtain ⟨⟨k, z⟩, hz⟩ := Option.isSome_iff_exists.mp hh'
    refine ⟨k, z, hz, ?_⟩
    have hk := hxl _ (look_mem hz)
    obtain ⟨x', hx'⟩ := hn.at_ l hin
    rw [hy] at hx'
    injection hx' with hx'
    injection hx' with hx' _
    have hk' : k ≤ n + 1 := hk
    omega
  · obtain ⟨k, z, hz, hk⟩ := hnr l n' x hy hin s hs hb
    exact ⟨k, z, (grows_layer F line).look hz, hk⟩
theorem near_bfs (hc : okC c = true) : ∀ (k n : Nat) (F : List Node) (line : List (List Pr)), Good c b start F → Lined n F line → room F line ≤ k → MaxD n F → Closed c b F line → Near c b F line → Near c b (bfs c b k n F line) []
  | 0, n, F, line, _, _, hr, _, _, hnr => by
    have : line = [] := by
      cases line with
      | nil => rfl
      | cons x r => unfold room at hr; simp at hr
    subst this
    exact hnr
  | k + 1, n, F, line, g, hn, hr, hx, hcl, hnr => by
    by_cases he : line = []
    · subst he
      rw [bfs_nil]
      exact hnr
    · rw [bfs_cons he]
      obtain ⟨g1, l1, _⟩ := good_layer hc line (F, []) g hn ⟨fun _ h => nomatch h⟩
      have := room_down hc g hn he
      exact near_bfs hc k (n + 1) _ _ g1 l1 (by omega) (max_layer line (F, []) fun e he => Nat.le_succ_of_le (hx e he)) (closed_layer hcl) (near_layer g hn hx hcl hnr)
theorem near_far (hc : okC c = true) (hl : okD c l = true) (hb : b ≤ l.length) : Near c b (far c b l) [] := by
  obtain ⟨g, hn⟩ := good_start hl hb
  have one : ∀ m n x, look [(l, 0, (none : Option (List Pr × Mv)))] m = some (n, x) → m = l := fun m n x h => by
    have := look_mem h
    rw [List.mem_singleton] at this
    injection this
  refine near_bfs hc 506 0 _ _ g hn (room_start l) (fun e he => by rw [List.mem_singleton.mp he]; exact Nat.le_refl _) (fun m hm hno => absurd ?_ hno) fun m n x hm hno => absurd ?_ hno
  · unfold has at hm
    simp at hm
    rw [hm]
    exact List.mem_singleton.mpr rfl
  · rw [one m n x hm]
    exact List.mem_singleton.mpr rfl
/-- no way is shorter than is told -/
theorem far_short (hc : okC c = true) (hl : okD c l = true) (hb : b ≤ l.length) (a : ConnN c b l k m) : ∃ n x, look (far c b l) m = some (n, x) ∧ n ≤ k := by
  induction a with
  | refl => exact ⟨0, none, (good_far hc hl hb).st, Nat.le_refl _⟩
  | @step k h m mv _ hs hm ih =>
    obtain ⟨n, x, h1, h2⟩ := ih
    obtain ⟨n', y, h3, h4⟩ := near_far hc hl hb h n x h1 (fun h => nomatch h) _ hs hm
    exact ⟨n', y, h3, by omega⟩
/-- how far m is from l, if it can be come to -/
def dist (c : Pr) (b : Nat) (l m : List Pr) : Option Nat := if l.length < b then none else (look (far c b l) m).map (·.1)
theorem dist_path (hc : okC c = true) (hl : okD c l = true) (h : dist c b l m = some n) : ConnN c b l n m ∧ b ≤ l.length := by
  unfold dist at h
  split at h
  · cases h
  · rename_i hb
    have hb' : b ≤ l.length := by omega
    obtain ⟨⟨n', x⟩, h1, h2⟩ := Option.map_eq_some_iff.mp h
    obtain rfl : n' = n := h2
    obtain ⟨f, p1, p2, p3⟩ := back_path (good_far hc hl hb') n' h1
    have := path_connN p1 p2
    rw [List.length_reverse, p3] at this
    exact ⟨this, hb'⟩
theorem dist_le (hc : okC c = true) (hl : okD c l = true) (hb : b ≤ l.length) (a : ConnN c b l k m) : ∃ n, dist c b l m = some n ∧ n ≤ k := by
  obtain ⟨n, x, h1, h2⟩ := far_short hc hl hb a
  refine ⟨n, ?_, h2⟩
  unfold dist
  rw [if_neg (by omega), h1]
  rfl
/-- how far is told by paths alone -/
theorem dist_iff (hc : okC c = true) (hl : okD c l = true) : dist c b l m = some n ↔ b ≤ l.length ∧ ConnN c b l n m ∧ ∀ k, ConnN c b l k m → n ≤ k := by
  constructor
  · intro h
    obtain ⟨h1, h2⟩ := dist_path hc hl h
    refine ⟨h2, h1, fun k a => ?_⟩
    obtain ⟨n', e, le⟩ := dist_le hc hl h2 a
    rw [h] at e
    injection e with e
    omega
  · rintro ⟨hb, a, hmin⟩
    obtain ⟨n', e, le⟩ := dist_le hc hl hb a
    obtain ⟨a', _⟩ := dist_path hc hl e
    have := hmin n' a'
    obtain rfl : n' = n := by omega
    exact e
theorem dist_symm (hc : okC c = true) (hl : okD c l = true) (hm : okD c m = true) : dist c b l m = dist c b m l := by
  have go : ∀ {l m : List Pr} {n : Nat}, okD c l = true → okD c m = true → dist c b l m = some n → dist c b m l = some n := fun {l m n} hl hm h => by
    obtain ⟨hb, a, hmin⟩ := (dist_iff hc hl).mp h
    exact (dist_iff hc hm).mpr ⟨a.conn.least hb, a.symm hc hl hb, fun k e => hmin k (e.symm hc hm (a.conn.least hb))⟩
  cases e : dist c b l m with
  | some n => exact (go hl hm e).symm
  | none =>
    cases e' : dist c b m l with
    | none => rfl
    | some n => rw [go hm hl e'] at e; cases e
/-- never fewer moves when more must stay -/
theorem dist_mono {b' n' : Nat} (hc : okC c = true) (hl : okD c l = true) (hb : b ≤ b') (h : dist c b l m = some n) (h' : dist c b' l m = some n') : n ≤ n' := by
  obtain ⟨_, _, hmin⟩ := (dist_iff hc hl).mp h
  obtain ⟨_, a, _⟩ := (dist_iff hc hl).mp h'
  exact hmin n' (a.weak hb)
theorem conn_connN (a : Conn c b l m) : ∃ k, ConnN c b l k m := by
  induction a with
  | refl => exact ⟨0, .refl⟩
  | step _ hs hb ih =>
    obtain ⟨k, ih⟩ := ih
    exact ⟨k + 1, .step ih hs hb⟩
/-- l leads to m with b done at least, just for b up to canM -/
theorem dist_some (hc : okC c = true) (hl : okD c l = true) (hm : okD c m = true) : (dist c b l m).isSome = decide (b ≤ canM c l m) := by
  obtain ⟨t1, t2⟩ := can_le c l m
  by_cases hb : b ≤ canM c l m
  · rw [decide_eq_true hb]
    obtain ⟨k, a⟩ := conn_connN ((can_conn hc hl hm).weak hb)
    obtain ⟨n, e, _⟩ := dist_le hc hl (by omega) a
    rw [e]
    rfl
  · rw [decide_eq_false hb]
    cases e : dist c b l m with
    | none => rfl
    | some n =>
      obtain ⟨a, hbl⟩ := dist_path hc hl e
      exact absurd (a.conn.weak (b' := canM c l m + 1) (by omega)) (can_most hc hl hm (by omega))
end
end Bt

set_option Elab.async false
set_option linter.all false
set_option maxRecDepth 100000
set_option maxHeartbeats 2000000
/-! With none that must stay, as many moves as pairs differ. -/
namespace Bt
open PySem Dz

theorem chain_nodup {l : List Pr} (h : chain l = true) : l.Nodup := (chain_pair h).imp fun {a b} h e => by
  subst e
  unfold lt2 at h
  simp at h
theorem count_but (p : Pr) (f : Pr → Bool) : ∀ {l : List Pr}, l.Nodup → (l.filter fun q => !(decide (q = p) || f q)).length + (if p ∈ l ∧ f p = false then 1 else 0) = (l.filter fun q => !f q).length
  | [], _ => by simp
  | q :: l, hn => by
    rw [List.nodup_cons] at hn
    have ih := count_but p f hn.2
    rw [List.filter_cons, List.filter_cons]
    by_cases e : q = p
    · subst e
      have : ¬ (q ∈ l ∧ f q = false) := fun z => hn.1 z.1
      rw [if_neg this] at ih
      cases hf : f q with
      | true => simp [hf] at ih ⊢; omega
      | false => simp [hf] at ih ⊢; omega
    · have e2 : (p ∈ q :: l ∧ f p = false) ↔ (p ∈ l ∧ f p = false) := by
        simp only [List.mem_cons]
        constructor
        · rintro ⟨h | h, g⟩
          · exact absurd h.symm e
          · exact ⟨h, g⟩
        · exact fun ⟨h, g⟩ => ⟨.inr h, g⟩
      have e3 : (if p ∈ q :: l ∧ f p = false then 1 else 0) = (if p ∈ l ∧ f p = false then 1 else 0 : Nat) := by
        by_cases z : p ∈ l ∧ f p = false
        · rw [if_pos z, if_pos (e2.mpr z)]
        · rw [if_neg z, if_neg fun y => z (e2.mp y)]
      rw [e3]
      generalize (if p ∈ l ∧ f p = false then 1 else 0 : Nat) = z at ih
      cases hf : f q with
      | true => rw [if_neg (by simp), if_neg (by simp)]; exact ih
      | false => rw [if_pos (by simp [e]), if_pos (by simp), List.length_cons, List.length_cons]; omega
/-- one pair more -/
theorem apart_one {l h m : List Pr} {p : Pr} (hl : l.Nodup) (hp : h.Perm (p :: m)) (hno : p ∉ m) : apartM l h + (if p ∈ l then 1 else 0) = apartM l m + (if p ∈ l then 0 else 1) := by
  unfold apartM
  have e1 : (h.filter fun q => !l.contains q).length = ((p :: m).filter fun q => !l.contains q).length := (hp.filter _).length_eq
  have e2 : (l.filter fun q => !h.contains q) = l.filter fun q => !(decide (q = p) || m.contains q) := List.filter_congr fun q _ => by
    have : h.contains q = (decide (q = p) || m.contains q) := by
      rw [Bool.eq_iff_iff]
      simp [hp.mem_iff]
    rw [this]
  have e3 := count_but p (fun q => m.contains q) hl
  have hf : m.contains p = false := by simpa using hno
  rw [e1, e2, List.filter_cons]
  by_cases hpl : p ∈ l
  · rw [if_pos ⟨hpl, hf⟩] at e3
    rw [if_pos hpl, if_pos hpl, if_neg (by simpa using hpl)]
    omega
  · rw [if_neg fun z => hpl z.1] at e3
    rw [if_neg hpl, if_neg hpl, if_pos (by simpa using hpl), List.length_cons]
    omega
theorem apart_comm (l m : List Pr) : apartM l m = apartM m l := by
  unfold apartM
  omega
theorem perm_without {l : List Pr} {p : Pr} (hn : l.Nodup) (hp : p ∈ l) : l.Perm (p :: without l p) := by
  have h2 : without l p = l.erase p := by
    unfold without
    rw [List.Nodup.erase_eq_filter hn]
    exact List.filter_congr fun q _ => by
      by_cases e : q = p
      · simp [e]
      · simp [e]
  rw [h2]
  exact List.perm_cons_erase hp
theorem not_without {l : List Pr} {p : Pr} : p ∉ without l p := fun h => by
  have := (List.mem_filter.mp h).2
  simp at this
section
variable {c : Pr} {l m h : List Pr} {k : Nat}
theorem fit_not {p : Pr} (hp : p ∈ fitL c l) : p ∉ l := fun h => by
  have := List.all_eq_true.mp (List.mem_filter.mp hp).2 p h
  unfold meets at this
  simp at this
theorem apart_step {mv : Mv} (hl : l.Nodup) (hh : h.Nodup) (hs : (mv, m) ∈ steps c h) : apartM l m ≤ apartM l h + 1 := by
  unfold steps at hs
  rcases List.mem_append.mp hs with z | z
  · obtain ⟨p, hp, e⟩ := List.mem_map.mp z
    injection e with _ e
    subst e
    have := apart_one hl (perm_without hh hp) not_without
    split at this <;> omega
  · obtain ⟨p, hp, e⟩ := List.mem_map.mp z
    injection e with _ e
    subst e
    have := apart_one hl (ins_perm p h) (fit_not hp)
    split at this <;> omega
theorem apart_zero (l : List Pr) : apartM l l = 0 := by
  have h : (l.filter fun p => !l.contains p) = [] := by
    rw [List.filter_eq_nil_iff]
    intro p hp
    simp [hp]
  unfold apartM
  rw [h]
  rfl
theorem apart_low (hc : okC c = true) (hl : okD c l = true) (a : ConnN c 0 l k m) : apartM l m ≤ k := by
  induction a with
  | refl => rw [apart_zero]; exact Nat.le_refl _
  | step a hs _ ih =>
    have := apart_step (chain_nodup (okD_chain hl)) (chain_nodup (okD_chain (a.conn.okk hc hl))) hs
    omega
theorem fit_of_sub (hl : okD c l = true) (hm : okD c m = true) (hs : ∀ q ∈ l, q ∈ m) {p : Pr} (hp : p ∈ m) (hno : p ∉ l) : p ∈ fitL c l := by
  have hin := inC_iff.mp (okD_in hm p hp)
  refine List.mem_filter.mpr ⟨?_, List.all_eq_true.mpr fun q hq => ?_⟩
  · unfold pairsC rowC
    refine List.mem_flatMap.mpr ⟨p.1 - 1, List.mem_range.mpr (by omega), List.mem_map.mpr ⟨p.2 - 1, List.mem_range.mpr (by omega), ?_⟩⟩
    exact Prod.ext (by show 1 + (p.1 - 1) = p.1; omega) (by show 1 + (p.2 - 1) = p.2; omega)
  · have hne : q ≠ p := fun e => hno (e ▸ hq)
    have hpw := chain_pair (okD_chain hm)
    have key : lt2 q p = true ∨ lt2 p q = true := by
      have hqm := hs q hq
      clear hs hq hno hl hm hin
      induction m with
      | nil => cases hp
      | cons x r ih =>
        rw [List.pairwise_cons] at hpw
        rcases List.mem_cons.mp hp with e | hp'
        · rcases List.mem_cons.mp hqm with e' | hq'
          · exact absurd (e'.trans e.symm) hne
          · rw [e]
            exact .inr (hpw.1 q hq')
        · rcases List.mem_cons.mp hqm with e' | hq'
          · rw [e']
            exact .inl (hpw.1 p hp')
          · exact ih hp' hpw.2 hq'
    unfold meets
    unfold lt2 at key
    simp only [Bool.and_eq_true, decide_eq_true_eq] at key
    rw [Bool.not_eq_true', decide_eq_false_iff_not, Int.not_le]
    rcases key with ⟨k1, k2⟩ | ⟨k1, k2⟩
    · exact Int.mul_pos_of_neg_of_neg (by omega) (by omega)
    · exact Int.mul_pos (by omega) (by omega)
theorem apart_high (hc : okC c = true) (hm : okD c m = true) : ∀ (n : Nat) {l : List Pr}, okD c l = true → apartM l m = n → ConnN c 0 l n m
  | 0, l, hl, h => by
    have e : l = m := by
      unfold apartM at h
      have h1 : (l.filter fun p => !m.contains p) = [] := List.length_eq_zero_iff.mp (by omega)
      have h2 : (m.filter fun p => !l.contains p) = [] := List.length_eq_zero_iff.mp (by omega)
      rw [List.filter_eq_nil_iff] at h1 h2
      refine sorted_unique ((List.perm_ext_iff_of_nodup (chain_nodup (okD_chain hl)) (chain_nodup (okD_chain hm))).mpr fun p => ⟨fun z => ?_, fun z => ?_⟩) (chain_sorted (okD_chain hl)) (chain_sorted (okD_chain hm))
      · simpa using h1 p z
      · simpa using h2 p z
    subst e
    exact .refl
  | n + 1, l, hl, h => by
    have nl := chain_nodup (okD_chain hl)
    have nm := chain_nodup (okD_chain hm)
    by_cases hs : ∀ q ∈ l, q ∈ m
    · have : ∃ p ∈ m, p ∉ l := by
        refine Classical.byContradiction fun z => ?_
        have hs' : ∀ p ∈ m, p ∈ l := fun p hp => Classical.byContradiction fun y => z ⟨p, hp, y⟩
        have h1 : (l.filter fun p => !m.contains p) = [] := by
          rw [List.filter_eq_nil_iff]
          intro p hp
          simp [hs p hp]
        have h2 : (m.filter fun p => !l.contains p) = [] := by
          rw [List.filter_eq_nil_iff]
          intro p hp
          simp [hs' p hp]
        unfold apartM at h
        rw [h1, h2] at h
        cases h
      obtain ⟨p, hp, hno⟩ := this
      have hf := fit_of_sub hl hm hs hp hno
      have hstep : ((false, p), insP p l) ∈ steps c l := List.mem_append.mpr (.inr (List.mem_map.mpr ⟨p, hf, rfl⟩))
      have ha := apart_one nm (ins_perm p l) hno
      rw [if_pos hp, if_pos hp, apart_comm m, apart_comm m] at ha
      have := (ConnN.step (b := 0) .refl hstep (Nat.zero_le _)).trans (apart_high hc hm n (steps_ok hc hl hstep) (by omega))
      rwa [Nat.zero_add, Nat.add_comm] at this
    · obtain ⟨p, hp, hno⟩ : ∃ p ∈ l, p ∉ m := Classical.byContradiction fun z => hs fun q hq => Classical.byContradiction fun y => z ⟨q, hq, y⟩
      have hstep : ((true, p), without l p) ∈ steps c l := List.mem_append.mpr (.inl (List.mem_map.mpr ⟨p, hp, rfl⟩))
      have ha := apart_one nm (perm_without nl hp) not_without
      rw [if_neg hno, if_neg hno, apart_comm m, apart_comm m] at ha
      have := (ConnN.step (b := 0) .refl hstep (Nat.zero_le _)).trans (apart_high hc hm n (steps_ok hc hl hstep) (by omega))
      rwa [Nat.zero_add, Nat.add_comm] at this
/-- with none that must stay -/
theorem dist_zero (hc : okC c = true) (hl : okD c l = true) (hm : okD c m = true) : dist c 0 l m = some (apartM l m) :=
  (dist_iff hc hl).mpr ⟨Nat.zero_le _, apart_high hc hm _ hl rfl, fun _ a => apart_low hc hl a⟩
end
end Bt

set_option Elab.async false
set_option linter.all false
set_option maxRecDepth 100000
set_option maxHeartbeats 2000000
/-! Dq5: a def that looks at a dict of its caller. -/
namespace Dq
open PySem PySem.Spec PyProof.Rows L2 Dz Bt

section
variable {P : Program} {w : World} {K : PySem.W.Frag} {Γ : List Ent} {te tk ta : TE} {b : Bs} {G : List (V × PyData)} {D : Ends} {i j : Nat} {p : Addr} {kvs : Kv} {xs : List En} {l : List Pr} {d : PyData}
theorem ownX {M : List Addr} {σ : L2.St} {H : Hp} (S : Sat b G M Γ σ H) (hi : Γ[i]? = some (.own p (xD P w p kvs xs))) : σ[i]? = some (some (.ref p)) ∧ H p = some (DO P w p xs) ∧ Cn (hid M H) kvs xs := by
  obtain ⟨h1, h2, h3, h4, h5, u, h6, h7, h8⟩ := S.at_ i _ hi
  subst h7
  exact ⟨sl_some h1, h6, h8⟩
theorem ev_ixX (hi : Γ[i]? = some (.own p (xD P w p kvs xs))) (h : EvD Γ te (eD l)) (hg : dget kvs l = some d) : EvD Γ (tOp (rIxK P w) (tVar i) te) d := fun b G M σ H S Q q => by
  refine ⟨.ref p, (ownX S hi).1, ?_⟩
  refine h b G M σ H S _ fun v d' H1 S1 e1 p1 r1 => ?_
  have p1' : d' = eD l := p1
  subst p1'
  obtain ⟨_, hd, hc⟩ := ownX S1 hi
  obtain ⟨a, rfl, ra⟩ := doing_ref r1
  obtain ⟨z, hz, rz⟩ := hc.get hg
  exact ⟨p, a, l, xs, z, rfl, rfl, ra.up hid_le, hd, hc.keyed.mono hid_le, hz, q z _ H1 S1 e1 rfl rz⟩
/-- return e, with the dict as it was -/
theorem c_retX {R : PyData → Prop} (hi : Γ[i]? = some (.own p (xD P w p kvs xs))) (h : EvR Γ te R) (F : ∀ v d H', Same (hid b.T b.H0) H' → H' p = some (DO P w p xs) → R d → Rp (hid b.M0 H') v d → D.rt v H') : Cont b G Γ (tRet te D) := fun M σ H S => h b G M σ H S _ fun v d H1 S1 e1 p1 r1 => F v d H1 S1.ext (ownX S1 hi).2.1 p1 (r1.up (hid_anti S1.m0))
end
/-- a def of a dict (the program's, of what breadth first found) and a doing in it: the way that leads there -/
def spLed (P : Program) (w : World) : Sp := fun vs H Q _ => ∃ (M : List Addr) (p : Addr) (xs : List En) (F : List Node) (v : V) (c start l : List Pr) (cc : Pr) (b n : Nat) (x : Option (List Pr × Mv)), vs = [.ref p, v] ∧ (∀ a ∈ M, H a ≠ none) ∧ p ∈ M ∧ H p = some (DO P w p xs) ∧ Cn (hid M H) (kvP F) xs ∧ Rp (hid M H) v (eD l) ∧ okC cc = true ∧ Good cc b start F ∧ look F l = some (n, x) ∧ n ≤ 1000 ∧
  ∀ v' H', Same H H' → Rp (hid (M.filter fun a => decide (a ≠ p)) H') v' (.list ((back F n l).reverse.map eM)) → Q v' H'
theorem filter_sub {M : List Addr} {p : Addr} : ∀ a ∈ M.filter (fun a => decide (a ≠ p)), a ∈ M := fun a h => (List.mem_filter.mp h).1
/-- found, given as a dict of our own -/
theorem ev_led {P : Program} {w : World} {Γ : List Ent} {te : TE} {E : XK} {i : Nat} {p : Addr} {F : List Node} {cc : Pr} {b0 n : Nat} {start l : List Pr} {x : Option (List Pr × Mv)} (hi : Γ[i]? = some (.own p (dD P w p (kvP F)))) (h : EvD Γ te (eD l)) (hc : okC cc = true) (g : Good cc b0 start F) (hx : look F l = some (n, x)) (hn : n ≤ 1000) : EvD Γ (tCall (spLed P w) [] E (tCons (tVar i) (tCons te tNil))) (.list ((back F n l).reverse.map eM)) := fun b G M σ H S Q q => by
  refine ⟨.ref p, (ownK S hi).1, ?_⟩
  refine h b G M σ H S _ fun v d H1 S1 e1 p1 r1 => ?_
  have p1' : d = eD l := p1
  subst p1'
  obtain ⟨h1, h2, h3, h4, h5, u, h6, xs, h7, h8⟩ := S1.at_ i _ hi
  subst h7
  refine ⟨M, p, xs, F, v, [], start, l, cc, b0, n, x, rfl, S1.trk, h2, h6, h8, r1, hc, g, hx, hn, fun v' H2 e2 r2 => ?_⟩
  have hp2 : H2 p = some (DO P w p xs) := e2 _ _ h6
  have r3 := rp_hide hp2 r2
  refine q v' _ H2 (S1.same e2) (sameT_trans e1 (sameT_of e2)) rfl (r3.up (hid_anti fun a ha => ?_))
  by_cases e : a = p
  · rw [e]
    exact List.mem_cons_self
  · exact List.mem_cons_of_mem _ (List.mem_filter.mpr ⟨ha, by simpa using e⟩)
theorem okLed {P : Program} {w : World} {K : PySem.W.Frag} {mg : Str → Option Value} {base : Heap} {x qual : Str} {st : Stmt} {f : Addr} {fd : FuncData} {N ps : List Str} {k : Nat} (F : Fun K x qual st f fd) (S : FnScope N ps (defScope st)) (hn : ps.length = 2) (hN : N.length = 4)
    (hb : ∀ (cdv : Value) (A : Around) (outer : List Env) (s : Shared) (H : Hp) (E : XK), Room k (A.deeper (envOfC qual (defScope st) s.heap.objs.size f cdv)) →
      ∃ t, PSs (cxOf CX0 P w K mg base N qual (defScope st) f cdv A outer s H E).nox (defBody st) t ∧ ∀ (b : Bs) (Q : VK) (p : Addr) (xs : List En) (F : List Node) (start l : List Pr) (cc : Pr) (b0 n : Nat) (y : Option (List Pr × Mv)), okC cc = true → Good cc b0 start F → look F l = some (n, y) → n ≤ 1000 →
        (∀ v d H', Same (hid b.T b.H0) H' → H' p = some (DO P w p xs) → d = PyData.list ((back F n l).reverse.map eM) → Rp (hid b.M0 H') v d → Q v H') → Cont b [] [.own p (xD P w p (kvP F) xs), .dat (eD l), .un, .un] (t { nx := fun _ H' => Q .non H', rt := Q })) :
    FnOk P w K mg base CX0 (k + 1) f fd ps (spLed P w) := by
  refine F.ok S (fun vs H Q E h => ?_) (fun cdv A outer s H vs Q E hr h => ?_)
  · obtain ⟨M, p, xs, F, v, _, start, l, cc, b, n, y, rfl, _⟩ := h
    rw [hn]
    rfl
  · obtain ⟨M, p, xs, F, v, _, start, l, cc, b0, n, y, rfl, hM, hp, hd, hc, hv, hcc, g, hx, hnn, q⟩ := h
    obtain ⟨t, h1, h2⟩ := hb cdv A outer s H E hr
    refine ⟨t, h1, h2 ⟨[], 0, fun a => if a = p then none else H a, M.filter fun a => decide (a ≠ p)⟩ Q p xs F start l cc b0 n y hcc g hx hnn (fun v' d H' e hp' ed r => ?_) M _ H ?_⟩
    · subst ed
      refine q v' H' (fun a o z => ?_) r
      by_cases ea : a = p
      · subst ea
        rw [hd] at z
        cases z
        exact hp'
      · refine e a o ?_
        rw [hid_out (by simp)]
        show (if a = p then none else H a) = some o
        rw [if_neg ea]
        exact z
    · refine ⟨fun a o z => ?_, fun a ha => (List.mem_filter.mp ha).1, (fun a ha => nomatch ha), hM, (fun a ha => nomatch ha), ?_, fun i e hi => ?_, (fun p hp => nomatch hp), (show [p].Nodup from List.nodup_cons.mpr ⟨(fun h => nomatch h), List.nodup_nil⟩)⟩
      · have z' := (hid_some z).2
        have z2 : (if a = p then none else H a) = some o := z'
        by_cases ea : a = p
        · rw [if_pos ea] at z2
          cases z2
        · rw [if_neg ea] at z2
          exact z2
      · unfold L2.start
        simp [hN]
      · match i with
        | 0 =>
          cases hi
          refine ⟨?_, hp, (fun z => nomatch z), fun z => ?_, by show (if p = p then none else H p) = none; rw [if_pos rfl], _, hd, rfl, hc⟩
          · unfold sl L2.start
            rfl
          · have := (List.mem_filter.mp z).2
            simp at this
        | 1 =>
          cases hi
          exact ⟨v, by unfold sl L2.start; rfl, hv⟩
        | 2 => cases hi; exact True.intro
        | 3 => cases hi; exact True.intro
        | i + 4 => simp at hi
theorem max_to {c : Pr} {b : Nat} {m : List Pr} : ∀ (k n : Nat) (F : List Node) (line : List (List Pr)), MaxD n F → MaxD (n + k) (bfsTo c b m k n F line)
  | 0, _, _, _, h => h
  | k + 1, n, F, line, h => by
    unfold bfsTo
    split
    · exact fun e he => Nat.le_trans (h e he) (Nat.le_add_right ..)
    · have := max_to (c := c) (b := b) (m := m) k (n + 1) (layer c b n F line).1 (layer c b n F line).2 (max_layer line (F, []) fun e he => Nat.le_succ_of_le (h e he))
      rwa [Nat.add_right_comm, Nat.add_assoc] at this
end Dq

set_option Elab.async false
set_option linter.all false
set_option maxRecDepth 100000
set_option maxHeartbeats 2000000
/-! Bt10: doings in order as tuples; all doings of a coat, by the program's road and by the law's. -/
namespace Bt
open PySem Dz

def ltL : List Pr → List Pr → Bool
  | [], [] => false
  | [], _ :: _ => true
  | _ :: _, [] => false
  | p :: l, q :: m => if p = q then ltL l m else !leP q p
def leL (l m : List Pr) : Bool := !ltL m l
theorem alike_two (p q : Pr) : PySem.W.alike (eP p) (eP q) = true := by simp [eP, PySem.W.alike, PySem.W.alikeAll]
theorem lt_eP (p q : Pr) : PySem.W.dataLt (eP p) (eP q) = !leP q p := by
  have e : PySem.W.dataLt (eP p) (eP q) = decide ((p.1 : Int) < q.1 ∨ ((p.1 : Int) = q.1 ∧ (p.2 : Int) < q.2)) := PySem.W.dataLt_ii _ _ _ _
  rw [e]
  unfold leP
  rw [Bool.eq_iff_iff]
  simp only [Bool.not_eq_true', Bool.or_eq_false_iff, Bool.and_eq_false_iff, beq_eq_false_iff_ne, decide_eq_true_eq, decide_eq_false_iff_not]
  omega
theorem row_eP : ∀ l m : List Pr, PySem.W.rowLt (l.map eP) (m.map eP) = ltL l m
  | [], [] => by
    have e : PySem.W.rowLt [] [] = false := PyProof.Rows.lex_irrefl _
    simp [e, ltL]
  | [], q :: m => by
    have e : PySem.W.rowLt [] (eP q :: m.map eP) = true := by
      unfold PySem.W.rowLt
      rw [PySem.W.toks_all_cons]
      simp only [PySem.W.keyToksAll]
      rw [PyProof.Rows.lex_diff (O := PyProof.Rows.itemOrd) (by simp)]
      rfl
    simpa [ltL] using e
  | p :: l, [] => by
    have e : PySem.W.rowLt (eP p :: l.map eP) [] = false := by
      unfold PySem.W.rowLt
      rw [PySem.W.toks_all_cons]
      simp only [PySem.W.keyToksAll]
      rw [PyProof.Rows.lex_diff (O := PyProof.Rows.itemOrd) (by simp)]
      rfl
    simpa [ltL] using e
  | p :: l, q :: m => by
    have e : PySem.W.rowLt (eP p :: l.map eP) (eP q :: m.map eP) = if p = q then PySem.W.rowLt (l.map eP) (m.map eP) else !leP q p := by
      unfold PySem.W.rowLt
      rw [PySem.W.dataLt_cons (alike_two p q), lt_eP, eqv_eP]
      by_cases h : p = q
      · rw [if_pos h, if_pos (by simp [h])]
      · rw [if_neg h, if_neg (by simp [h])]
    rw [List.map_cons, List.map_cons, e, ltL, row_eP l m]
theorem le_eD (l m : List Pr) : PySem.W.dataLe false id (eD l) (eD m) = leL l m := by
  show (!PySem.W.dataLt (eD m) (eD l)) = _
  unfold eD leL
  rw [PySem.W.dataLt_tuple]
  show (!PySem.W.rowLt (m.map eP) (l.map eP)) = _
  rw [row_eP]
theorem ltL_trans : ∀ {a b c : List Pr}, ltL a b = true → ltL b c = true → ltL a c = true
  | [], [], _, h, _ => by simp [ltL] at h
  | [], _ :: _, [], _, h => by simp [ltL] at h
  | [], _ :: _, _ :: _, _, _ => rfl
  | _ :: _, [], _, h, _ => by simp [ltL] at h
  | _ :: _, _ :: _, [], _, h => by simp [ltL] at h
  | p :: a, q :: b, r :: c, h, h' => by
    unfold ltL at *
    by_cases e1 : p = q
    · subst e1
      rw [if_pos rfl] at h
      by_cases e2 : p = r
      · subst e2
        rw [if_pos rfl] at h' ⊢
        exact ltL_trans h h'
      · rw [if_neg e2] at h' ⊢
        exact h'
    · rw [if_neg e1] at h
      by_cases e2 : q = r
      · subst e2
        rw [if_neg e1]
        exact h
      · rw [if_neg e2] at h'
        have hpq := leP_total p q
        have hqr := leP_total q r
        have n1 : leP q p = false := by simpa using h
        have n2 : leP r q = false := by simpa using h'
        rw [n1, Bool.or_false] at hpq
        rw [n2, Bool.or_false] at hqr
        have e3 : p ≠ r := fun e => by
          subst e
          rw [n2] at hpq
          cases hpq
        rw [if_neg e3]
        cases z : leP r p with
        | false => rfl
        | true => rw [leP_trans hqr z] at n1; cases n1
theorem ltL_irrefl : ∀ a : List Pr, ltL a a = false
  | [] => rfl
  | p :: a => by rw [ltL, if_pos rfl, ltL_irrefl a]
theorem ltL_tri : ∀ a b : List Pr, a = b ∨ ltL a b = true ∨ ltL b a = true
  | [], [] => .inl rfl
  | [], _ :: _ => .inr (.inl rfl)
  | _ :: _, [] => .inr (.inr rfl)
  | p :: a, q :: b => by
    by_cases e : p = q
    · subst e
      rcases ltL_tri a b with h | h | h
      · exact .inl (by rw [h])
      · exact .inr (.inl (by rw [ltL, if_pos rfl, h]))
      · exact .inr (.inr (by rw [ltL, if_pos rfl, h]))
    · have t := leP_total p q
      cases z : leP q p with
      | false => exact .inr (.inl (by rw [ltL, if_neg e, z]; rfl))
      | true =>
        refine .inr (.inr ?_)
        rw [ltL, if_neg fun x => e x.symm]
        cases y : leP p q with
        | false => rfl
        | true => exact absurd (leP_anti y z) e
theorem leL_trans {a b c : List Pr} (h : leL a b = true) (h' : leL b c = true) : leL a c = true := by
  unfold leL at *
  have h1 : ltL b a = false := by simpa using h
  have h2 : ltL c b = false := by simpa using h'
  cases z : ltL c a with
  | false => rfl
  | true =>
    rcases ltL_tri b c with e | e | e
    · subst e; rw [z] at h1; cases h1
    · rw [ltL_trans e z] at h1; cases h1
    · rw [e] at h2; cases h2
theorem leL_total (a b : List Pr) : (leL a b || leL b a) = true := by
  unfold leL
  cases z : ltL b a with
  | false => rfl
  | true =>
    cases y : ltL a b with
    | false => rfl
    | true => have := ltL_trans y z; rw [ltL_irrefl] at this; cases this
theorem leL_anti {a b : List Pr} (h : leL a b = true) (h' : leL b a = true) : a = b := by
  unfold leL at *
  rcases ltL_tri a b with e | e | e
  · exact e
  · rw [e] at h'; cases h'
  · rw [e] at h; cases h
def sortL (l : List (List Pr)) : List (List Pr) := l.mergeSort leL
theorem sortD_eD (l : List (List Pr)) : sortD (l.map eD) = (sortL l).map eD := by
  unfold sortD sortL
  exact (List.map_mergeSort fun a _ b _ => (le_eD a b).symm).symm
theorem uniq_of {α : Type} {le : α → α → Bool} (anti : ∀ {a b}, le a b = true → le b a = true → a = b) : ∀ {l m : List α}, l.Perm m → l.Pairwise (fun a b => le a b = true) → m.Pairwise (fun a b => le a b = true) → l = m
  | [], m, h, _, _ => h.nil_eq
  | a :: l, [], h, _, _ => (by have := h.length_eq; cases this)
  | a :: l, b :: m, h, h1, h2 => by
    obtain ⟨h3, h4⟩ := List.pairwise_cons.mp h1
    obtain ⟨h5, h6⟩ := List.pairwise_cons.mp h2
    have e : a = b := by
      have ma : a ∈ b :: m := h.mem_iff.mp List.mem_cons_self
      have mb : b ∈ a :: l := h.mem_iff.mpr List.mem_cons_self
      rcases List.mem_cons.mp ma with e | ma
      · exact e
      · rcases List.mem_cons.mp mb with e | mb
        · exact e.symm
        · exact anti (h3 b mb) (h5 a ma)
    subst e
    rw [uniq_of anti h.cons_inv h4 h6]
theorem sortL_pair (l : List (List Pr)) : (sortL l).Pairwise (fun a b => leL a b = true) := List.pairwise_mergeSort (le := leL) (fun _ _ _ h h' => leL_trans h h') leL_total l
theorem sortL_perm (l : List (List Pr)) : (sortL l).Perm l := List.mergeSort_perm l leL
theorem sortL_eq {l m : List (List Pr)} (h : l.Perm m) : sortL l = sortL m := uniq_of leL_anti ((sortL_perm l).trans (h.trans (sortL_perm m).symm)) (sortL_pair l) (sortL_pair m)
theorem alike_eD : ∀ l m : List Pr, PySem.W.alike (eD l) (eD m) = true := fun l m => by
  have h : ∀ l m : List Pr, PySem.W.alikeAll (l.map eP) (m.map eP) = true := fun l => by
    induction l with
    | nil => intro m; cases m <;> simp [PySem.W.alikeAll]
    | cons p l ih =>
      intro m
      cases m with
      | nil => simp [PySem.W.alikeAll]
      | cons q m => rw [List.map_cons, List.map_cons, PySem.W.alikeAll, alike_two, ih m]; rfl
  unfold eD
  rw [PySem.W.alike]
  exact h l m
theorem alike_eDs (l : List (List Pr)) : PySem.W.AllAlike (l.map eD) := PySem.W.AllAlike.of fun a b => alike_eD a b
theorem dep_eDs (l : List (List Pr)) : ∀ d ∈ l.map eD, d.depth ≤ 16 := fun d hd => by
  obtain ⟨x, _, rfl⟩ := List.mem_map.mp hd
  have := dep_eD x
  omega
/-- it begins with the empty doing -/
theorem srt_eDs (l : List (List Pr)) : Srt (([] :: l).map eD) := .inr ⟨l.map eD, rfl, fun d hd => by
  obtain ⟨x, _, rfl⟩ := List.mem_map.mp hd
  exact ⟨_, rfl⟩⟩

/-! ### all doings -/
def topH : List Pr → Nat
  | [] => 0
  | p :: r => max p.2 (topH r)
theorem topH_ge : ∀ {l : List Pr} {p : Pr}, p ∈ l → p.2 ≤ topH l
  | q :: l, p, h => by
    rw [topH]
    rcases List.mem_cons.mp h with rfl | h
    · omega
    · have := topH_ge h
      omega
theorem topH_mem : ∀ l : List Pr, topH l = 0 ∨ ∃ p ∈ l, p.2 = topH l
  | [] => .inl rfl
  | q :: l => by
    rw [topH]
    rcases Nat.le_total q.2 (topH l) with h | h
    · rw [Nat.max_eq_right h]
      rcases topH_mem l with e | ⟨p, hp, e⟩
      · exact .inl e
      · exact .inr ⟨p, List.mem_cons_of_mem _ hp, e⟩
    · rw [Nat.max_eq_left h]
      exact .inr ⟨q, List.mem_cons_self, rfl⟩
def ext (c : Pr) (b : Nat) (l : List Pr) : List (List Pr) := (List.range (c.2 - topH l)).map fun j => l ++ [(b, topH l + 1 + j)]
def growM (c : Pr) : Nat → List (List Pr)
  | 0 => [[]]
  | n + 1 => growM c n ++ (growM c n).flatMap (ext c (n + 1))
def allS (c : Pr) : List (List Pr) := sortL (allD c)
section
variable {c : Pr}
theorem grow_perm (hc : okC c = true) : (growM c c.1).Perm (allD c) := by
  have h : (allC.all fun c => (growM c c.1).isPerm (allD c)) = true := by decide +kernel
  exact List.isPerm_iff.mp (List.all_eq_true.mp h c (mem_allC hc))
theorem allD_nodup (hc : okC c = true) : (allD c).Nodup := by
  have h : (allC.all fun c => decide (allD c).Nodup) = true := by decide +kernel
  exact of_decide_eq_true (List.all_eq_true.mp h c (mem_allC hc))
theorem allD_ok (hc : okC c = true) {l : List Pr} (h : l ∈ allD c) : okD c l = true := by
  have h' : (allC.all fun c => (allD c).all (okD c)) = true := by decide +kernel
  exact List.all_eq_true.mp (List.all_eq_true.mp h' c (mem_allC hc)) l h
theorem far_perm (hc : okC c = true) : ((far c 0 []).map (·.1)).Perm (allD c) := by
  have ho : okD c [] = true := rfl
  have g := good_far (b := 0) hc ho (Nat.zero_le _)
  refine (List.perm_ext_iff_of_nodup g.nd (allD_nodup hc)).mpr fun l => ⟨fun h => ?_, fun h => ?_⟩
  · obtain ⟨e, he, rfl⟩ := List.mem_map.mp h
    exact mem_allD (g.ok e he).1
  · have hl := allD_ok hc h
    have d := dist_zero hc ho hl
    unfold dist at d
    rw [if_neg (by simp)] at d
    obtain ⟨x, hx, _⟩ := Option.map_eq_some_iff.mp d
    exact List.mem_map.mpr ⟨_, look_mem hx, rfl⟩
theorem allS_perm (c : Pr) : (allS c).Perm (allD c) := sortL_perm _
theorem allS_nodup (hc : okC c = true) : (allS c).Nodup := (allS_perm c).nodup_iff.mpr (allD_nodup hc)
theorem allS_ok (hc : okC c = true) {l : List Pr} (h : l ∈ allS c) : okD c l = true := allD_ok hc ((allS_perm c).mem_iff.mp h)
theorem mem_allS {l : List Pr} (h : okD c l = true) : l ∈ allS c := (allS_perm c).mem_iff.mpr (mem_allD h)
theorem allS_len (hc : okC c = true) : (allS c).length ≤ 252 := by rw [(allS_perm c).length_eq]; exact allD_len hc
theorem allS_head : ∃ r, allS c = [] :: r := by
  have hm := mem_allS (c := c) (l := []) rfl
  have hp := sortL_pair (allD c)
  have hp' : (allS c).Pairwise (fun a b => leL a b = true) := hp
  cases e : allS c with
  | nil => rw [e] at hm; cases hm
  | cons x r =>
    rw [e] at hm hp'
    rcases List.mem_cons.mp hm with h | h
    · exact ⟨r, by rw [← h]⟩
    · have := (List.pairwise_cons.mp hp').1 [] h
      have e2 : x = [] := by
        cases x with
        | nil => rfl
        | cons p x => simp [leL, ltL] at this
      exact ⟨r, by rw [e2]⟩
theorem grow_head (c : Pr) : ∀ n, ∃ r, growM c n = [] :: r
  | 0 => ⟨[], rfl⟩
  | n + 1 => by
    obtain ⟨r, h⟩ := grow_head c n
    refine ⟨r ++ (growM c n).flatMap (ext c (n + 1)), ?_⟩
    show growM c n ++ _ = _
    rw [h]
    rfl
theorem grow_pre (c : Pr) (n : Nat) : ∀ k, ∃ r, growM c (n + k) = growM c n ++ r
  | 0 => ⟨[], by simp⟩
  | k + 1 => by
    obtain ⟨r, h⟩ := grow_pre c n k
    refine ⟨r ++ (growM c (n + k)).flatMap (ext c (n + k + 1)), ?_⟩
    show growM c (n + k) ++ (growM c (n + k)).flatMap (ext c (n + k + 1)) = _
    rw [← List.append_assoc, ← h]
theorem grow_len (hc : okC c = true) {n : Nat} (hn : n ≤ c.1) : (growM c n).length ≤ 252 := by
  obtain ⟨r, h⟩ := grow_pre c n (c.1 - n)
  have e : n + (c.1 - n) = c.1 := by omega
  rw [e] at h
  have h2 := (grow_perm hc).length_eq
  have h3 := allD_len hc
  rw [h, List.length_append] at h2
  omega
theorem grow_ok (hc : okC c = true) {n : Nat} (hn : n ≤ c.1) {l : List Pr} (hl : l ∈ growM c n) : okD c l = true := by
  obtain ⟨r, h⟩ := grow_pre c n (c.1 - n)
  have e : n + (c.1 - n) = c.1 := by omega
  rw [e] at h
  exact allD_ok hc ((grow_perm hc).mem_iff.mp (by rw [h]; exact List.mem_append_left _ hl))
theorem ext_len (c : Pr) (b : Nat) (l : List Pr) : (ext c b l).length ≤ c.2 := by
  unfold ext
  rw [List.length_map, List.length_range]
  omega
theorem part_len (hc : okC c = true) {n : Nat} (hn : n + 1 ≤ c.1) (j : Nat) : (growM c n ++ ((growM c n).take j).flatMap (ext c (n + 1))).length ≤ 252 := by
  have h := grow_len hc hn
  have e : growM c (n + 1) = growM c n ++ (growM c n).flatMap (ext c (n + 1)) := rfl
  have e2 : (growM c n).flatMap (ext c (n + 1)) = ((growM c n).take j).flatMap (ext c (n + 1)) ++ ((growM c n).drop j).flatMap (ext c (n + 1)) := by
    rw [← List.flatMap_append, List.take_append_drop]
  rw [e, e2, ← List.append_assoc, List.length_append] at h
  omega
theorem topH_le {l : List Pr} (h : okD c l = true) : topH l ≤ c.2 := by
  rcases topH_mem l with e | ⟨p, hp, e⟩
  · omega
  · have := inC_iff.mp (okD_in h p hp)
    omega
theorem far_head (c : Pr) : ∃ r, (far c 0 []).map (·.1) = [] :: r := by
  obtain ⟨G, h⟩ := grows_bfs (c := c) (b := 0) 506 0 [([], 0, none)] [[]]
  unfold far
  rw [h]
  exact ⟨G.map (·.1), rfl⟩
/-- a doing read back -/
def lOf : PyData → List Pr
  | .tuple xs => xs.map fun x => ((pOf x).1.toNat, (pOf x).2.toNat)
  | _ => []
theorem lOf_eD (l : List Pr) : lOf (eD l) = l := by
  show (l.map eP).map (fun x => ((pOf x).1.toNat, (pOf x).2.toNat)) = l
  rw [List.map_map]
  have e : ((fun x => ((pOf x).1.toNat, (pOf x).2.toNat)) ∘ eP) = id := by
    funext p
    show ((((p.1 : Int)).toNat, ((p.2 : Int)).toNat) : Nat × Nat) = p
    rw [Int.toNat_natCast, Int.toNat_natCast]
  rw [e, List.map_id]
theorem filter_eD (f : PyData → Bool) (g : List Pr → Bool) (F : List (List Pr)) (h : ∀ l ∈ F, f (eD l) = g l) : ((F.map eD).filter f).map id = (F.filter g).map eD := by
  rw [List.map_id, List.filter_map]
  congr 1
  exact List.filter_congr h
/-! ### how many of each size -/
def lotsI (s : Int) : Nat → Int
  | 0 => 1
  | k + 1 => lotsI s k * (s - k) / (k + 1)
def chosen (s m : Nat) : Int := if m ≤ s then lotsI s m else 0
theorem lots_small {s m : Nat} (hs : s ≤ 5) (hm : m ≤ 7) : -1 ≤ lotsI s m ∧ lotsI s m ≤ 10 := by
  have h : ((List.range 6).all fun s => (List.range 8).all fun m => decide (-1 ≤ lotsI s m ∧ lotsI s m ≤ 10)) = true := by decide +kernel
  exact of_decide_eq_true (List.all_eq_true.mp (List.all_eq_true.mp h s (List.mem_range.mpr (by omega))) m (List.mem_range.mpr (by omega)))
theorem count_all (hc : okC c = true) {k : Nat} (hk : k < 7) : (((allS c).filter fun l => decide (l.length = k)).length : Int) = chosen c.1 k * chosen c.2 k := by
  have h : (allC.all fun c => (List.range 7).all fun k => decide ((((allD c).filter fun l => decide (l.length = k)).length : Int) = chosen c.1 k * chosen c.2 k)) = true := by decide +kernel
  have := of_decide_eq_true (List.all_eq_true.mp (List.all_eq_true.mp h c (mem_allC hc)) k (List.mem_range.mpr hk))
  rw [← this, ((allS_perm c).filter _).length_eq]
end
end Bt

set_option Elab.async false
set_option linter.all false
set_option maxRecDepth 100000
set_option maxHeartbeats 2000000
/-! Dq6: l.index(x); a new list of our own one's things. -/
namespace Dq
open PySem PySem.Spec PyProof.Rows L2 Dz

theorem mt_indexU {X : Cx} {K : PySem.W.Frag} (hu : X.A.units + 65 < cLine) (hK : X.K = K := by rfl) : MtR X "list.index" (rIndexD K) := hK ▸ mt_indexD hu
section
variable {K : PySem.W.Frag} {Γ : List Ent} {te ta : TE} {ds : List PyData} {d z : PyData} {i j : Nat} {p : Addr}
theorem _root_.Dz.EnD.to {ds ds' : List PyData} (h : Dz.EnD Γ te ds) (e : ds = ds') : Dz.EnD Γ te ds' := e ▸ h
theorem ev_index (hl : EvD Γ te (.list ds)) (hd : EvD Γ ta d) (sl : SeqAt.shaped (.list ds) = true) (sd : SeqAt.shaped d = true) (hz : ds[j]? = some z) (he : PyData.eqv z d = true) (hn : ∀ (m : Nat) (z' : PyData), m < j → ds[m]? = some z' → PyData.eqv z' d = false) :
    EvD Γ (tBM K "list" (rIndexD K) te (tCons ta tNil)) (.int (j : Int)) := fun b G M σ H S Q q => hl b G M σ H S _ fun v d1 H1 S1 e1 p1 r1 => by
  have p1' : d1 = .list ds := p1
  subst p1'
  obtain ⟨a, us, ev, ha, hr⟩ := id r1.list_inv
  subst ev
  refine ⟨.inl ⟨rfl, us, .inl (.inl (hid_le _ _ ha))⟩, ?_⟩
  refine hd b G M σ H1 S1 _ fun v2 d2 H2 S2 e2 p2 r2 => ?_
  have p2' : d2 = d := p2
  subst p2'
  exact ⟨a, v2, d2, ds, j, z, rfl, rfl, ((r1.up (hid_T S.tm e2)).up hid_le).dp, (r2.up hid_le).dp, sl, sd, hz, he, hn, q _ _ H2 S2 (sameT_trans e1 e2) rfl (.int _)⟩
theorem en_listO (hi : Γ[i]? = some (.own p (lD ds))) : Dz.EnD Γ (tCB (rListU K) (tCons (tVar i) tNil)) ds := fun b G M σ H S Q q => by
  obtain ⟨h1, h2, h3, vs, h6, h8⟩ := own_at S hi
  exact ⟨.ref p, h1, p, vs, rfl, .inl (.inl (.inl h6)), new_of (Pl := (· = ds)) S hid_le h8 rfl q⟩
end
end Dq

set_option Elab.async false
set_option linter.all false
set_option maxRecDepth 100000
set_option maxHeartbeats 2000000
/-! Bt11: told from the other end, buttons for holes, ways backward. -/
namespace Bt
open PySem Dz

def bel (c p : Pr) : Pr := (c.1 + 1 - p.1, c.2 + 1 - p.2)
def belD (c : Pr) (l : List Pr) : List Pr := l.reverse.map (bel c)
def exP (p : Pr) : Pr := (p.2, p.1)
def exD (l : List Pr) : List Pr := l.map exP
/-- doings of c told as doings of c' -/
structure Sym (c c' : Pr) (f g : List Pr → List Pr) : Prop where
  ok : ∀ l, okD c l = true → okD c' (f l) = true
  len : ∀ l, (f l).length = l.length
  inv : ∀ l, okD c l = true → g (f l) = l
  st : ∀ l, okD c l = true → ∀ s ∈ steps c l, ∃ mv, (mv, f s.2) ∈ steps c' (f l)
  fit : ∀ l, okD c l = true → (fitL c' (f l)).length = (fitL c l).length
def tryS (c c' : Pr) (f g : List Pr → List Pr) (l : List Pr) : Bool := okD c' (f l) && decide (g (f l) = l) && ((steps c l).all fun s => (steps c' (f l)).any fun t => decide (t.2 = f s.2)) && decide ((fitL c' (f l)).length = (fitL c l).length)
theorem sym_of {c c' : Pr} {f g : List Pr → List Pr} (hlen : ∀ l, (f l).length = l.length) (h : ∀ l, okD c l = true → tryS c c' f g l = true) : Sym c c' f g := by
  have h' : ∀ l, okD c l = true → ((okD c' (f l) = true ∧ g (f l) = l) ∧ (∀ s ∈ steps c l, ∃ t ∈ steps c' (f l), t.2 = f s.2)) ∧ (fitL c' (f l)).length = (fitL c l).length := fun l hl => by
    have := h l hl
    unfold tryS at this
    simp only [Bool.and_eq_true, decide_eq_true_eq, List.all_eq_true, List.any_eq_true] at this
    exact this
  refine ⟨fun l hl => (h' l hl).1.1.1, hlen, fun l hl => (h' l hl).1.1.2, fun l hl s hs => ?_, fun l hl => (h' l hl).2⟩
  obtain ⟨t, ht, e⟩ := (h' l hl).1.2 s hs
  exact ⟨t.1, by rw [← e]; exact ht⟩
section
variable {c c' : Pr} {f g : List Pr → List Pr} {b n k : Nat} {l m h : List Pr}
theorem okC_ex (hc : okC c = true) : okC (exP c) = true := by
  have := okC_iff.mp hc
  exact okC_iff.mpr ⟨this.2.2.1, this.2.2.2, this.1, this.2.1⟩
theorem sym_bel (hc : okC c = true) : Sym c c (belD c) (belD c) := sym_of (fun l => by unfold belD; rw [List.length_map, List.length_reverse]) fun l hl =>
  try_all (P := fun c l => tryS c c (belD c) (belD c) l) (by decide +kernel) hc hl
theorem sym_ex (hc : okC c = true) : Sym c (exP c) exD exD := sym_of (fun l => by unfold exD; rw [List.length_map]) fun l hl =>
  try_all (P := fun c l => tryS c (exP c) exD exD l) (by decide +kernel) hc hl
theorem Sym.connN (S : Sym c c' f g) (hc : okC c = true) (hl : okD c l = true) (a : ConnN c b l n m) : ConnN c' b (f l) n (f m) := by
  induction a with
  | refl => exact .refl
  | @step k h m mv a hs hm ih =>
    obtain ⟨mv', hs'⟩ := S.st h (a.conn.okk hc hl) _ hs
    exact .step ih hs' (by rw [S.len]; exact hm)
theorem Sym.dist1 (S : Sym c c' f g) (S' : Sym c' c g f) (hc : okC c = true) (hc' : okC c' = true) (hl : okD c l = true) (hm : okD c m = true) (h : dist c b l m = some n) : dist c' b (f l) (f m) = some n := by
  obtain ⟨h1, h2, h3⟩ := (dist_iff hc hl).mp h
  refine (dist_iff hc' (S.ok l hl)).mpr ⟨by rw [S.len]; exact h1, S.connN hc hl h2, fun k a => ?_⟩
  have := S'.connN hc' (S.ok l hl) a
  rw [S.inv l hl, S.inv m hm] at this
  exact h3 k this
theorem Sym.dist_eq (S : Sym c c' f g) (S' : Sym c' c g f) (hc : okC c = true) (hc' : okC c' = true) (hl : okD c l = true) (hm : okD c m = true) : dist c' b (f l) (f m) = dist c b l m := by
  cases e : Bt.dist c b l m with
  | some n => exact S.dist1 S' hc hc' hl hm e
  | none =>
    cases e' : Bt.dist c' b (f l) (f m) with
    | none => rfl
    | some n =>
      have := S'.dist1 S hc' hc (S.ok l hl) (S.ok m hm) e'
      rw [S.inv l hl, S.inv m hm, e] at this
      cases this
theorem Sym.bound (S : Sym c c' f g) (hl : okD c l = true) : boundM c' (f l) = boundM c l := by
  have h := S.fit l hl
  have e : (fitL c' (f l)).isEmpty = (fitL c l).isEmpty := by
    rw [Bool.eq_iff_iff, List.isEmpty_iff_length_eq_zero, List.isEmpty_iff_length_eq_zero, h]
  unfold boundM
  rw [e, S.len]
theorem Sym.can (S : Sym c c' f g) (hl : okD c l = true) (hm : okD c m = true) : canM c' (f l) (f m) = canM c l m := by
  unfold canM
  by_cases e : l = m
  · subst e
    rw [if_pos rfl, if_pos rfl, S.len]
  · have e' : f l ≠ f m := fun z => e (by rw [← S.inv l hl, ← S.inv m hm, z])
    rw [if_neg e, if_neg e', S.bound hl, S.bound hm]
theorem bel_ok (hc : okC c = true) (hl : okD c l = true) : okD c (belD c l) = true := (sym_bel hc).ok l hl
theorem ex_ok (hc : okC c = true) (hl : okD c l = true) : okD (exP c) (exD l) = true := (sym_ex hc).ok l hl
theorem fits_bel (hc : okC c = true) (hl : okD c l = true) : (fitsM c (belD c l)).length = (fitsM c l).length := by
  rw [fits_eq hc (bel_ok hc hl), fits_eq hc hl]
  exact (sym_bel hc).fit l hl
theorem up_count (hc : okC c = true) : ((allS (exP c)).filter fun l => (fitL (exP c) l).isEmpty).length = ((allS c).filter fun l => (fitL c l).isEmpty).length := by
  have h : (allC.all fun c => decide (((allD (exP c)).filter fun l => (fitL (exP c) l).isEmpty).length = ((allD c).filter fun l => (fitL c l).isEmpty).length)) = true := by decide +kernel
  have := of_decide_eq_true (List.all_eq_true.mp h c (mem_allC hc))
  rw [((allS_perm (exP c)).filter _).length_eq, ((allS_perm c).filter _).length_eq]
  exact this
theorem how_ex (hc : okC c = true) (hk : k < 7) : (((allS (exP c)).filter fun l => decide (l.length = k)).length : Int) = (((allS c).filter fun l => decide (l.length = k)).length : Int) := by
  rw [count_all (okC_ex hc) hk, count_all hc hk, Int.mul_comm]
  rfl
/-! ### ways backward -/
def flip (mv : Mv) : Mv := (!mv.1, mv.2)
theorem back_flip (hc : okC c = true) (hl : okD c l = true) {mv : Mv} (hs : (mv, m) ∈ steps c l) : (flip mv, l) ∈ steps c m := by
  have h := try_all (P := fun c l => (l.all fun p => (fitL c (without l p)).contains p && decide (insP p (without l p) = l)) && ((fitL c l).all fun p => (insP p l).contains p && decide (without (insP p l) p = l))) (by decide +kernel) hc hl
  rw [Bool.and_eq_true, List.all_eq_true, List.all_eq_true] at h
  unfold steps at hs
  rcases List.mem_append.mp hs with z | z
  · obtain ⟨p, hp, e⟩ := List.mem_map.mp z
    injection e with e1 e
    subst e1 e
    have := h.1 p hp
    rw [Bool.and_eq_true, decide_eq_true_eq] at this
    refine List.mem_append.mpr (.inr (List.mem_map.mpr ⟨p, by simpa using this.1, ?_⟩))
    rw [this.2]
    rfl
  · obtain ⟨p, hp, e⟩ := List.mem_map.mp z
    injection e with e1 e
    subst e1 e
    have := h.2 p hp
    rw [Bool.and_eq_true, decide_eq_true_eq] at this
    refine List.mem_append.mpr (.inl (List.mem_map.mpr ⟨p, by simpa using this.1, ?_⟩))
    rw [this.2]
    rfl
theorem pathM_acc : ∀ (ms : List Mv) (f0 : List (List Pr)) (l : List Pr), pathM c f0 l ms = (pathM c [] l ms).map fun r => (f0 ++ r.1, r.2)
  | [], f0, l => by simp [pathM]
  | x :: ms, f0, l => by
    cases hn : nextM c l x with
    | none => rw [pathM, pathM, hn]; rfl
    | some y =>
      rw [pathM_one hn, pathM_one hn, pathM_acc ms (f0 ++ [l]) y, pathM_acc ms ([] ++ [l]) y, Option.map_map]
      congr 1
      funext r
      show ((f0 ++ [l]) ++ r.1, r.2) = (f0 ++ (([] ++ [l]) ++ r.1), r.2)
      rw [List.nil_append, List.append_assoc]
def backM (ms : List Mv) : List Mv := (ms.map flip).reverse
theorem back_way (hc : okC c = true) : ∀ (ms : List Mv) {l m : List Pr} {f : List (List Pr)}, okD c l = true → pathM c [] l ms = some (f, m) → ∃ f', pathM c [] m (backM ms) = some (f', l) ∧ f' ++ [l] = (f ++ [m]).reverse
  | [], l, m, f, hl, h => by
    unfold pathM at h
    injection h with h
    injection h with h1 h2
    subst h1 h2
    exact ⟨[], rfl, rfl⟩
  | x :: ms, l, m, f, hl, h => by
    cases hn : nextM c l x with
    | none => rw [pathM, hn] at h; cases h
    | some y =>
      have hs := step_of_next hn
      rw [pathM_one hn, pathM_acc] at h
      obtain ⟨r, hr, e⟩ := Option.map_eq_some_iff.mp h
      obtain ⟨f1, m1⟩ := r
      injection e with e1 e2
      subst e1 e2
      obtain ⟨f2, h1, h2⟩ := back_way hc ms (steps_ok hc hl hs) hr
      refine ⟨f2 ++ [y], ?_, ?_⟩
      · have := pathM_snoc h1 (step_next (back_flip hc hl hs))
        unfold backM at *
        rw [List.map_cons, List.reverse_cons]
        exact this
      · rw [h2]
        simp
theorem least_same {f g : List (List Pr)} (hf : f ≠ []) (h : ∀ x, x ∈ f ↔ x ∈ g) : least f = least g := by
  have hg : g ≠ [] := fun e => by
    obtain ⟨x, hx⟩ := List.exists_mem_of_ne_nil f hf
    have := (h x).mp hx
    rw [e] at this
    cases this
  unfold least
  have a := minI_mem (ns := lens f) (by unfold lens; simpa using hf)
  have b := minI_mem (ns := lens g) (by unfold lens; simpa using hg)
  obtain ⟨x, hx, ex⟩ := List.mem_map.mp a
  obtain ⟨y, hy, ey⟩ := List.mem_map.mp b
  have h1 : minI (lens g) ≤ minI (lens f) := by
    rw [← ex]
    exact minI_le (List.mem_map.mpr ⟨x, (h x).mp hx, rfl⟩)
  have h2 : minI (lens f) ≤ minI (lens g) := by
    rw [← ey]
    exact minI_le (List.mem_map.mpr ⟨y, (h y).mpr hy, rfl⟩)
  omega
theorem back_beh (hc : okC c = true) {ms : List Mv} {fs : List (List Pr)} (hl : okD c l = true) (h : pathM c [] l ms = some (fs, m)) : behD c m (.list ((backM ms).map eM)) = eD l ∧ fewD c m (.list ((backM ms).map eM)) = fewD c l (.list (ms.map eM)) := by
  obtain ⟨f', h1, h2⟩ := back_way hc ms hl h
  have p1 : pathO c m (.list ((backM ms).map eM)) = some (f', l) := by
    show pathS c [] m ((backM ms).map eM) = _
    rw [pathS_eM, h1]
  have p2 : pathO c l (.list (ms.map eM)) = some (fs, m) := by
    show pathS c [] l (ms.map eM) = _
    rw [pathS_eM, h]
  rw [behD_some p1, fewD_some p1, fewD_some p2]
  refine ⟨rfl, ?_⟩
  rw [h2, least_same (by simp) (g := fs ++ [m]) fun x => List.mem_reverse]
end
end Bt

set_option Elab.async false
set_option linter.all false
set_option maxRecDepth 100000
set_option maxHeartbeats 2000000
/-! Dq7: calls by names alone, calls of nothing, four targets at once; the same on both sides. -/
namespace Dq
open PySem PySem.Spec PyProof.Rows L2 Dz Bt

/-- a def that is called by names alone, in the parameters' order -/
structure KwI (P : Program) (w : World) (K : PySem.W.Frag) (mg : Str → Option Value) (base : Heap) (x : Str) (k : Nat) (ps : List Str) (sp : Sp) : Prop where
  ex : ∃ (f : Addr) (fd : FuncData), FnOk P w K mg base CX0 k f fd ps sp ∧ PySem.W.keepIn K (.ref f) = true ∧ KBn K fd ps 0 ps (fun _ ws => ws) (fun _ zs => zs) ∧ mg x = some (.ref f)
/-- .. from the last to the first -/
structure KwR (P : Program) (w : World) (K : PySem.W.Frag) (mg : Str → Option Value) (base : Heap) (x : Str) (k : Nat) (ps : List Str) (sp : Sp) : Prop where
  ex : ∃ (f : Addr) (fd : FuncData), FnOk P w K mg base CX0 k f fd ps sp ∧ PySem.W.keepIn K (.ref f) = true ∧ KBn K fd ps 0 ps.reverse (fun _ ws => ws.reverse) (fun _ zs => zs.reverse) ∧ mg x = some (.ref f)
theorem bindsKI {K : PySem.W.Frag} {x qual : Str} {st : Stmt} {f : Addr} {fd : FuncData} {ps : List Str} (F : Fun K x qual st f fd)
    (h : ∀ (kV doc pm : Value) (an : Option Addr) (cdv ct : Value) (ws : List Value), ws.length = ps.length → bindArgs (PySem.W.fnOf x qual (defArgs st) (defBody st) (defScope st) .none kV doc pm an cdv ct) ⟨[], ps.zip ws⟩ = pure (ps.zip ws)) : KBn K fd ps 0 ps (fun _ ws => ws) (fun _ zs => zs) := by
  obtain ⟨oc, od, kV, doc, pm, an, cdv, ct, osl, rfl, lk, hcd⟩ := F.ex
  exact ⟨fun s us ws X l1 l2 => by
    obtain rfl : us = [] := List.length_eq_zero_iff.mp l1
    exact BindsTo.of_eq (h kV doc pm an cdv ct ws l2), fun _ r => r⟩
theorem bindsKR {K : PySem.W.Frag} {x qual : Str} {st : Stmt} {f : Addr} {fd : FuncData} {ps : List Str} (F : Fun K x qual st f fd)
    (h : ∀ (kV doc pm : Value) (an : Option Addr) (cdv ct : Value) (ws : List Value), ws.length = ps.length → bindArgs (PySem.W.fnOf x qual (defArgs st) (defBody st) (defScope st) .none kV doc pm an cdv ct) ⟨[], ps.reverse.zip ws⟩ = pure (ps.zip ws.reverse)) : KBn K fd ps 0 ps.reverse (fun _ ws => ws.reverse) (fun _ zs => zs.reverse) := by
  obtain ⟨oc, od, kV, doc, pm, an, cdv, ct, osl, rfl, lk, hcd⟩ := F.ex
  exact ⟨fun s us ws X l1 l2 => by
    obtain rfl : us = [] := List.length_eq_zero_iff.mp l1
    exact BindsTo.of_eq (h kV doc pm an cdv ct ws (by rw [l2, List.length_reverse])), fun _ r => r.reverse⟩
/-- things, from the last to the first -/
def tSwap (tk : TA) : TA := fun σ H Q => tk σ H fun zs H1 => Q zs.reverse H1
section
variable {X : Cx} {x : Str} {k : Nat} {ps : List Str} {sp : Sp} {kws : List Keyword} {tk : TA} {p pos : Pos}
theorem pe_callKI (C : KwI X.prog X.w X.K X.mg X.base x k ps sp) (hr : Room k X.A) (hg : Gl X x) (hkw : PK X kws tk) (hall : (backToKw pos (keywordEach kws X.env)).all (·.1.isSome) = true := by rfl) (hks : (backToKw pos (keywordEach kws X.env)).filterMap (·.1) = ps := by rfl)
    (hdb : (x == ("__debug__" : Str)) = false := by decide) (hpl : ((backTo pos (starEach [] X.env)).any (·.1) || (backToKw pos (keywordEach kws X.env)).any (·.1.isNone)) = false := by rfl) :
    PE X (.Call (.Name x p) [] kws pos) (tCall sp [] E0 tk) := by
  obtain ⟨f, fd, F, hk, hb, hm⟩ := C.ex
  refine ⟨fun pins s σ H Q I h => ?_⟩
  refine wpAny_Call_Name_kw (ld_glob I hg hm ?_ hdb)
  refine PySem.W.callWith_KW0 (h₀ := X.base) I.ok.mod.kin hk hall (thn (hkw.run pos pins s σ H _ I h) fun ws s2 ⟨zs, H2, I2, rz, q2⟩ => ⟨I2.kIn, ?_⟩) hpl
  rw [hks]
  have q3 : sp zs H2 Q E0 := by
    have q4 : sp (zs ++ []) H2 Q E0 := q2
    rw [List.append_nil] at q4
    exact q4
  exact run_fnN (us := []) (vs := []) F hr hb pass0 I2 .nil rz rfl (F.len _ _ _ _ q3) q3
theorem pe_callKR (C : KwR X.prog X.w X.K X.mg X.base x k ps sp) (hr : Room k X.A) (hg : Gl X x) (hkw : PK X kws tk) (hall : (backToKw pos (keywordEach kws X.env)).all (·.1.isSome) = true := by rfl) (hks : (backToKw pos (keywordEach kws X.env)).filterMap (·.1) = ps.reverse := by rfl)
    (hdb : (x == ("__debug__" : Str)) = false := by decide) (hpl : ((backTo pos (starEach [] X.env)).any (·.1) || (backToKw pos (keywordEach kws X.env)).any (·.1.isNone)) = false := by rfl) :
    PE X (.Call (.Name x p) [] kws pos) (tCall sp [] E0 (tSwap tk)) := by
  obtain ⟨f, fd, F, hk, hb, hm⟩ := C.ex
  refine ⟨fun pins s σ H Q I h => ?_⟩
  refine wpAny_Call_Name_kw (ld_glob I hg hm ?_ hdb)
  refine PySem.W.callWith_KW0 (h₀ := X.base) I.ok.mod.kin hk hall (thn (hkw.run pos pins s σ H _ I h) fun ws s2 ⟨zs, H2, I2, rz, q2⟩ => ⟨I2.kIn, ?_⟩) hpl
  rw [hks]
  have q3 : sp zs.reverse H2 Q E0 := by
    have q4 : sp (zs.reverse ++ []) H2 Q E0 := q2
    rw [List.append_nil] at q4
    exact q4
  have hl := F.len _ _ _ _ q3
  exact run_fnN (us := []) (vs := []) F hr hb pass0 I2 .nil rz rfl (by rw [← List.length_reverse, hl, List.length_reverse]) q3
theorem pe_callC0 (C : Callee X.prog X.w X.K X.mg X.base x k [] sp) (hr : Room k X.A) (hg : Gl X x) (hdb : (x == ("__debug__" : Str)) = false := by decide) : PE X (.Call (.Name x p) [] [] pos) (tCall sp [] E0 tNil) := by
  obtain ⟨f, fd, F, hk, hb, hm⟩ := C.ex
  exact pe_call0 F hr hg hm hk hb .nil pass0 hdb
end
section
variable {K : PySem.W.Frag} {Γ : List Ent} {te ta tb : TE} {tk : TA} {d a b : PyData}
theorem ea_swap2 (h : EaD Γ tk [a, b]) : EaD Γ (tSwap tk) [b, a] := fun b G M σ H S Q q => h b G M σ H S _ fun vs ds H1 S1 e1 p1 r1 => by
  have p1' : ds = _ := p1
  subst p1'
  cases r1 with
  | cons r1 r2 =>
    cases r2 with
    | cons r2 r3 =>
      cases r3
      exact q _ _ H1 S1 e1 rfl (.cons r2 (.cons r1 .nil))
theorem tg_quad {d1 d2 d3 d4 : PyData} {i j k l : Nat} (hi : i < Γ.length) (hj : j < Γ.length) (hk : k < Γ.length) (hl : l < Γ.length) : Tgt (gTup K 4 (gCons (gName i) (gCons (gName j) (gCons (gName k) (gCons (gName l) gNil))))) Γ (.tuple [d1, d2, d3, d4]) ((((Γ.set i (.dat d1)).set j (.dat d2)).set k (.dat d3)).set l (.dat d4)) := fun b G M σ H x Q S r q => by
  obtain ⟨a, xs, rfl, ha, hr⟩ := r.tup_inv
  cases hr with
  | cons r1 hr =>
    cases hr with
    | cons r2 hr =>
      cases hr with
      | cons r3 hr =>
        cases hr with
        | cons r4 hr =>
          cases hr
          rename_i x1 x2 x3 x4
          exact ⟨a, [x1, x2, x3, x4], rfl, .inl (.inl (hid_le _ _ ha)), rfl, x1, [x2, x3, x4], rfl, x2, [x3, x4], rfl, x3, [x4], rfl, x4, [], rfl, rfl, q _ ((((S.putD hi r1).putD (by rw [List.length_set]; exact hj) r2).putD (by rw [List.length_set, List.length_set]; exact hk) r3).putD (by rw [List.length_set, List.length_set, List.length_set]; exact hl) r4)⟩
theorem ev_lit {ar : TA} {l : List Pr} (h : EaD Γ ar (l.map eP)) (hz : l.length ≤ 1000 := by decide) : EvD Γ (tTup ar) (eD l) := ev_tup h (by rw [List.length_map]; omega)
/-- plain enough to be compared, and equal to itself -/
def Nc (d : PyData) : Prop := SeqAt.shaped d = true ∧ PyData.eqv d d = true
theorem eb_same (h1 : EvD Γ ta d) (h2 : EvD Γ tb d) (n : Nc d) : EbD Γ (tTest (tOp (rNeU K) ta tb)) false := EbD.to (eb_test (ev_op h1 h2 (od_ne n.1 n.1))) (by rw [n.2]; rfl)
theorem ev_same (h1 : EvD Γ ta d) (h2 : EvD Γ tb d) (n : Nc d) : EvD Γ (tOp (rEqU K) ta tb) (.bool true) := EvD.to (ev_op h1 h2 (od_eq n.1 n.1)) (by rw [n.2])
end
theorem nc_int (i : Int) : Nc (.int i) := ⟨sh_int, by rw [eqv_int, decide_eq_true rfl]⟩
theorem nc_eD (l : List Pr) : Nc (eD l) := ⟨sh_eD l, by rw [eqv_eD, decide_eq_true rfl]⟩
theorem eqvAll_self {ds : List PyData} (h : ∀ d ∈ ds, PyData.eqv d d = true) : PyData.eqvAll ds ds = true := by
  induction ds with
  | nil => rfl
  | cons d ds ih => rw [PyData.eqvAll, h d List.mem_cons_self, ih fun x hx => h x (List.mem_cons_of_mem _ hx)]; rfl
theorem nc_list {ds : List PyData} (h : ∀ d ∈ ds, (d.canLay0 = true ∧ d.depth ≤ 32) ∧ PyData.eqv d d = true) : Nc (.list ds) := ⟨sh_list fun d hd => (h d hd).1, by rw [PyData.eqv]; exact eqvAll_self fun d hd => (h d hd).2⟩
theorem nc_ints (ns : List Int) : Nc (.list (ns.map .int)) := nc_list fun d hd => by
  obtain ⟨n, _, rfl⟩ := List.mem_map.mp hd
  exact ⟨⟨by simp [PyData.canLay0], by simp [PyData.depth]⟩, by rw [eqv_int, decide_eq_true rfl]⟩
theorem nc_ePs (l : List Pr) : Nc (.list (l.map eP)) := nc_list fun d hd => by
  obtain ⟨p, _, rfl⟩ := List.mem_map.mp hd
  exact ⟨lay_eP p, by rw [eqv_eP, decide_eq_true rfl]⟩
theorem nc_eDs (F : List (List Pr)) : Nc (.list (F.map eD)) := nc_list fun d hd => by
  obtain ⟨l, _, rfl⟩ := List.mem_map.mp hd
  exact ⟨lay_eD l, by rw [eqv_eD, decide_eq_true rfl]⟩
theorem nc_eDs_none (F : List (List Pr)) : Nc (.list (F.map eD ++ [.none])) := nc_list fun d hd => by
  rcases List.mem_append.mp hd with h | h
  · obtain ⟨l, _, rfl⟩ := List.mem_map.mp h
    exact ⟨lay_eD l, by rw [eqv_eD, decide_eq_true rfl]⟩
  · rw [List.mem_singleton.mp h]
    exact ⟨⟨by simp [PyData.canLay0], by simp [PyData.depth]⟩, by simp [PyData.eqv]⟩
theorem eqv_eM_self (m : Mv) : PyData.eqv (eM m) (eM m) = true := by
  unfold eM
  rw [PyData.eqv]
  refine eqvAll_self fun d hd => ?_
  rcases List.mem_cons.mp hd with rfl | hd
  · simp [PyData.eqv]
  · rw [List.mem_singleton.mp hd, eqv_eP, decide_eq_true rfl]
theorem nc_eMs (ms : List Mv) : Nc (.list (ms.map eM)) := nc_list fun d hd => by
  obtain ⟨m, _, rfl⟩ := List.mem_map.mp hd
  exact ⟨lay_eM m, eqv_eM_self m⟩
end Dq

set_option Elab.async false
set_option linter.all false
set_option maxRecDepth 100000
set_option maxHeartbeats 2000000
/-! Bt12: written coats and doings, worked out. -/
namespace Bt
open PySem Dz

theorem allS_is {c : Pr} {F : List (List Pr)} (hp : (allD c).isPerm F = true) (hs : F.Pairwise (fun a b => leL a b = true)) : allS c = F :=
  uniq_of leL_anti ((allS_perm c).trans (List.isPerm_iff.mp hp)) (sortL_pair _) hs
/-! ### three and three -/
def low3 : List Pr := [(1, 2), (2, 3)]
def high3 : List Pr := [(2, 1), (3, 2)]
def plain3 : List Pr := [(1, 1), (2, 2), (3, 3)]
def rows3 : List Mv := [(true, (1, 2)), (false, (1, 1)), (true, (2, 3)), (false, (2, 2)), (false, (3, 3))]
theorem t_fits : fitsM (3, 3) low3 = [] ∧ fitsM (3, 3) [(1, 1)] = [(2, 2), (2, 3), (3, 2), (3, 3)] := by decide +kernel
theorem t_can : canM (3, 3) low3 plain3 = 1 ∧ canM (3, 3) low3 high3 = 1 ∧ canM (3, 3) low3 [] = 0 := by decide +kernel
theorem t_dist : dist (3, 3) 1 low3 plain3 = some 5 ∧ dist (3, 3) 0 low3 high3 = some 4 ∧ dist (3, 3) 2 low3 high3 = none ∧ dist (3, 3) 0 low3 plain3 = some 5 := by decide +kernel
theorem t_path : pathM (3, 3) [] low3 rows3 = some ([low3, [(2, 3)], [(1, 1), (2, 3)], [(1, 1)], [(1, 1), (2, 2)]], plain3) := by decide +kernel
theorem t_least : least ([low3, [(2, 3)], [(1, 1), (2, 3)], [(1, 1)], [(1, 1), (2, 2)]] ++ [plain3]) = 1 := by decide +kernel
theorem t_straight : (straightM (3, 3) low3).2.length = 5 ∧ apartM low3 plain3 = 5 := by decide +kernel
/-! ### two and two -/
def every2 : List (List Pr) := [[], [(1, 1)], [(1, 1), (2, 2)], [(1, 2)], [(2, 1)], [(2, 2)]]
theorem w_all : allS (2, 2) = every2 := allS_is (by decide +kernel) (by decide +kernel)
theorem w_count : (List.range 4).map (fun k => ((every2.filter fun l => decide (l.length = k)).length : Int)) = [1, 4, 1, 0] := by decide +kernel
theorem w_up : every2.filter (fun l => (fitL (2, 2) l).isEmpty) = [[(1, 1), (2, 2)], [(1, 2)], [(2, 1)]] := by decide +kernel
theorem w_at : ∀ l ∈ every2, every2.idxOf l < 6 ∧ every2.getD (every2.idxOf l) [] = l := by decide +kernel
theorem w_idx : every2.map (fun l => every2.idxOf l) = [0, 1, 2, 3, 4, 5] := by decide +kernel
theorem w_can : canM (2, 2) [(1, 2)] [(2, 1)] = 0 ∧ canM (2, 2) [(1, 1)] [(2, 2)] = 1 := by decide +kernel
theorem w_dist : dist (2, 2) 0 [(1, 2)] [(2, 1)] = some 2 ∧ dist (2, 2) 0 [(1, 1)] [(2, 2)] = some 2 ∧ dist (2, 2) 1 [(1, 1)] [(2, 2)] = some 2 := by decide +kernel
/-! ### four and four -/
def low4 : List Pr := [(1, 2), (2, 3), (3, 4)]
def high4 : List Pr := [(2, 1), (3, 2), (4, 3)]
theorem f_can : canM (4, 4) low4 high4 = 2 ∧ apartM low4 high4 = 6 := by decide +kernel
theorem f_dist : dist (4, 4) 0 low4 high4 = some 6 ∧ dist (4, 4) 1 low4 high4 = some 6 ∧ dist (4, 4) 2 low4 high4 = some 10 := by decide +kernel
/-! ### one row -/
def row1 (n : Nat) : List (List Pr) := [] :: (List.range n).map fun j => [(1, j + 1)]
theorem one_all {n : Nat} (h1 : 1 ≤ n) (h5 : n ≤ 5) : allS (1, n) = row1 n := by
  have h : ((List.range 6).all fun n => (allD (1, n)).isPerm (row1 n) && decide ((row1 n).Pairwise (fun a b => leL a b = true))) = true := by decide +kernel
  have := List.all_eq_true.mp h n (List.mem_range.mpr (by omega))
  rw [Bool.and_eq_true, decide_eq_true_eq] at this
  exact allS_is this.1 this.2
theorem one_count {n : Nat} (h1 : 1 ≤ n) (h5 : n ≤ 5) : (((row1 n).filter fun l => decide (l.length = 1)).length : Int) = n := by
  have h : ((List.range 6).all fun n => decide ((((row1 n).filter fun l => decide (l.length = 1)).length : Int) = n)) = true := by decide +kernel
  exact of_decide_eq_true (List.all_eq_true.mp h n (List.mem_range.mpr (by omega)))
theorem one_straight {n : Nat} (h1 : 1 ≤ n) (h5 : n ≤ 5) : (straightM (1, n) [(1, n)]).2 = if n = 1 then [] else [(true, (1, n)), (false, (1, 1))] := by
  have h : ((List.range 6).all fun n => n == 0 || decide ((straightM (1, n) [(1, n)]).2 = if n = 1 then [] else [(true, (1, n)), (false, (1, 1))])) = true := by decide +kernel
  have := List.all_eq_true.mp h n (List.mem_range.mpr (by omega))
  rw [Bool.or_eq_true, beq_iff_eq, decide_eq_true_eq] at this
  exact this.resolve_left (by omega)
theorem one_ok {n : Nat} (h1 : 1 ≤ n) (h5 : n ≤ 5) : okC (1, n) = true ∧ okD (1, n) [(1, n)] = true := by
  have h : ((List.range 6).all fun n => n == 0 || (okC (1, n) && okD (1, n) [(1, n)])) = true := by decide +kernel
  have := List.all_eq_true.mp h n (List.mem_range.mpr (by omega))
  rw [Bool.or_eq_true, beq_iff_eq, Bool.and_eq_true] at this
  exact this.resolve_left (by omega)
end Bt

set_option Elab.async false
set_option linter.all false
set_option maxRecDepth 100000
set_option maxHeartbeats 2000000
namespace Lw
open PySem PySem.Spec PyProof.Rows L2 Dz Bt Dq
/-! ### the text -/
def topS (i : Nat) : Stmt := PySem.Challenge.pw_misbutton_k08_written_cases_and_names.main.body.getD i (.Pass ⟨0, 0, 0, 0⟩)
abbrev s_is_within : Stmt := topS 2
theorem sc_is_within : FnScope ["thing", "low", "high"] ["thing", "low", "high"] (defScope s_is_within) := ⟨rfl, rfl, rfl, by decide +kernel, rfl, by decide +kernel, by decide +kernel⟩
abbrev s_is_coat : Stmt := topS 3
theorem sc_is_coat : FnScope ["thing", "part"] ["thing"] (defScope s_is_coat) := ⟨rfl, rfl, rfl, by decide +kernel, rfl, by decide +kernel, by decide +kernel⟩
abbrev s_is_pair : Stmt := topS 4
theorem sc_is_pair : FnScope ["coat", "thing"] ["coat", "thing"] (defScope s_is_pair) := ⟨rfl, rfl, rfl, by decide +kernel, rfl, by decide +kernel, by decide +kernel⟩
abbrev s_is_doing : Stmt := topS 5
theorem sc_is_doing : FnScope ["coat", "thing", "pair", "one", "two"] ["coat", "thing"] (defScope s_is_doing) := ⟨rfl, rfl, rfl, by decide +kernel, rfl, by decide +kernel, by decide +kernel⟩
abbrev s_with_pair : Stmt := topS 6
theorem sc_with_pair : FnScope ["doing", "pair"] ["doing", "pair"] (defScope s_with_pair) := ⟨rfl, rfl, rfl, by decide +kernel, rfl, by decide +kernel, by decide +kernel⟩
abbrev s_without : Stmt := topS 7
theorem sc_without : FnScope ["doing", "pair", "other"] ["doing", "pair"] (defScope s_without) := ⟨rfl, rfl, rfl, by decide +kernel, rfl, by decide +kernel, by decide +kernel⟩
abbrev s_fits : Stmt := topS 8
theorem sc_fits : FnScope ["coat", "doing", "found", "button", "hole", "pair"] ["coat", "doing"] (defScope s_fits) := ⟨rfl, rfl, rfl, by decide +kernel, rfl, by decide +kernel, by decide +kernel⟩
abbrev s_moved : Stmt := topS 9
theorem sc_moved : FnScope ["coat", "doing", "thing", "word", "pair"] ["coat", "doing", "thing"] (defScope s_moved) := ⟨rfl, rfl, rfl, by decide +kernel, rfl, by decide +kernel, by decide +kernel⟩
abbrev s_along : Stmt := topS 10
theorem sc_along : FnScope ["coat", "doing", "thing", "found", "move", "there"] ["coat", "doing", "thing"] (defScope s_along) := ⟨rfl, rfl, rfl, by decide +kernel, rfl, by decide +kernel, by decide +kernel⟩
abbrev s_behind : Stmt := topS 11
theorem sc_behind : FnScope ["coat", "doing", "thing", "found"] ["coat", "doing", "thing"] (defScope s_behind) := ⟨rfl, rfl, rfl, by decide +kernel, rfl, by decide +kernel, by decide +kernel⟩
abbrev s_least_done : Stmt := topS 12
theorem sc_least_done : FnScope ["coat", "doing", "thing", "found", "there"] ["coat", "doing", "thing"] (defScope s_least_done) := ⟨rfl, rfl, rfl, by decide +kernel, rfl, by decide +kernel, by decide +kernel⟩
abbrev s_all_doings : Stmt := topS 14
theorem sc_all_doings : FnScope ["coat", "found", "button", "doing", "last", "pair", "hole"] ["coat"] (defScope s_all_doings) := ⟨rfl, rfl, rfl, by decide +kernel, rfl, by decide +kernel, by decide +kernel⟩
abbrev s_how_many : Stmt := topS 15
theorem sc_how_many : FnScope ["coat", "size", "doing"] ["coat", "size"] (defScope s_how_many) := ⟨rfl, rfl, rfl, by decide +kernel, rfl, by decide +kernel, by decide +kernel⟩
abbrev s_number_of : Stmt := topS 16
theorem sc_number_of : FnScope ["coat", "doing"] ["coat", "doing"] (defScope s_number_of) := ⟨rfl, rfl, rfl, by decide +kernel, rfl, by decide +kernel, by decide +kernel⟩
abbrev s_doing_of : Stmt := topS 17
theorem sc_doing_of : FnScope ["coat", "number", "some"] ["coat", "number"] (defScope s_doing_of) := ⟨rfl, rfl, rfl, by decide +kernel, rfl, by decide +kernel, by decide +kernel⟩
abbrev s_done_up : Stmt := topS 18
theorem sc_done_up : FnScope ["coat", "doing"] ["coat"] (defScope s_done_up) := ⟨rfl, rfl, rfl, by decide +kernel, rfl, by decide +kernel, by decide +kernel⟩
abbrev s_apart : Stmt := topS 20
theorem sc_apart : FnScope ["one", "other", "pair"] ["one", "other"] (defScope s_apart) := ⟨rfl, rfl, rfl, by decide +kernel, rfl, by decide +kernel, by decide +kernel⟩
abbrev s_straighten : Stmt := topS 21
theorem sc_straighten : FnScope ["coat", "doing", "here", "found", "pair", "more"] ["coat", "doing"] (defScope s_straighten) := ⟨rfl, rfl, rfl, by decide +kernel, rfl, by decide +kernel, by decide +kernel⟩
abbrev s_done_straight : Stmt := topS 22
theorem sc_done_straight : FnScope ["coat", "doing", "found", "pair"] ["coat", "doing"] (defScope s_done_straight) := ⟨rfl, rfl, rfl, by decide +kernel, rfl, by decide +kernel, by decide +kernel⟩
abbrev s_bound : Stmt := topS 24
theorem sc_bound : FnScope ["coat", "doing"] ["coat", "doing"] (defScope s_bound) := ⟨rfl, rfl, rfl, by decide +kernel, rfl, by decide +kernel, by decide +kernel⟩
abbrev s_can_stay : Stmt := topS 25
theorem sc_can_stay : FnScope ["coat", "one", "other"] ["coat", "one", "other"] (defScope s_can_stay) := ⟨rfl, rfl, rfl, by decide +kernel, rfl, by decide +kernel, by decide +kernel⟩
abbrev s_moves : Stmt := topS 26
theorem sc_moves : FnScope ["coat", "doing", "some", "pair"] ["coat", "doing"] (defScope s_moves) := ⟨rfl, rfl, rfl, by decide +kernel, rfl, by decide +kernel, by decide +kernel⟩
abbrev s_way : Stmt := topS 27
theorem sc_way : FnScope ["coat", "one", "other", "least", "found", "line", "later", "doing", "move", "there"] ["coat", "one", "other", "least"] (defScope s_way) := ⟨rfl, rfl, rfl, by decide +kernel, rfl, by decide +kernel, by decide +kernel⟩
abbrev s_led : Stmt := topS 28
theorem sc_led : FnScope ["found", "last", "rows", "move"] ["found", "last"] (defScope s_led) := ⟨rfl, rfl, rfl, by decide +kernel, rfl, by decide +kernel, by decide +kernel⟩
abbrev s_fewest : Stmt := topS 29
theorem sc_fewest : FnScope ["coat", "one", "other", "least", "rows"] ["coat", "one", "other", "least"] (defScope s_fewest) := ⟨rfl, rfl, rfl, by decide +kernel, rfl, by decide +kernel, by decide +kernel⟩
abbrev s_all_fewest : Stmt := topS 30
theorem sc_all_fewest : FnScope ["coat", "one", "other", "least"] ["coat", "one", "other"] (defScope s_all_fewest) := ⟨rfl, rfl, rfl, by decide +kernel, rfl, by decide +kernel, by decide +kernel⟩
abbrev s__law_draw : Stmt := topS 32
theorem sc__law_draw : FnScope ["tape", "many", "prime", "cell", "found"] ["tape", "many"] (defScope s__law_draw) := ⟨rfl, rfl, rfl, by decide +kernel, rfl, by decide +kernel, by decide +kernel⟩
abbrev s__law_three_right : Stmt := topS 33
theorem sc__law_three_right : FnScope ["my_coat", "low", "high", "plain", "rows"] [] (defScope s__law_three_right) := ⟨rfl, rfl, rfl, by decide +kernel, rfl, by decide +kernel, by decide +kernel⟩
abbrev s__law_two_right : Stmt := topS 34
theorem sc__law_two_right : FnScope ["my_coat", "every", "k", "my_doing", "big"] [] (defScope s__law_two_right) := ⟨rfl, rfl, rfl, by decide +kernel, rfl, by decide +kernel, by decide +kernel⟩
abbrev s__law_four_right : Stmt := topS 35
theorem sc__law_four_right : FnScope ["low", "high"] [] (defScope s__law_four_right) := ⟨rfl, rfl, rfl, by decide +kernel, rfl, by decide +kernel, by decide +kernel⟩
abbrev s_law : Stmt := topS 36
theorem sc_law : FnScope ["script", "tape", "long", "sole", "k"] ["script"] (defScope s_law) := ⟨rfl, rfl, rfl, by decide +kernel, rfl, by decide +kernel, by decide +kernel⟩
/-- what the top leaves of the names -/
structure Tops (mg : Str → Option Value) : Prop where
  m_isinstance : mg "isinstance" = none
  m_len : mg "len" = none
  m_all : mg "all" = none
  m_max : mg "max" = none
  m_min : mg "min" = none
  m_sorted : mg "sorted" = none
  m_range : mg "range" = none
  m_zip : mg "zip" = none
  m_int : mg "int" = none
  m_bool : mg "bool" = none
  m_str : mg "str" = none
  m_list : mg "list" = none
  m_tuple : mg "tuple" = none
  c_MOST : ∃ t, mg "MOST" = some (.int 5 t)

/-! ### all_doings -/
abbrev sp_all_doings : Sp := spP (fun c : Pr => [eP c]) (fun c => okC c = true) (fun c d => d = .list ((allS c).map eD))
theorem hole_data (l : List Pr) : [PyData.int 0] ++ (((l.map eP).filter fun _ => true).map fun d => match d with
    | .tuple [_, y] => y
    | _ => d) = ((0 : Int) :: l.map fun p => (p.2 : Int)).map .int := by
  rw [filter_yes, List.map_map, List.singleton_append, List.map_cons, List.map_map]
  rfl
theorem ext_data (c : Pr) (i : Nat) (l : List Pr) : ((((List.range (((c.2 : Int) + 1) - ((topH l : Int) + 1)).toNat).map fun k : Nat => PyData.int ((topH l : Int) + 1 + (k : Int))).filter fun _ => true).map fun d => match d with
    | .int h => .tuple (l.map eP ++ [.tuple [.int (1 + (i : Int)), .int h]])
    | _ => d) = (ext c (i + 1) l).map eD := by
  have e : (((c.2 : Int) + 1) - ((topH l : Int) + 1)).toNat = c.2 - topH l := by omega
  rw [filter_yes, List.map_map, e]
  unfold ext
  rw [List.map_map]
  refine List.map_congr_left fun j _ => ?_
  show PyData.tuple (l.map eP ++ [.tuple [.int (1 + (i : Int)), .int ((topH l : Int) + 1 + (j : Int))]]) = .tuple ((l ++ [(i + 1, topH l + 1 + j)]).map eP)
  rw [List.map_append]
  have e1 : (1 + (i : Int)) = ((i + 1 : Nat) : Int) := by omega
  have e2 : ((topH l : Int) + 1 + (j : Int)) = ((topH l + 1 + j : Nat) : Int) := by omega
  rw [e1, e2]
  rfl
section
variable {P : Program} {w : World} {K : PySem.W.Frag} {mg : Str → Option Value} {base : Heap}
theorem ok_all_doings {f : Addr} {fd : FuncData} (F : Fun K "all_doings" "all_doings" s_all_doings f fd) (T : Tops mg) : FnOk P w K mg base CX0 1 f fd ["coat"] sp_all_doings := by
  refine okP F sc_all_doings rfl (fun _ => rfl) fun cdv A outer s H E c hr hp => ?_
  have hc : okC c = true := hp
  obtain ⟨c1, c2, c3, c4⟩ := okC_iff.mp hc
  have nd := sc_all_doings.nd
  refine ⟨_, (pss_cons (ps_set (i := 1) nd rfl (Or.inl rfl) (pe_lst (pa_cons (pe_tup pa_nil) pa_nil)))
  (pss_cons (ps_for PassesOwn.never rfl (pi_range2 (by rfl) T.m_range (pa_cons pe_int (pa_cons (pe_op (op_addU (K := K)) (pe_ix (ix_U (K := K)) (pv 0) pe_int (fun _ _ => rfl)) pe_int) pa_nil))) (pg_name (i := 2) nd rfl (Or.inr rfl)) (pss_one (ps_for PassesOwn.never rfl (pi_list (pe_callTy (call_listU (K := K)) (by rfl) T.m_list (by decide +kernel) (pa_cons (pv 1) pa_nil))) (pg_name (i := 3) nd rfl (Or.inr rfl)) (pss_cons (ps_set (i := 4) nd rfl (Or.inl rfl) (pe_callB (call_maxU (K := K) rfl) (by rfl) T.m_max (by decide +kernel) (pa_cons (pe_op (op_addU (K := K)) (pe_lst (pa_cons pe_int pa_nil)) (pe_lc (own := [("pair", 5)]) rfl nd (pi_tup (pv 3)) (blkOk_by (N := ["coat", "found", "button", "doing", "last", "pair", "hole"]) (sc := defScope s_all_doings) (by decide +kernel)) (fun _ _ _ _ _ => pg_name (i := 5) nd rfl (Or.inl rfl)) (fun _ _ _ _ _ => pts_nil) (fun _ _ _ _ _ => (pe_ix (ix_U (K := K)) (pv 5) pe_int (fun _ _ => rfl))))) pa_nil)))
  (pss_one (ps_expr (pe_bm PySem.F.plainAttrs_list PySem.F.slot_list_extend PySem.F.type_list_extend mt_extend (pv 1) (pa_cons (pe_lc (own := [("hole", 6)]) rfl nd (pi_range2 (by rfl) T.m_range (pa_cons (pe_op (op_addU (K := K)) (pv 4) pe_int) (pa_cons (pe_op (op_addU (K := K)) (pe_ix (ix_U (K := K)) (pv 0) pe_int (fun _ _ => rfl)) pe_int) pa_nil))) (blkOk_by (N := ["coat", "found", "button", "doing", "last", "pair", "hole"]) (sc := defScope s_all_doings) (by decide +kernel)) (fun _ _ _ _ _ => pg_name (i := 6) nd rfl (Or.inl rfl)) (fun _ _ _ _ _ => pts_nil) (fun _ _ _ _ _ => (pe_op (op_addU (K := K)) (pv 3) (pe_tup (pa_cons (pe_tup (pa_cons (pv 2) (pa_cons (pv 6) pa_nil))) pa_nil))))) pa_nil))))))))
  (pss_one (ps_ret (pe_callB (call_sortE (K := K) (hu64 hr)) (by rfl) T.m_sorted (by decide +kernel) (pa_cons (pv 1) pa_nil)))))), fun b Q hT hF0 => ?_⟩
  have hF : Fin b (fun d => d = .list ((allS c).map eD)) Q := hF0
  refine q_setND (ds := [[]].map eD) (en_lst (ea_1 (ev_tup ea_nil))) fun p => ?_
  refine q_for_rng2 (lo := 1) (hi := (c.1 : Int) + 1) (ea_2 ev_int (ev_op (ev_op (ev_var rfl) ev_int (od_ixT at0)) ev_int od_addI)) (by omega)
    (fun i Γ => ∃ e1 e2 e3 e4 e5, Γ = [.dat (eP c), .own p (lD ((growM c i).map eD)), e1, e2, e3, e4, e5]) ⟨_, _, _, _, _, rfl⟩ (fun i Γ1 hi hI => ?_) fun Γ1 hI => ?_
  · obtain ⟨e1, e2, e3, e4, e5, rfl⟩ := hI
    have hi' : i + 1 ≤ c.1 := by omega
    have hgl := grow_len hc (n := i) (by omega)
    refine ⟨_, tg_name (by simp), ?_⟩
    refine c_for_list (ds := (growM c i).map eD) (EnD.ev (en_listO rfl)) (fun j Γ => ∃ e2 e3 e4 e5, Γ = [.dat (eP c), .own p (lD ((growM c i ++ ((growM c i).take j).flatMap (ext c (i + 1))).map eD)), .dat (.int (1 + (i : Int))), e2, e3, e4, e5]) ⟨e2, e3, e4, e5, by simp⟩ (fun G' j d Γ2 hd hJ => ?_) fun Γ2 hJ => ?_
    · obtain ⟨e2, e3, e4, e5, rfl⟩ := hJ
      obtain ⟨l, hl, rfl⟩ : ∃ l, (growM c i)[j]? = some l ∧ eD l = d := by
        rw [List.getElem?_map] at hd
        exact Option.map_eq_some_iff.mp hd
      have hok := grow_ok hc (n := i) (by omega) (List.mem_of_getElem? hl)
      have hlen := okD_len hc hok
      have htop := topH_le hok
      have hpart := part_len hc hi' j
      have hext := ext_len c (i + 1) l
      refine ⟨_, tg_name (by simp), ?_⟩
      refine q_set (d := .int (topH l : Int)) (ev_cb (ea_1 (EvD.to (EnD.ev (en_addL (ev_lst (ea_1 ev_int)) (EnD.ev (en_lc_tupD (fun _ => true) (fun d => match d with
        | .tuple [_, y] => y
        | _ => d) (ev_var rfl) (by rw [List.length_map]; omega) fun d hd => ?_)) (by rw [filter_yes]; simp; omega))) (congrArg PyData.list (hole_data l)))) (cd_max ?_ ?_)) ?_
      · obtain ⟨q, _, rfl⟩ := List.mem_map.mp hd
        exact ⟨_, tgc_name (by simp), eb_yes, fun _ => ev_op (ev_var rfl) ev_int (od_ixT at1)⟩
      · rcases topH_mem l with e | ⟨q, hq, e⟩
        · rw [e]
          exact List.mem_cons_self
        · exact List.mem_cons_of_mem _ (List.mem_map.mpr ⟨q, hq, by rw [e]⟩)
      · intro y hy
        rcases List.mem_cons.mp hy with rfl | hy
        · omega
        · obtain ⟨q, hq, rfl⟩ := List.mem_map.mp hy
          have := topH_ge hq
          omega
      refine c_extN (es := (ext c (i + 1) l).map eD) rfl (EnD.to (en_lc_rng2D (lo := (topH l : Int) + 1) (hi := (c.2 : Int) + 1) (fun _ => true) (fun d => match d with
        | .int h => .tuple (l.map eP ++ [.tuple [.int (1 + (i : Int)), .int h]])
        | _ => d) (ea_2 (ev_op (ev_var rfl) ev_int od_addI) (ev_op (ev_op (ev_var rfl) ev_int (od_ixT at1)) ev_int od_addI)) (by omega) fun k hk => ⟨_, tgc_name (by simp), eb_yes, fun _ => ev_op (ev_var rfl) (ev_tup (ea_1 (ev_tup (ea_2 (ev_var rfl) (ev_var rfl))))) (od_addT (by simp; omega))⟩) (ext_data c i l)) (by rw [List.length_map, List.length_map]; omega) (c_nx ⟨.dat (eD l), .dat (.int (topH l : Int)), e4, e5, ?_⟩)
      have e : growM c i ++ ((growM c i).take (j + 1)).flatMap (ext c (i + 1)) = (growM c i ++ ((growM c i).take j).flatMap (ext c (i + 1))) ++ ext c (i + 1) l := by
        rw [List.take_add_one, hl, List.flatMap_append, ← List.append_assoc]
        simp
      have e6 : ((growM c i ++ ((growM c i).take j).flatMap (ext c (i + 1))) ++ ext c (i + 1) l).map eD = (growM c i ++ ((growM c i).take j).flatMap (ext c (i + 1))).map eD ++ (ext c (i + 1) l).map eD := List.map_append
      rw [e, e6]
      rfl
    · obtain ⟨e2, e3, e4, e5, rfl⟩ := hJ
      refine c_nx ⟨.dat (.int (1 + (i : Int))), e2, e3, e4, e5, ?_⟩
      rw [List.length_map, List.take_length]
      rfl
  · obtain ⟨e1, e2, e3, e4, e5, rfl⟩ := hI
    have e : ((c.1 : Int) + 1 - 1).toNat = c.1 := by omega
    rw [e]
    obtain ⟨r, hr2⟩ := grow_head c c.1
    refine c_free (i := 1) rfl ?_
    refine c_retF hF (EvD.to (ev_cb (ea_1 (ev_var rfl)) (cd_sortL (alike_eDs _) (by rw [hr2]; exact srt_eDs r) (dep_eDs _))) ?_)
    rw [sortD_eD, sortL_eq (grow_perm hc)]
    rfl
end

/-! ### how_many -/
abbrev sp_how_many : Sp := spP (fun a : Pr × Nat => [eP a.1, .int (a.2 : Int)]) (fun a => okC a.1 = true) (fun a d => d = .int (((allS a.1).filter fun l => decide (l.length = a.2)).length : Int))
def sizeIs (n : Nat) (d : PyData) : Bool := match d with
  | .tuple xs => decide ((xs.length : Int) = (n : Int))
  | _ => false
theorem size_data (F : List (List Pr)) (n : Nat) : ((F.map eD).filter (sizeIs n)).map id = (F.filter fun l => decide (l.length = n)).map eD := filter_eD _ _ F fun l _ => by
  show decide (((l.map eP).length : Int) = (n : Int)) = _
  rw [List.length_map, Bool.eq_iff_iff, decide_eq_true_eq, decide_eq_true_eq]
  omega
section
variable {P : Program} {w : World} {K : PySem.W.Frag} {mg : Str → Option Value} {base : Heap}
theorem ok_how_many {f : Addr} {fd : FuncData} (F : Fun K "how_many" "how_many" s_how_many f fd) (T : Tops mg) (C_all_doings : Callee P w K mg base "all_doings" 1 ["coat"] sp_all_doings) : FnOk P w K mg base CX0 2 f fd ["coat", "size"] sp_how_many := by
  refine okP F sc_how_many rfl (fun _ => rfl) fun cdv A outer s H E a hr hp => ?_
  obtain ⟨c, n⟩ := a
  have hc : okC c = true := hp
  have hz := allS_len hc
  have nd := sc_how_many.nd
  refine ⟨_, (pss_one (ps_ret (pe_callB (call_lenU (K := K)) (by rfl) T.m_len (by decide +kernel) (pa_cons (pe_lc (own := [("doing", 2)]) rfl nd (pi_list (pe_callC C_all_doings (hr.mono (by first | decide | omega)) (by rfl) (pa_cons (pv 0) pa_nil))) (blkOk_by (N := ["coat", "size", "doing"]) (sc := defScope s_how_many) (by decide +kernel)) (fun _ _ _ _ _ => pg_name (i := 2) nd rfl (Or.inl rfl)) (fun _ _ _ _ _ => pts_one (pt_cmpR (op_eqU (K := K) (hu64 hr)) (pe_callB (call_lenU (K := K)) (by rfl) T.m_len (by decide +kernel) (pa_cons (pv 2) pa_nil)) (pv 1) (nomark _))) (fun _ _ _ _ _ => (pv 2))) pa_nil)))), fun b Q hT hF0 => ?_⟩
  have hF : Fin b (fun d => d = .int (((allS c).filter fun l => decide (l.length = n)).length : Int)) Q := hF0
  refine c_retF hF (EvD.to (ev_cb (ea_1 (EnD.ev (EnD.to (en_lc_listD (sizeIs n) id (ev_call c (ea_1 (ev_var rfl)) hc) (by rw [List.length_map]; omega) fun d hd => ?_) (size_data (allS c) n)))) cd_lenL) (by rw [List.length_map]))
  obtain ⟨l, _, rfl⟩ := List.mem_map.mp hd
  exact ⟨_, tgc_name (by simp), eb_test (ev_op (ev_cb (ea_1 (ev_var rfl)) cd_lenT) (ev_var rfl) od_eqI), fun _ => ev_var rfl⟩
end

/-! ### doing_of -/
def numM (c : Pr) (n : Nat) : PyData := match (allS c)[n]? with
  | some l => eD l
  | none => .none
abbrev sp_doing_of : Sp := spP (fun a : Pr × Nat => [eP a.1, .int (a.2 : Int)]) (fun a => okC a.1 = true) (fun a d => d = numM a.1 a.2)
section
variable {P : Program} {w : World} {K : PySem.W.Frag} {mg : Str → Option Value} {base : Heap}
theorem ok_doing_of {f : Addr} {fd : FuncData} (F : Fun K "doing_of" "doing_of" s_doing_of f fd) (T : Tops mg) (C_all_doings : Callee P w K mg base "all_doings" 1 ["coat"] sp_all_doings) : FnOk P w K mg base CX0 2 f fd ["coat", "number"] sp_doing_of := by
  refine okP F sc_doing_of rfl (fun _ => rfl) fun cdv A outer s H E a hr hp => ?_
  obtain ⟨c, n⟩ := a
  have hc : okC c = true := hp
  have nd := sc_doing_of.nd
  refine ⟨_, (pss_cons (ps_set (i := 2) nd rfl (Or.inl rfl) (pe_callC C_all_doings (hr.mono (by first | decide | omega)) (by rfl) (pa_cons (pv 0) pa_nil)))
  (pss_one (ps_ret (pe_ifExp (pt_cmpR op_lt (pv 1) (pe_callB (call_lenU (K := K)) (by rfl) T.m_len (by decide +kernel) (pa_cons (pv 2) pa_nil)) (nomark _)) (pe_ix (ix_U (K := K)) (pv 2) (pv 1) (fun _ _ => rfl)) pe_non)))), fun b Q hT hF0 => ?_⟩
  have hF : Fin b (fun d => d = numM c n) Q := hF0
  refine q_set (d := .list ((allS c).map eD)) (ev_call c (ea_1 (ev_var rfl)) hc) ?_
  by_cases hn : n < (allS c).length
  · refine c_retF hF (EvD.to (ev_if (k := true) (d := eD ((allS c)[n])) (d' := .none) (EbD.to (eb_test (ev_op (ev_var rfl) (ev_cb (ea_1 (ev_var rfl)) cd_lenL) od_B0)) (decide_eq_true (by rw [List.length_map]; omega))) (fun _ => ev_op (ev_var rfl) (ev_var rfl) (od_ixL (at_nat (by rw [List.getElem?_map, List.getElem?_eq_getElem hn]; rfl)))) fun h => nomatch h) ?_)
    unfold numM
    rw [List.getElem?_eq_getElem hn]
    rfl
  · refine c_retF hF (EvD.to (ev_if (k := false) (d := .none) (d' := .none) (EbD.to (eb_test (ev_op (ev_var rfl) (ev_cb (ea_1 (ev_var rfl)) cd_lenL) od_B0)) (decide_eq_false (by rw [List.length_map]; omega))) (fun h => nomatch h) fun _ => ev_non) ?_)
    unfold numM
    rw [List.getElem?_eq_none (by omega)]
    rfl
end

/-! ### is_within -/
abbrev sp_is_within : Sp := spP (fun a : PyData × Int × Int => [a.1, .int a.2.1, .int a.2.2]) (fun _ => True) (fun a d => d = .bool (isWithin a.1 a.2.1 a.2.2))
section
variable {P : Program} {w : World} {K : PySem.W.Frag} {mg : Str → Option Value} {base : Heap}
theorem ok_is_within {f : Addr} {fd : FuncData} (F : Fun K "is_within" "is_within" s_is_within f fd) (T : Tops mg) : FnOk P w K mg base CX0 1 f fd ["thing", "low", "high"] sp_is_within := by
  refine okP F sc_is_within rfl (fun _ => rfl) fun cdv A outer s H E a hr _ => ?_
  obtain ⟨d, lo, hi⟩ := a
  have nd := sc_is_within.nd
  refine ⟨_, (pss_one (ps_ret (pe_and (pe_callB (call_isiU (K := K)) (by rfl) T.m_isinstance (by decide +kernel) (pa_cons (pv 0) (pa_cons (pe_bltn (v := .ty "int") (by rfl) T.m_int (by decide +kernel) rfl) pa_nil))) (pe_and (pe_not (pe_callB (call_isiU (K := K)) (by rfl) T.m_isinstance (by decide +kernel) (pa_cons (pv 0) (pa_cons (pe_bltn (v := .ty "bool") (by rfl) T.m_bool (by decide +kernel) rfl) pa_nil)))) (pe_one (pe_chain op_le op_le (pv 1) (pv 0) (pv 2))))))), fun b Q hT hF => ?_⟩
  refine c_ret (d := .bool (isWithin d lo hi)) ?_ hF (by rfl)
  cases d with
  | int i => exact EvD.to (ev_andV (ev_isInt (ev_var rfl)) fun _ => ev_andV (ev_notV (ev_isBool (ev_var rfl))) fun _ => ev_chain (k := decide (lo ≤ i)) (k' := decide (i ≤ hi)) (ev_var rfl) (ev_var rfl) (fun _ => ev_var rfl) od_B0 fun _ => od_B0) rfl
  | bool i => exact EvD.to (ev_andV (y := false) (ev_isInt (ev_var rfl)) fun _ => EvD.to (ev_andV (y := false) (ev_notV (ev_isBool (ev_var rfl))) fun h => nomatch h) rfl) rfl
  | _ => exact EvD.to (ev_andV (y := false) (ev_isInt (ev_var rfl)) fun h => nomatch h) rfl
end

/-! ### is_pair -/
abbrev sp_is_pair : Sp := spP (fun a : Pr × PyData => [eP a.1, a.2]) (fun _ => True) (fun a d => d = .bool (isPairD a.1 a.2))
theorem isPairD_len {c : Pr} {xs : List PyData} (h : (!decide ((xs.length : Int) = 2)) = true) : isPairD c (.tuple xs) = false := by
  match xs, h with
  | [], _ => rfl
  | [x], _ => rfl
  | [x, y], h => simp at h
  | x :: y :: z :: r, _ => rfl
theorem len_two {xs : List PyData} (h : (!decide ((xs.length : Int) = 2)) = false) : ∃ x y, xs = [x, y] := by
  match xs, h with
  | [], h => simp at h
  | [x], h => simp at h
  | [x, y], _ => exact ⟨x, y, rfl⟩
  | x :: y :: z :: r, h =>
    simp only [List.length_cons, Bool.not_eq_false', decide_eq_true_eq] at h
    omega
section
variable {P : Program} {w : World} {K : PySem.W.Frag} {mg : Str → Option Value} {base : Heap}
theorem ok_is_pair {f : Addr} {fd : FuncData} (F : Fun K "is_pair" "is_pair" s_is_pair f fd) (T : Tops mg) (C_is_within : Callee P w K mg base "is_within" 1 ["thing", "low", "high"] sp_is_within) : FnOk P w K mg base CX0 2 f fd ["coat", "thing"] sp_is_pair := by
  refine okP F sc_is_pair rfl (fun _ => rfl) fun cdv A outer s H E a hr _ => ?_
  obtain ⟨c, d⟩ := a
  have nd := sc_is_pair.nd
  refine ⟨_, (pss_cons (ps_if (PW.pt (pw_or (pt_not (pt_val (pe_callB (call_isiU (K := K)) (by rfl) T.m_isinstance (by decide +kernel) (pa_cons (pv 1) (pa_cons (pe_bltn (v := .ty "tuple") (by rfl) T.m_tuple (by decide +kernel) rfl) pa_nil))))) (pw_or1 (pt_cmpR (op_neU (K := K) (hu64 hr)) (pe_callB (call_lenU (K := K)) (by rfl) T.m_len (by decide +kernel) (pa_cons (pv 1) pa_nil)) pe_int (nomark _))))) (pss_one (ps_ret pe_bl)) pss_nil)
  (pss_one (ps_ret (pe_and (pe_callC C_is_within (hr.mono (by first | decide | omega)) (by rfl) (pa_cons (pe_ix (ix_U (K := K)) (pv 1) pe_int (fun _ _ => rfl)) (pa_cons pe_int (pa_cons (pe_ix (ix_U (K := K)) (pv 0) pe_int (fun _ _ => rfl)) pa_nil)))) (pe_one (pe_callC C_is_within (hr.mono (by first | decide | omega)) (by rfl) (pa_cons (pe_ix (ix_U (K := K)) (pv 1) pe_int (fun _ _ => rfl)) (pa_cons pe_int (pa_cons (pe_ix (ix_U (K := K)) (pv 0) pe_int (fun _ _ => rfl)) pa_nil))))))))), fun b Q hT hF => ?_⟩
  cases d with
  | tuple xs =>
    refine c_when (k := !decide ((xs.length : Int) = 2)) (EbD.to (eb_or (x := false) (EbD.to (eb_not (eb_val (ev_isTup (ev_var rfl)))) rfl) fun _ => eb_test (ev_op (ev_cb (ea_1 (ev_var rfl)) cd_lenT) ev_int od_neI)) (Bool.false_or _)) (fun h => c_retE ev_bl hF (by rw [isPairD_len h])) fun h => ?_
    obtain ⟨x, y, rfl⟩ := len_two h
    exact c_retF hF (EvD.to (ev_andV (ev_call (a := (x, 1, (c.1 : Int))) (ea_cons (ev_op (ev_var rfl) ev_int (od_ixT at0)) (ea_2 ev_int (ev_op (ev_var rfl) ev_int (od_ixT at0)))) trivial) fun _ => ev_call (a := (y, 1, (c.2 : Int))) (ea_cons (ev_op (ev_var rfl) ev_int (od_ixT at1)) (ea_2 ev_int (ev_op (ev_var rfl) ev_int (od_ixT at1)))) trivial) (by rfl))
  | _ => exact c_when (k := true) (EbD.to (eb_or (x := true) (y := true) (EbD.to (eb_not (eb_val (ev_isTup (ev_var rfl)))) rfl) fun h => nomatch h) rfl) (fun _ => c_retE ev_bl hF (by rfl)) fun h => nomatch h
end

/-! ### is_doing -/
abbrev sp_is_doing : Sp := spP (fun a : Pr × PyData => [eP a.1, a.2]) (fun a => ∀ xs, a.2 = .tuple xs → xs.length ≤ 1000) (fun a d => d = .bool (isDoingD a.1 a.2))
section
variable {P : Program} {w : World} {K : PySem.W.Frag} {mg : Str → Option Value} {base : Heap}
theorem ok_is_doing {f : Addr} {fd : FuncData} (F : Fun K "is_doing" "is_doing" s_is_doing f fd) (T : Tops mg) (C_is_pair : Callee P w K mg base "is_pair" 2 ["coat", "thing"] sp_is_pair) : FnOk P w K mg base CX0 3 f fd ["coat", "thing"] sp_is_doing := by
  refine okP F sc_is_doing rfl (fun _ => rfl) fun cdv A outer s H E a hr hp => ?_
  obtain ⟨c, d⟩ := a
  have nd := sc_is_doing.nd
  refine ⟨_, (pss_cons (ps_if (PW.pt (pw_or (pt_not (pt_val (pe_callB (call_isiU (K := K)) (by rfl) T.m_isinstance (by decide +kernel) (pa_cons (pv 1) (pa_cons (pe_bltn (v := .ty "tuple") (by rfl) T.m_tuple (by decide +kernel) rfl) pa_nil))))) (pw_or1 (pt_not (pt_val (pe_callB (call_allU (K := K) rfl) (by rfl) T.m_all (by decide +kernel) (pa_cons (pe_lc (own := [("pair", 2)]) rfl nd (pi_tup (pv 1)) (blkOk_by (N := ["coat", "thing", "pair", "one", "two"]) (sc := defScope s_is_doing) (by decide +kernel)) (fun _ _ _ _ _ => pg_name (i := 2) nd rfl (Or.inl rfl)) (fun _ _ _ _ _ => pts_nil) (fun _ _ _ _ _ => (pe_callC C_is_pair (hr.mono (by first | decide | omega)) (by rfl) (pa_cons (pv 0) (pa_cons (pv 2) pa_nil))))) pa_nil))))))) (pss_one (ps_ret pe_bl)) pss_nil)
  (pss_one (ps_ret (pe_callB (call_allU (K := K) rfl) (by rfl) T.m_all (by decide +kernel) (pa_cons (pe_lc (own := [("one", 3), ("two", 4)]) rfl nd (RZ.pi_zipA (by rfl) T.m_zip (pa_cons (pv 1) (pa_cons (pe_slice (sl_U (K := K)) (pv 1) (po_some pe_int) po_none) pa_nil))) (blkOk_by (N := ["coat", "thing", "pair", "one", "two"]) (sc := defScope s_is_doing) (by decide +kernel)) (fun _ _ _ _ _ => pg_tupU (K := K) (n := 2) rfl (pgs_cons (pg_name (i := 3) nd rfl (Or.inl rfl)) (pgs_cons (pg_name (i := 4) nd rfl (Or.inl rfl)) pgs_nil))) (fun _ _ _ _ _ => pts_nil) (fun _ _ _ _ _ => (pe_and (pe_cmpR op_lt (pe_ix (ix_U (K := K)) (pv 3) pe_int (fun _ _ => rfl)) (pe_ix (ix_U (K := K)) (pv 4) pe_int (fun _ _ => rfl)) (nomark _)) (pe_one (pe_cmpR op_lt (pe_ix (ix_U (K := K)) (pv 3) pe_int (fun _ _ => rfl)) (pe_ix (ix_U (K := K)) (pv 4) pe_int (fun _ _ => rfl)) (nomark _)))))) pa_nil))))), fun b Q hT hF => ?_⟩
  cases d with
  | tuple xs =>
    have hz : xs.length ≤ 1000 := hp xs rfl
    refine c_when (k := !xs.all (isPairD c)) (EbD.to (eb_or (x := false) (y := !xs.all (isPairD c)) (EbD.to (eb_not (eb_val (ev_isTup (ev_var rfl)))) rfl) fun _ => EbD.to (eb_not (eb_val (ev_cb (ea_1 (EvD.to (EnD.ev (en_lc_tupD (fun _ => true) (fun d => .bool (isPairD c d)) (ev_var rfl) (by omega) fun d hd => ⟨_, tgc_name (by simp), eb_yes, fun _ => ev_call (a := (c, d)) (ea_2 (ev_var rfl) (ev_var rfl)) trivial⟩)) (d' := .list ((xs.map (isPairD c)).map .bool)) ?_)) cd_all))) ?_) (Bool.false_or _)) (fun h => c_retE ev_bl hF ?_) fun h => ?_
    · rw [filter_yes, List.map_map]
      rfl
    · rw [List.all_map]
      rfl
    · have h' : xs.all (isPairD c) = false := by simpa using h
      show PyData.bool false = .bool (xs.all (isPairD c) && _)
      rw [h', Bool.false_and]
    · have h' : xs.all (isPairD c) = true := by simpa using h
      obtain ⟨l, rfl⟩ := pairs_inv h'
      refine c_retE (ev_cb (ea_1 (EvD.to (EnD.ev (en_lc_zipD (fun _ => true) (fun d => .bool (stepD d)) (ea_2 (ev_var rfl) (ev_sl (ev_var rfl) (eo_int ev_int) eo_none sd_T)) (by omega) fun d hd => ?_)) (d' := .list (((zipD (l.map eP) ((l.map eP).drop 1)).map stepD).map .bool)) ?_)) cd_all) hF ?_
      · obtain ⟨x, hx, y, hy, rfl⟩ := mem_zipD hd
        rw [cutD_1] at hy
        obtain ⟨p, _, rfl⟩ := List.mem_map.mp hx
        obtain ⟨q, _, rfl⟩ := List.mem_map.mp (List.mem_of_mem_drop hy)
        exact ⟨_, tgc_pair (by simp) (by simp) (by decide), eb_yes, fun _ => EvD.to (ev_andV (ev_op (ev_op (ev_var rfl) ev_int (od_ixT at0)) (ev_op (ev_var rfl) ev_int (od_ixT at0)) od_B0) fun _ => ev_op (ev_op (ev_var rfl) ev_int (od_ixT at1)) (ev_op (ev_var rfl) ev_int (od_ixT at1)) od_B0) rfl⟩
      · rw [filter_yes, cutD_1, List.map_map]
        rfl
      · show PyData.bool _ = .bool (_ && _)
        rw [h', Bool.true_and, List.all_map]
        rfl
  | _ => exact c_when (k := true) (EbD.to (eb_or (x := true) (y := true) (EbD.to (eb_not (eb_val (ev_isTup (ev_var rfl)))) rfl) fun h => nomatch h) rfl) (fun _ => c_retE ev_bl hF (by rfl)) fun h => nomatch h
end

/-! ### with_pair -/
abbrev sp_with_pair : Sp := spP (fun a : List Pr × Pr => [eD a.1, eP a.2]) (fun a => chain a.1 = true ∧ a.1.length ≤ 1000) (fun a d => d = eD (insP a.2 a.1))
section
variable {P : Program} {w : World} {K : PySem.W.Frag} {mg : Str → Option Value} {base : Heap}
theorem ok_with_pair {f : Addr} {fd : FuncData} (F : Fun K "with_pair" "with_pair" s_with_pair f fd) (T : Tops mg) : FnOk P w K mg base CX0 1 f fd ["doing", "pair"] sp_with_pair := by
  refine okP F sc_with_pair rfl (fun _ => rfl) fun cdv A outer s H E a hr hp => ?_
  obtain ⟨l, p⟩ := a
  obtain ⟨hc, hz⟩ := hp
  have hz' : l.length ≤ 1000 := hz
  have nd := sc_with_pair.nd
  refine ⟨_, (pss_one (ps_ret (pe_callTy (call_tupU (K := K)) (by rfl) T.m_tuple (by decide +kernel) (pa_cons (pe_callB (call_sortE (K := K) (hu64 hr)) (by rfl) T.m_sorted (by decide +kernel) (pa_cons (pe_op (op_addU (K := K)) (pv 0) (pe_tup (pa_cons (pv 1) pa_nil))) pa_nil)) pa_nil)))), fun b Q hT hF => ?_⟩
  refine c_retE (ev_cb (ea_1 (ev_cb (ea_1 (EvD.to (ev_op (ev_var rfl) (ev_tup (ea_1 (ev_var rfl))) (od_addT (by simp; omega))) (d' := .tuple ((l ++ [p]).map eP)) (by simp))) (cd_sortT (alike_eP _) (srt_eP _) (dep_of_map _)))) cd_tupL) hF ?_
  show PyData.tuple (sortD _) = _
  rw [sortD_eP, sort_ins p hc]
  rfl
end

/-! ### fits -/
abbrev sp_fits : Sp := spN (fun a : Pr × List Pr => [eP a.1, eD a.2]) (fun a => okC a.1 = true ∧ okD a.1 a.2 = true) (fun a ds => ds = (fitsM a.1 a.2).map eP)
section
variable {P : Program} {w : World} {K : PySem.W.Frag} {mg : Str → Option Value} {base : Heap}
theorem ok_fits {f : Addr} {fd : FuncData} (F : Fun K "fits" "fits" s_fits f fd) (T : Tops mg) (C_is_doing : Callee P w K mg base "is_doing" 3 ["coat", "thing"] sp_is_doing) (C_with_pair : Callee P w K mg base "with_pair" 1 ["doing", "pair"] sp_with_pair) : FnOk P w K mg base CX0 4 f fd ["coat", "doing"] sp_fits := by
  refine okN F sc_fits rfl (fun _ => rfl) fun cdv A outer s H E a hr hp => ?_
  obtain ⟨c, l⟩ := a
  obtain ⟨hc, hl⟩ := hp
  have hc' : okC c = true := hc
  have hl' : okD c l = true := hl
  obtain ⟨c1, c2, c3, c4⟩ := okC_iff.mp hc'
  have hz := okD_len hc' hl'
  have nd := sc_fits.nd
  refine ⟨_, (pss_cons (ps_set (i := 2) nd rfl (Or.inl rfl) (pe_lst pa_nil))
  (pss_cons (ps_for PassesOwn.never rfl (pi_range2 (by rfl) T.m_range (pa_cons pe_int (pa_cons (pe_op (op_addU (K := K)) (pe_ix (ix_U (K := K)) (pv 0) pe_int (fun _ _ => rfl)) pe_int) pa_nil))) (pg_name (i := 3) nd rfl (Or.inl rfl)) (pss_one (ps_for PassesOwn.never rfl (pi_range2 (by rfl) T.m_range (pa_cons pe_int (pa_cons (pe_op (op_addU (K := K)) (pe_ix (ix_U (K := K)) (pv 0) pe_int (fun _ _ => rfl)) pe_int) pa_nil))) (pg_name (i := 4) nd rfl (Or.inl rfl)) (pss_cons (ps_set (i := 5) nd rfl (Or.inl rfl) (pe_tup (pa_cons (pv 3) (pa_cons (pv 4) pa_nil))))
  (pss_one (ps_if (PW.pt (pw_and (pt_cmpR (op_niU (K := K) (hu65 hr)) (pv 5) (pv 1) (by rfl)) (pw_and1 (pt_val (pe_callC C_is_doing (hr.mono (by first | decide | omega)) (by rfl) (pa_cons (pv 0) (pa_cons (pe_callC C_with_pair (hr.mono (by first | decide | omega)) (by rfl) (pa_cons (pv 1) (pa_cons (pv 5) pa_nil))) pa_nil))))))) (pss_one (ps_expr (pe_bm PySem.F.plainAttrs_list PySem.F.slot_list_append PySem.F.type_list_append mt_append (pv 2) (pa_cons (pv 5) pa_nil)))) pss_nil))))))
  (pss_one (ps_ret (pv 2))))), fun b Q hT hF => ?_⟩
  refine c_seq (c_setND (en_lst ea_nil) fun p => ?_)
  refine (q_for_rng2 (lo := 1) (hi := (c.1 : Int) + 1) (ea_2 ev_int (ev_op (ev_op (ev_var rfl) ev_int (od_ixT at0)) ev_int od_addI)) (by omega)
    (fun i Γ => ∃ e1 e2 e3, Γ = [.dat (eP c), .dat (eD l), .own p (lD ((((List.range i).flatMap fun i => rowC c (1 + i)).filter (goes c l)).map eP)), e1, e2, e3]) ⟨_, _, _, rfl⟩ (fun i Γ1 hi hI => ?_) fun Γ1 hI => ?_)
  · obtain ⟨e1, e2, e3, rfl⟩ := hI
    refine ⟨_, tg_name (by simp), ?_⟩
    refine c_for_rng2 (lo := 1) (hi := (c.2 : Int) + 1) (ea_2 ev_int (ev_op (ev_op (ev_var rfl) ev_int (od_ixT at1)) ev_int od_addI)) (by omega)
      (fun j Γ => ∃ e2 e3, Γ = [.dat (eP c), .dat (eD l), .own p (lD (((((List.range i).flatMap fun i => rowC c (1 + i)) ++ (List.range j).map fun j => (1 + i, 1 + j)).filter (goes c l)).map eP)), .dat (.int (1 + (i : Int))), e2, e3]) ⟨e2, e3, by simp⟩ (fun j Γ2 hj hJ => ?_) fun Γ2 hJ => ?_
    · obtain ⟨e2, e3, rfl⟩ := hJ
      refine ⟨_, tg_name (by simp), ?_⟩
      refine c_seq (c_set (d := eP (1 + i, 1 + j)) (EvD.to (ev_tup (ea_2 (ev_var rfl) (ev_var rfl))) (by simp [eP])) ?_)
      have hins : (insP (1 + i, 1 + j) l).length ≤ 1000 := by
        rw [(ins_perm _ l).length_eq, List.length_cons]
        omega
      have hlen : ((((List.range i).flatMap fun i => rowC c (1 + i)) ++ (List.range j).map fun j => (1 + i, 1 + j)).filter (goes c l)).length ≤ 100 := by
        have h2 := rows_len c i
        have h3 : i * c.2 ≤ 5 * 5 := Nat.mul_le_mul (by omega) (by omega)
        refine Nat.le_trans (List.length_filter_le _ _) ?_
        rw [List.length_append, List.length_map, List.length_range, h2]
        omega
      refine c_if (k := goes c l (1 + i, 1 + j)) (EbD.to (eb_and (eb_test (ev_op (ev_var rfl) (ev_var rfl) (od_niT (sh_eP _) (sh_eD l)))) fun _ => eb_val (ev_call (a := (c, eD (insP (1 + i, 1 + j) l))) (ea_2 (ev_var rfl) (ev_call (a := (l, (1 + i, 1 + j))) (ea_2 (ev_var rfl) (ev_var rfl)) ⟨okD_chain hl', show l.length ≤ 1000 by omega⟩)) (fun xs e => ?_))) ?_) (fun h => ?_) fun h => c_skip ?_
      · have e' : eD (insP (1 + i, 1 + j) l) = .tuple xs := e
        unfold eD at e'
        injection e' with e'
        rw [← e', List.length_map]
        exact hins
      · show (!((l.map eP).any fun z => PyData.eqv z (eP (1 + i, 1 + j))) && isDoingD c (eD (insP (1 + i, 1 + j) l))) = _
        rw [any_eP, isDoingD_eD]
        rfl
      · refine c_app rfl (ev_var rfl) (by rw [List.length_map]; omega) (c_nx ⟨.dat (.int (1 + (j : Int))), .dat (eP (1 + i, 1 + j)), ?_⟩)
        rw [step_yes (g := fun j => (1 + i, 1 + j)) h]
        rfl
      · refine c_nx ⟨.dat (.int (1 + (j : Int))), .dat (eP (1 + i, 1 + j)), ?_⟩
        rw [step_no (g := fun j => (1 + i, 1 + j)) h]
        rfl
    · obtain ⟨e2, e3, rfl⟩ := hJ
      have e : ((c.2 : Int) + 1 - 1).toNat = c.2 := by omega
      rw [e]
      refine c_nx ⟨.dat (.int (1 + (i : Int))), e2, e3, ?_⟩
      rw [step_row]
  · obtain ⟨e1, e2, e3, rfl⟩ := hI
    have e : ((c.1 : Int) + 1 - 1).toNat = c.1 := by omega
    rw [e]
    exact c_retOE (ds := (fitsM c l).map eP) rfl hF (by rfl)
end

/-! ### done_straight -/
abbrev sp_done_straight : Sp := spP (fun a : Pr × List Pr => [eP a.1, eD a.2]) (fun a => okC a.1 = true ∧ okD a.1 a.2 = true) (fun a d => d = .tuple [eD (doneS a.1 a.2).1, .list ((doneS a.1 a.2).2.map eM)])
section
variable {P : Program} {w : World} {K : PySem.W.Frag} {mg : Str → Option Value} {base : Heap}
theorem ok_done_straight {f : Addr} {fd : FuncData} (F : Fun K "done_straight" "done_straight" s_done_straight f fd) (T : Tops mg) (C_fits : Callee P w K mg base "fits" 4 ["coat", "doing"] sp_fits) (C_with_pair : Callee P w K mg base "with_pair" 1 ["doing", "pair"] sp_with_pair) : FnOk P w K mg base CX0 5 f fd ["coat", "doing"] sp_done_straight := by
  refine okP F sc_done_straight rfl (fun _ => rfl) fun cdv A outer s H E a hr hp => ?_
  obtain ⟨c, l⟩ := a
  obtain ⟨hc, hl⟩ := hp
  have hc' : okC c = true := hc
  have hl' : okD c l = true := hl
  have nd := sc_done_straight.nd
  refine ⟨_, (pss_cons (ps_set (i := 2) nd rfl (Or.inl rfl) (pe_lst pa_nil))
  (pss_cons (ps_for PassesOwn.never rfl (pi_list (pe_callC C_fits (hr.mono (by first | decide | omega)) (by rfl) (pa_cons (pv 0) (pa_cons (pv 1) pa_nil)))) (pg_name (i := 3) nd rfl (Or.inl rfl)) (pss_one (ps_if (pt_cmpR (op_eqU (K := K) (hu64 hr)) (pe_ix (ix_U (K := K)) (pv 3) pe_int (fun _ _ => rfl)) (pe_ix (ix_U (K := K)) (pv 3) pe_int (fun _ _ => rfl)) (nomark _)) (pss_cons (ps_set (i := 1) nd rfl (Or.inl rfl) (pe_callC C_with_pair (hr.mono (by first | decide | omega)) (by rfl) (pa_cons (pv 1) (pa_cons (pv 3) pa_nil))))
  (pss_one (ps_expr (pe_bm PySem.F.plainAttrs_list PySem.F.slot_list_append PySem.F.type_list_append mt_append (pv 2) (pa_cons (pe_tup (pa_cons pe_str (pa_cons (pv 3) pa_nil))) pa_nil))))) pss_nil)))
  (pss_one (ps_ret (pe_tup (pa_cons (pv 1) (pa_cons (pv 2) pa_nil))))))), fun b Q hT hF => ?_⟩
  refine q_setND (en_lst ea_nil) fun p => ?_
  refine (q_for_list (ds := (fitsM c l).map eP) (ev_callN (a := (c, l)) (ea_2 (ev_var rfl) (ev_var rfl)) ⟨hc', hl'⟩)
    (fun i Γ => ∃ e, Γ = [.dat (eP c), .dat (eD (((fitsM c l).take i).foldl stepF (l, [])).1), .own p (lD ((((fitsM c l).take i).foldl stepF (l, [])).2.map eM)), e]) ⟨.un, rfl⟩ (fun G i d Γ1 hd hI => ?_) fun Γ1 hI => ?_)
  · obtain ⟨e, rfl⟩ := hI
    rw [List.getElem?_map] at hd
    obtain ⟨q, hq, rfl⟩ := Option.map_eq_some_iff.mp hd
    have ht : ((fitsM c l).take (i + 1)).foldl stepF (l, []) = stepF (((fitsM c l).take i).foldl stepF (l, [])) q := by
      rw [List.take_add_one, hq]
      simp
    obtain ⟨d1, d2⟩ := done_ok hc' hl' i
    have d3 := okD_len hc' d1
    refine ⟨_, tg_name (by simp), ?_⟩
    refine c_if (k := straight q) (EbD.to (eb_test (ev_op (ev_op (ev_var rfl) ev_int (od_ixT at0)) (ev_op (ev_var rfl) ev_int (od_ixT at1)) od_eqI)) ?_) (fun h => ?_) fun h => c_skip ?_
    · unfold straight
      rw [Bool.eq_iff_iff]
      simp only [decide_eq_true_eq, beq_iff_eq]
      omega
    · refine q_set (ev_call (a := ((((fitsM c l).take i).foldl stepF (l, [])).1, q)) (ea_2 (ev_var rfl) (ev_var rfl)) ⟨okD_chain d1, Nat.le_trans d3 (by decide)⟩) ?_
      refine c_app (d := eM (false, q)) rfl (ev_tup (ea_2 ev_str (ev_var rfl))) (by rw [List.length_map]; omega) (c_nx ⟨.dat (eP q), ?_⟩)
      rw [ht]
      unfold stepF
      rw [if_pos h, List.map_append]
      rfl
    · refine c_nx ⟨.dat (eP q), ?_⟩
      rw [ht]
      unfold stepF
      rw [if_neg (by rw [h]; decide)]
      rfl
  · obtain ⟨e, rfl⟩ := hI
    have e2 : (fitsM c l).take ((fitsM c l).map eP).length = fitsM c l := by rw [List.length_map, List.take_length]
    rw [e2]
    refine c_free (i := 2) rfl ?_
    exact c_retF hF (ev_tup (ea_2 (ev_var rfl) (ev_var rfl)))
end

/-! ### without -/
abbrev sp_without : Sp := spP (fun a : List Pr × Pr => [eD a.1, eP a.2]) (fun a => a.1.length ≤ 1000) (fun a d => d = eD (without a.1 a.2))
theorem filter_map_eP (l : List Pr) (f : PyData → Bool) (g : Pr → Bool) (h : ∀ p, f (eP p) = g p) : ((l.map eP).filter f).map id = (l.filter g).map eP := by
  rw [List.map_id, List.filter_map]
  congr 1
  exact List.filter_congr fun p _ => h p
section
variable {P : Program} {w : World} {K : PySem.W.Frag} {mg : Str → Option Value} {base : Heap}
theorem ok_without {f : Addr} {fd : FuncData} (F : Fun K "without" "without" s_without f fd) (T : Tops mg) : FnOk P w K mg base CX0 1 f fd ["doing", "pair"] sp_without := by
  refine okP F sc_without rfl (fun _ => rfl) fun cdv A outer s H E a hr hz => ?_
  obtain ⟨l, p⟩ := a
  have hz' : l.length ≤ 1000 := hz
  have nd := sc_without.nd
  refine ⟨_, (pss_one (ps_ret (pe_callTy (call_tupU (K := K)) (by rfl) T.m_tuple (by decide +kernel) (pa_cons (pe_lc (own := [("other", 2)]) rfl nd (pi_tup (pv 0)) (blkOk_by (N := ["doing", "pair", "other"]) (sc := defScope s_without) (by decide +kernel)) (fun _ _ _ _ _ => pg_name (i := 2) nd rfl (Or.inl rfl)) (fun _ _ _ _ _ => pts_one (pt_cmpR (op_neU (K := K) (hu64 hr)) (pv 2) (pv 1) (nomark _))) (fun _ _ _ _ _ => (pv 2))) pa_nil)))), fun b Q hT hF => ?_⟩
  refine c_retE (ev_cb (ea_1 (EnD.ev (en_lc_tupD (fun d => !PyData.eqv d (eP p)) id (ev_var rfl) (by simp; omega) fun d hd => ?_))) cd_tupL) hF ?_
  · obtain ⟨q, _, rfl⟩ := List.mem_map.mp hd
    exact ⟨_, tgc_name (by simp), eb_test (ev_op (ev_var rfl) (ev_var rfl) (od_ne (sh_eP q) (sh_eP p))), fun _ => ev_var rfl⟩
  · rw [filter_map_eP l _ (fun q => decide (q ≠ p)) fun q => by rw [eqv_eP, decide_not]]
    rfl
end

/-! ### straighten -/
abbrev sp_straighten : Sp := spP (fun a : Pr × List Pr => [eP a.1, eD a.2]) (fun a => okC a.1 = true ∧ okD a.1 a.2 = true) (fun a d => d = .list ((straightM a.1 a.2).2.map eM))
section
variable {P : Program} {w : World} {K : PySem.W.Frag} {mg : Str → Option Value} {base : Heap}
theorem ok_straighten {f : Addr} {fd : FuncData} (F : Fun K "straighten" "straighten" s_straighten f fd) (T : Tops mg) (C_done_straight : Callee P w K mg base "done_straight" 5 ["coat", "doing"] sp_done_straight) (C_without : Callee P w K mg base "without" 1 ["doing", "pair"] sp_without) : FnOk P w K mg base CX0 6 f fd ["coat", "doing"] sp_straighten := by
  refine okP F sc_straighten rfl (fun _ => rfl) fun cdv A outer s H E a hr hp => ?_
  obtain ⟨c, l⟩ := a
  obtain ⟨hc, hl⟩ := hp
  have hc' : okC c = true := hc
  have hl' : okD c l = true := hl
  have nd := sc_straighten.nd
  refine ⟨_, (pss_cons (ps_asg (pe_callC C_done_straight (hr.mono (by first | decide | omega)) (by rfl) (pa_cons (pv 0) (pa_cons (pv 1) pa_nil))) (pg_tupU (K := K) (n := 2) rfl (pgs_cons (pg_name (i := 2) nd rfl (Or.inl rfl)) (pgs_cons (pg_name (i := 3) nd rfl (Or.inl rfl)) pgs_nil))))
  (pss_cons (ps_for PassesOwn.never rfl (pi_tup (pv 1)) (pg_name (i := 4) nd rfl (Or.inl rfl)) (pss_one (ps_if (pt_cmpR (op_neU (K := K) (hu64 hr)) (pe_ix (ix_U (K := K)) (pv 4) pe_int (fun _ _ => rfl)) (pe_ix (ix_U (K := K)) (pv 4) pe_int (fun _ _ => rfl)) (nomark _)) (pss_cons (ps_asg (pe_callC C_done_straight (hr.mono (by first | decide | omega)) (by rfl) (pa_cons (pv 0) (pa_cons (pe_callC C_without (hr.mono (by first | decide | omega)) (by rfl) (pa_cons (pv 2) (pa_cons (pv 4) pa_nil))) pa_nil))) (pg_tupU (K := K) (n := 2) rfl (pgs_cons (pg_name (i := 2) nd rfl (Or.inl rfl)) (pgs_cons (pg_name (i := 5) nd rfl (Or.inl rfl)) pgs_nil))))
  (pss_one (ps_set (i := 3) nd rfl (Or.inl rfl) (pe_op (op_addU (K := K)) (pe_op (op_addU (K := K)) (pv 3) (pe_lst (pa_cons (pe_tup (pa_cons pe_str (pa_cons (pv 4) pa_nil))) pa_nil))) (pv 5))))) pss_nil)))
  (pss_one (ps_ret (pv 3))))), fun b Q hT hF => ?_⟩
  refine (q_asg (ev_call (a := (c, l)) (ea_2 (ev_var rfl) (ev_var rfl)) ⟨hc', hl'⟩) fun d hd => ?_)
  subst hd
  refine ⟨_, tg_pair (by simp) (by simp), ?_⟩
  refine (q_for_tup (ds := l.map eP) (ev_var rfl)
    (fun i Γ => ∃ e e', Γ = [.dat (eP c), .dat (eD l), .dat (eD ((l.take i).foldl (stepS c) (doneS c l)).1), .dat (.list (((l.take i).foldl (stepS c) (doneS c l)).2.map eM)), e, e']) ⟨.un, .un, rfl⟩ (fun G i d Γ1 hd hI => ?_) fun Γ1 hI => ?_)
  · obtain ⟨e, e', rfl⟩ := hI
    rw [List.getElem?_map] at hd
    obtain ⟨q, hq, rfl⟩ := Option.map_eq_some_iff.mp hd
    have ht : (l.take (i + 1)).foldl (stepS c) (doneS c l) = stepS c ((l.take i).foldl (stepS c) (doneS c l)) q := by
      rw [List.take_add_one, hq]
      simp
    obtain ⟨d1, d2⟩ := straight_ok hc' hl' i
    have d3 := okD_len hc' d1
    have d4 := without_ok (p := q) d1
    obtain ⟨d5, d6⟩ := doneS_ok hc' d4
    refine ⟨_, tg_name (by simp), ?_⟩
    refine c_if (k := !straight q) (EbD.to (eb_test (ev_op (ev_op (ev_var rfl) ev_int (od_ixT at0)) (ev_op (ev_var rfl) ev_int (od_ixT at1)) od_neI)) ?_) (fun h => ?_) fun h => c_skip ?_
    · unfold straight
      rw [Bool.eq_iff_iff]
      simp only [Bool.not_eq_true', decide_eq_false_iff_not, beq_eq_false_iff_ne]
      omega
    · have h' : straight q = false := by simpa using h
      refine (q_asg (ev_call (a := (c, without ((l.take i).foldl (stepS c) (doneS c l)).1 q)) (ea_2 (ev_var rfl) (ev_call (a := (((l.take i).foldl (stepS c) (doneS c l)).1, q)) (ea_2 (ev_var rfl) (ev_var rfl)) (Nat.le_trans d3 (by decide)))) ⟨hc', d4⟩) fun d hd => ?_)
      subst hd
      refine ⟨_, tg_pair (by simp) (by simp), ?_⟩
      refine c_set (d := .list (((l.take (i + 1)).foldl (stepS c) (doneS c l)).2.map eM)) (EvD.to (ev_op (ev_op (ev_var rfl) (ev_lst (ea_1 (ev_tup (ea_2 ev_str (ev_var rfl))))) (od_addL ?_)) (ev_var rfl) (od_addL ?_)) ?_) (c_nx ⟨.dat (eP q), .dat (.list ((doneS c (without ((l.take i).foldl (stepS c) (doneS c l)).1 q)).2.map eM)), ?_⟩)
      · simp only [List.length_map, List.length_cons, List.length_nil]
        omega
      · simp only [List.length_append, List.length_map, List.length_cons, List.length_nil]
        omega
      · rw [ht]
        unfold stepS
        rw [if_neg (by rw [h']; decide), List.map_append, List.map_append]
        rfl
      · rw [ht]
        unfold stepS
        rw [if_neg (by rw [h']; decide)]
        rfl
    · have h' : straight q = true := by simpa using h
      refine c_nx ⟨.dat (eP q), e', ?_⟩
      rw [ht]
      unfold stepS
      rw [if_pos h']
      rfl
  · obtain ⟨e, e', rfl⟩ := hI
    have e2 : l.take (l.map eP).length = l := by rw [List.length_map, List.take_length]
    rw [e2]
    exact c_retF hF (ev_var rfl)
end

/-! ### _law_draw -/
abbrev sp__law_draw : Sp := spT (fun n : Int => [.int n]) (fun n => 1 ≤ n ∧ n ≤ 1000000000000) (fun n d => ∃ r : Int, d = .int r ∧ 0 ≤ r ∧ r < n)
theorem prime_sq {x : Int} (h0 : 0 ≤ x) (h : x < 2305843009213693951) : CMul x x := .inl ⟨by omega, by omega⟩
section
variable {P : Program} {w : World} {K : PySem.W.Frag} {mg : Str → Option Value} {base : Heap}
theorem ok__law_draw {f : Addr} {fd : FuncData} (F : Fun K "_law_draw" "_law_draw" s__law_draw f fd) (T : Tops mg) : FnOk P w K mg base CX0 1 f fd ["tape", "many"] sp__law_draw := by
  refine F.ok sc__law_draw (fun vs H Q E h => ?_) (fun cdv A outer s H vs Q E hr h => ?_)
  · obtain ⟨M, t, sc, us, a, rfl, _, _, _, r, _⟩ := h
    rw [List.length_cons, r.length]
    rfl
  obtain ⟨M, t, sc, us, n, rfl, ht, hM, hT, r, ⟨hn1, hn2⟩, q⟩ := h
  have nd := sc__law_draw.nd
  cases r with
  | cons r1 r2 =>
  cases r2
  cases r1
  obtain ⟨i, c, ns, h1, h2, i0, c0⟩ := hT
  obtain ⟨sM, h2'⟩ := hid_some h2
  have hts : sc ≠ t := fun z => sM (z ▸ ht)
  have hpos : (0 : Int) < n := by omega
  refine ⟨_, (pss_cons (ps_set (i := 2) nd rfl (Or.inl rfl) pe_int)
  (pss_cutD (ps_if (pt_cmpR op_lt (pe_ix (ix_U (K := K)) (pv 0) pe_int (fun _ _ => rfl)) (pv 1) (nomark _)) (pss_cons (ps_set (i := 3) nd rfl (Or.inl rfl) pe_int)
  (pss_cutD (ps_if (pt_cmpR op_gt (pe_callB (call_lenU (K := K)) (by rfl) T.m_len (by decide +kernel) (pa_cons (pe_ix (ix_U (K := K)) (pv 0) pe_int (fun _ _ => rfl)) pa_nil)) pe_int (nomark _)) (pss_one (ps_set (i := 3) nd rfl (Or.inl rfl) (pe_ix (ix_U (K := K)) (pe_ix (ix_U (K := K)) (pv 0) pe_int (fun _ _ => rfl)) (pe_op op_mod (pe_ix (ix_U (K := K)) (pv 0) pe_int (fun _ _ => rfl)) (pe_callB (call_lenU (K := K)) (by rfl) T.m_len (by decide +kernel) (pa_cons (pe_ix (ix_U (K := K)) (pv 0) pe_int (fun _ _ => rfl)) pa_nil))) (fun _ _ => rfl)))) pss_nil)
  (pss_cutD (ps_if (PW.pt (pw_or (pt_cmpR op_ge (pe_ix (ix_U (K := K)) (pv 0) pe_int (fun _ _ => rfl)) (pe_callB (call_lenU (K := K)) (by rfl) T.m_len (by decide +kernel) (pa_cons (pe_ix (ix_U (K := K)) (pv 0) pe_int (fun _ _ => rfl)) pa_nil)) (nomark _)) (pw_or1 (pt_cmpR op_lt (pv 3) (pe_op op_pow pe_int pe_int) (nomark _))))) (pss_cons (ps_set (i := 3) nd rfl (Or.inl rfl) (pe_op op_mod (pe_op (op_addU (K := K)) (pv 3) (pe_op op_mul pe_int (pe_ix (ix_U (K := K)) (pv 0) pe_int (fun _ _ => rfl)))) (pv 2)))
  (pss_cons (ps_set (i := 3) nd rfl (Or.inl rfl) (pe_op op_mod (pe_op (op_addU (K := K)) (pe_op (op_addU (K := K)) (pe_op op_mul (pv 3) (pv 3)) (pe_op op_mul pe_int (pv 3))) pe_int) (pv 2)))
  (pss_one (ps_set (i := 3) nd rfl (Or.inl rfl) (pe_op op_mod (pe_op (op_addU (K := K)) (pe_op op_mul (pv 3) (pv 3)) pe_int) (pv 2)))))) pss_nil)
  (pss_cons (ps_asg (pe_op (op_addU (K := K)) (pe_ix (ix_U (K := K)) (pv 0) pe_int (fun _ _ => rfl)) pe_int) (pg_sub (pv 0) pe_int set_list))
  (pss_one (ps_asg (pv 3) (pg_sub (pv 0) pe_int set_list))))))) pss_nil)
  (pss_cons (ps_set (i := 4) nd rfl (Or.inl rfl) (pe_op op_mod (pe_ix (ix_U (K := K)) (pv 0) pe_int (fun _ _ => rfl)) (pv 1)))
  (pss_cons (ps_asg (pe_op op_fdivW (pe_ix (ix_U (K := K)) (pv 0) pe_int (fun _ _ => rfl)) (pv 1)) (pg_sub (pv 0) pe_int set_list))
  (pss_one (ps_ret (pv 4))))))), ?_⟩
  refine x_set xv_c ?_
  -- the heap where the tape has gone on
  obtain ⟨hh, hhe⟩ : ∃ hh : Int → Int → Hp, ∀ i c, hh i c = upd H t (.lst [.ref sc, .int i, .int c]) := ⟨_, fun _ _ => rfl⟩
  have at_t : ∀ {i' c' : Int}, hh i' c' t = some (.lst [.ref sc, .int i', .int c']) := fun {i' c'} => by rw [hhe, upd_same]
  have put : ∀ {i' c' a b : Int}, upd (hh i' c') t (.lst [.ref sc, .int a, .int b]) = hh a b := fun {i' c' a b} => by rw [hhe, hhe, upd_upd]
  have tp : ∀ {i' c' : Int}, 0 ≤ i' → 0 ≤ c' → TapeOk M (hh i' c') t sc := fun {i' c'} a b => ⟨i', c', ns, at_t, by rw [hhe, hid_upd ht]; exact h2, a, b⟩
  have same : ∀ {i' c' : Int}, Same (hid [t] H) (hh i' c') := fun {i' c'} b o e => by
    obtain ⟨e1, e2⟩ := hid_some e
    rw [hhe, upd_ne (by simpa using e1)]
    exact e2
  have eta : H = hh i c := by
    rw [hhe]
    funext b
    by_cases hb : b = t
    · rw [hb, upd_same, h1]
    · rw [upd_ne hb]
  have scl : ∀ {i' c' : Int}, SqL K (hh i' c') sc (ns.map V.int) := fun {i' c'} => .inl (.inl (by rw [hhe, upd_ne hts]; exact h2'))
  have tl : ∀ {i' c' : Int}, SqL K (hh i' c') t [.ref sc, .int i', .int c'] := fun {i' c'} => .inl (.inl at_t)
  refine x_cut (fun σ' H' => ∃ (y : Option V) (i' c' : Int), σ' = [some (.ref t), some (.int n), some (.int 2305843009213693951), y, none] ∧ H' = hh i' c' ∧ 0 ≤ i' ∧ 0 ≤ c') ?_ ?_
  · rw [eta]
    refine x_if (k := decide (c < n)) (xt_test (xv_op (xv_op (xv_var rfl) xv_c fun Q q => xr_ix tl (atI_nat (j := 2) rfl) q) (xv_var rfl) fun Q q => xr_B q)) (fun h => ?_) fun h => ⟨none, i, c, rfl, rfl, i0, c0⟩
    refine x_set xv_c ?_
    -- the cell of the script
    refine x_cut (fun σ' H' => ∃ z : Int, σ' = [some (.ref t), some (.int n), some (.int 2305843009213693951), some (.int z), none] ∧ H' = hh i c) ?_ ?_
    · refine x_if (k := decide ((0 : Int) < ((ns.map V.int).length : Int))) (xt_test (xv_op (xv_len (xv_op (xv_var rfl) xv_c fun Q q => xr_ix tl (atI_nat (j := 0) rfl) q) scl) xv_c fun Q q => xr_B q)) (fun h => ?_) fun h => ⟨0, rfl, rfl⟩
      have hl : (0 : Int) < ((ns.map V.int).length : Int) := of_decide_eq_true h
      have hm1 : 0 ≤ i % ((ns.map V.int).length : Int) := Int.emod_nonneg _ (by omega)
      have hm2 : i % ((ns.map V.int).length : Int) < ((ns.map V.int).length : Int) := Int.emod_lt_of_pos _ hl
      obtain ⟨k, hk⟩ := Int.eq_ofNat_of_zero_le hm1
      have hkl : k < ns.length := by
        rw [hk, List.length_map] at hm2
        omega
      refine x_set1 (v := .int (ns[k])) (xv_op (xv_op (xv_var rfl) xv_c fun Q q => xr_ix tl (atI_nat (j := 0) rfl) q) (xv_op (xv_op (xv_var rfl) xv_c fun Q q => xr_ix tl (atI_nat (j := 1) rfl) q) (xv_len (xv_op (xv_var rfl) xv_c fun Q q => xr_ix tl (atI_nat (j := 0) rfl) q) scl) fun Q q => xr_I (C := fun _ j => 0 < j) (g := fun i j => i % j) hl q) fun Q q => xr_ix scl (by rw [hk]; exact atI_nat (by rw [List.getElem?_map, List.getElem?_eq_getElem hkl]; rfl)) q) ⟨_, rfl, rfl⟩
    rintro _ _ ⟨z, rfl, rfl⟩
    -- mixed, unless it is great
    refine x_cut (fun σ' H' => ∃ z : Int, 0 ≤ z ∧ σ' = [some (.ref t), some (.int n), some (.int 2305843009213693951), some (.int z), none] ∧ H' = hh i c) ?_ ?_
    · refine x_if (k := decide (((ns.map V.int).length : Int) ≤ i) || decide (z < (10 : Int) ^ (18 : Int).toNat)) (xt_or (xt_test (xv_op (xv_op (xv_var rfl) xv_c fun Q q => xr_ix tl (atI_nat (j := 1) rfl) q) (xv_len (xv_op (xv_var rfl) xv_c fun Q q => xr_ix tl (atI_nat (j := 0) rfl) q) scl) fun Q q => xr_B q)) fun _ => xt_test (xv_op (xv_var rfl) (xv_op xv_c xv_c fun Q q => xr_I (C := CPow) (g := fun i j => i ^ j.toNat) ⟨by decide, by decide, by decide⟩ q) fun Q q => xr_B q)) (fun h => ?_) fun h => ⟨z, ?_, rfl, rfl⟩
      · refine x_set (v := .int ((z + 1000003 * i) % 2305843009213693951)) (xv_op (xv_op (xv_var rfl) (xv_op xv_c (xv_op (xv_var rfl) xv_c fun Q q => xr_ix tl (atI_nat (j := 1) rfl) q) fun Q q => xr_I (C := CMul) (g := fun i j => i * j) (.inl ⟨by decide, by decide⟩) q) fun Q q => xr_add q) (xv_var rfl) fun Q q => xr_I (C := fun _ j => 0 < j) (g := fun i j => i % j) (by decide) q) ?_
        have m1 : 0 ≤ (z + 1000003 * i) % 2305843009213693951 := Int.emod_nonneg _ (by decide)
        have m2 : (z + 1000003 * i) % 2305843009213693951 < 2305843009213693951 := Int.emod_lt_of_pos _ (by decide)
        generalize (z + 1000003 * i) % 2305843009213693951 = x at m1 m2
        refine x_set (v := .int ((x * x + 1181783497276652981 * x + 2049848353892358983) % 2305843009213693951)) (xv_op (xv_op (xv_op (xv_op (xv_var rfl) (xv_var rfl) fun Q q => xr_I (C := CMul) (g := fun i j => i * j) (prime_sq m1 m2) q) (xv_op xv_c (xv_var rfl) fun Q q => xr_I (C := CMul) (g := fun i j => i * j) (.inl ⟨by decide, by decide⟩) q) fun Q q => xr_add q) xv_c fun Q q => xr_add q) (xv_var rfl) fun Q q => xr_I (C := fun _ j => 0 < j) (g := fun i j => i % j) (by decide) q) ?_
        have m3 : 0 ≤ (x * x + 1181783497276652981 * x + 2049848353892358983) % 2305843009213693951 := Int.emod_nonneg _ (by decide)
        have m4 : (x * x + 1181783497276652981 * x + 2049848353892358983) % 2305843009213693951 < 2305843009213693951 := Int.emod_lt_of_pos _ (by decide)
        generalize (x * x + 1181783497276652981 * x + 2049848353892358983) % 2305843009213693951 = y at m3 m4
        refine x_set1 (v := .int ((y * y + 1442695040888963407) % 2305843009213693951)) (xv_op (xv_op (xv_op (xv_var rfl) (xv_var rfl) fun Q q => xr_I (C := CMul) (g := fun i j => i * j) (prime_sq m3 m4) q) xv_c fun Q q => xr_add q) (xv_var rfl) fun Q q => xr_I (C := fun _ j => 0 < j) (g := fun i j => i % j) (by decide) q) ?_
        exact ⟨_, Int.emod_nonneg _ (by decide), rfl, rfl⟩
      · have h' := (Bool.or_eq_false_iff.mp h).2
        have h2 := of_decide_eq_false h'
        have e : (10 : Int) ^ (18 : Int).toNat = 1000000000000000000 := by decide
        rw [e] at h2
        omega
    rintro _ _ ⟨z, z0, rfl, rfl⟩
    refine x_put (n := 1) (v := .int (i + 1)) (xs := [.ref sc, .int i, .int c]) (xv_op (xv_op (xv_var rfl) xv_c fun Q q => xr_ix tl (atI_nat (j := 1) rfl) q) xv_c fun Q q => xr_add q) (xv_var rfl) xv_c at_t (by simp) ?_
    rw [show ∀ a b c : V, [a, b, c].set 1 (.int (i + 1)) = [a, .int (i + 1), c] from fun _ _ _ => rfl, put]
    refine x_put (n := 2) (v := .int z) (xs := [.ref sc, .int (i + 1), .int c]) (xv_var rfl) (xv_var rfl) xv_c at_t (by simp) ?_
    rw [show ∀ a b c : V, [a, b, c].set 2 (.int z) = [a, b, .int z] from fun _ _ _ => rfl, put]
    exact ⟨_, i + 1, z, rfl, rfl, by omega, z0⟩
  · rintro _ _ ⟨y, i', c', rfl, rfl, a0, b0⟩
    refine x_set (v := .int (c' % n)) (xv_op (xv_op (xv_var rfl) xv_c fun Q q => xr_ix tl (atI_nat (j := 2) rfl) q) (xv_var rfl) fun Q q => xr_I (C := fun _ j => 0 < j) (g := fun i j => i % j) hpos q) ?_
    have hlog : CDivW c' n := wide_div (b := 64) hpos (by omega) (by decide) (by decide)
    refine x_put (n := 2) (v := .int (c' / n)) (xs := [.ref sc, .int i', .int c']) (xv_op (xv_op (xv_var rfl) xv_c fun Q q => xr_ix tl (atI_nat (j := 2) rfl) q) (xv_var rfl) fun Q q => xr_I (C := CDivW) (g := fun i j => i / j) hlog q) (xv_var rfl) xv_c at_t (by simp) ?_
    rw [show ∀ a b c : V, [a, b, c].set 2 (.int (c' / n)) = [a, b, .int (c' / n)] from fun _ _ _ => rfl, put]
    exact xv_var rfl _ (q _ _ _ same (tp a0 (Int.ediv_nonneg b0 (by omega))) ⟨c' % n, rfl, Int.emod_nonneg _ (by omega), Int.emod_lt_of_pos _ hpos⟩ (.int _))
end

/-! ### is_coat -/
abbrev sp_is_coat : Sp := spP (fun a : PyData => [a]) (fun d => ∀ xs, d = .tuple xs → xs.length ≤ 1000) (fun a d => d = .bool (isCoatD a))
section
variable {P : Program} {w : World} {K : PySem.W.Frag} {mg : Str → Option Value} {base : Heap}
theorem ok_is_coat {f : Addr} {fd : FuncData} (F : Fun K "is_coat" "is_coat" s_is_coat f fd) (T : Tops mg) (C_is_within : Callee P w K mg base "is_within" 1 ["thing", "low", "high"] sp_is_within) : FnOk P w K mg base CX0 2 f fd ["thing"] sp_is_coat := by
  refine okP F sc_is_coat rfl (fun _ => rfl) fun cdv A outer s H E d hr hp => ?_
  have nd := sc_is_coat.nd
  refine ⟨_, (pss_one (ps_ret (pe_and (pe_callB (call_isiU (K := K)) (by rfl) T.m_isinstance (by decide +kernel) (pa_cons (pv 0) (pa_cons (pe_bltn (v := .ty "tuple") (by rfl) T.m_tuple (by decide +kernel) rfl) pa_nil))) (pe_and (pe_cmpR (op_eqU (K := K) (hu64 hr)) (pe_callB (call_lenU (K := K)) (by rfl) T.m_len (by decide +kernel) (pa_cons (pv 0) pa_nil)) pe_int (nomark _)) (pe_one (pe_callB (call_allU (K := K) rfl) (by rfl) T.m_all (by decide +kernel) (pa_cons (pe_lc (own := [("part", 1)]) rfl nd (pi_tup (pv 0)) (blkOk_by (N := ["thing", "part"]) (sc := defScope s_is_coat) (by decide +kernel)) (fun _ _ _ _ _ => pg_name (i := 1) nd rfl (Or.inl rfl)) (fun _ _ _ _ _ => pts_nil) (fun _ _ _ _ _ => (pe_callC C_is_within (hr.mono (by first | decide | omega)) (by rfl) (pa_cons (pv 1) (pa_cons pe_int (pa_cons (pe_constI T.c_MOST (by rfl)) pa_nil)))))) pa_nil))))))), fun b Q hT hF => ?_⟩
  refine c_ret (d := .bool (isCoatD d)) ?_ hF (by rfl)
  cases d with
  | tuple xs =>
    have hz := hp xs rfl
    refine EvD.to (ev_andV (y := decide ((xs.length : Int) = 2) && (xs.map fun d => isWithin d 1 5).all id) (ev_isTup (ev_var rfl)) fun _ => ev_andV (ev_op (ev_cb (ea_1 (ev_var rfl)) cd_lenT) ev_int od_eqI) fun _ => ev_cb (ea_1 (EvD.to (EnD.ev (en_lc_tupD (fun _ => true) (fun d => .bool (isWithin d 1 5)) (ev_var rfl) (by omega) fun d hd => ⟨_, tgc_name (by simp), eb_yes, fun _ => ev_call (a := (d, 1, 5)) (ea_cons (ev_var rfl) (ea_2 ev_int ev_int)) trivial⟩)) ?_)) cd_all) ?_
    · rw [filter_yes, List.map_map]
      rfl
    · congr 1
      match xs, hz with
      | [], _ => rfl
      | [x], _ => rfl
      | [x, y], _ => simp [isCoatD, isTupD]
      | x :: y :: z :: r, _ =>
        have e : decide (((x :: y :: z :: r).length : Int) = 2) = false := decide_eq_false (by simp only [List.length_cons]; omega)
        rw [e]
        rfl
  | _ => exact EvD.to (ev_andV (y := false) (ev_isTup (ev_var rfl)) fun h => nomatch h) rfl
end

/-! ### bound -/
abbrev sp_bound : Sp := spP (fun a : Pr × List Pr => [eP a.1, eD a.2]) (fun a => okC a.1 = true ∧ Bt.okD a.1 a.2 = true) (fun a d => d = .int (boundM a.1 a.2 : Int))
section
variable {P : Program} {w : World} {K : PySem.W.Frag} {mg : Str → Option Value} {base : Heap}
theorem ok_bound {f : Addr} {fd : FuncData} (F : Fun K "bound" "bound" s_bound f fd) (T : Tops mg) (C_fits : Callee P w K mg base "fits" 4 ["coat", "doing"] sp_fits) : FnOk P w K mg base CX0 5 f fd ["coat", "doing"] sp_bound := by
  refine okP F sc_bound rfl (fun _ => rfl) fun cdv A outer s H E a hr hp => ?_
  obtain ⟨c, l⟩ := a
  obtain ⟨h1, h2⟩ := hp
  have hc : okC c = true := h1
  have hl : Bt.okD c l = true := h2
  have nd := sc_bound.nd
  refine ⟨_, (pss_one (ps_ret (pe_ifExp (pt_cmpR (op_neU (K := K) (hu64 hr)) (pe_callC C_fits (hr.mono (by first | decide | omega)) (by rfl) (pa_cons (pv 0) (pa_cons (pv 1) pa_nil))) (pe_lst pa_nil) (nomark _)) (pe_callB (call_lenU (K := K)) (by rfl) T.m_len (by decide +kernel) (pa_cons (pv 1) pa_nil)) (pe_op op_sub (pe_callB (call_lenU (K := K)) (by rfl) T.m_len (by decide +kernel) (pa_cons (pv 1) pa_nil)) pe_int)))), fun b Q hT hF => ?_⟩
  refine c_retF hF (EvD.to (ev_if (k := !(fitL c l).isEmpty) (d := .int (l.length : Int)) (d' := .int ((l.length : Int) - 1)) (EbD.to (eb_test (ev_op (ev_callN (d := (fitsM c l).map eP) (c, l) (ea_2 (ev_var rfl) (ev_var rfl)) ⟨hc, hl⟩) (ev_lst ea_nil) (od_ne (sh_ePs _) sh_nil))) (by rw [eqv_nil, isEmpty_map, fits_eq hc hl])) (fun _ => EvD.to (ev_cb (ea_1 (ev_var rfl)) cd_lenT) (by rw [List.length_map])) fun _ => EvD.to (ev_op (ev_cb (ea_1 (ev_var rfl)) cd_lenT) ev_int od_I0) (by rw [List.length_map])) ?_)
  show _ = PyData.int (boundM c l : Int)
  unfold boundM
  cases e : (fitL c l).isEmpty with
  | false => rfl
  | true =>
    have := steps_some hc hl
    unfold steps at this
    rw [List.isEmpty_iff.mp e] at this
    simp at this
    have hp : 0 < l.length := List.length_pos_iff.mpr (by intro z; subst z; simp at this)
    show PyData.int ((l.length : Int) - 1) = .int ((l.length - 1 : Nat) : Int)
    congr 1
    omega
end

/-! ### can_stay -/
abbrev sp_can_stay : Sp := spP (fun a : Pr × List Pr × List Pr => [eP a.1, eD a.2.1, eD a.2.2]) (fun a => okC a.1 = true ∧ Bt.okD a.1 a.2.1 = true ∧ Bt.okD a.1 a.2.2 = true) (fun a d => d = .int (canM a.1 a.2.1 a.2.2 : Int))
section
variable {P : Program} {w : World} {K : PySem.W.Frag} {mg : Str → Option Value} {base : Heap}
theorem ok_can_stay {f : Addr} {fd : FuncData} (F : Fun K "can_stay" "can_stay" s_can_stay f fd) (T : Tops mg) (C_bound : Callee P w K mg base "bound" 5 ["coat", "doing"] sp_bound) : FnOk P w K mg base CX0 6 f fd ["coat", "one", "other"] sp_can_stay := by
  refine okP F sc_can_stay rfl (fun _ => rfl) fun cdv A outer s H E a hr hp => ?_
  obtain ⟨c, l, m⟩ := a
  obtain ⟨h1, h2, h3⟩ := hp
  have hc : okC c = true := h1
  have hl : Bt.okD c l = true := h2
  have hm : Bt.okD c m = true := h3
  have nd := sc_can_stay.nd
  refine ⟨_, (pss_cons (ps_if (pt_cmpR (op_eqU (K := K) (hu64 hr)) (pv 1) (pv 2) (nomark _)) (pss_one (ps_ret (pe_callB (call_lenU (K := K)) (by rfl) T.m_len (by decide +kernel) (pa_cons (pv 1) pa_nil)))) pss_nil)
  (pss_one (ps_ret (pe_callB (call_min2U rfl) (by rfl) T.m_min (by decide +kernel) (pa_cons (pe_callC C_bound (hr.mono (by first | decide | omega)) (by rfl) (pa_cons (pv 0) (pa_cons (pv 1) pa_nil))) (pa_cons (pe_callC C_bound (hr.mono (by first | decide | omega)) (by rfl) (pa_cons (pv 0) (pa_cons (pv 2) pa_nil))) pa_nil)))))), fun b Q hT hF0 => ?_⟩
  have hF : Fin b (fun d => d = .int (canM c l m : Int)) Q := hF0
  refine c_when (k := decide (l = m)) (EbD.to (eb_test (ev_op (ev_var rfl) (ev_var rfl) (od_eq (sh_eD _) (sh_eD _)))) (by rw [eqv_eD])) (fun h => c_retF hF (EvD.to (ev_cb (ea_1 (ev_var rfl)) cd_lenT) ?_)) fun h => c_retF hF (EvD.to (ev_cb (ea_2 (ev_call (c, l) (ea_2 (ev_var rfl) (ev_var rfl)) ⟨hc, hl⟩) (ev_call (c, m) (ea_2 (ev_var rfl) (ev_var rfl)) ⟨hc, hm⟩)) cd_min2) ?_)
  · unfold canM
    rw [if_pos (of_decide_eq_true h), List.length_map]
  · unfold canM
    rw [if_neg (of_decide_eq_false h)]
    congr 1
    show (if (boundM c m : Int) < (boundM c l : Int) then (boundM c m : Int) else (boundM c l : Int)) = _
    split <;> omega
end

/-! ### moves -/
def prD (d : PyData) : Pr := ((pOf d).1.toNat, (pOf d).2.toNat)
theorem prD_eP (p : Pr) : prD (eP p) = p := rfl
abbrev sp_moves : Sp := spP (fun a : Pr × List Pr => [eP a.1, eD a.2]) (fun a => okC a.1 = true ∧ Bt.okD a.1 a.2 = true) (fun a d => d = .list ((steps a.1 a.2).map eSt))
section
variable {P : Program} {w : World} {K : PySem.W.Frag} {mg : Str → Option Value} {base : Heap}
theorem ok_moves {f : Addr} {fd : FuncData} (F : Fun K "moves" "moves" s_moves f fd) (T : Tops mg) (C_with_pair : Callee P w K mg base "with_pair" 1 ["doing", "pair"] sp_with_pair) (C_without : Callee P w K mg base "without" 1 ["doing", "pair"] sp_without) (C_fits : Callee P w K mg base "fits" 4 ["coat", "doing"] sp_fits) : FnOk P w K mg base CX0 5 f fd ["coat", "doing"] sp_moves := by
  refine okP F sc_moves rfl (fun _ => rfl) fun cdv A outer s H E a hr hp => ?_
  obtain ⟨c, l⟩ := a
  obtain ⟨h1, h2⟩ := hp
  have hc : okC c = true := h1
  have hl : Bt.okD c l = true := h2
  have zl := okD_len hc hl
  have zf := fitsM_len hc l
  have nd := sc_moves.nd
  refine ⟨_, (pss_cons (ps_setLc (i := 2) (own := [("pair", 3)]) rfl nd rfl rfl (sw_true rfl rfl rfl (by decide +kernel)) (pi_tup (pv 1)) (blkOk_by (N := ["coat", "doing", "some", "pair"]) (sc := defScope s_moves) (by decide +kernel)) (fun _ _ _ _ _ => pg_name (i := 3) nd rfl (Or.inl rfl)) (fun _ _ _ _ _ => pts_nil) (fun _ _ _ _ _ => (pe_tup (pa_cons (pe_tup (pa_cons pe_str (pa_cons (pv 3) pa_nil))) (pa_cons (pe_callC C_without (hr.mono (by first | decide | omega)) (by rfl) (pa_cons (pv 1) (pa_cons (pv 3) pa_nil))) pa_nil)))))
  (pss_one (ps_ret (pe_op (op_addU (K := K)) (pv 2) (pe_lc (own := [("pair", 3)]) rfl nd (pi_list (pe_callC C_fits (hr.mono (by first | decide | omega)) (by rfl) (pa_cons (pv 0) (pa_cons (pv 1) pa_nil)))) (blkOk_by (N := ["coat", "doing", "some", "pair"]) (sc := defScope s_moves) (by decide +kernel)) (fun _ _ _ _ _ => pg_name (i := 3) nd rfl (Or.inl rfl)) (fun _ _ _ _ _ => pts_nil) (fun _ _ _ _ _ => (pe_tup (pa_cons (pe_tup (pa_cons pe_str (pa_cons (pv 3) pa_nil))) (pa_cons (pe_callC C_with_pair (hr.mono (by first | decide | omega)) (by rfl) (pa_cons (pv 1) (pa_cons (pv 3) pa_nil))) pa_nil))))))))), fun b Q hT hF0 => ?_⟩
  have hF : Fin b (fun d => d = .list ((steps c l).map eSt)) Q := hF0
  refine q_set (d := .list ((l.map fun p => ((true, p), Bt.without l p)).map eSt)) (EvD.to (EnD.ev (en_lc_tupD (fun _ => true) (fun d => eSt ((true, prD d), Bt.without l (prD d))) (ev_var rfl) (by show (l.map eP).length ≤ 50000; rw [List.length_map]; omega) fun d hd => ?_)) ?_) ?_
  · obtain ⟨q, _, rfl⟩ := List.mem_map.mp hd
    exact ⟨_, tgc_name (by simp), eb_yes, fun _ => EvD.to (ev_tup (ea_2 (ev_tup (ea_2 ev_str (ev_var rfl))) (ev_call (l, q) (ea_2 (ev_var rfl) (ev_var rfl)) (show l.length ≤ 1000 by omega)))) rfl⟩
  · rw [filter_yes, List.map_map, List.map_map]
    rfl
  refine c_retF hF (EvD.to (ev_op (ev_var rfl) (EnD.ev (en_lc_listD (ds := (fitsM c l).map eP) (fun _ => true) (fun d => eSt ((false, prD d), insP (prD d) l)) (ev_callN (d := (fitsM c l).map eP) (c, l) (ea_2 (ev_var rfl) (ev_var rfl)) ⟨hc, hl⟩) (by show ((fitsM c l).map eP).length ≤ 50000; rw [List.length_map]; omega) fun d hd => ?_)) (od_addL ?_)) ?_)
  · obtain ⟨q, _, rfl⟩ := List.mem_map.mp hd
    exact ⟨_, tgc_name (by simp), eb_yes, fun _ => EvD.to (ev_tup (ea_2 (ev_tup (ea_2 ev_str (ev_var rfl))) (ev_call (l, q) (ea_2 (ev_var rfl) (ev_var rfl)) ⟨okD_chain hl, show l.length ≤ 1000 by omega⟩))) rfl⟩
  · simp only [filter_yes, List.length_map]
    omega
  · rw [filter_yes, fits_eq hc hl, List.map_map, List.map_map]
    unfold steps
    rw [List.map_append, List.map_map, List.map_map]
    rfl
end

/-! ### led -/
abbrev sp_led (P : Program) (w : World) : Sp := spLed P w
section
variable {P : Program} {w : World} {K : PySem.W.Frag} {mg : Str → Option Value} {base : Heap}
theorem ok_led {f : Addr} {fd : FuncData} (F : Fun K "led" "led" s_led f fd) (T : Tops mg) : FnOk P w K mg base CX0 1 f fd ["found", "last"] (sp_led P w) := by
  refine okLed F sc_led rfl rfl fun cdv A outer s H E hr => ?_
  have nd := sc_led.nd
  refine ⟨_, (pss_cons (ps_set (i := 2) nd rfl (Or.inl rfl) (pe_lst pa_nil))
  (pss_cons (ps_while PassesOwn.never (pt_cmp (pc_notN (pe_ix (ix_K (P := P) (w := w) (hu65 hr)) (pv 0) (pv 1) (fun _ _ => rfl)))) (pss_cons (ps_asg (pe_ix (ix_K (P := P) (w := w) (hu65 hr)) (pv 0) (pv 1) (fun _ _ => rfl)) (pg_tupU (K := K) (n := 2) rfl (pgs_cons (pg_name (i := 1) nd rfl (Or.inl rfl)) (pgs_cons (pg_name (i := 3) nd rfl (Or.inl rfl)) pgs_nil))))
  (pss_one (ps_expr (pe_bm PySem.F.plainAttrs_list PySem.F.slot_list_append PySem.F.type_list_append mt_append (pv 2) (pa_cons (pv 3) pa_nil))))))
  (pss_one (ps_ret (pe_revL (pv 2)))))), fun b Q p xs F start l cc b0 n y hc g hx hn hF => ?_⟩
  refine q_setND (en_lst ea_nil) fun p2 => ?_
  refine c_seq (c_while (fun m Γ => ∃ (l1 : List Pr) (y1 : Option (List Pr × Mv)) (ms : List Mv) (p2 : Addr) (e3 : Ent), Γ = [.own p (xD P w p (kvP F) xs), .dat (eD l1), .own p2 (lD (ms.map eM)), e3] ∧ look F l1 = some (m, y1) ∧ ms ++ back F m l1 = back F n l ∧ ms.length + m = n) n ⟨l, y, [], p2, .un, rfl, hx, rfl, by simp⟩ fun m Γ1 hI => ?_)
  obtain ⟨l1, y1, ms, p2, e3, rfl, h1, h2, h3⟩ := hI
  have hd : dget (kvP F) l1 = some (fromD y1) := by rw [dget_P, h1]; rfl
  refine ⟨(· = !y1.isNone), EbD.to (eb_val (ev_notN (ev_ixX (p := p) (kvs := kvP F) (xs := xs) (l := l1) rfl (ev_var rfl) hd))) (by cases y1 <;> rfl), fun h => ?_, fun h => ?_⟩
  · cases m with
    | zero =>
      obtain ⟨_, rfl⟩ := look_zero g h1
      cases h
    | succ m =>
      obtain ⟨h', mv, rfl, hs, y', hy'⟩ := look_succ g h1
      refine q_asg (P := (· = .tuple [eD h', eM mv])) (ev_ixX (p := p) (kvs := kvP F) (xs := xs) (l := l1) rfl (ev_var rfl) hd) fun d e => ?_
      subst e
      refine ⟨_, tg_pair (by simp) (by simp), ?_⟩
      refine c_app (d := eM mv) rfl (ev_var rfl) ?_ (c_nx ⟨m, by omega, h', y', ms ++ [mv], p2, _, by rw [List.map_append]; rfl, hy', ?_, by simp; omega⟩)
      · rw [List.length_map]
        omega
      · rw [← h2, back, h1, List.append_assoc]
        rfl
  · have hy : y1 = none := by
      cases y1 with
      | none => rfl
      | some z => cases h
    subst hy
    have hm : m = 0 := by
      cases m with
      | zero => rfl
      | succ m =>
        obtain ⟨_, _, e, _⟩ := look_succ g h1
        cases e
    subst hm
    refine c_free (i := 2) rfl ?_
    refine c_retX (R := (· = .list ((back F n l).reverse.map eM))) (p := p) (kvs := kvP F) (xs := xs) (i := 0) rfl (EvD.to (ev_revL (ev_var rfl)) ?_) fun v d H' a1 a2 a3 a4 => hF v d H' a1 a2 a3 a4
    rw [← h2]
    show PyData.list (ms.map eM).reverse = .list ((ms ++ []).reverse.map eM)
    rw [List.append_nil, List.map_reverse]
end

/-! ### way -/
def wayM (c : Pr) (b : Nat) (l m : List Pr) : PyData := if min l.length m.length < b then .none else match look (farTo c b l m) m with
  | some (n, _) => .list ((back (farTo c b l m) n m).reverse.map eM)
  | none => .none
theorem to_cons {c : Pr} {b n k : Nat} {m : List Pr} {F : List Node} {line : List (List Pr)} (h : line ≠ []) (h2 : has F m = false) : bfsTo c b m (k + 1) n F line = bfsTo c b m k (n + 1) (layer c b n F line).1 (layer c b n F line).2 := by
  have e : line.isEmpty = false := by cases line with
    | nil => exact absurd rfl h
    | cons _ _ => rfl
  rw [bfsTo, e, h2]
  rfl
theorem to_stop {c : Pr} {b n : Nat} {m : List Pr} {F : List Node} {line : List (List Pr)} (h : line = [] ∨ has F m = true) : ∀ k, bfsTo c b m k n F line = F
  | 0 => rfl
  | k + 1 => by
    rw [bfsTo, if_pos]
    rcases h with h | h
    · rw [h]
      rfl
    · rw [h, Bool.or_true]
abbrev sp_way : Sp := spP (fun a : Pr × List Pr × List Pr × Nat => [eP a.1, eD a.2.1, eD a.2.2.1, .int (a.2.2.2 : Int)]) (fun a => okC a.1 = true ∧ Bt.okD a.1 a.2.1 = true ∧ Bt.okD a.1 a.2.2.1 = true) (fun a d => d = wayM a.1 a.2.2.2 a.2.1 a.2.2.1)
section
variable {P : Program} {w : World} {K : PySem.W.Frag} {mg : Str → Option Value} {base : Heap}
theorem ok_way {f : Addr} {fd : FuncData} (F : Fun K "way" "way" s_way f fd) (T : Tops mg) (C_moves : Callee P w K mg base "moves" 5 ["coat", "doing"] sp_moves) (C_led : Callee P w K mg base "led" 1 ["found", "last"] (sp_led P w)) : FnOk P w K mg base CX0 6 f fd ["coat", "one", "other", "least"] sp_way := by
  refine okP F sc_way rfl (fun _ => rfl) fun cdv A outer s H E a hr hp => ?_
  obtain ⟨c, l, mm, b0⟩ := a
  obtain ⟨h1, h2, h3⟩ := hp
  have hc : okC c = true := h1
  have hl : Bt.okD c l = true := h2
  have hm : Bt.okD c mm = true := h3
  have zl := okD_len hc hl
  clear h1 h2 h3
  have nd := sc_way.nd
  refine ⟨_, (pss_cons (ps_if (pt_cmpR op_lt (pe_callB (call_min2U rfl) (by rfl) T.m_min (by decide +kernel) (pa_cons (pe_callB (call_lenU (K := K)) (by rfl) T.m_len (by decide +kernel) (pa_cons (pv 1) pa_nil)) (pa_cons (pe_callB (call_lenU (K := K)) (by rfl) T.m_len (by decide +kernel) (pa_cons (pv 2) pa_nil)) pa_nil))) (pv 3) (nomark _)) (pss_one (ps_ret pe_non)) pss_nil)
  (pss_cons (ps_par (i := 4) (j := 5) rfl nd rfl rfl (by decide) rfl rfl (pa_cons (pe_oneK (P := P) (w := w) (hu65 hr) (pv 1) pe_non) (pa_cons (pe_lst (pa_cons (pv 1) pa_nil)) pa_nil)) (by rfl))
  (pss_cons (ps_while PassesOwn.never (PW.pt (pw_and (pt_cmpR (op_neU (K := K) (hu64 hr)) (pv 5) (pe_lst pa_nil) (nomark _)) (pw_and1 (pt_cmpR (op_niK (P := P) (w := w) (hu65 hr)) (pv 2) (pv 4) (by rfl))))) (pss_cons (ps_set (i := 6) nd rfl (Or.inl rfl) (pe_lst pa_nil))
  (pss_cons (ps_for PassesOwn.never rfl (pi_list (pv 5)) (pg_name (i := 7) nd rfl (Or.inl rfl)) (pss_one (ps_for PassesOwn.never rfl (pi_list (pe_callC C_moves (hr.mono (by first | decide | omega)) (by rfl) (pa_cons (pv 0) (pa_cons (pv 7) pa_nil)))) (pg_tupU (K := K) (n := 2) rfl (pgs_cons (pg_name (i := 8) nd rfl (Or.inl rfl)) (pgs_cons (pg_name (i := 9) nd rfl (Or.inl rfl)) pgs_nil))) (pss_one (ps_if (PW.pt (pw_and (pt_cmpR (op_niK (P := P) (w := w) (hu65 hr)) (pv 9) (pv 4) (by rfl)) (pw_and1 (pt_cmpR op_ge (pe_callB (call_lenU (K := K)) (by rfl) T.m_len (by decide +kernel) (pa_cons (pv 9) pa_nil)) (pv 3) (nomark _))))) (pss_cons (ps_asg (pe_tup (pa_cons (pv 7) (pa_cons (pv 8) pa_nil))) (pg_sub (pv 4) (pv 9) (set_K (P := P) (w := w) (hu65 hr))))
  (pss_one (ps_expr (pe_bm PySem.F.plainAttrs_list PySem.F.slot_list_append PySem.F.type_list_append mt_append (pv 6) (pa_cons (pv 9) pa_nil))))) pss_nil)))))
  (pss_one (ps_set (i := 5) nd rfl (Or.inl rfl) (pv 6))))))
  (pss_one (ps_ret (pe_ifExp (pt_cmpR (op_inK (P := P) (w := w) (hu65 hr)) (pv 2) (pv 4) (by rfl)) (pe_callC C_led (hr.mono (by first | decide | omega)) (by rfl) (pa_cons (pv 4) (pa_cons (pv 2) pa_nil))) pe_non)))))), fun b Q hT hF0 => ?_⟩
  have hF : Fin b (fun d => d = wayM c b0 l mm) Q := hF0
  clear hF0
  refine c_when (k := decide (min l.length mm.length < b0)) (EbD.to (eb_test (ev_op (ev_cb (ea_2 (ev_cb (ea_1 (ev_var rfl)) cd_lenT) (ev_cb (ea_1 (ev_var rfl)) cd_lenT)) cd_min2) (ev_var rfl) od_B0)) ?_) (fun h => c_retF hF (EvD.to ev_non ?_)) fun h => ?_
  · rw [List.length_map, List.length_map, Bool.eq_iff_iff]
    simp only [decide_eq_true_eq]
    split <;> omega
  · unfold wayM
    rw [if_pos (of_decide_eq_true h)]
  have hge : ¬ min l.length mm.length < b0 := of_decide_eq_false h
  refine q_parK (ek_one (l := l) (ev_var rfl) ev_non) (ev_lst (ea_1 (ev_var rfl))) fun p kvs e => ?_
  subst e
  obtain ⟨g0, n0⟩ := good_start hl (b := b0) (by omega)
  refine c_seq (c_while (fun m Γ => ∃ (n : Nat) (F : List Node) (line : List (List Pr)) (k : Nat) (p : Addr) (e5 e6 e7 e8 : Ent), Γ = [.dat (eP c), .dat (eD l), .dat (eD mm), .dat (.int (b0 : Int)), .own p (dD P w p (kvP F)), .dat (.list (line.map eD)), e5, e6, e7, e8] ∧ Good c b0 l F ∧ Lined n F line ∧ room F line ≤ k ∧ bfsTo c b0 mm k n F line = farTo c b0 l mm ∧ m = room F line) _ ⟨0, [(l, 0, none)], [l], 506, p, .un, .un, .un, .un, rfl, g0, n0, room_start l, rfl, rfl⟩ fun m Γ1 hI => ?_)
  obtain ⟨n, F, line, k, p, e5, e6, e7, e8, rfl, g, hn, hk, hb, rfl⟩ := hI
  have zF := good_len hc g
  refine ⟨(· = (!line.isEmpty && !has F mm)), eb_and (EbD.to (eb_test (ev_op (ev_var rfl) (ev_lst ea_nil) (od_ne (sh_Ds _) sh_nil))) (by rw [eqv_nil, isEmpty_map])) fun _ => EbD.to (eb_test (ev_inK (neg := true) (p := p) (kvs := kvP F) (l := mm) (ev_var rfl) rfl)) (by rw [has_P]; cases has F mm <;> rfl), fun h => ?_, fun h => ?_⟩
  · have hne : line ≠ [] := by
      intro e
      rw [e] at h
      cases h
    have hnm : has F mm = false := by
      have h' : true = (!line.isEmpty && !has F mm) := h
      cases q : has F mm with
      | false => rfl
      | true => rw [q] at h'; simp at h'
    refine q_setND (en_lst ea_nil) fun p2 => ?_
    refine q_for_list (ds := line.map eD) (ev_var rfl) (fun i Γ => ∃ (st : Bt.St) (p p2 : Addr) (e6 e7 e8 : Ent), st = (line.take i).foldl (visits c b0 n) (F, []) ∧ Γ = [.dat (eP c), .dat (eD l), .dat (eD mm), .dat (.int (b0 : Int)), .own p (dD P w p (kvP st.1)), .dat (.list (line.map eD)), .own p2 (lD (st.2.map eD)), e6, e7, e8] ∧ Good c b0 l st.1 ∧ Lined (n + 1) st.1 st.2 ∧ Grows F st.1 ∧ st.2.length ≤ st.1.length) ⟨(F, []), p, p2, e6, e7, e8, rfl, rfl, g, ⟨fun _ h => nomatch h⟩, .refl F, Nat.zero_le _⟩ (fun G i d Γ1 hd hI => ?_) fun Γ1 hI => ?_
    · obtain ⟨st, p, p2, e6, e7, e8, hst, rfl, gs, ns, grs, hle⟩ := hI
      rw [List.getElem?_map] at hd
      obtain ⟨here, hh, rfl⟩ := Option.map_eq_some_iff.mp hd
      have hmem := List.mem_of_getElem? hh
      obtain ⟨x, hx⟩ := hn.at_ here hmem
      have hok : okD c here = true := (g.ok _ (look_mem hx)).1
      have hx' := grs.look hx
      have hsl := steps_len hc here
      have zh := okD_len hc hok
      refine ⟨_, tg_name (by simp), ?_⟩
      refine c_for_list (ds := (steps c here).map eSt) (ev_call (c, here) (ea_2 (ev_var rfl) (ev_var rfl)) ⟨hc, hok⟩) (fun j Γ => ∃ (su : Bt.St) (p p2 : Addr) (e7 e8 : Ent), su = ((steps c here).take j).foldl (visit b0 n here) st ∧ Γ = [.dat (eP c), .dat (eD l), .dat (eD mm), .dat (.int (b0 : Int)), .own p (dD P w p (kvP su.1)), .dat (.list (line.map eD)), .own p2 (lD (su.2.map eD)), .dat (eD here), e7, e8] ∧ Good c b0 l su.1 ∧ Lined (n + 1) su.1 su.2 ∧ Grows st.1 su.1 ∧ su.2.length ≤ su.1.length) ⟨st, p, p2, e7, e8, rfl, rfl, gs, ns, .refl _, hle⟩ (fun G j d Γ1 hd hI => ?_) fun Γ1 hI => ?_
      · obtain ⟨su, p, p2, e7, e8, hsu, rfl, gu, nu, gru, hleu⟩ := hI
        rw [List.getElem?_map] at hd
        obtain ⟨s, hs, rfl⟩ := Option.map_eq_some_iff.mp hd
        have hsm := List.mem_of_getElem? hs
        have hxu := gru.look hx'
        obtain ⟨g1, n1⟩ := good_visit (n := n) hc gu ⟨x, hxu⟩ nu hsm
        have zu := good_len hc gu
        have nxt : visit b0 n here su s = ((steps c here).take (j + 1)).foldl (visit b0 n here) st := by
          rw [List.take_add_one, hs, List.foldl_append, ← hsu]
          rfl
        have hle1 := visit_le (b := b0) (n := n) (here := here) (s := s) hleu
        have gr1 := gru.trans (grows_visit (b := b0) (n := n) (here := here) (s := s) su)
        refine ⟨_, tg_pair (by simp) (by simp), ?_⟩
        refine c_if (k := !has su.1 s.2 && decide (b0 ≤ s.2.length)) (eb_and (EbD.to (eb_test (ev_inK (neg := true) (p := p) (kvs := kvP su.1) (l := s.2) (ev_var rfl) rfl)) (by rw [has_P]; cases has su.1 s.2 <;> rfl)) fun _ => EbD.to (eb_test (ev_op (ev_cb (ea_1 (ev_var rfl)) cd_lenT) (ev_var rfl) od_B0)) ?_) (fun h => ?_) fun h => c_skip (c_nx ⟨visit b0 n here su s, p, p2, .dat (eM s.1), .dat (eD s.2), nxt, ?_, g1, n1, gr1, hle1⟩)
        · rw [List.length_map, Bool.eq_iff_iff]
          simp only [decide_eq_true_eq]
          omega
        · have hv : visit b0 n here su s = (su.1 ++ [(s.2, n + 1, some (here, s.1))], su.2 ++ [s.2]) := by
            unfold visit
            rw [if_pos h]
          have hno : has su.1 s.2 = false := by
            rw [Bool.and_eq_true, Bool.not_eq_true'] at h
            exact h.1
          refine q_setK (d := .tuple [eD here, eM s.1]) (l := s.2) rfl (ev_tup (ea_2 (ev_var rfl) (ev_var rfl))) (ev_var rfl) (none_P hno) (by unfold kvP; rw [List.length_map]; omega) ?_
          refine c_app rfl (ev_var rfl) (by rw [List.length_map]; omega) (c_nx ⟨visit b0 n here su s, p, p2, .dat (eM s.1), .dat (eD s.2), nxt, ?_, g1, n1, gr1, hle1⟩)
          rw [hv]
          unfold kvP
          rw [List.map_append, List.map_append]
          rfl
        · have hv : visit b0 n here su s = su := by
            unfold visit
            rw [if_neg (by rw [h]; exact Bool.false_ne_true)]
          rw [hv]
          rfl
      · obtain ⟨su, p, p2, e7, e8, hsu, rfl, gu, nu, gru, hleu⟩ := hI
        refine c_nx ⟨su, p, p2, _, e7, e8, ?_, rfl, gu, nu, grs.trans gru, hleu⟩
        rw [hsu, List.length_map, List.take_length, List.take_add_one, hh, List.foldl_append, ← hst]
        rfl
    · obtain ⟨st, p, p2, e6, e7, e8, hst, rfl, gs, ns, grs, hle⟩ := hI
      rw [List.length_map, List.take_length] at hst
      have hst' : st = layer c b0 n F line := hst
      refine c_free (i := 6) rfl (c_set (ev_var rfl) (c_nx ?_))
      have hrd := room_down (b := b0) hc g hn hne
      obtain ⟨k, rfl⟩ : ∃ k', k = k' + 1 := ⟨k - 1, by omega⟩
      rw [to_cons hne hnm, ← hst'] at hb
      rw [← hst'] at hrd
      exact ⟨room st.1 st.2, hrd, n + 1, st.1, st.2, k, p, _, e6, e7, e8, rfl, gs, ns, by omega, hb, rfl⟩
  · have hs : line = [] ∨ has F mm = true := by
      have h' : false = (!line.isEmpty && !has F mm) := h
      cases line with
      | nil => exact .inl rfl
      | cons x r =>
        right
        cases q : has F mm with
        | true => rfl
        | false => rw [q] at h'; cases h'
    rw [to_stop hs] at hb
    have hw : wayM c b0 l mm = match look F mm with
        | some (n, _) => .list ((back F n mm).reverse.map eM)
        | none => .none := by
      unfold wayM
      rw [if_neg hge, ← hb]
    have hmx : MaxD 506 F := by
      rw [hb]
      have := max_to (c := c) (b := b0) (m := mm) 506 0 [(l, 0, none)] [l] fun e he => by rw [List.mem_singleton.mp he]; exact Nat.le_refl _
      rwa [Nat.zero_add] at this
    cases q : look F mm with
    | none =>
      refine c_retF hF (EvD.to (ev_if (k := false) (d := .none) (EbD.to (eb_test (ev_inK (neg := false) (p := p) (kvs := kvP F) (l := mm) (ev_var rfl) rfl)) (by rw [has_P, has_look, q]; rfl)) (fun h => nomatch h) fun _ => ev_non) ?_)
      rw [hw, q]
      rfl
    | some x =>
      obtain ⟨n', x⟩ := x
      refine c_retF hF (EvD.to (ev_if (k := true) (d' := .none) (EbD.to (eb_test (ev_inK (neg := false) (p := p) (kvs := kvP F) (l := mm) (ev_var rfl) rfl)) (by rw [has_P, has_look, q]; rfl)) (fun _ => ev_led (p := p) (F := F) (l := mm) rfl (ev_var rfl) hc g q (by have h9 : n' ≤ 506 := hmx _ (look_mem q); omega)) fun h => nomatch h) ?_)
      rw [hw, q]
      rfl
end

/-! ### fewest -/
def distD : Option Nat → PyData
  | some n => .int (n : Int)
  | none => .none
theorem way_dist {c : Pr} {b : Nat} {l m : List Pr} (hc : okC c = true) (hl : Bt.okD c l = true) : (wayM c b l m = .none ∧ dist c b l m = none) ∨ ∃ (ms : List Mv) (f : List (List Pr)), wayM c b l m = .list (ms.map eM) ∧ dist c b l m = some ms.length ∧ pathM c [] l ms = some (f, m) ∧ (∀ z ∈ f ++ [m], b ≤ z.length) ∧ ms.length ≤ 506 := by
  unfold wayM dist
  by_cases h : min l.length m.length < b
  · rw [if_pos h]
    refine .inl ⟨rfl, ?_⟩
    by_cases h2 : l.length < b
    · rw [if_pos h2]
    · rw [if_neg h2]
      cases q : look (far c b l) m with
      | none => rfl
      | some x =>
        have := ((good_far hc hl (by omega)).ok _ (look_mem q)).2
        simp only at this
        omega
  · rw [if_neg h, if_neg (by omega)]
    have e : look (farTo c b l m) m = look (far c b l) m := look_to m 506 0 _ _
    rw [← e]
    obtain ⟨g0, n0⟩ := good_start hl (b := b) (by omega)
    have g : Good c b l (farTo c b l m) := good_to hc 506 0 _ _ g0 n0
    cases q : look (farTo c b l m) m with
    | none => exact .inl ⟨rfl, rfl⟩
    | some x =>
      obtain ⟨n, x⟩ := x
      obtain ⟨f, p1, p2, p3⟩ := back_path g n q
      have hx := max_to (c := c) (b := b) (m := m) 506 0 [(l, 0, none)] [l] fun e he => by rw [List.mem_singleton.mp he]; exact Nat.le_refl _
      have h9 : n ≤ 0 + 506 := hx _ (look_mem q)
      exact .inr ⟨_, f, rfl, by rw [List.length_reverse, p3]; rfl, p1, p2, by rw [List.length_reverse, p3]; omega⟩
abbrev sp_fewest : Sp := spP (fun a : Pr × List Pr × List Pr × Nat => [eP a.1, eD a.2.1, eD a.2.2.1, .int (a.2.2.2 : Int)]) (fun a => okC a.1 = true ∧ Bt.okD a.1 a.2.1 = true ∧ Bt.okD a.1 a.2.2.1 = true) (fun a d => d = distD (dist a.1 a.2.2.2 a.2.1 a.2.2.1))
section
variable {P : Program} {w : World} {K : PySem.W.Frag} {mg : Str → Option Value} {base : Heap}
theorem ok_fewest {f : Addr} {fd : FuncData} (F : Fun K "fewest" "fewest" s_fewest f fd) (T : Tops mg) (C_way : Callee P w K mg base "way" 6 ["coat", "one", "other", "least"] sp_way) : FnOk P w K mg base CX0 7 f fd ["coat", "one", "other", "least"] sp_fewest := by
  refine okP F sc_fewest rfl (fun _ => rfl) fun cdv A outer s H E a hr hp => ?_
  obtain ⟨c, l, m, b0⟩ := a
  have hc : okC c = true := hp.1
  have hl : Bt.okD c l = true := hp.2.1
  have nd := sc_fewest.nd
  refine ⟨_, (pss_cons (ps_set (i := 4) nd rfl (Or.inl rfl) (pe_callC C_way (hr.mono (by first | decide | omega)) (by rfl) (pa_cons (pv 0) (pa_cons (pv 1) (pa_cons (pv 2) (pa_cons (pv 3) pa_nil))))))
  (pss_one (ps_ret (pe_ifExp (pt_cmp (pc_notN (pv 4))) (pe_callB (call_lenU (K := K)) (by rfl) T.m_len (by decide +kernel) (pa_cons (pv 4) pa_nil)) pe_non)))), fun b Q hT hF0 => ?_⟩
  have hF : Fin b (fun d => d = distD (dist c b0 l m)) Q := hF0
  refine q_set (d := wayM c b0 l m) (ev_call (c, l, m, b0) (ea_cons (ev_var rfl) (ea_cons (ev_var rfl) (ea_2 (ev_var rfl) (ev_var rfl)))) hp) ?_
  rcases way_dist (b := b0) (m := m) hc hl with ⟨e1, e2⟩ | ⟨ms, f, e1, e2, _⟩
  · rw [e1]
    exact c_retF hF (EvD.to (ev_if (k := false) (d := .none) (EbD.to (eb_val (ev_notN (ev_var rfl))) rfl) (fun h => nomatch h) fun _ => ev_non) (by rw [e2]; rfl))
  · rw [e1]
    exact c_retF hF (EvD.to (ev_if (k := true) (d' := .none) (EbD.to (eb_val (ev_notN (ev_var rfl))) rfl) (fun _ => ev_cb (ea_1 (ev_var rfl)) cd_lenL) fun h => nomatch h) (by rw [e2, List.length_map]; rfl))
end

/-! ### all_fewest -/
def rowM (c : Pr) (l m : List Pr) : List PyData := (List.range (canM c l m + 1)).map fun b => distD (dist c b l m)
abbrev sp_all_fewest : Sp := spP (fun a : Pr × List Pr × List Pr => [eP a.1, eD a.2.1, eD a.2.2]) (fun a => okC a.1 = true ∧ Bt.okD a.1 a.2.1 = true ∧ Bt.okD a.1 a.2.2 = true) (fun a d => d = .list (rowM a.1 a.2.1 a.2.2))
section
variable {P : Program} {w : World} {K : PySem.W.Frag} {mg : Str → Option Value} {base : Heap}
theorem ok_all_fewest {f : Addr} {fd : FuncData} (F : Fun K "all_fewest" "all_fewest" s_all_fewest f fd) (T : Tops mg) (C_can_stay : Callee P w K mg base "can_stay" 6 ["coat", "one", "other"] sp_can_stay) (C_fewest : Callee P w K mg base "fewest" 7 ["coat", "one", "other", "least"] sp_fewest) : FnOk P w K mg base CX0 8 f fd ["coat", "one", "other"] sp_all_fewest := by
  refine okP F sc_all_fewest rfl (fun _ => rfl) fun cdv A outer s H E a hr hp => ?_
  obtain ⟨c, l, m⟩ := a
  obtain ⟨h1, h2, h3⟩ := hp
  have hc : okC c = true := h1
  have hl : Bt.okD c l = true := h2
  have hm : Bt.okD c m = true := h3
  have zl := okD_len hc hl
  have zc := (can_le c l m).1
  have nd := sc_all_fewest.nd
  refine ⟨_, (pss_one (ps_ret (pe_lc (own := [("least", 3)]) rfl nd (pi_range1 (by rfl) T.m_range (pa_cons (pe_op (op_addU (K := K)) (pe_callC C_can_stay (hr.mono (by first | decide | omega)) (by rfl) (pa_cons (pv 0) (pa_cons (pv 1) (pa_cons (pv 2) pa_nil)))) pe_int) pa_nil)) (blkOk_by (N := ["coat", "one", "other", "least"]) (sc := defScope s_all_fewest) (by decide +kernel)) (fun _ _ _ _ _ => pg_name (i := 3) nd rfl (Or.inl rfl)) (fun _ _ _ _ _ => pts_nil) (fun _ _ _ _ _ => (pe_callC C_fewest (hr.mono (by first | decide | omega)) (by rfl) (pa_cons (pv 0) (pa_cons (pv 1) (pa_cons (pv 2) (pa_cons (pv 3) pa_nil))))))))), fun b Q hT hF0 => ?_⟩
  have hF : Fin b (fun d => d = .list (rowM c l m)) Q := hF0
  refine c_retF hF (EvD.to (EnD.ev (en_lc_rng1D (n := (canM c l m : Int) + 1) (fun _ => true) (fun d => match d with
    | .int k => distD (dist c k.toNat l m)
    | _ => d) (ea_1 (ev_op (ev_call (c, l, m) (ea_cons (ev_var rfl) (ea_2 (ev_var rfl) (ev_var rfl))) ⟨hc, hl, hm⟩) ev_int od_addI)) (by omega) fun i hi => ⟨_, tgc_name (by simp), eb_yes, fun _ => EvD.to (ev_call (c, l, m, i) (ea_cons (ev_var rfl) (ea_cons (ev_var rfl) (ea_2 (ev_var rfl) (ev_var rfl)))) ⟨hc, hl, hm⟩) ?_⟩)) ?_)
  · rfl
  · unfold rowM
    rw [filter_yes, List.map_map]
    congr 1
end

/-! ### moved -/
abbrev sp_moved : Sp := spP (fun a : Pr × List Pr × PyData => [eP a.1, eD a.2.1, a.2.2]) (fun a => okC a.1 = true ∧ okD a.1 a.2.1 = true) (fun a d => d = moveD a.1 a.2.1 a.2.2)
theorem eM_form (k : Bool) (q : Pr) : eM (k, q) = .tuple [.str (word k), eP q] := rfl
section
variable {P : Program} {w : World} {K : PySem.W.Frag} {mg : Str → Option Value} {base : Heap}
theorem ok_moved {f : Addr} {fd : FuncData} (F : Fun K "moved" "moved" s_moved f fd) (T : Tops mg) (C_is_pair : Callee P w K mg base "is_pair" 2 ["coat", "thing"] sp_is_pair) (C_with_pair : Callee P w K mg base "with_pair" 1 ["doing", "pair"] sp_with_pair) (C_without : Callee P w K mg base "without" 1 ["doing", "pair"] sp_without) (C_fits : Callee P w K mg base "fits" 4 ["coat", "doing"] sp_fits) : FnOk P w K mg base CX0 5 f fd ["coat", "doing", "thing"] sp_moved := by
  refine okP F sc_moved rfl (fun _ => rfl) fun cdv A outer s H E a hr hp => ?_
  obtain ⟨c, l, d⟩ := a
  obtain ⟨hc, hl⟩ := hp
  have hc' : okC c = true := hc
  have hl' : okD c l = true := hl
  have hz := okD_len hc' hl'
  have nd := sc_moved.nd
  refine ⟨_, (pss_cons (ps_if (PW.pt (pw_or (pt_not (pt_val (pe_callB (call_isiU (K := K)) (by rfl) T.m_isinstance (by decide +kernel) (pa_cons (pv 2) (pa_cons (pe_bltn (v := .ty "tuple") (by rfl) T.m_tuple (by decide +kernel) rfl) pa_nil))))) (pw_or (pt_cmpR (op_neU (K := K) (hu64 hr)) (pe_callB (call_lenU (K := K)) (by rfl) T.m_len (by decide +kernel) (pa_cons (pv 2) pa_nil)) pe_int (nomark _)) (pw_or (pt_not (pt_val (pe_callB (call_isiU (K := K)) (by rfl) T.m_isinstance (by decide +kernel) (pa_cons (pe_ix (ix_U (K := K)) (pv 2) pe_int (fun _ _ => rfl)) (pa_cons (pe_bltn (v := .ty "str") (by rfl) T.m_str (by decide +kernel) rfl) pa_nil))))) (pw_or1 (pt_not (pt_val (pe_callC C_is_pair (hr.mono (by first | decide | omega)) (by rfl) (pa_cons (pv 0) (pa_cons (pe_ix (ix_U (K := K)) (pv 2) pe_int (fun _ _ => rfl)) pa_nil)))))))))) (pss_one (ps_ret pe_non)) pss_nil)
  (pss_cons (ps_asg (pv 2) (pg_tupU (K := K) (n := 2) rfl (pgs_cons (pg_name (i := 3) nd rfl (Or.inl rfl)) (pgs_cons (pg_name (i := 4) nd rfl (Or.inl rfl)) pgs_nil))))
  (pss_cons (ps_if (PW.pt (pw_and (pt_cmpR (op_eqU (K := K) (hu64 hr)) (pv 3) pe_str (nomark _)) (pw_and1 (pt_cmpR (op_inU (K := K) (hu65 hr)) (pv 4) (pv 1) (by rfl))))) (pss_one (ps_ret (pe_callC C_without (hr.mono (by first | decide | omega)) (by rfl) (pa_cons (pv 1) (pa_cons (pv 4) pa_nil))))) pss_nil)
  (pss_one (ps_ret (pe_ifExp (PW.pt (pw_and (pt_cmpR (op_eqU (K := K) (hu64 hr)) (pv 3) pe_str (nomark _)) (pw_and1 (pt_cmpR (op_inU (K := K) (hu65 hr)) (pv 4) (pe_callC C_fits (hr.mono (by first | decide | omega)) (by rfl) (pa_cons (pv 0) (pa_cons (pv 1) pa_nil))) (by rfl))))) (pe_callC C_with_pair (hr.mono (by first | decide | omega)) (by rfl) (pa_cons (pv 1) (pa_cons (pv 4) pa_nil))) pe_non)))))), fun b Q hT hF => ?_⟩
  have no : (∀ (k : Bool) (q : Pr), inC c q = true → eM (k, q) ≠ d) → PyData.none = moveD c l d := fun h => (moveD_none (next_none hl' h)).symm
  cases d with
  | tuple xs =>
    match xs with
    | [] => exact c_when (k := true) (EbD.to (eb_or (x := false) (y := true) (EbD.to (eb_not (eb_val (ev_isTup (ev_var rfl)))) rfl) fun _ => EbD.to (eb_or (x := true) (y := true) (EbD.to (eb_test (ev_op (ev_cb (ea_1 (ev_var rfl)) cd_lenT) ev_int od_neI)) rfl) fun h => nomatch h) rfl) rfl) (fun _ => c_retF hF (EvD.to ev_non (no fun k q _ e => by rw [eM_form] at e; injection e with e; cases e))) fun h => nomatch h
    | [x] => exact c_when (k := true) (EbD.to (eb_or (x := false) (y := true) (EbD.to (eb_not (eb_val (ev_isTup (ev_var rfl)))) rfl) fun _ => EbD.to (eb_or (x := true) (y := true) (EbD.to (eb_test (ev_op (ev_cb (ea_1 (ev_var rfl)) cd_lenT) ev_int od_neI)) rfl) fun h => nomatch h) rfl) rfl) (fun _ => c_retF hF (EvD.to ev_non (no fun k q _ e => by rw [eM_form] at e; injection e with e; cases e))) fun h => nomatch h
    | x :: y :: z :: r => exact c_when (k := true) (EbD.to (eb_or (x := false) (y := true) (EbD.to (eb_not (eb_val (ev_isTup (ev_var rfl)))) rfl) fun _ => EbD.to (eb_or (x := true) (y := true) (EbD.to (eb_test (ev_op (ev_cb (ea_1 (ev_var rfl)) cd_lenT) ev_int od_neI)) (by
        have : decide (((x :: y :: z :: r).length : Int) = 2) = false := decide_eq_false (by simp only [List.length_cons]; omega)
        rw [this]
        rfl)) fun h => nomatch h) rfl) rfl) (fun _ => c_retF hF (EvD.to ev_non (no fun k q _ e => by rw [eM_form] at e; injection e with e; cases e))) fun h => nomatch h
    | [x, y] =>
      have t12 : ∀ {Γ : List Ent} {t3 : TT} {k : Bool}, Γ[2]? = some (.dat (.tuple [x, y])) → EbD Γ t3 k → EbD Γ (tOr (tNot (tB (tCB (rIsi K) (tCons (tVar 2) (tCons (tC (.ty "tuple")) tNil))))) (tOr (tTest (tOp (rNeU K) (tCB (rLenU K) (tCons (tVar 2) tNil)) (tC (.int 2)))) t3)) k := fun g h => EbD.to (eb_or (x := false) (EbD.to (eb_not (eb_val (ev_isTup (ev_var g)))) rfl) fun _ => EbD.to (eb_or (x := false) (EbD.to (eb_test (ev_op (ev_cb (ea_1 (ev_var g)) cd_lenT) ev_int od_neI)) rfl) fun _ => h) (Bool.false_or _)) (Bool.false_or _)
      refine c_when (k := !isStrD x || !isPairD c y) (t12 rfl (eb_or (eb_not (eb_val (ev_isStr (ev_op (ev_var rfl) ev_int (od_ixT at0))))) fun _ => eb_not (eb_val (ev_call (c, y) (ea_2 (ev_var rfl) (ev_op (ev_var rfl) ev_int (od_ixT at1))) trivial)))) (fun h => c_retF hF (EvD.to ev_non (no fun k q hq e => ?_))) fun h => ?_
      · rw [eM_form] at e
        injection e with e
        injection e with e1 e
        injection e with e2 _
        subst e1 e2
        rw [isPairD_eP, hq] at h
        cases h
      · rw [Bool.or_eq_false_iff, Bool.not_eq_false', Bool.not_eq_false'] at h
        obtain ⟨hx, hy⟩ := h
        obtain ⟨p, rfl, hp⟩ := isPairD_inv hy
        obtain ⟨x, rfl⟩ : ∃ z, x = .str z := by
          cases x with
          | str z => exact ⟨z, rfl⟩
          | _ => cases hx
        refine q_asg (ev_var rfl) fun d hd => ?_
        have hd' : d = .tuple [.str x, eP p] := hd
        subst hd'
        refine ⟨_, tg_pair (by simp) (by simp), ?_⟩
        refine c_when (k := decide (x = ("open" : Str)) && l.contains p) (eb_and (eb_test (ev_op (ev_var rfl) ev_str od_eqS)) fun _ => EbD.to (eb_test (ev_op (ev_var rfl) (ev_var rfl) (od_inT (sh_eP p) (sh_eD l)))) (any_eP p l)) (fun h => ?_) fun h => ?_
        · rw [Bool.and_eq_true, decide_eq_true_eq] at h
          obtain ⟨rfl, h⟩ := h
          exact c_retF hF (EvD.to (ev_call (l, p) (ea_2 (ev_var rfl) (ev_var rfl)) (show l.length ≤ 1000 by omega)) (moveD_some ((next_open c l p).1 (by simpa using h))).symm)
        · by_cases hdo : x = ("do" : Str)
          · subst hdo
            have hk : l.contains p = l.contains p := rfl
            by_cases hf : p ∈ fitL c l
            · refine c_retF hF (EvD.to (ev_if (k := true) (d' := .none) (EbD.to (eb_and (x := true) (y := true) (EbD.to (eb_test (ev_op (ev_var rfl) ev_str od_eqS)) (decide_eq_true rfl)) fun _ => EbD.to (eb_test (ev_op (ev_var rfl) (ev_callN (c, l) (ea_2 (ev_var rfl) (ev_var rfl)) ⟨hc', hl'⟩) (od_inL (sh_eP p) (sh_ePs _)))) ?_) rfl) (fun _ => ev_call (l, p) (ea_2 (ev_var rfl) (ev_var rfl)) ⟨okD_chain hl', show l.length ≤ 1000 by omega⟩) fun h => nomatch h) ?_)
              · rw [any_eP, fits_eq hc' hl']
                simpa using hf
              · exact (moveD_some ((next_do c l p).1 hf)).symm
            · refine c_retF hF (EvD.to (ev_if (k := false) (d := .none) (EbD.to (eb_and (x := true) (y := false) (EbD.to (eb_test (ev_op (ev_var rfl) ev_str od_eqS)) (decide_eq_true rfl)) fun _ => EbD.to (eb_test (ev_op (ev_var rfl) (ev_callN (c, l) (ea_2 (ev_var rfl) (ev_var rfl)) ⟨hc', hl'⟩) (od_inL (sh_eP p) (sh_ePs _)))) ?_) rfl) (fun h => nomatch h) fun _ => ev_non) ?_)
              · rw [any_eP, fits_eq hc' hl']
                simpa using hf
              · exact (moveD_none ((next_do c l p).2 hf)).symm
          · refine c_retF hF (EvD.to (ev_if (k := false) (d := .none) (EbD.to (eb_and (x := false) (y := false) (EbD.to (eb_test (ev_op (ev_var rfl) ev_str od_eqS)) (decide_eq_false hdo)) fun h => nomatch h) rfl) (fun h => nomatch h) fun _ => ev_non) ?_)
            · by_cases hop : x = ("open" : Str)
              · subst hop
                have hn : p ∉ l := by
                  rw [decide_eq_true rfl, Bool.true_and] at h
                  simpa using h
                exact (moveD_none ((next_open c l p).2 hn)).symm
              · refine no fun k q hq e => ?_
                rw [eM_form] at e
                injection e with e
                injection e with e1 e
                injection e1 with e1
                cases k with
                | true => exact hop e1.symm
                | false => exact hdo e1.symm
  | _ => exact c_when (k := true) (EbD.to (eb_or (x := true) (y := true) (EbD.to (eb_not (eb_val (ev_isTup (ev_var rfl)))) rfl) fun h => nomatch h) rfl) (fun _ => c_retF hF (EvD.to ev_non (no fun k q _ e => nomatch e))) fun h => nomatch h
end

/-! ### along -/
abbrev sp_along : Sp := spP (fun a : Pr × List Pr × PyData => [eP a.1, eD a.2.1, a.2.2]) (fun a => okC a.1 = true ∧ okD a.1 a.2.1 = true ∧ ∀ ms, a.2.2 = .list ms → ms.length ≤ 1000) (fun a d => d = pathD a.1 a.2.1 a.2.2)
section
variable {P : Program} {w : World} {K : PySem.W.Frag} {mg : Str → Option Value} {base : Heap}
theorem ok_along {f : Addr} {fd : FuncData} (F : Fun K "along" "along" s_along f fd) (T : Tops mg) (C_moved : Callee P w K mg base "moved" 5 ["coat", "doing", "thing"] sp_moved) : FnOk P w K mg base CX0 6 f fd ["coat", "doing", "thing"] sp_along := by
  refine okP F sc_along rfl (fun _ => rfl) fun cdv A outer s H E a hr hp => ?_
  obtain ⟨c, l, it⟩ := a
  obtain ⟨hc, hl, hs⟩ := hp
  have hc' : okC c = true := hc
  have hl' : okD c l = true := hl
  have hs' : ∀ ms, it = .list ms → ms.length ≤ 1000 := hs
  have nd := sc_along.nd
  refine ⟨_, (pss_cons (ps_if (pt_not (pt_val (pe_callB (call_isiU (K := K)) (by rfl) T.m_isinstance (by decide +kernel) (pa_cons (pv 2) (pa_cons (pe_bltn (v := .ty "list") (by rfl) T.m_list (by decide +kernel) rfl) pa_nil))))) (pss_one (ps_ret pe_non)) pss_nil)
  (pss_cons (ps_set (i := 3) nd rfl (Or.inl rfl) (pe_lst (pa_cons (pv 1) pa_nil)))
  (pss_cons (ps_for PassesOwn.never rfl (pi_list (pv 2)) (pg_name (i := 4) nd rfl (Or.inl rfl)) (pss_cons (ps_set (i := 5) nd rfl (Or.inl rfl) (pe_callC C_moved (hr.mono (by first | decide | omega)) (by rfl) (pa_cons (pv 0) (pa_cons (pe_ix (ix_U (K := K)) (pv 3) (pe_un un_neg pe_int) (fun _ _ => rfl)) (pa_cons (pv 4) pa_nil)))))
  (pss_cons (ps_if (pt_cmp (pc_isN (pv 5))) (pss_one (ps_ret pe_non)) pss_nil)
  (pss_one (ps_expr (pe_bm PySem.F.plainAttrs_list PySem.F.slot_list_append PySem.F.type_list_append mt_append (pv 3) (pa_cons (pv 5) pa_nil)))))))
  (pss_one (ps_ret (pv 3)))))), fun b Q hT hF => ?_⟩
  have no : ∀ d : PyData, isListD d = false → pathD c l d = .none := fun d h => by
    cases d with
    | list ms => cases h
    | _ => rfl
  by_cases hli : isListD it = true
  · obtain ⟨ms, rfl⟩ : ∃ ms, it = .list ms := by
      cases it with
      | list ms => exact ⟨ms, rfl⟩
      | _ => cases hli
    have hms := hs' ms rfl
    refine c_when (k := false) (EbD.to (eb_not (eb_val (ev_isList (ev_var rfl)))) rfl) (fun h => nomatch h) fun _ => ?_
    refine q_setND (en_lst (ea_1 (ev_var rfl))) fun p => ?_
    refine (q_for_list (ds := ms) (ev_var rfl)
      (fun i Γ => ∃ f l' e1 e2, Γ = [.dat (eP c), .dat (eD l), .dat (.list ms), .own p (lD ((f ++ [l']).map eD)), e1, e2] ∧ pathS c [] l ms = pathS c f l' (ms.drop i) ∧ okD c l' = true ∧ f.length = i) ⟨[], l, .un, .un, rfl, rfl, hl', rfl⟩ (fun G i m Γ1 hm hI => ?_) fun Γ1 hI => ?_)
    · obtain ⟨f, l', e1, e2, rfl, hpath, hok, hlen⟩ := hI
      have hil : i < ms.length := (List.getElem?_eq_some_iff.mp hm).1
      have hdrop : ms.drop i = m :: ms.drop (i + 1) := by
        rw [List.drop_eq_getElem_cons hil]
        congr 1
        rw [List.getElem?_eq_getElem hil] at hm
        exact Option.some.inj hm
      refine ⟨_, tg_name (by simp), ?_⟩
      have hlast : atI ((f ++ [l']).map eD) (-1) = some (eD l') := by
        rw [List.map_append]
        exact at_last _ _
      refine q_set (ev_call (c, l', m) (ea_cons (ev_var rfl) (ea_2 (ev_ixO (p := p) rfl (EvD.to (ev_un ev_int ud_neg) rfl) hlast) (ev_var rfl))) ⟨hc', hok⟩) ?_
      show Cont _ _ [.dat (eP c), .dat (eD l), .dat (.list ms), .own p (lD ((f ++ [l']).map eD)), .dat m, .dat (moveD c l' m)] _
      cases hn : nextD c l' m with
      | none =>
        rw [moveD_none hn]
        exact c_when (k := true) (EbD.to (eb_val (ev_isN (ev_var rfl))) rfl) (fun _ => c_retF hF (EvD.to ev_non (pathD_none (by rw [hpath, hdrop, pathS_none hn])).symm)) fun h => nomatch h
      | some s =>
        rw [moveD_some hn]
        refine c_when (k := false) (EbD.to (eb_val (ev_isN (ev_var rfl))) rfl) (fun h => nomatch h) fun _ => ?_
        refine c_app (d := eD s) rfl (ev_var rfl) (by simp; omega) (c_nx ⟨f ++ [l'], s, .dat m, .dat (eD s), ?_, ?_, nextD_ok hc' hok hn, by simp [hlen]⟩)
        · rw [List.map_append, List.map_append, List.map_append]
          rfl
        · rw [hpath, hdrop, pathS_some hn]
    · obtain ⟨f, l', e1, e2, rfl, hpath, hok, hlen⟩ := hI
      refine c_free (i := 3) rfl ?_
      refine c_retF hF (EvD.to (ev_var rfl) ?_)
      exact (pathD_list (by rw [hpath, List.drop_length]; rfl)).symm
  · have hli' : isListD it = false := by simpa using hli
    exact c_when (k := true) (EbD.to (eb_not (eb_val (ev_isList (ev_var rfl)))) (by rw [hli']; rfl)) (fun _ => c_retF hF (EvD.to ev_non (by rw [no it hli']))) fun h => nomatch h
end

/-! ### behind -/
abbrev sp_behind : Sp := spP (fun a : Pr × List Pr × PyData => [eP a.1, eD a.2.1, a.2.2]) (fun a => okC a.1 = true ∧ okD a.1 a.2.1 = true ∧ ∀ ms, a.2.2 = .list ms → ms.length ≤ 1000) (fun a d => d = behD a.1 a.2.1 a.2.2)
section
variable {P : Program} {w : World} {K : PySem.W.Frag} {mg : Str → Option Value} {base : Heap}
theorem ok_behind {f : Addr} {fd : FuncData} (F : Fun K "behind" "behind" s_behind f fd) (T : Tops mg) (C_along : Callee P w K mg base "along" 6 ["coat", "doing", "thing"] sp_along) : FnOk P w K mg base CX0 7 f fd ["coat", "doing", "thing"] sp_behind := by
  refine okP F sc_behind rfl (fun _ => rfl) fun cdv A outer s H E a hr hp => ?_
  obtain ⟨c, l, it⟩ := a
  have nd := sc_behind.nd
  refine ⟨_, (pss_cons (ps_set (i := 3) nd rfl (Or.inl rfl) (pe_callC C_along (hr.mono (by first | decide | omega)) (by rfl) (pa_cons (pv 0) (pa_cons (pv 1) (pa_cons (pv 2) pa_nil)))))
  (pss_one (ps_ret (pe_ifExp (pt_cmp (pc_notN (pv 3))) (pe_ix (ix_U (K := K)) (pv 3) (pe_un un_neg pe_int) (fun _ _ => rfl)) pe_non)))), fun b Q hT hF => ?_⟩
  refine q_set (ev_call (c, l, it) (ea_cons (ev_var rfl) (ea_2 (ev_var rfl) (ev_var rfl))) hp) ?_
  show Cont _ _ [.dat (eP c), .dat (eD l), .dat it, .dat (pathD c l it)] _
  cases h : pathO c l it with
  | none =>
    rw [pathD_no h]
    refine c_retF hF (EvD.to (ev_if (k := false) (d := .none) (EbD.to (eb_val (ev_notN (ev_var rfl))) rfl) (fun h => nomatch h) fun _ => ev_non) (behD_none h).symm)
  | some r =>
    obtain ⟨f, l'⟩ := r
    rw [pathD_some h]
    refine c_retF hF (EvD.to (ev_if (k := true) (d' := .none) (EbD.to (eb_val (ev_notN (ev_var rfl))) rfl) (fun _ => ev_op (ev_var rfl) (EvD.to (ev_un ev_int ud_neg) rfl) (od_ixL (d := eD l') ?_)) fun h => nomatch h) (behD_some h).symm)
    rw [List.map_append]
    exact at_last _ _
end

/-! ### least_done -/
theorem lens_data (f : List (List Pr)) : ((f.map eD).filter (fun _ => true)).map (fun d => match d with
    | .tuple xs => PyData.int xs.length
    | _ => d) = (lens f).map .int := by
  rw [filter_yes, List.map_map]
  unfold lens
  rw [List.map_map]
  refine List.map_congr_left fun x _ => ?_
  show PyData.int ((x.map eP).length : Int) = .int (x.length : Int)
  rw [List.length_map]
abbrev sp_least_done : Sp := spP (fun a : Pr × List Pr × PyData => [eP a.1, eD a.2.1, a.2.2]) (fun a => okC a.1 = true ∧ okD a.1 a.2.1 = true ∧ ∀ ms, a.2.2 = .list ms → ms.length ≤ 1000) (fun a d => d = fewD a.1 a.2.1 a.2.2)
section
variable {P : Program} {w : World} {K : PySem.W.Frag} {mg : Str → Option Value} {base : Heap}
theorem ok_least_done {f : Addr} {fd : FuncData} (F : Fun K "least_done" "least_done" s_least_done f fd) (T : Tops mg) (C_along : Callee P w K mg base "along" 6 ["coat", "doing", "thing"] sp_along) : FnOk P w K mg base CX0 7 f fd ["coat", "doing", "thing"] sp_least_done := by
  refine okP F sc_least_done rfl (fun _ => rfl) fun cdv A outer s H E a hr hp => ?_
  obtain ⟨c, l, it⟩ := a
  have nd := sc_least_done.nd
  refine ⟨_, (pss_cons (ps_set (i := 3) nd rfl (Or.inl rfl) (pe_callC C_along (hr.mono (by first | decide | omega)) (by rfl) (pa_cons (pv 0) (pa_cons (pv 1) (pa_cons (pv 2) pa_nil)))))
  (pss_one (ps_ret (pe_ifExp (pt_cmp (pc_notN (pv 3))) (pe_callB (call_minU (K := K) rfl) (by rfl) T.m_min (by decide +kernel) (pa_cons (pe_lc (own := [("there", 4)]) rfl nd (pi_list (pv 3)) (blkOk_by (N := ["coat", "doing", "thing", "found", "there"]) (sc := defScope s_least_done) (by decide +kernel)) (fun _ _ _ _ _ => pg_name (i := 4) nd rfl (Or.inl rfl)) (fun _ _ _ _ _ => pts_nil) (fun _ _ _ _ _ => (pe_callB (call_lenU (K := K)) (by rfl) T.m_len (by decide +kernel) (pa_cons (pv 4) pa_nil)))) pa_nil)) pe_non)))), fun b Q hT hF => ?_⟩
  refine q_set (ev_call (c, l, it) (ea_cons (ev_var rfl) (ea_2 (ev_var rfl) (ev_var rfl))) hp) ?_
  show Cont _ _ [.dat (eP c), .dat (eD l), .dat it, .dat (pathD c l it), .un] _
  cases h : pathO c l it with
  | none =>
    rw [pathD_no h]
    refine c_retF hF (EvD.to (ev_if (k := false) (d := .none) (EbD.to (eb_val (ev_notN (ev_var rfl))) rfl) (fun h => nomatch h) fun _ => ev_non) (fewD_none h).symm)
  | some r =>
    obtain ⟨f, l'⟩ := r
    rw [pathD_some h]
    obtain ⟨ms, rfl, hlen⟩ := pathO_len h
    have hms : ms.length ≤ 1000 := hp.2.2 ms rfl
    refine c_retF hF (EvD.to (ev_if (k := true) (d' := .none) (EbD.to (eb_val (ev_notN (ev_var rfl))) rfl) (fun _ => ev_cb (ea_1 (EvD.to (EnD.ev (en_lc_listD (ds := (f ++ [l']).map eD) (fun _ => true) (fun d => match d with
      | .tuple xs => .int xs.length
      | _ => d) (ev_var rfl) ?_ fun d hd => ?_)) (congrArg PyData.list (lens_data _)))) (cd_least (by simp))) fun h => nomatch h) (fewD_some h).symm)
    · rw [List.length_map, List.length_append, List.length_singleton]
      omega
    · obtain ⟨x, _, rfl⟩ := List.mem_map.mp hd
      exact ⟨_, tgc_name (by simp), eb_yes, fun _ => ev_cb (ea_1 (ev_var rfl)) cd_lenT⟩
end

/-! ### apart -/
abbrev sp_apart : Sp := spP (fun a : List Pr × List Pr => [eD a.1, eD a.2]) (fun a => a.1.length ≤ 1000 ∧ a.2.length ≤ 1000) (fun a d => d = .int (apartM a.1 a.2))
theorem filter_not_in (l m : List Pr) : (((l.map eP).filter fun d => !(m.map eP).any fun z => PyData.eqv z d).map id).length = (l.filter fun p => !m.contains p).length := by
  rw [List.map_id, List.filter_map, List.length_map]
  congr 1
  exact List.filter_congr fun p _ => by
    show (!(m.map eP).any fun z => PyData.eqv z (eP p)) = _
    rw [any_eP]
section
variable {P : Program} {w : World} {K : PySem.W.Frag} {mg : Str → Option Value} {base : Heap}
theorem ok_apart {f : Addr} {fd : FuncData} (F : Fun K "apart" "apart" s_apart f fd) (T : Tops mg) : FnOk P w K mg base CX0 1 f fd ["one", "other"] sp_apart := by
  refine okP F sc_apart rfl (fun _ => rfl) fun cdv A outer s H E a hr hp => ?_
  obtain ⟨l, m⟩ := a
  obtain ⟨h1, h2⟩ := hp
  have h1' : l.length ≤ 1000 := h1
  have h2' : m.length ≤ 1000 := h2
  have nd := sc_apart.nd
  refine ⟨_, (pss_one (ps_ret (pe_op (op_addU (K := K)) (pe_callB (call_lenU (K := K)) (by rfl) T.m_len (by decide +kernel) (pa_cons (pe_lc (own := [("pair", 2)]) rfl nd (pi_tup (pv 0)) (blkOk_by (N := ["one", "other", "pair"]) (sc := defScope s_apart) (by decide +kernel)) (fun _ _ _ _ _ => pg_name (i := 2) nd rfl (Or.inl rfl)) (fun _ _ _ _ _ => pts_one (pt_cmpR (op_niU (K := K) (hu65 hr)) (pv 2) (pv 1) (by rfl))) (fun _ _ _ _ _ => (pv 2))) pa_nil)) (pe_callB (call_lenU (K := K)) (by rfl) T.m_len (by decide +kernel) (pa_cons (pe_lc (own := [("pair", 2)]) rfl nd (pi_tup (pv 1)) (blkOk_by (N := ["one", "other", "pair"]) (sc := defScope s_apart) (by decide +kernel)) (fun _ _ _ _ _ => pg_name (i := 2) nd rfl (Or.inl rfl)) (fun _ _ _ _ _ => pts_one (pt_cmpR (op_niU (K := K) (hu65 hr)) (pv 2) (pv 0) (by rfl))) (fun _ _ _ _ _ => (pv 2))) pa_nil))))), fun b Q hT hF => ?_⟩
  refine c_retF hF (EvD.to (ev_op (ev_cb (ea_1 (EnD.ev (en_lc_tupD (fun d => !(m.map eP).any fun z => PyData.eqv z d) id (ev_var rfl) (by simp; omega) fun d hd => ?_))) cd_lenL) (ev_cb (ea_1 (EnD.ev (en_lc_tupD (fun d => !(l.map eP).any fun z => PyData.eqv z d) id (ev_var rfl) (by simp; omega) fun d hd => ?_))) cd_lenL) od_addI) ?_)
  · obtain ⟨q, _, rfl⟩ := List.mem_map.mp hd
    exact ⟨_, tgc_name (by simp), eb_test (ev_op (ev_var rfl) (ev_var rfl) (od_niT (sh_eP q) (sh_eD m))), fun _ => ev_var rfl⟩
  · obtain ⟨q, _, rfl⟩ := List.mem_map.mp hd
    exact ⟨_, tgc_name (by simp), eb_test (ev_op (ev_var rfl) (ev_var rfl) (od_niT (sh_eP q) (sh_eD l))), fun _ => ev_var rfl⟩
  · rw [filter_not_in, filter_not_in]
    unfold apartM
    rw [Int.natCast_add]
end

/-! ### _law_three_right -/
abbrev sp__law_three_right : Sp := spP (fun _ : Unit => []) (fun _ => True) (fun _ d => d = .bool true)
theorem rows3_data : ([PyData.tuple [.str ("open" : Str), .tuple [.int 1, .int 2]], .tuple [.str ("do" : Str), .tuple [.int 1, .int 1]], .tuple [.str ("open" : Str), .tuple [.int 2, .int 3]], .tuple [.str ("do" : Str), .tuple [.int 2, .int 2]], .tuple [.str ("do" : Str), .tuple [.int 3, .int 3]]]) = rows3.map eM := rfl
theorem row_three : rowM (3, 3) low3 plain3 = [5, 5].map .int := by
  obtain ⟨h1, _, _⟩ := t_can
  obtain ⟨d1, _, _, d0⟩ := t_dist
  unfold rowM
  rw [h1]
  show [distD (dist (3, 3) 0 low3 plain3), distD (dist (3, 3) 1 low3 plain3)] = _
  rw [d0, d1]
  rfl
section
variable {P : Program} {w : World} {K : PySem.W.Frag} {mg : Str → Option Value} {base : Heap}
theorem ok__law_three_right {f : Addr} {fd : FuncData} (F : Fun K "_law_three_right" "_law_three_right" s__law_three_right f fd) (T : Tops mg) (K_is_coat : KwI P w K mg base "is_coat" 2 ["thing"] sp_is_coat) (K_is_doing : KwI P w K mg base "is_doing" 3 ["coat", "thing"] sp_is_doing) (K_fits : KwI P w K mg base "fits" 4 ["coat", "doing"] sp_fits) (KR_fits : KwR P w K mg base "fits" 4 ["coat", "doing"] sp_fits) (K_can_stay : KwI P w K mg base "can_stay" 6 ["coat", "one", "other"] sp_can_stay) (C_can_stay : Callee P w K mg base "can_stay" 6 ["coat", "one", "other"] sp_can_stay) (K_fewest : KwI P w K mg base "fewest" 7 ["coat", "one", "other", "least"] sp_fewest) (C_fewest : Callee P w K mg base "fewest" 7 ["coat", "one", "other", "least"] sp_fewest) (K_all_fewest : KwI P w K mg base "all_fewest" 8 ["coat", "one", "other"] sp_all_fewest) (K_behind : KwI P w K mg base "behind" 7 ["coat", "doing", "thing"] sp_behind) (K_least_done : KwI P w K mg base "least_done" 7 ["coat", "doing", "thing"] sp_least_done) (K_straighten : KwI P w K mg base "straighten" 6 ["coat", "doing"] sp_straighten) (K_apart : KwI P w K mg base "apart" 1 ["one", "other"] sp_apart) (K_way : KwI P w K mg base "way" 6 ["coat", "one", "other", "least"] sp_way) : FnOk P w K mg base CX0 9 f fd [] sp__law_three_right := by
  refine okP F sc__law_three_right rfl (fun _ => rfl) fun cdv A outer s H E a hr hp => ?_
  have nd := sc__law_three_right.nd
  have hc : okC (3, 3) = true := rfl
  have hl : Bt.okD (3, 3) low3 = true := rfl
  have hh : Bt.okD (3, 3) high3 = true := rfl
  have hp3 : Bt.okD (3, 3) plain3 = true := rfl
  have ho : Bt.okD (3, 3) [(1, 1)] = true := rfl
  have he : Bt.okD (3, 3) [] = true := rfl
  refine ⟨_, (pss_cons (ps_asg (pe_tup (pa_cons (pe_tup (pa_cons pe_int (pa_cons pe_int pa_nil))) (pa_cons (pe_tup (pa_cons (pe_tup (pa_cons pe_int (pa_cons pe_int pa_nil))) (pa_cons (pe_tup (pa_cons pe_int (pa_cons pe_int pa_nil))) pa_nil))) (pa_cons (pe_tup (pa_cons (pe_tup (pa_cons pe_int (pa_cons pe_int pa_nil))) (pa_cons (pe_tup (pa_cons pe_int (pa_cons pe_int pa_nil))) pa_nil))) (pa_cons (pe_tup (pa_cons (pe_tup (pa_cons pe_int (pa_cons pe_int pa_nil))) (pa_cons (pe_tup (pa_cons pe_int (pa_cons pe_int pa_nil))) (pa_cons (pe_tup (pa_cons pe_int (pa_cons pe_int pa_nil))) pa_nil)))) pa_nil))))) (pg_tupU (K := K) (n := 4) rfl (pgs_cons (pg_name (i := 0) nd rfl (Or.inl rfl)) (pgs_cons (pg_name (i := 1) nd rfl (Or.inl rfl)) (pgs_cons (pg_name (i := 2) nd rfl (Or.inl rfl)) (pgs_cons (pg_name (i := 3) nd rfl (Or.inl rfl)) pgs_nil))))))
  (pss_cons (ps_if (PW.pt (pw_or (pt_not (pt_val (pe_callKI K_is_coat (hr.mono (by first | decide | omega)) (by rfl) (pk_cons (pv 0) pk_nil)))) (pw_or (pt_not (pt_val (pe_callKI K_is_doing (hr.mono (by first | decide | omega)) (by rfl) (pk_cons (pv 0) (pk_cons (pv 1) pk_nil))))) (pw_or1 (pt_cmpR (op_neU (K := K) (hu64 hr)) (pe_callKI K_fits (hr.mono (by first | decide | omega)) (by rfl) (pk_cons (pv 0) (pk_cons (pv 1) pk_nil))) (pe_lst pa_nil) (nomark _)))))) (pss_one (ps_ret pe_bl)) pss_nil)
  (pss_cons (ps_if (pt_cmpR (op_neU (K := K) (hu64 hr)) (pe_callKR KR_fits (hr.mono (by first | decide | omega)) (by rfl) (pk_cons (pe_tup (pa_cons (pe_tup (pa_cons pe_int (pa_cons pe_int pa_nil))) pa_nil)) (pk_cons (pv 0) pk_nil))) (pe_lst (pa_cons (pe_tup (pa_cons pe_int (pa_cons pe_int pa_nil))) (pa_cons (pe_tup (pa_cons pe_int (pa_cons pe_int pa_nil))) (pa_cons (pe_tup (pa_cons pe_int (pa_cons pe_int pa_nil))) (pa_cons (pe_tup (pa_cons pe_int (pa_cons pe_int pa_nil))) pa_nil))))) (nomark _)) (pss_one (ps_ret pe_bl)) pss_nil)
  (pss_cons (ps_if (PW.pt (pw_or (pt_cmpR (op_neU (K := K) (hu64 hr)) (pe_callKI K_can_stay (hr.mono (by first | decide | omega)) (by rfl) (pk_cons (pv 0) (pk_cons (pv 1) (pk_cons (pv 3) pk_nil)))) pe_int (nomark _)) (pw_or1 (pt_cmpR (op_neU (K := K) (hu64 hr)) (pe_callC C_can_stay (hr.mono (by first | decide | omega)) (by rfl) (pa_cons (pv 0) (pa_cons (pv 1) (pa_cons (pv 2) pa_nil)))) pe_int (nomark _))))) (pss_one (ps_ret pe_bl)) pss_nil)
  (pss_cons (ps_if (pt_cmpR (op_neU (K := K) (hu64 hr)) (pe_callC C_can_stay (hr.mono (by first | decide | omega)) (by rfl) (pa_cons (pv 0) (pa_cons (pv 1) (pa_cons (pe_tup pa_nil) pa_nil)))) pe_int (nomark _)) (pss_one (ps_ret pe_bl)) pss_nil)
  (pss_cons (ps_if (PW.pt (pw_or (pt_cmpR (op_neU (K := K) (hu64 hr)) (pe_callKI K_fewest (hr.mono (by first | decide | omega)) (by rfl) (pk_cons (pv 0) (pk_cons (pv 1) (pk_cons (pv 3) (pk_cons pe_int pk_nil))))) pe_int (nomark _)) (pw_or1 (pt_cmpR (op_neU (K := K) (hu64 hr)) (pe_callC C_fewest (hr.mono (by first | decide | omega)) (by rfl) (pa_cons (pv 0) (pa_cons (pv 1) (pa_cons (pv 2) (pa_cons pe_int pa_nil))))) pe_int (nomark _))))) (pss_one (ps_ret pe_bl)) pss_nil)
  (pss_cons (ps_if (PW.pt (pw_or (pt_cmp (pc_notN (pe_callC C_fewest (hr.mono (by first | decide | omega)) (by rfl) (pa_cons (pv 0) (pa_cons (pv 1) (pa_cons (pv 2) (pa_cons pe_int pa_nil))))))) (pw_or1 (pt_cmpR (op_neU (K := K) (hu64 hr)) (pe_callKI K_all_fewest (hr.mono (by first | decide | omega)) (by rfl) (pk_cons (pv 0) (pk_cons (pv 1) (pk_cons (pv 3) pk_nil)))) (pe_lst (pa_cons pe_int (pa_cons pe_int pa_nil))) (nomark _))))) (pss_one (ps_ret pe_bl)) pss_nil)
  (pss_cons (ps_set (i := 4) nd rfl (Or.inl rfl) (pe_lst (pa_cons (pe_tup (pa_cons pe_str (pa_cons (pe_tup (pa_cons pe_int (pa_cons pe_int pa_nil))) pa_nil))) (pa_cons (pe_tup (pa_cons pe_str (pa_cons (pe_tup (pa_cons pe_int (pa_cons pe_int pa_nil))) pa_nil))) (pa_cons (pe_tup (pa_cons pe_str (pa_cons (pe_tup (pa_cons pe_int (pa_cons pe_int pa_nil))) pa_nil))) (pa_cons (pe_tup (pa_cons pe_str (pa_cons (pe_tup (pa_cons pe_int (pa_cons pe_int pa_nil))) pa_nil))) (pa_cons (pe_tup (pa_cons pe_str (pa_cons (pe_tup (pa_cons pe_int (pa_cons pe_int pa_nil))) pa_nil))) pa_nil)))))))
  (pss_cons (ps_if (PW.pt (pw_or (pt_cmpR (op_neU (K := K) (hu64 hr)) (pe_callKI K_behind (hr.mono (by first | decide | omega)) (by rfl) (pk_cons (pv 0) (pk_cons (pv 1) (pk_cons (pv 4) pk_nil)))) (pv 3) (nomark _)) (pw_or1 (pt_cmpR (op_neU (K := K) (hu64 hr)) (pe_callKI K_least_done (hr.mono (by first | decide | omega)) (by rfl) (pk_cons (pv 0) (pk_cons (pv 1) (pk_cons (pv 4) pk_nil)))) pe_int (nomark _))))) (pss_one (ps_ret pe_bl)) pss_nil)
  (pss_cons (ps_if (PW.pt (pw_or (pt_cmpR (op_neU (K := K) (hu64 hr)) (pe_callB (call_lenU (K := K)) (by rfl) T.m_len (by decide +kernel) (pa_cons (pe_callKI K_straighten (hr.mono (by first | decide | omega)) (by rfl) (pk_cons (pv 0) (pk_cons (pv 1) pk_nil))) pa_nil)) pe_int (nomark _)) (pw_or1 (pt_cmpR (op_neU (K := K) (hu64 hr)) (pe_callKI K_apart (hr.mono (by first | decide | omega)) (by rfl) (pk_cons (pv 1) (pk_cons (pv 3) pk_nil))) pe_int (nomark _))))) (pss_one (ps_ret pe_bl)) pss_nil)
  (pss_one (ps_ret (pe_cmpR (op_eqU (K := K) (hu64 hr)) (pe_callB (call_lenU (K := K)) (by rfl) T.m_len (by decide +kernel) (pa_cons (pe_callKI K_way (hr.mono (by first | decide | omega)) (by rfl) (pk_cons (pv 0) (pk_cons (pv 1) (pk_cons (pv 3) (pk_cons pe_int pk_nil))))) pa_nil)) pe_int (nomark _)))))))))))))), fun b Q hT hF0 => ?_⟩
  have hF : Fin b (fun d => d = .bool true) Q := hF0
  refine q_asg (P := (· = .tuple [eP (3, 3), eD low3, eD high3, eD plain3])) (ev_tup (ea_cons (ev_tup (ea_2 ev_int ev_int)) (ea_cons (ev_lit (ea_2 (ev_tup (ea_2 ev_int ev_int)) (ev_tup (ea_2 ev_int ev_int)))) (ea_2 (ev_lit (ea_2 (ev_tup (ea_2 ev_int ev_int)) (ev_tup (ea_2 ev_int ev_int)))) (ev_lit (ea_cons (ev_tup (ea_2 ev_int ev_int)) (ea_2 (ev_tup (ea_2 ev_int ev_int)) (ev_tup (ea_2 ev_int ev_int))))))))) fun d hd => ?_
  have hd' : d = _ := hd
  subst hd'
  refine ⟨_, tg_quad (by simp) (by simp) (by simp) (by simp), ?_⟩
  obtain ⟨f1, f2⟩ := t_fits
  obtain ⟨c1, c2, c3⟩ := t_can
  obtain ⟨d1, d2, d3, d4⟩ := t_dist
  obtain ⟨s1, s2⟩ := t_straight
  refine c_when (k := false) (EbD.to (eb_or (x := false) (y := false) (EbD.to (eb_not (eb_val (ev_call (eP (3, 3)) (ea_1 (ev_var rfl)) (fun xs e => by injection e with e; rw [← e]; simp)))) rfl) fun _ => EbD.to (eb_or (x := false) (y := false) (EbD.to (eb_not (eb_val (ev_call ((3, 3), eD low3) (ea_2 (ev_var rfl) (ev_var rfl)) (fun xs e => by injection e with e; rw [← e]; simp [low3])))) (by rw [isDoingD_eD]; rfl)) fun _ => eb_same (EvD.to (ev_callN ((3, 3), low3) (ea_2 (ev_var rfl) (ev_var rfl)) ⟨hc, hl⟩) (by rw [f1] <;> rfl)) (ev_lst ea_nil) (nc_ePs [])) rfl) rfl) (fun h => nomatch h) fun _ => ?_
  refine c_when (k := false) (eb_same (EvD.to (ev_callN ((3, 3), [(1, 1)]) (ea_swap2 (ea_2 (ev_tup (ea_1 (ev_tup (ea_2 ev_int ev_int)))) (ev_var rfl))) ⟨hc, ho⟩) (by rw [f2] <;> rfl)) (ev_lst (ea_cons (ev_tup (ea_2 ev_int ev_int)) (ea_cons (ev_tup (ea_2 ev_int ev_int)) (ea_2 (ev_tup (ea_2 ev_int ev_int)) (ev_tup (ea_2 ev_int ev_int)))))) (nc_ePs [(2, 2), (2, 3), (3, 2), (3, 3)])) (fun h => nomatch h) fun _ => ?_
  refine c_when (k := false) (EbD.to (eb_or (x := false) (y := false) (eb_same (EvD.to (ev_call ((3, 3), low3, plain3) (ea_cons (ev_var rfl) (ea_2 (ev_var rfl) (ev_var rfl))) ⟨hc, hl, hp3⟩) (by rw [c1] <;> rfl)) ev_int (nc_int 1)) fun _ => eb_same (EvD.to (ev_call ((3, 3), low3, high3) (ea_cons (ev_var rfl) (ea_2 (ev_var rfl) (ev_var rfl))) ⟨hc, hl, hh⟩) (by rw [c2] <;> rfl)) ev_int (nc_int 1)) rfl) (fun h => nomatch h) fun _ => ?_
  refine c_when (k := false) (eb_same (EvD.to (ev_call ((3, 3), low3, []) (ea_cons (ev_var rfl) (ea_2 (ev_var rfl) (ev_tup ea_nil))) ⟨hc, hl, he⟩) (by rw [c3] <;> rfl)) ev_int (nc_int 0)) (fun h => nomatch h) fun _ => ?_
  refine c_when (k := false) (EbD.to (eb_or (x := false) (y := false) (eb_same (EvD.to (ev_call ((3, 3), low3, plain3, 1) (ea_cons (ev_var rfl) (ea_cons (ev_var rfl) (ea_2 (ev_var rfl) ev_int))) ⟨hc, hl, hp3⟩) (by rw [d1]; rfl)) ev_int (nc_int 5)) fun _ => eb_same (EvD.to (ev_call ((3, 3), low3, high3, 0) (ea_cons (ev_var rfl) (ea_cons (ev_var rfl) (ea_2 (ev_var rfl) ev_int))) ⟨hc, hl, hh⟩) (by rw [d2]; rfl)) ev_int (nc_int 4)) rfl) (fun h => nomatch h) fun _ => ?_
  refine c_when (k := false) (EbD.to (eb_or (x := false) (y := false) (EbD.to (eb_val (ev_notN (EvD.to (ev_call ((3, 3), low3, high3, 2) (ea_cons (ev_var rfl) (ea_cons (ev_var rfl) (ea_2 (ev_var rfl) ev_int))) ⟨hc, hl, hh⟩) (d' := .none) (by rw [d3]; rfl)))) rfl) fun _ => eb_same (EvD.to (ev_call ((3, 3), low3, plain3) (ea_cons (ev_var rfl) (ea_2 (ev_var rfl) (ev_var rfl))) ⟨hc, hl, hp3⟩) (by rw [row_three] <;> rfl)) (ev_lst (ea_2 ev_int ev_int)) (nc_ints [5, 5])) rfl) (fun h => nomatch h) fun _ => ?_
  refine q_set (d := .list (rows3.map eM)) (EvD.to (ev_lst (ea_cons (ev_tup (ea_2 ev_str (ev_tup (ea_2 ev_int ev_int)))) (ea_cons (ev_tup (ea_2 ev_str (ev_tup (ea_2 ev_int ev_int)))) (ea_cons (ev_tup (ea_2 ev_str (ev_tup (ea_2 ev_int ev_int)))) (ea_2 (ev_tup (ea_2 ev_str (ev_tup (ea_2 ev_int ev_int)))) (ev_tup (ea_2 ev_str (ev_tup (ea_2 ev_int ev_int))))))))) (congrArg PyData.list rows3_data)) ?_
  have hpath : pathO (3, 3) low3 (.list (rows3.map eM)) = some ([low3, [(2, 3)], [(1, 1), (2, 3)], [(1, 1)], [(1, 1), (2, 2)]], plain3) := by
    show pathS (3, 3) [] low3 (rows3.map eM) = _
    rw [pathS_eM, t_path]
  have b1 := behD_some hpath
  have b2 := fewD_some hpath
  rw [t_least] at b2
  have hz : ∀ xs, PyData.list (rows3.map eM) = .list xs → xs.length ≤ 1000 := fun xs e => by
    injection e with e
    rw [← e]
    simp [rows3]
  refine c_when (k := false) (EbD.to (eb_or (x := false) (y := false) (eb_same (EvD.to (ev_call ((3, 3), low3, PyData.list (rows3.map eM)) (ea_cons (ev_var rfl) (ea_2 (ev_var rfl) (ev_var rfl))) ⟨hc, hl, hz⟩) b1) (ev_var rfl) (nc_eD plain3)) fun _ => eb_same (EvD.to (ev_call ((3, 3), low3, PyData.list (rows3.map eM)) (ea_cons (ev_var rfl) (ea_2 (ev_var rfl) (ev_var rfl))) ⟨hc, hl, hz⟩) b2) ev_int (nc_int 1)) rfl) (fun h => nomatch h) fun _ => ?_
  refine c_when (k := false) (EbD.to (eb_or (x := false) (y := false) (eb_same (EvD.to (ev_cb (ea_1 (ev_call ((3, 3), low3) (ea_2 (ev_var rfl) (ev_var rfl)) ⟨hc, hl⟩)) cd_lenL) (by rw [List.length_map, s1] <;> rfl)) ev_int (nc_int 5)) fun _ => eb_same (EvD.to (ev_call (low3, plain3) (ea_2 (ev_var rfl) (ev_var rfl)) ⟨by simp [low3], by simp [plain3]⟩) (by rw [s2] <;> rfl)) ev_int (nc_int 5)) rfl) (fun h => nomatch h) fun _ => ?_
  rcases way_dist (b := 0) (m := plain3) hc hl with ⟨_, e⟩ | ⟨ms, fs, ew, e, _⟩
  · rw [d4] at e
    cases e
  · rw [d4] at e
    have hms : ms.length = 5 := (Option.some.inj e).symm
    exact c_retF hF (ev_same (EvD.to (ev_cb (ea_1 (EvD.to (ev_call ((3, 3), low3, plain3, 0) (ea_cons (ev_var rfl) (ea_cons (ev_var rfl) (ea_2 (ev_var rfl) ev_int))) ⟨hc, hl, hp3⟩) ew)) cd_lenL) (by rw [List.length_map, hms] <;> rfl)) ev_int (nc_int 5))
end

/-! ### number_of -/
abbrev sp_number_of : Sp := spP (fun a : Pr × Nat => [eP a.1, eD ((allS a.1).getD a.2 [])]) (fun a => okC a.1 = true ∧ a.2 < (allS a.1).length) (fun a d => d = .int (a.2 : Int))
section
variable {P : Program} {w : World} {K : PySem.W.Frag} {mg : Str → Option Value} {base : Heap}
theorem ok_number_of {f : Addr} {fd : FuncData} (F : Fun K "number_of" "number_of" s_number_of f fd) (T : Tops mg) (C_all_doings : Callee P w K mg base "all_doings" 1 ["coat"] sp_all_doings) : FnOk P w K mg base CX0 2 f fd ["coat", "doing"] sp_number_of := by
  refine okP F sc_number_of rfl (fun _ => rfl) fun cdv A outer s H E a hr hp => ?_
  obtain ⟨c, n⟩ := a
  obtain ⟨h1, h2⟩ := hp
  have hc : okC c = true := h1
  have hn : n < (allS c).length := h2
  have hnd := allS_nodup hc
  have nd := sc_number_of.nd
  refine ⟨_, (pss_one (ps_ret (pe_bm PySem.F.plainAttrs_list PySem.F.slot_list_index PySem.F.type_list_index (mt_indexU (K := K) (hu65 hr)) (pe_callC C_all_doings (hr.mono (by first | decide | omega)) (by rfl) (pa_cons (pv 0) pa_nil)) (pa_cons (pv 1) pa_nil)))), fun b Q hT hF0 => ?_⟩
  have hF : Fin b (fun d => d = .int (n : Int)) Q := hF0
  have hat : (allS c)[n]? = some ((allS c).getD n []) := by
    rw [List.getD_eq_getElem?_getD, List.getElem?_eq_getElem hn]
    rfl
  refine c_retF hF (ev_index (z := eD ((allS c).getD n [])) (ev_call c (ea_1 (ev_var rfl)) hc) (ev_var rfl) (sh_Ds _) (sh_eD _) (by rw [List.getElem?_map, hat]; rfl) (by rw [eqv_eD, decide_eq_true rfl]) fun m z' hm hz => ?_)
  rw [List.getElem?_map] at hz
  obtain ⟨l, hl, rfl⟩ := Option.map_eq_some_iff.mp hz
  rw [eqv_eD]
  refine decide_eq_false fun e => ?_
  have hm' : m < (allS c).length := by omega
  have := List.pairwise_iff_getElem.mp hnd m n hm' hn hm
  rw [List.getElem?_eq_getElem hm'] at hl
  rw [List.getElem?_eq_getElem hn] at hat
  exact this ((Option.some.inj hl).trans (e.trans (Option.some.inj hat).symm))
end

/-! ### done_up -/
abbrev sp_done_up : Sp := spN (fun c : Pr => [eP c]) (fun c => okC c = true) (fun c ds => ds = ((allS c).filter fun l => (fitL c l).isEmpty).map eD)
theorem up_data (c : Pr) (F : List (List Pr)) : ((F.map eD).filter fun d => (fitL c (lOf d)).isEmpty).map id = (F.filter fun l => (fitL c l).isEmpty).map eD := filter_eD _ _ F fun l _ => by rw [lOf_eD]
section
variable {P : Program} {w : World} {K : PySem.W.Frag} {mg : Str → Option Value} {base : Heap}
theorem ok_done_up {f : Addr} {fd : FuncData} (F : Fun K "done_up" "done_up" s_done_up f fd) (T : Tops mg) (C_fits : Callee P w K mg base "fits" 4 ["coat", "doing"] sp_fits) (C_all_doings : Callee P w K mg base "all_doings" 1 ["coat"] sp_all_doings) : FnOk P w K mg base CX0 5 f fd ["coat"] sp_done_up := by
  refine okN F sc_done_up rfl (fun _ => rfl) fun cdv A outer s H E c hr hp => ?_
  have hc : okC c = true := hp
  have hz := allS_len hc
  have nd := sc_done_up.nd
  refine ⟨_, (pss_one (ps_ret (pe_lc (own := [("doing", 1)]) rfl nd (pi_list (pe_callC C_all_doings (hr.mono (by first | decide | omega)) (by rfl) (pa_cons (pv 0) pa_nil))) (blkOk_by (N := ["coat", "doing"]) (sc := defScope s_done_up) (by decide +kernel)) (fun _ _ _ _ _ => pg_name (i := 1) nd rfl (Or.inl rfl)) (fun _ _ _ _ _ => pts_one (pt_cmpR (op_eqU (K := K) (hu64 hr)) (pe_callC C_fits (hr.mono (by first | decide | omega)) (by rfl) (pa_cons (pv 0) (pa_cons (pv 1) pa_nil))) (pe_lst pa_nil) (nomark _))) (fun _ _ _ _ _ => (pv 1))))), fun b Q hT hF0 => ?_⟩
  refine c_retND (EnD.to (en_lc_listD (fun d => (fitL c (lOf d)).isEmpty) id (ev_call c (ea_1 (ev_var rfl)) hc) (by rw [List.length_map]; omega) fun d hd => ?_) (up_data c (allS c))) hF0 rfl
  obtain ⟨l, hl, rfl⟩ := List.mem_map.mp hd
  have hok := allS_ok hc hl
  refine ⟨_, tgc_name (by simp), EbD.to (eb_test (ev_op (ev_callN (c, l) (ea_2 (ev_var rfl) (ev_var rfl)) ⟨hc, hok⟩) (ev_lst ea_nil) (od_eq (sh_ePs _) sh_nil))) ?_, fun _ => ev_var rfl⟩
  rw [eqv_nil, isEmpty_map, fits_eq hc hok, lOf_eD]
end

/-! ### _law_two_right -/
abbrev sp__law_two_right : Sp := spP (fun _ : Unit => []) (fun _ => True) (fun _ d => d = .bool true)
def numX (c : Pr) (d : PyData) : PyData := match d with
  | .int k => numM c k.toNat
  | d => d
def howX (c : Pr) (d : PyData) : PyData := match d with
  | .int k => .int (((allS c).filter fun l => decide (l.length = k.toNat)).length : Int)
  | d => d
def idxX (F : List (List Pr)) (d : PyData) : PyData := .int (F.idxOf (lOf d) : Int)
theorem num_two : (((List.range (7 : Int).toNat).map fun k : Nat => PyData.int (k : Int)).filter fun _ => true).map (numX (2, 2)) = every2.map eD ++ [.none] := by
  rw [filter_yes, List.map_map]
  show [numM (2, 2) 0, numM (2, 2) 1, numM (2, 2) 2, numM (2, 2) 3, numM (2, 2) 4, numM (2, 2) 5, numM (2, 2) 6] = _
  unfold numM
  rw [w_all]
  rfl
theorem how_two : (((List.range (4 : Int).toNat).map fun k : Nat => PyData.int (k : Int)).filter fun _ => true).map (howX (2, 2)) = [1, 4, 1, 0].map .int := by
  rw [← w_count, filter_yes, List.map_map, List.map_map, ← w_all]
  rfl
theorem idx_two : ((every2.map eD).filter fun _ => true).map (idxX every2) = [0, 1, 2, 3, 4, 5].map .int := by
  have e : ([0, 1, 2, 3, 4, 5].map .int : List PyData) = (every2.map (fun l => every2.idxOf l)).map fun n : Nat => PyData.int (n : Int) := by
    rw [w_idx]
    rfl
  rw [e, filter_yes, List.map_map, List.map_map]
  refine List.map_congr_left fun l _ => ?_
  show PyData.int (every2.idxOf (lOf (eD l)) : Int) = .int (every2.idxOf l : Int)
  rw [lOf_eD]
theorem row_two : rowM (2, 2) [(1, 2)] [(2, 1)] = [2].map .int ∧ rowM (2, 2) [(1, 1)] [(2, 2)] = [2, 2].map .int := by
  obtain ⟨h1, h2⟩ := w_can
  obtain ⟨d1, d2, d3⟩ := w_dist
  unfold rowM
  rw [h1, h2]
  refine ⟨?_, ?_⟩
  · show [distD (dist (2, 2) 0 [(1, 2)] [(2, 1)])] = _
    rw [d1]
    rfl
  · show [distD (dist (2, 2) 0 [(1, 1)] [(2, 2)]), distD (dist (2, 2) 1 [(1, 1)] [(2, 2)])] = _
    rw [d2, d3]
    rfl
section
variable {P : Program} {w : World} {K : PySem.W.Frag} {mg : Str → Option Value} {base : Heap}
theorem ok__law_two_right {f : Addr} {fd : FuncData} (F : Fun K "_law_two_right" "_law_two_right" s__law_two_right f fd) (T : Tops mg) (K_doing_of : KwI P w K mg base "doing_of" 2 ["coat", "number"] sp_doing_of) (K_number_of : KwI P w K mg base "number_of" 2 ["coat", "doing"] sp_number_of) (K_how_many : KwI P w K mg base "how_many" 2 ["coat", "size"] sp_how_many) (K_done_up : KwI P w K mg base "done_up" 5 ["coat"] sp_done_up) (C_all_fewest : Callee P w K mg base "all_fewest" 8 ["coat", "one", "other"] sp_all_fewest) : FnOk P w K mg base CX0 9 f fd [] sp__law_two_right := by
  refine okP F sc__law_two_right rfl (fun _ => rfl) fun cdv A outer s H E a hr hp => ?_
  have nd := sc__law_two_right.nd
  have hc : okC (2, 2) = true := rfl
  refine ⟨_, (pss_cons (ps_set (i := 0) nd rfl (Or.inr rfl) (pe_tup (pa_cons pe_int (pa_cons pe_int pa_nil))))
  (pss_cons (ps_set (i := 1) nd rfl (Or.inl rfl) (pe_lst (pa_cons (pe_tup pa_nil) (pa_cons (pe_tup (pa_cons (pe_tup (pa_cons pe_int (pa_cons pe_int pa_nil))) pa_nil)) (pa_cons (pe_tup (pa_cons (pe_tup (pa_cons pe_int (pa_cons pe_int pa_nil))) (pa_cons (pe_tup (pa_cons pe_int (pa_cons pe_int pa_nil))) pa_nil))) (pa_cons (pe_tup (pa_cons (pe_tup (pa_cons pe_int (pa_cons pe_int pa_nil))) pa_nil)) (pa_cons (pe_tup (pa_cons (pe_tup (pa_cons pe_int (pa_cons pe_int pa_nil))) pa_nil)) (pa_cons (pe_tup (pa_cons (pe_tup (pa_cons pe_int (pa_cons pe_int pa_nil))) pa_nil)) pa_nil))))))))
  (pss_cons (ps_if (pt_cmpR (op_neU (K := K) (hu64 hr)) (pe_lc (own := [("k", 2)]) rfl nd (pi_range1 (by rfl) T.m_range (pa_cons pe_int pa_nil)) (blkOk_by (N := ["my_coat", "every", "k", "my_doing", "big"]) (sc := defScope s__law_two_right) (by decide +kernel)) (fun _ _ _ _ _ => pg_name (i := 2) nd rfl (Or.inl rfl)) (fun _ _ _ _ _ => pts_nil) (fun _ _ _ _ _ => (pe_callKI K_doing_of (hr.mono (by first | decide | omega)) (by rfl) (pk_cons (pv 0) (pk_cons (pv 2) pk_nil))))) (pe_op (op_addU (K := K)) (pv 1) (pe_lst (pa_cons pe_non pa_nil))) (nomark _)) (pss_one (ps_ret pe_bl)) pss_nil)
  (pss_cons (ps_if (pt_cmpR (op_neU (K := K) (hu64 hr)) (pe_lc (own := [("my_doing", 3)]) rfl nd (pi_list (pv 1)) (blkOk_by (N := ["my_coat", "every", "k", "my_doing", "big"]) (sc := defScope s__law_two_right) (by decide +kernel)) (fun _ _ _ _ _ => pg_name (i := 3) nd rfl (Or.inl rfl)) (fun _ _ _ _ _ => pts_nil) (fun _ _ _ _ _ => (pe_callKI K_number_of (hr.mono (by first | decide | omega)) (by rfl) (pk_cons (pv 0) (pk_cons (pv 3) pk_nil))))) (pe_lst (pa_cons pe_int (pa_cons pe_int (pa_cons pe_int (pa_cons pe_int (pa_cons pe_int (pa_cons pe_int pa_nil))))))) (nomark _)) (pss_one (ps_ret pe_bl)) pss_nil)
  (pss_cons (ps_if (pt_cmpR (op_neU (K := K) (hu64 hr)) (pe_lc (own := [("big", 4)]) rfl nd (pi_range1 (by rfl) T.m_range (pa_cons pe_int pa_nil)) (blkOk_by (N := ["my_coat", "every", "k", "my_doing", "big"]) (sc := defScope s__law_two_right) (by decide +kernel)) (fun _ _ _ _ _ => pg_name (i := 4) nd rfl (Or.inl rfl)) (fun _ _ _ _ _ => pts_nil) (fun _ _ _ _ _ => (pe_callKI K_how_many (hr.mono (by first | decide | omega)) (by rfl) (pk_cons (pv 0) (pk_cons (pv 4) pk_nil))))) (pe_lst (pa_cons pe_int (pa_cons pe_int (pa_cons pe_int (pa_cons pe_int pa_nil))))) (nomark _)) (pss_one (ps_ret pe_bl)) pss_nil)
  (pss_cons (ps_if (pt_cmpR (op_neU (K := K) (hu64 hr)) (pe_callKI K_done_up (hr.mono (by first | decide | omega)) (by rfl) (pk_cons (pv 0) pk_nil)) (pe_lst (pa_cons (pe_tup (pa_cons (pe_tup (pa_cons pe_int (pa_cons pe_int pa_nil))) (pa_cons (pe_tup (pa_cons pe_int (pa_cons pe_int pa_nil))) pa_nil))) (pa_cons (pe_tup (pa_cons (pe_tup (pa_cons pe_int (pa_cons pe_int pa_nil))) pa_nil)) (pa_cons (pe_tup (pa_cons (pe_tup (pa_cons pe_int (pa_cons pe_int pa_nil))) pa_nil)) pa_nil)))) (nomark _)) (pss_one (ps_ret pe_bl)) pss_nil)
  (pss_one (ps_ret (pe_and (pe_cmpR (op_eqU (K := K) (hu64 hr)) (pe_callC C_all_fewest (hr.mono (by first | decide | omega)) (by rfl) (pa_cons (pv 0) (pa_cons (pe_tup (pa_cons (pe_tup (pa_cons pe_int (pa_cons pe_int pa_nil))) pa_nil)) (pa_cons (pe_tup (pa_cons (pe_tup (pa_cons pe_int (pa_cons pe_int pa_nil))) pa_nil)) pa_nil)))) (pe_lst (pa_cons pe_int pa_nil)) (nomark _)) (pe_one (pe_cmpR (op_eqU (K := K) (hu64 hr)) (pe_callC C_all_fewest (hr.mono (by first | decide | omega)) (by rfl) (pa_cons (pv 0) (pa_cons (pe_tup (pa_cons (pe_tup (pa_cons pe_int (pa_cons pe_int pa_nil))) pa_nil)) (pa_cons (pe_tup (pa_cons (pe_tup (pa_cons pe_int (pa_cons pe_int pa_nil))) pa_nil)) pa_nil)))) (pe_lst (pa_cons pe_int (pa_cons pe_int pa_nil))) (nomark _)))))))))))), fun b Q hT hF0 => ?_⟩
  have hF : Fin b (fun d => d = .bool true) Q := hF0
  obtain ⟨r1, r2⟩ := row_two
  refine q_set (d := eP (2, 2)) (ev_tup (ea_2 ev_int ev_int)) ?_
  refine q_set (d := .list (every2.map eD)) (ev_lst (ea_cons (ev_tup ea_nil) (ea_cons (ev_tup (ea_1 (ev_tup (ea_2 ev_int ev_int)))) (ea_cons (ev_tup (ea_2 (ev_tup (ea_2 ev_int ev_int)) (ev_tup (ea_2 ev_int ev_int)))) (ea_cons (ev_tup (ea_1 (ev_tup (ea_2 ev_int ev_int)))) (ea_2 (ev_tup (ea_1 (ev_tup (ea_2 ev_int ev_int)))) (ev_tup (ea_1 (ev_tup (ea_2 ev_int ev_int))))))))) (by decide)) ?_
  refine c_when (k := false) (eb_same (d := .list (every2.map eD ++ [.none])) (EnD.ev (EnD.to (en_lc_rng1D (n := 7) (fun _ => true) (numX (2, 2)) (ea_1 ev_int) (by decide) fun j hj => ⟨_, tgc_name (by simp), eb_yes, fun _ => ev_call ((2, 2), j) (ea_2 (ev_var rfl) (ev_var rfl)) hc⟩) num_two)) (ev_op (ev_var rfl) (ev_lst (ea_1 ev_non)) (od_addL (by simp [every2]))) (nc_eDs_none every2)) (fun h => nomatch h) fun _ => ?_
  refine c_when (k := false) (eb_same (EnD.ev (EnD.to (en_lc_listD (fun _ => true) (idxX every2) (ev_var rfl) (by simp [every2]) fun d hd => ?_) idx_two)) (ev_lst (ea_cons ev_int (ea_cons ev_int (ea_cons ev_int (ea_cons ev_int (ea_2 ev_int ev_int)))))) (nc_ints [0, 1, 2, 3, 4, 5])) (fun h => nomatch h) fun _ => ?_
  · obtain ⟨l, hl, rfl⟩ := List.mem_map.mp hd
    obtain ⟨i1, i2⟩ := w_at l hl
    refine ⟨_, tgc_name (by simp), eb_yes, fun _ => EvD.to (ev_call ((2, 2), every2.idxOf l) (ea_2 (ev_var rfl) (EvD.to (ev_var rfl) (by rw [w_all, i2] <;> rfl))) ⟨hc, by rw [w_all]; exact i1⟩) ?_⟩
    unfold idxX
    rw [lOf_eD]
  refine c_when (k := false) (eb_same (EnD.ev (EnD.to (en_lc_rng1D (n := 4) (fun _ => true) (howX (2, 2)) (ea_1 ev_int) (by decide) fun j hj => ⟨_, tgc_name (by simp), eb_yes, fun _ => ev_call ((2, 2), j) (ea_2 (ev_var rfl) (ev_var rfl)) hc⟩) how_two)) (ev_lst (ea_cons ev_int (ea_cons ev_int (ea_2 ev_int ev_int)))) (nc_ints [1, 4, 1, 0])) (fun h => nomatch h) fun _ => ?_
  refine c_when (k := false) (eb_same (EvD.to (ev_callN (2, 2) (ea_1 (ev_var rfl)) hc) (by rw [w_all, w_up] <;> rfl)) (ev_lst (ea_cons (ev_tup (ea_2 (ev_tup (ea_2 ev_int ev_int)) (ev_tup (ea_2 ev_int ev_int)))) (ea_2 (ev_tup (ea_1 (ev_tup (ea_2 ev_int ev_int)))) (ev_tup (ea_1 (ev_tup (ea_2 ev_int ev_int))))))) (nc_eDs [[(1, 1), (2, 2)], [(1, 2)], [(2, 1)]])) (fun h => nomatch h) fun _ => ?_
  exact c_retF hF (EvD.to (ev_andV (x := true) (y := true) (ev_same (EvD.to (ev_call ((2, 2), [(1, 2)], [(2, 1)]) (ea_cons (ev_var rfl) (ea_2 (ev_tup (ea_1 (ev_tup (ea_2 ev_int ev_int)))) (ev_tup (ea_1 (ev_tup (ea_2 ev_int ev_int)))))) ⟨hc, rfl, rfl⟩) (congrArg PyData.list r1)) (ev_lst (ea_1 ev_int)) (nc_ints [2])) fun _ => ev_same (EvD.to (ev_call ((2, 2), [(1, 1)], [(2, 2)]) (ea_cons (ev_var rfl) (ea_2 (ev_tup (ea_1 (ev_tup (ea_2 ev_int ev_int)))) (ev_tup (ea_1 (ev_tup (ea_2 ev_int ev_int)))))) ⟨hc, rfl, rfl⟩) (congrArg PyData.list r2)) (ev_lst (ea_2 ev_int ev_int)) (nc_ints [2, 2])) rfl)
end

/-! ### _law_four_right -/
abbrev sp__law_four_right : Sp := spP (fun _ : Unit => []) (fun _ => True) (fun _ d => d = .bool true)
theorem row_four : rowM (4, 4) low4 high4 = [6, 6, 10].map .int := by
  obtain ⟨h1, _⟩ := f_can
  obtain ⟨d1, d2, d3⟩ := f_dist
  unfold rowM
  rw [h1]
  show [distD (dist (4, 4) 0 low4 high4), distD (dist (4, 4) 1 low4 high4), distD (dist (4, 4) 2 low4 high4)] = _
  rw [d1, d2, d3]
  rfl
section
variable {P : Program} {w : World} {K : PySem.W.Frag} {mg : Str → Option Value} {base : Heap}
theorem ok__law_four_right {f : Addr} {fd : FuncData} (F : Fun K "_law_four_right" "_law_four_right" s__law_four_right f fd) (T : Tops mg) (C_can_stay : Callee P w K mg base "can_stay" 6 ["coat", "one", "other"] sp_can_stay) (C_apart : Callee P w K mg base "apart" 1 ["one", "other"] sp_apart) (C_all_fewest : Callee P w K mg base "all_fewest" 8 ["coat", "one", "other"] sp_all_fewest) : FnOk P w K mg base CX0 9 f fd [] sp__law_four_right := by
  refine okP F sc__law_four_right rfl (fun _ => rfl) fun cdv A outer s H E a hr hp => ?_
  have nd := sc__law_four_right.nd
  have hc : okC (4, 4) = true := rfl
  have hl : Bt.okD (4, 4) low4 = true := rfl
  have hh : Bt.okD (4, 4) high4 = true := rfl
  refine ⟨_, (pss_cons (ps_asg (pe_tup (pa_cons (pe_tup (pa_cons (pe_tup (pa_cons pe_int (pa_cons pe_int pa_nil))) (pa_cons (pe_tup (pa_cons pe_int (pa_cons pe_int pa_nil))) (pa_cons (pe_tup (pa_cons pe_int (pa_cons pe_int pa_nil))) pa_nil)))) (pa_cons (pe_tup (pa_cons (pe_tup (pa_cons pe_int (pa_cons pe_int pa_nil))) (pa_cons (pe_tup (pa_cons pe_int (pa_cons pe_int pa_nil))) (pa_cons (pe_tup (pa_cons pe_int (pa_cons pe_int pa_nil))) pa_nil)))) pa_nil))) (pg_tupU (K := K) (n := 2) rfl (pgs_cons (pg_name (i := 0) nd rfl (Or.inl rfl)) (pgs_cons (pg_name (i := 1) nd rfl (Or.inl rfl)) pgs_nil))))
  (pss_cons (ps_if (PW.pt (pw_or (pt_cmpR (op_neU (K := K) (hu64 hr)) (pe_callC C_can_stay (hr.mono (by first | decide | omega)) (by rfl) (pa_cons (pe_tup (pa_cons pe_int (pa_cons pe_int pa_nil))) (pa_cons (pv 0) (pa_cons (pv 1) pa_nil)))) pe_int (nomark _)) (pw_or1 (pt_cmpR (op_neU (K := K) (hu64 hr)) (pe_callC C_apart (hr.mono (by first | decide | omega)) (by rfl) (pa_cons (pv 0) (pa_cons (pv 1) pa_nil))) pe_int (nomark _))))) (pss_one (ps_ret pe_bl)) pss_nil)
  (pss_one (ps_ret (pe_cmpR (op_eqU (K := K) (hu64 hr)) (pe_callC C_all_fewest (hr.mono (by first | decide | omega)) (by rfl) (pa_cons (pe_tup (pa_cons pe_int (pa_cons pe_int pa_nil))) (pa_cons (pv 0) (pa_cons (pv 1) pa_nil)))) (pe_lst (pa_cons pe_int (pa_cons pe_int (pa_cons pe_int pa_nil)))) (nomark _)))))), fun b Q hT hF0 => ?_⟩
  have hF : Fin b (fun d => d = .bool true) Q := hF0
  obtain ⟨c1, c2⟩ := f_can
  refine q_asg (P := (· = .tuple [eD low4, eD high4])) (ev_tup (ea_2 (ev_lit (ea_cons (ev_tup (ea_2 ev_int ev_int)) (ea_2 (ev_tup (ea_2 ev_int ev_int)) (ev_tup (ea_2 ev_int ev_int))))) (ev_lit (ea_cons (ev_tup (ea_2 ev_int ev_int)) (ea_2 (ev_tup (ea_2 ev_int ev_int)) (ev_tup (ea_2 ev_int ev_int))))))) fun d hd => ?_
  have hd' : d = _ := hd
  subst hd'
  refine ⟨_, tg_pair (by simp) (by simp), ?_⟩
  refine c_when (k := false) (EbD.to (eb_or (x := false) (y := false) (eb_same (EvD.to (ev_call ((4, 4), low4, high4) (ea_cons (ev_tup (ea_2 ev_int ev_int)) (ea_2 (ev_var rfl) (ev_var rfl))) ⟨hc, hl, hh⟩) (by rw [c1] <;> rfl)) ev_int (nc_int 2)) fun _ => eb_same (EvD.to (ev_call (low4, high4) (ea_2 (ev_var rfl) (ev_var rfl)) ⟨by simp [low4], by simp [high4]⟩) (by rw [c2] <;> rfl)) ev_int (nc_int 6)) rfl) (fun h => nomatch h) fun _ => ?_
  exact c_retF hF (ev_same (EvD.to (ev_call ((4, 4), low4, high4) (ea_cons (ev_tup (ea_2 ev_int ev_int)) (ea_2 (ev_var rfl) (ev_var rfl))) ⟨hc, hl, hh⟩) (by rw [row_four] <;> rfl)) (ev_lst (ea_cons ev_int (ea_2 ev_int ev_int))) (nc_ints [6, 6, 10]))
end

/-! ### the law -/
theorem num_one {n : Nat} (h1 : 1 ≤ n) (h5 : n ≤ 5) : (((List.range (2 : Int).toNat).map fun k : Nat => PyData.int (k : Int)).filter fun _ => true).map (numX (1, n)) = [[], [(1, 1)]].map eD := by
  rw [filter_yes, List.map_map]
  show [numM (1, n) 0, numM (1, n) 1] = _
  unfold numM
  rw [one_all h1 h5]
  obtain ⟨m, rfl⟩ : ∃ m, n = m + 1 := ⟨n - 1, by omega⟩
  unfold row1
  rw [List.range_succ_eq_map]
  rfl
section
variable {P : Program} {w : World} {K : PySem.W.Frag} {mg : Str → Option Value} {base : Heap}
theorem ok_law {f : Addr} {fd : FuncData} (F : Fun K "law" "law" s_law f fd) (T : Tops mg) (C_how_many : Callee P w K mg base "how_many" 2 ["coat", "size"] sp_how_many) (C_doing_of : Callee P w K mg base "doing_of" 2 ["coat", "number"] sp_doing_of) (C_straighten : Callee P w K mg base "straighten" 6 ["coat", "doing"] sp_straighten) (C__law_draw : Callee P w K mg base "_law_draw" 1 ["tape", "many"] sp__law_draw) (C__law_three_right : Callee P w K mg base "_law_three_right" 9 [] sp__law_three_right) (C__law_two_right : Callee P w K mg base "_law_two_right" 9 [] sp__law_two_right) (C__law_four_right : Callee P w K mg base "_law_four_right" 9 [] sp__law_four_right) : FnOk P w K mg base CX0 10 f fd ["script"] (sp_law K) := by
  refine okLaw F sc_law (by decide) fun cdv A outer s H E hr => ?_
  have nd := sc_law.nd
  refine ⟨_, (pss_cons (ps_set (i := 1) nd rfl (Or.inl rfl) (pe_lst (pa_cons (pe_callTy (call_listU (K := K)) (by rfl) T.m_list (by decide +kernel) (pa_cons (pv 0) pa_nil)) (pa_cons pe_int (pa_cons pe_int pa_nil)))))
  (pss_cons (ps_set (i := 2) nd rfl (Or.inl rfl) (pe_op (op_addU (K := K)) pe_int (pe_callC C__law_draw (hr.mono (by first | decide | omega)) (by rfl) (pa_cons (pv 1) (pa_cons pe_int pa_nil)))))
  (pss_cons (ps_set (i := 3) nd rfl (Or.inr rfl) (pe_tup (pa_cons pe_int (pa_cons (pv 2) pa_nil))))
  (pss_cons (ps_if (PW.pt (pw_or (pt_cmpR (op_neU (K := K) (hu64 hr)) (pe_callC C_how_many (hr.mono (by first | decide | omega)) (by rfl) (pa_cons (pv 3) (pa_cons pe_int pa_nil))) (pv 2) (nomark _)) (pw_or1 (pt_cmpR (op_neU (K := K) (hu64 hr)) (pe_lc (own := [("k", 4)]) rfl nd (pi_range1 (by rfl) T.m_range (pa_cons pe_int pa_nil)) (blkOk_by (N := ["script", "tape", "long", "sole", "k"]) (sc := defScope s_law) (by decide +kernel)) (fun _ _ _ _ _ => pg_name (i := 4) nd rfl (Or.inl rfl)) (fun _ _ _ _ _ => pts_nil) (fun _ _ _ _ _ => (pe_callC C_doing_of (hr.mono (by first | decide | omega)) (by rfl) (pa_cons (pv 3) (pa_cons (pv 4) pa_nil))))) (pe_lst (pa_cons (pe_tup pa_nil) (pa_cons (pe_tup (pa_cons (pe_tup (pa_cons pe_int (pa_cons pe_int pa_nil))) pa_nil)) pa_nil))) (nomark _))))) (pss_one (ps_ret pe_bl)) pss_nil)
  (pss_cons (ps_if (pt_cmpR (op_neU (K := K) (hu64 hr)) (pe_callC C_straighten (hr.mono (by first | decide | omega)) (by rfl) (pa_cons (pv 3) (pa_cons (pe_tup (pa_cons (pe_tup (pa_cons pe_int (pa_cons (pv 2) pa_nil))) pa_nil)) pa_nil))) (pe_ifExp (pt_cmpR (op_eqU (K := K) (hu64 hr)) (pv 2) pe_int (nomark _)) (pe_lst pa_nil) (pe_lst (pa_cons (pe_tup (pa_cons pe_str (pa_cons (pe_tup (pa_cons pe_int (pa_cons (pv 2) pa_nil))) pa_nil))) (pa_cons (pe_tup (pa_cons pe_str (pa_cons (pe_tup (pa_cons pe_int (pa_cons pe_int pa_nil))) pa_nil))) pa_nil)))) (nomark _)) (pss_one (ps_ret pe_bl)) pss_nil)
  (pss_one (ps_ret (pe_and (pe_callC0 C__law_three_right (hr.mono (by first | decide | omega)) (by rfl)) (pe_and (pe_callC0 C__law_two_right (hr.mono (by first | decide | omega)) (by rfl)) (pe_one (pe_callC0 C__law_four_right (hr.mono (by first | decide | omega)) (by rfl)))))))))))), fun b Q hF => ?_⟩
  refine q_setR (P := fun d => ∃ k : Nat, d = .int (k : Int) ∧ 1 ≤ k ∧ k ≤ 5) (ev_opR ev_int (ev_callTX (5 : Int) rfl (ea_1 ev_int) ⟨by decide, by decide⟩) fun x y hx hy => by
      obtain ⟨r, rfl, r0, r1⟩ := hy
      subst hx
      exact fun M H vx vy t rx ry Q q => od_addI M H vx vy t rx ry Q fun v d H' e p rr => q v d H' e ⟨(1 + r).toNat, by rw [p, Int.toNat_of_nonneg (by omega)], by omega, by omega⟩ rr) fun d hd => ?_
  obtain ⟨n, rfl, h1, h5⟩ := hd
  obtain ⟨hc, hl⟩ := one_ok h1 h5
  have hcount := one_count h1 h5
  have hstr := one_straight h1 h5
  refine q_set (d := eP (1, n)) (ev_tup (ea_2 ev_int (ev_var rfl))) ?_
  refine c_when (k := false) (EbD.to (eb_or (x := false) (y := false) (eb_same (EvD.to (ev_call ((1, n), 1) (ea_2 (ev_var rfl) ev_int) hc) (by rw [one_all h1 h5, hcount])) (ev_var rfl) (nc_int (n : Int))) fun _ => eb_same (EnD.ev (EnD.to (en_lc_rng1D (n := 2) (fun _ => true) (numX (1, n)) (ea_1 ev_int) (by decide) fun j hj => ⟨_, tgc_name (by simp), eb_yes, fun _ => ev_call ((1, n), j) (ea_2 (ev_var rfl) (ev_var rfl)) hc⟩) (num_one h1 h5))) (ev_lst (ea_2 (ev_tup ea_nil) (ev_tup (ea_1 (ev_tup (ea_2 ev_int ev_int)))))) (nc_eDs [[], [(1, 1)]])) rfl) (fun h => nomatch h) fun _ => ?_
  have hdata : PyData.list ((if n = 1 then [] else [(true, (1, n)), (false, (1, 1))] : List Mv).map eM) = if decide ((n : Int) = 1) then PyData.list [] else .list [.tuple [.str ("open" : Str), .tuple [.int 1, .int (n : Int)]], .tuple [.str ("do" : Str), .tuple [.int 1, .int 1]]] := by
    by_cases e : n = 1
    · rw [if_pos e, if_pos (decide_eq_true (by omega))]
      rfl
    · rw [if_neg e, if_neg (by rw [decide_eq_false (by omega)]; exact Bool.false_ne_true)]
      rfl
  refine c_when (k := false) (eb_same (d := .list ((if n = 1 then [] else [(true, (1, n)), (false, (1, 1))] : List Mv).map eM)) (EvD.to (ev_call ((1, n), [(1, n)]) (ea_2 (ev_var rfl) (ev_tup (ea_1 (ev_tup (ea_2 ev_int (ev_var rfl)))))) ⟨hc, hl⟩) (by rw [hstr])) (EvD.to (ev_if (k := decide ((n : Int) = 1)) (d := .list []) (d' := .list [.tuple [.str ("open" : Str), .tuple [.int 1, .int (n : Int)]], .tuple [.str ("do" : Str), .tuple [.int 1, .int 1]]]) (eb_test (ev_op (ev_var rfl) ev_int od_eqI)) (fun _ => ev_lst ea_nil) fun _ => ev_lst (ea_2 (ev_tup (ea_2 ev_str (ev_tup (ea_2 ev_int (ev_var rfl))))) (ev_tup (ea_2 ev_str (ev_tup (ea_2 ev_int ev_int)))))) hdata.symm) (nc_eMs _)) (fun h => nomatch h) fun _ => ?_
  exact c_ret (ev_andV (x := true) (y := true) (ev_call () ea_nil trivial) fun _ => ev_andV (x := true) (y := true) (ev_call () ea_nil trivial) fun _ => ev_call () ea_nil trivial) hF rfl
end

/-! ### what the top has written; the law's own head -/
theorem all_mk {l : PySem.W.OpenLaw} {w : World} {K : PySem.W.Frag} {h : Heap} {mg : Str → Option Value} {fa : Addr} (X : K.In h) (G : h.Ns mainGlobals mg) (hfa : mg "law" = some (.ref fa))
    {f0 : Addr} {od0 an0 : Option Addr} {sl0 : Array (Option Value)} {oc0 kV0 dc0 pm0 cd0 ct0 : Value}
    (a0 : PySem.W.nsIn K mainGlobals "all_doings" = some (some (.ref f0))) (l0 : K.lookup f0 = some ⟨oc0, od0, .func (PySem.W.fnOf "all_doings" "all_doings" (defArgs s_all_doings) (defBody s_all_doings) (defScope s_all_doings) .none kV0 dc0 pm0 an0 cd0 ct0), sl0⟩) (c0 : PySem.W.codeIn K cd0 "all_doings" = true) (k0 : PySem.W.keepIn K (.ref f0) = true)
    {f1 : Addr} {od1 an1 : Option Addr} {sl1 : Array (Option Value)} {oc1 kV1 dc1 pm1 cd1 ct1 : Value}
    (a1 : PySem.W.nsIn K mainGlobals "how_many" = some (some (.ref f1))) (l1 : K.lookup f1 = some ⟨oc1, od1, .func (PySem.W.fnOf "how_many" "how_many" (defArgs s_how_many) (defBody s_how_many) (defScope s_how_many) .none kV1 dc1 pm1 an1 cd1 ct1), sl1⟩) (c1 : PySem.W.codeIn K cd1 "how_many" = true) (k1 : PySem.W.keepIn K (.ref f1) = true)
    {f2 : Addr} {od2 an2 : Option Addr} {sl2 : Array (Option Value)} {oc2 kV2 dc2 pm2 cd2 ct2 : Value}
    (a2 : PySem.W.nsIn K mainGlobals "doing_of" = some (some (.ref f2))) (l2 : K.lookup f2 = some ⟨oc2, od2, .func (PySem.W.fnOf "doing_of" "doing_of" (defArgs s_doing_of) (defBody s_doing_of) (defScope s_doing_of) .none kV2 dc2 pm2 an2 cd2 ct2), sl2⟩) (c2 : PySem.W.codeIn K cd2 "doing_of" = true) (k2 : PySem.W.keepIn K (.ref f2) = true)
    {f3 : Addr} {od3 an3 : Option Addr} {sl3 : Array (Option Value)} {oc3 kV3 dc3 pm3 cd3 ct3 : Value}
    (a3 : PySem.W.nsIn K mainGlobals "is_within" = some (some (.ref f3))) (l3 : K.lookup f3 = some ⟨oc3, od3, .func (PySem.W.fnOf "is_within" "is_within" (defArgs s_is_within) (defBody s_is_within) (defScope s_is_within) .none kV3 dc3 pm3 an3 cd3 ct3), sl3⟩) (c3 : PySem.W.codeIn K cd3 "is_within" = true) (k3 : PySem.W.keepIn K (.ref f3) = true)
    {f4 : Addr} {od4 an4 : Option Addr} {sl4 : Array (Option Value)} {oc4 kV4 dc4 pm4 cd4 ct4 : Value}
    (a4 : PySem.W.nsIn K mainGlobals "is_pair" = some (some (.ref f4))) (l4 : K.lookup f4 = some ⟨oc4, od4, .func (PySem.W.fnOf "is_pair" "is_pair" (defArgs s_is_pair) (defBody s_is_pair) (defScope s_is_pair) .none kV4 dc4 pm4 an4 cd4 ct4), sl4⟩) (c4 : PySem.W.codeIn K cd4 "is_pair" = true) (k4 : PySem.W.keepIn K (.ref f4) = true)
    {f5 : Addr} {od5 an5 : Option Addr} {sl5 : Array (Option Value)} {oc5 kV5 dc5 pm5 cd5 ct5 : Value}
    (a5 : PySem.W.nsIn K mainGlobals "is_doing" = some (some (.ref f5))) (l5 : K.lookup f5 = some ⟨oc5, od5, .func (PySem.W.fnOf "is_doing" "is_doing" (defArgs s_is_doing) (defBody s_is_doing) (defScope s_is_doing) .none kV5 dc5 pm5 an5 cd5 ct5), sl5⟩) (c5 : PySem.W.codeIn K cd5 "is_doing" = true) (k5 : PySem.W.keepIn K (.ref f5) = true)
    {f6 : Addr} {od6 an6 : Option Addr} {sl6 : Array (Option Value)} {oc6 kV6 dc6 pm6 cd6 ct6 : Value}
    (a6 : PySem.W.nsIn K mainGlobals "with_pair" = some (some (.ref f6))) (l6 : K.lookup f6 = some ⟨oc6, od6, .func (PySem.W.fnOf "with_pair" "with_pair" (defArgs s_with_pair) (defBody s_with_pair) (defScope s_with_pair) .none kV6 dc6 pm6 an6 cd6 ct6), sl6⟩) (c6 : PySem.W.codeIn K cd6 "with_pair" = true) (k6 : PySem.W.keepIn K (.ref f6) = true)
    {f7 : Addr} {od7 an7 : Option Addr} {sl7 : Array (Option Value)} {oc7 kV7 dc7 pm7 cd7 ct7 : Value}
    (a7 : PySem.W.nsIn K mainGlobals "fits" = some (some (.ref f7))) (l7 : K.lookup f7 = some ⟨oc7, od7, .func (PySem.W.fnOf "fits" "fits" (defArgs s_fits) (defBody s_fits) (defScope s_fits) .none kV7 dc7 pm7 an7 cd7 ct7), sl7⟩) (c7 : PySem.W.codeIn K cd7 "fits" = true) (k7 : PySem.W.keepIn K (.ref f7) = true)
    {f8 : Addr} {od8 an8 : Option Addr} {sl8 : Array (Option Value)} {oc8 kV8 dc8 pm8 cd8 ct8 : Value}
    (a8 : PySem.W.nsIn K mainGlobals "done_straight" = some (some (.ref f8))) (l8 : K.lookup f8 = some ⟨oc8, od8, .func (PySem.W.fnOf "done_straight" "done_straight" (defArgs s_done_straight) (defBody s_done_straight) (defScope s_done_straight) .none kV8 dc8 pm8 an8 cd8 ct8), sl8⟩) (c8 : PySem.W.codeIn K cd8 "done_straight" = true) (k8 : PySem.W.keepIn K (.ref f8) = true)
    {f9 : Addr} {od9 an9 : Option Addr} {sl9 : Array (Option Value)} {oc9 kV9 dc9 pm9 cd9 ct9 : Value}
    (a9 : PySem.W.nsIn K mainGlobals "without" = some (some (.ref f9))) (l9 : K.lookup f9 = some ⟨oc9, od9, .func (PySem.W.fnOf "without" "without" (defArgs s_without) (defBody s_without) (defScope s_without) .none kV9 dc9 pm9 an9 cd9 ct9), sl9⟩) (c9 : PySem.W.codeIn K cd9 "without" = true) (k9 : PySem.W.keepIn K (.ref f9) = true)
    {f10 : Addr} {od10 an10 : Option Addr} {sl10 : Array (Option Value)} {oc10 kV10 dc10 pm10 cd10 ct10 : Value}
    (a10 : PySem.W.nsIn K mainGlobals "straighten" = some (some (.ref f10))) (l10 : K.lookup f10 = some ⟨oc10, od10, .func (PySem.W.fnOf "straighten" "straighten" (defArgs s_straighten) (defBody s_straighten) (defScope s_straighten) .none kV10 dc10 pm10 an10 cd10 ct10), sl10⟩) (c10 : PySem.W.codeIn K cd10 "straighten" = true) (k10 : PySem.W.keepIn K (.ref f10) = true)
    {f11 : Addr} {od11 an11 : Option Addr} {sl11 : Array (Option Value)} {oc11 kV11 dc11 pm11 cd11 ct11 : Value}
    (a11 : PySem.W.nsIn K mainGlobals "_law_draw" = some (some (.ref f11))) (l11 : K.lookup f11 = some ⟨oc11, od11, .func (PySem.W.fnOf "_law_draw" "_law_draw" (defArgs s__law_draw) (defBody s__law_draw) (defScope s__law_draw) .none kV11 dc11 pm11 an11 cd11 ct11), sl11⟩) (c11 : PySem.W.codeIn K cd11 "_law_draw" = true) (k11 : PySem.W.keepIn K (.ref f11) = true)
    {f12 : Addr} {od12 an12 : Option Addr} {sl12 : Array (Option Value)} {oc12 kV12 dc12 pm12 cd12 ct12 : Value}
    (a12 : PySem.W.nsIn K mainGlobals "is_coat" = some (some (.ref f12))) (l12 : K.lookup f12 = some ⟨oc12, od12, .func (PySem.W.fnOf "is_coat" "is_coat" (defArgs s_is_coat) (defBody s_is_coat) (defScope s_is_coat) .none kV12 dc12 pm12 an12 cd12 ct12), sl12⟩) (c12 : PySem.W.codeIn K cd12 "is_coat" = true) (k12 : PySem.W.keepIn K (.ref f12) = true)
    {f13 : Addr} {od13 an13 : Option Addr} {sl13 : Array (Option Value)} {oc13 kV13 dc13 pm13 cd13 ct13 : Value}
    (a13 : PySem.W.nsIn K mainGlobals "bound" = some (some (.ref f13))) (l13 : K.lookup f13 = some ⟨oc13, od13, .func (PySem.W.fnOf "bound" "bound" (defArgs s_bound) (defBody s_bound) (defScope s_bound) .none kV13 dc13 pm13 an13 cd13 ct13), sl13⟩) (c13 : PySem.W.codeIn K cd13 "bound" = true) (k13 : PySem.W.keepIn K (.ref f13) = true)
    {f14 : Addr} {od14 an14 : Option Addr} {sl14 : Array (Option Value)} {oc14 kV14 dc14 pm14 cd14 ct14 : Value}
    (a14 : PySem.W.nsIn K mainGlobals "can_stay" = some (some (.ref f14))) (l14 : K.lookup f14 = some ⟨oc14, od14, .func (PySem.W.fnOf "can_stay" "can_stay" (defArgs s_can_stay) (defBody s_can_stay) (defScope s_can_stay) .none kV14 dc14 pm14 an14 cd14 ct14), sl14⟩) (c14 : PySem.W.codeIn K cd14 "can_stay" = true) (k14 : PySem.W.keepIn K (.ref f14) = true)
    {f15 : Addr} {od15 an15 : Option Addr} {sl15 : Array (Option Value)} {oc15 kV15 dc15 pm15 cd15 ct15 : Value}
    (a15 : PySem.W.nsIn K mainGlobals "moves" = some (some (.ref f15))) (l15 : K.lookup f15 = some ⟨oc15, od15, .func (PySem.W.fnOf "moves" "moves" (defArgs s_moves) (defBody s_moves) (defScope s_moves) .none kV15 dc15 pm15 an15 cd15 ct15), sl15⟩) (c15 : PySem.W.codeIn K cd15 "moves" = true) (k15 : PySem.W.keepIn K (.ref f15) = true)
    {f16 : Addr} {od16 an16 : Option Addr} {sl16 : Array (Option Value)} {oc16 kV16 dc16 pm16 cd16 ct16 : Value}
    (a16 : PySem.W.nsIn K mainGlobals "led" = some (some (.ref f16))) (l16 : K.lookup f16 = some ⟨oc16, od16, .func (PySem.W.fnOf "led" "led" (defArgs s_led) (defBody s_led) (defScope s_led) .none kV16 dc16 pm16 an16 cd16 ct16), sl16⟩) (c16 : PySem.W.codeIn K cd16 "led" = true) (k16 : PySem.W.keepIn K (.ref f16) = true)
    {f17 : Addr} {od17 an17 : Option Addr} {sl17 : Array (Option Value)} {oc17 kV17 dc17 pm17 cd17 ct17 : Value}
    (a17 : PySem.W.nsIn K mainGlobals "way" = some (some (.ref f17))) (l17 : K.lookup f17 = some ⟨oc17, od17, .func (PySem.W.fnOf "way" "way" (defArgs s_way) (defBody s_way) (defScope s_way) .none kV17 dc17 pm17 an17 cd17 ct17), sl17⟩) (c17 : PySem.W.codeIn K cd17 "way" = true) (k17 : PySem.W.keepIn K (.ref f17) = true)
    {f18 : Addr} {od18 an18 : Option Addr} {sl18 : Array (Option Value)} {oc18 kV18 dc18 pm18 cd18 ct18 : Value}
    (a18 : PySem.W.nsIn K mainGlobals "fewest" = some (some (.ref f18))) (l18 : K.lookup f18 = some ⟨oc18, od18, .func (PySem.W.fnOf "fewest" "fewest" (defArgs s_fewest) (defBody s_fewest) (defScope s_fewest) .none kV18 dc18 pm18 an18 cd18 ct18), sl18⟩) (c18 : PySem.W.codeIn K cd18 "fewest" = true) (k18 : PySem.W.keepIn K (.ref f18) = true)
    {f19 : Addr} {od19 an19 : Option Addr} {sl19 : Array (Option Value)} {oc19 kV19 dc19 pm19 cd19 ct19 : Value}
    (a19 : PySem.W.nsIn K mainGlobals "all_fewest" = some (some (.ref f19))) (l19 : K.lookup f19 = some ⟨oc19, od19, .func (PySem.W.fnOf "all_fewest" "all_fewest" (defArgs s_all_fewest) (defBody s_all_fewest) (defScope s_all_fewest) .none kV19 dc19 pm19 an19 cd19 ct19), sl19⟩) (c19 : PySem.W.codeIn K cd19 "all_fewest" = true) (k19 : PySem.W.keepIn K (.ref f19) = true)
    {f20 : Addr} {od20 an20 : Option Addr} {sl20 : Array (Option Value)} {oc20 kV20 dc20 pm20 cd20 ct20 : Value}
    (a20 : PySem.W.nsIn K mainGlobals "moved" = some (some (.ref f20))) (l20 : K.lookup f20 = some ⟨oc20, od20, .func (PySem.W.fnOf "moved" "moved" (defArgs s_moved) (defBody s_moved) (defScope s_moved) .none kV20 dc20 pm20 an20 cd20 ct20), sl20⟩) (c20 : PySem.W.codeIn K cd20 "moved" = true) (k20 : PySem.W.keepIn K (.ref f20) = true)
    {f21 : Addr} {od21 an21 : Option Addr} {sl21 : Array (Option Value)} {oc21 kV21 dc21 pm21 cd21 ct21 : Value}
    (a21 : PySem.W.nsIn K mainGlobals "along" = some (some (.ref f21))) (l21 : K.lookup f21 = some ⟨oc21, od21, .func (PySem.W.fnOf "along" "along" (defArgs s_along) (defBody s_along) (defScope s_along) .none kV21 dc21 pm21 an21 cd21 ct21), sl21⟩) (c21 : PySem.W.codeIn K cd21 "along" = true) (k21 : PySem.W.keepIn K (.ref f21) = true)
    {f22 : Addr} {od22 an22 : Option Addr} {sl22 : Array (Option Value)} {oc22 kV22 dc22 pm22 cd22 ct22 : Value}
    (a22 : PySem.W.nsIn K mainGlobals "behind" = some (some (.ref f22))) (l22 : K.lookup f22 = some ⟨oc22, od22, .func (PySem.W.fnOf "behind" "behind" (defArgs s_behind) (defBody s_behind) (defScope s_behind) .none kV22 dc22 pm22 an22 cd22 ct22), sl22⟩) (c22 : PySem.W.codeIn K cd22 "behind" = true) (k22 : PySem.W.keepIn K (.ref f22) = true)
    {f23 : Addr} {od23 an23 : Option Addr} {sl23 : Array (Option Value)} {oc23 kV23 dc23 pm23 cd23 ct23 : Value}
    (a23 : PySem.W.nsIn K mainGlobals "least_done" = some (some (.ref f23))) (l23 : K.lookup f23 = some ⟨oc23, od23, .func (PySem.W.fnOf "least_done" "least_done" (defArgs s_least_done) (defBody s_least_done) (defScope s_least_done) .none kV23 dc23 pm23 an23 cd23 ct23), sl23⟩) (c23 : PySem.W.codeIn K cd23 "least_done" = true) (k23 : PySem.W.keepIn K (.ref f23) = true)
    {f24 : Addr} {od24 an24 : Option Addr} {sl24 : Array (Option Value)} {oc24 kV24 dc24 pm24 cd24 ct24 : Value}
    (a24 : PySem.W.nsIn K mainGlobals "apart" = some (some (.ref f24))) (l24 : K.lookup f24 = some ⟨oc24, od24, .func (PySem.W.fnOf "apart" "apart" (defArgs s_apart) (defBody s_apart) (defScope s_apart) .none kV24 dc24 pm24 an24 cd24 ct24), sl24⟩) (c24 : PySem.W.codeIn K cd24 "apart" = true) (k24 : PySem.W.keepIn K (.ref f24) = true)
    {f25 : Addr} {od25 an25 : Option Addr} {sl25 : Array (Option Value)} {oc25 kV25 dc25 pm25 cd25 ct25 : Value}
    (a25 : PySem.W.nsIn K mainGlobals "_law_three_right" = some (some (.ref f25))) (l25 : K.lookup f25 = some ⟨oc25, od25, .func (PySem.W.fnOf "_law_three_right" "_law_three_right" (defArgs s__law_three_right) (defBody s__law_three_right) (defScope s__law_three_right) .none kV25 dc25 pm25 an25 cd25 ct25), sl25⟩) (c25 : PySem.W.codeIn K cd25 "_law_three_right" = true) (k25 : PySem.W.keepIn K (.ref f25) = true)
    {f26 : Addr} {od26 an26 : Option Addr} {sl26 : Array (Option Value)} {oc26 kV26 dc26 pm26 cd26 ct26 : Value}
    (a26 : PySem.W.nsIn K mainGlobals "number_of" = some (some (.ref f26))) (l26 : K.lookup f26 = some ⟨oc26, od26, .func (PySem.W.fnOf "number_of" "number_of" (defArgs s_number_of) (defBody s_number_of) (defScope s_number_of) .none kV26 dc26 pm26 an26 cd26 ct26), sl26⟩) (c26 : PySem.W.codeIn K cd26 "number_of" = true) (k26 : PySem.W.keepIn K (.ref f26) = true)
    {f27 : Addr} {od27 an27 : Option Addr} {sl27 : Array (Option Value)} {oc27 kV27 dc27 pm27 cd27 ct27 : Value}
    (a27 : PySem.W.nsIn K mainGlobals "done_up" = some (some (.ref f27))) (l27 : K.lookup f27 = some ⟨oc27, od27, .func (PySem.W.fnOf "done_up" "done_up" (defArgs s_done_up) (defBody s_done_up) (defScope s_done_up) .none kV27 dc27 pm27 an27 cd27 ct27), sl27⟩) (c27 : PySem.W.codeIn K cd27 "done_up" = true) (k27 : PySem.W.keepIn K (.ref f27) = true)
    {f28 : Addr} {od28 an28 : Option Addr} {sl28 : Array (Option Value)} {oc28 kV28 dc28 pm28 cd28 ct28 : Value}
    (a28 : PySem.W.nsIn K mainGlobals "_law_two_right" = some (some (.ref f28))) (l28 : K.lookup f28 = some ⟨oc28, od28, .func (PySem.W.fnOf "_law_two_right" "_law_two_right" (defArgs s__law_two_right) (defBody s__law_two_right) (defScope s__law_two_right) .none kV28 dc28 pm28 an28 cd28 ct28), sl28⟩) (c28 : PySem.W.codeIn K cd28 "_law_two_right" = true) (k28 : PySem.W.keepIn K (.ref f28) = true)
    {f29 : Addr} {od29 an29 : Option Addr} {sl29 : Array (Option Value)} {oc29 kV29 dc29 pm29 cd29 ct29 : Value}
    (a29 : PySem.W.nsIn K mainGlobals "_law_four_right" = some (some (.ref f29))) (l29 : K.lookup f29 = some ⟨oc29, od29, .func (PySem.W.fnOf "_law_four_right" "_law_four_right" (defArgs s__law_four_right) (defBody s__law_four_right) (defScope s__law_four_right) .none kV29 dc29 pm29 an29 cd29 ct29), sl29⟩) (c29 : PySem.W.codeIn K cd29 "_law_four_right" = true) (k29 : PySem.W.keepIn K (.ref f29) = true)
    {f30 : Addr} {od30 an30 : Option Addr} {sl30 : Array (Option Value)} {oc30 kV30 dc30 pm30 cd30 ct30 : Value}
    (a30 : PySem.W.nsIn K mainGlobals "law" = some (some (.ref f30))) (l30 : K.lookup f30 = some ⟨oc30, od30, .func (PySem.W.fnOf "law" "law" (defArgs s_law) (defBody s_law) (defScope s_law) .none kV30 dc30 pm30 an30 cd30 ct30), sl30⟩) (c30 : PySem.W.codeIn K cd30 "law" = true) (k30 : PySem.W.keepIn K (.ref f30) = true)
    (z_isinstance : PySem.W.nsIn K mainGlobals "isinstance" = some none)    (z_len : PySem.W.nsIn K mainGlobals "len" = some none)    (z_all : PySem.W.nsIn K mainGlobals "all" = some none)    (z_max : PySem.W.nsIn K mainGlobals "max" = some none)    (z_min : PySem.W.nsIn K mainGlobals "min" = some none)    (z_sorted : PySem.W.nsIn K mainGlobals "sorted" = some none)    (z_range : PySem.W.nsIn K mainGlobals "range" = some none)    (z_zip : PySem.W.nsIn K mainGlobals "zip" = some none)    (z_int : PySem.W.nsIn K mainGlobals "int" = some none)    (z_bool : PySem.W.nsIn K mainGlobals "bool" = some none)    (z_str : PySem.W.nsIn K mainGlobals "str" = some none)    (z_list : PySem.W.nsIn K mainGlobals "list" = some none)    (z_tuple : PySem.W.nsIn K mainGlobals "tuple" = some none) {t_MOST : Tok} (z_MOST : PySem.W.nsIn K mainGlobals "MOST" = some (some (.int 5 t_MOST))) :
    ∃ fd : FuncData, (∀ (s : Shared) (v : Value), BindsTo s fd ⟨[v], []⟩ [("script", v)]) ∧ ∀ base : Heap, K.In base → base.Ns mainGlobals mg → FnOk l.prog w K mg base CX0 10 fa fd ["script"] (sp_law K) := by
  have e := hfa.symm.trans (PySem.W.mg_of X G a30)
  cases e
  refine ⟨PySem.W.fnOf "law" "law" (defArgs s_law) (defBody s_law) (defScope s_law) .none kV30 dc30 pm30 an30 cd30 ct30, fun s v => .of_eq rfl, fun base _ _ => ?_⟩
  have T : Tops mg := ⟨PySem.W.mg_none_of X G z_isinstance, PySem.W.mg_none_of X G z_len, PySem.W.mg_none_of X G z_all, PySem.W.mg_none_of X G z_max, PySem.W.mg_none_of X G z_min, PySem.W.mg_none_of X G z_sorted, PySem.W.mg_none_of X G z_range, PySem.W.mg_none_of X G z_zip, PySem.W.mg_none_of X G z_int, PySem.W.mg_none_of X G z_bool, PySem.W.mg_none_of X G z_str, PySem.W.mg_none_of X G z_list, PySem.W.mg_none_of X G z_tuple, ⟨t_MOST, PySem.W.mg_of X G z_MOST⟩⟩
  have F_all_doings := fun_mk (st := s_all_doings) l0 c0 k0
  have b_all_doings := F_all_doings.binds (ps := ["coat"]) fun _ _ _ _ _ _ us hl => match us, hl with | [_], _ => rfl
  have C_all_doings : Callee l.prog w K mg base "all_doings" 1 ["coat"] (sp_all_doings) := ⟨_, _, ok_all_doings F_all_doings T, F_all_doings.kp, b_all_doings, PySem.W.mg_of X G a0⟩
  have F_how_many := fun_mk (st := s_how_many) l1 c1 k1
  have b_how_many := F_how_many.binds (ps := ["coat", "size"]) fun _ _ _ _ _ _ us hl => match us, hl with | [_, _], _ => rfl
  have C_how_many : Callee l.prog w K mg base "how_many" 2 ["coat", "size"] (sp_how_many) := ⟨_, _, ok_how_many F_how_many T C_all_doings, F_how_many.kp, b_how_many, PySem.W.mg_of X G a1⟩
  have K_how_many : KwI l.prog w K mg base "how_many" 2 ["coat", "size"] sp_how_many := ⟨_, _, ok_how_many F_how_many T C_all_doings, F_how_many.kp, bindsKI (ps := ["coat", "size"]) F_how_many fun _ _ _ _ _ _ ws hl => match ws, hl with | [_, _], _ => rfl, PySem.W.mg_of X G a1⟩
  have F_doing_of := fun_mk (st := s_doing_of) l2 c2 k2
  have b_doing_of := F_doing_of.binds (ps := ["coat", "number"]) fun _ _ _ _ _ _ us hl => match us, hl with | [_, _], _ => rfl
  have C_doing_of : Callee l.prog w K mg base "doing_of" 2 ["coat", "number"] (sp_doing_of) := ⟨_, _, ok_doing_of F_doing_of T C_all_doings, F_doing_of.kp, b_doing_of, PySem.W.mg_of X G a2⟩
  have K_doing_of : KwI l.prog w K mg base "doing_of" 2 ["coat", "number"] sp_doing_of := ⟨_, _, ok_doing_of F_doing_of T C_all_doings, F_doing_of.kp, bindsKI (ps := ["coat", "number"]) F_doing_of fun _ _ _ _ _ _ ws hl => match ws, hl with | [_, _], _ => rfl, PySem.W.mg_of X G a2⟩
  have F_is_within := fun_mk (st := s_is_within) l3 c3 k3
  have b_is_within := F_is_within.binds (ps := ["thing", "low", "high"]) fun _ _ _ _ _ _ us hl => match us, hl with | [_, _, _], _ => rfl
  have C_is_within : Callee l.prog w K mg base "is_within" 1 ["thing", "low", "high"] (sp_is_within) := ⟨_, _, ok_is_within F_is_within T, F_is_within.kp, b_is_within, PySem.W.mg_of X G a3⟩
  have F_is_pair := fun_mk (st := s_is_pair) l4 c4 k4
  have b_is_pair := F_is_pair.binds (ps := ["coat", "thing"]) fun _ _ _ _ _ _ us hl => match us, hl with | [_, _], _ => rfl
  have C_is_pair : Callee l.prog w K mg base "is_pair" 2 ["coat", "thing"] (sp_is_pair) := ⟨_, _, ok_is_pair F_is_pair T C_is_within, F_is_pair.kp, b_is_pair, PySem.W.mg_of X G a4⟩
  have F_is_doing := fun_mk (st := s_is_doing) l5 c5 k5
  have b_is_doing := F_is_doing.binds (ps := ["coat", "thing"]) fun _ _ _ _ _ _ us hl => match us, hl with | [_, _], _ => rfl
  have C_is_doing : Callee l.prog w K mg base "is_doing" 3 ["coat", "thing"] (sp_is_doing) := ⟨_, _, ok_is_doing F_is_doing T C_is_pair, F_is_doing.kp, b_is_doing, PySem.W.mg_of X G a5⟩
  have K_is_doing : KwI l.prog w K mg base "is_doing" 3 ["coat", "thing"] sp_is_doing := ⟨_, _, ok_is_doing F_is_doing T C_is_pair, F_is_doing.kp, bindsKI (ps := ["coat", "thing"]) F_is_doing fun _ _ _ _ _ _ ws hl => match ws, hl with | [_, _], _ => rfl, PySem.W.mg_of X G a5⟩
  have F_with_pair := fun_mk (st := s_with_pair) l6 c6 k6
  have b_with_pair := F_with_pair.binds (ps := ["doing", "pair"]) fun _ _ _ _ _ _ us hl => match us, hl with | [_, _], _ => rfl
  have C_with_pair : Callee l.prog w K mg base "with_pair" 1 ["doing", "pair"] (sp_with_pair) := ⟨_, _, ok_with_pair F_with_pair T, F_with_pair.kp, b_with_pair, PySem.W.mg_of X G a6⟩
  have F_fits := fun_mk (st := s_fits) l7 c7 k7
  have b_fits := F_fits.binds (ps := ["coat", "doing"]) fun _ _ _ _ _ _ us hl => match us, hl with | [_, _], _ => rfl
  have C_fits : Callee l.prog w K mg base "fits" 4 ["coat", "doing"] (sp_fits) := ⟨_, _, ok_fits F_fits T C_is_doing C_with_pair, F_fits.kp, b_fits, PySem.W.mg_of X G a7⟩
  have K_fits : KwI l.prog w K mg base "fits" 4 ["coat", "doing"] sp_fits := ⟨_, _, ok_fits F_fits T C_is_doing C_with_pair, F_fits.kp, bindsKI (ps := ["coat", "doing"]) F_fits fun _ _ _ _ _ _ ws hl => match ws, hl with | [_, _], _ => rfl, PySem.W.mg_of X G a7⟩
  have KR_fits : KwR l.prog w K mg base "fits" 4 ["coat", "doing"] sp_fits := ⟨_, _, ok_fits F_fits T C_is_doing C_with_pair, F_fits.kp, bindsKR (ps := ["coat", "doing"]) F_fits fun _ _ _ _ _ _ ws hl => match ws, hl with | [_, _], _ => rfl, PySem.W.mg_of X G a7⟩
  have F_done_straight := fun_mk (st := s_done_straight) l8 c8 k8
  have b_done_straight := F_done_straight.binds (ps := ["coat", "doing"]) fun _ _ _ _ _ _ us hl => match us, hl with | [_, _], _ => rfl
  have C_done_straight : Callee l.prog w K mg base "done_straight" 5 ["coat", "doing"] (sp_done_straight) := ⟨_, _, ok_done_straight F_done_straight T C_fits C_with_pair, F_done_straight.kp, b_done_straight, PySem.W.mg_of X G a8⟩
  have F_without := fun_mk (st := s_without) l9 c9 k9
  have b_without := F_without.binds (ps := ["doing", "pair"]) fun _ _ _ _ _ _ us hl => match us, hl with | [_, _], _ => rfl
  have C_without : Callee l.prog w K mg base "without" 1 ["doing", "pair"] (sp_without) := ⟨_, _, ok_without F_without T, F_without.kp, b_without, PySem.W.mg_of X G a9⟩
  have F_straighten := fun_mk (st := s_straighten) l10 c10 k10
  have b_straighten := F_straighten.binds (ps := ["coat", "doing"]) fun _ _ _ _ _ _ us hl => match us, hl with | [_, _], _ => rfl
  have C_straighten : Callee l.prog w K mg base "straighten" 6 ["coat", "doing"] (sp_straighten) := ⟨_, _, ok_straighten F_straighten T C_done_straight C_without, F_straighten.kp, b_straighten, PySem.W.mg_of X G a10⟩
  have K_straighten : KwI l.prog w K mg base "straighten" 6 ["coat", "doing"] sp_straighten := ⟨_, _, ok_straighten F_straighten T C_done_straight C_without, F_straighten.kp, bindsKI (ps := ["coat", "doing"]) F_straighten fun _ _ _ _ _ _ ws hl => match ws, hl with | [_, _], _ => rfl, PySem.W.mg_of X G a10⟩
  have F__law_draw := fun_mk (st := s__law_draw) l11 c11 k11
  have b__law_draw := F__law_draw.binds (ps := ["tape", "many"]) fun _ _ _ _ _ _ us hl => match us, hl with | [_, _], _ => rfl
  have C__law_draw : Callee l.prog w K mg base "_law_draw" 1 ["tape", "many"] (sp__law_draw) := ⟨_, _, ok__law_draw F__law_draw T, F__law_draw.kp, b__law_draw, PySem.W.mg_of X G a11⟩
  have F_is_coat := fun_mk (st := s_is_coat) l12 c12 k12
  have b_is_coat := F_is_coat.binds (ps := ["thing"]) fun _ _ _ _ _ _ us hl => match us, hl with | [_], _ => rfl
  have C_is_coat : Callee l.prog w K mg base "is_coat" 2 ["thing"] (sp_is_coat) := ⟨_, _, ok_is_coat F_is_coat T C_is_within, F_is_coat.kp, b_is_coat, PySem.W.mg_of X G a12⟩
  have K_is_coat : KwI l.prog w K mg base "is_coat" 2 ["thing"] sp_is_coat := ⟨_, _, ok_is_coat F_is_coat T C_is_within, F_is_coat.kp, bindsKI (ps := ["thing"]) F_is_coat fun _ _ _ _ _ _ ws hl => match ws, hl with | [_], _ => rfl, PySem.W.mg_of X G a12⟩
  have F_bound := fun_mk (st := s_bound) l13 c13 k13
  have b_bound := F_bound.binds (ps := ["coat", "doing"]) fun _ _ _ _ _ _ us hl => match us, hl with | [_, _], _ => rfl
  have C_bound : Callee l.prog w K mg base "bound" 5 ["coat", "doing"] (sp_bound) := ⟨_, _, ok_bound F_bound T C_fits, F_bound.kp, b_bound, PySem.W.mg_of X G a13⟩
  have F_can_stay := fun_mk (st := s_can_stay) l14 c14 k14
  have b_can_stay := F_can_stay.binds (ps := ["coat", "one", "other"]) fun _ _ _ _ _ _ us hl => match us, hl with | [_, _, _], _ => rfl
  have C_can_stay : Callee l.prog w K mg base "can_stay" 6 ["coat", "one", "other"] (sp_can_stay) := ⟨_, _, ok_can_stay F_can_stay T C_bound, F_can_stay.kp, b_can_stay, PySem.W.mg_of X G a14⟩
  have K_can_stay : KwI l.prog w K mg base "can_stay" 6 ["coat", "one", "other"] sp_can_stay := ⟨_, _, ok_can_stay F_can_stay T C_bound, F_can_stay.kp, bindsKI (ps := ["coat", "one", "other"]) F_can_stay fun _ _ _ _ _ _ ws hl => match ws, hl with | [_, _, _], _ => rfl, PySem.W.mg_of X G a14⟩
  have F_moves := fun_mk (st := s_moves) l15 c15 k15
  have b_moves := F_moves.binds (ps := ["coat", "doing"]) fun _ _ _ _ _ _ us hl => match us, hl with | [_, _], _ => rfl
  have C_moves : Callee l.prog w K mg base "moves" 5 ["coat", "doing"] (sp_moves) := ⟨_, _, ok_moves F_moves T C_with_pair C_without C_fits, F_moves.kp, b_moves, PySem.W.mg_of X G a15⟩
  have F_led := fun_mk (st := s_led) l16 c16 k16
  have b_led := F_led.binds (ps := ["found", "last"]) fun _ _ _ _ _ _ us hl => match us, hl with | [_, _], _ => rfl
  have C_led : Callee l.prog w K mg base "led" 1 ["found", "last"] (sp_led l.prog w) := ⟨_, _, ok_led F_led T, F_led.kp, b_led, PySem.W.mg_of X G a16⟩
  have F_way := fun_mk (st := s_way) l17 c17 k17
  have b_way := F_way.binds (ps := ["coat", "one", "other", "least"]) fun _ _ _ _ _ _ us hl => match us, hl with | [_, _, _, _], _ => rfl
  have C_way : Callee l.prog w K mg base "way" 6 ["coat", "one", "other", "least"] (sp_way) := ⟨_, _, ok_way F_way T C_moves C_led, F_way.kp, b_way, PySem.W.mg_of X G a17⟩
  have K_way : KwI l.prog w K mg base "way" 6 ["coat", "one", "other", "least"] sp_way := ⟨_, _, ok_way F_way T C_moves C_led, F_way.kp, bindsKI (ps := ["coat", "one", "other", "least"]) F_way fun _ _ _ _ _ _ ws hl => match ws, hl with | [_, _, _, _], _ => rfl, PySem.W.mg_of X G a17⟩
  have F_fewest := fun_mk (st := s_fewest) l18 c18 k18
  have b_fewest := F_fewest.binds (ps := ["coat", "one", "other", "least"]) fun _ _ _ _ _ _ us hl => match us, hl with | [_, _, _, _], _ => rfl
  have C_fewest : Callee l.prog w K mg base "fewest" 7 ["coat", "one", "other", "least"] (sp_fewest) := ⟨_, _, ok_fewest F_fewest T C_way, F_fewest.kp, b_fewest, PySem.W.mg_of X G a18⟩
  have K_fewest : KwI l.prog w K mg base "fewest" 7 ["coat", "one", "other", "least"] sp_fewest := ⟨_, _, ok_fewest F_fewest T C_way, F_fewest.kp, bindsKI (ps := ["coat", "one", "other", "least"]) F_fewest fun _ _ _ _ _ _ ws hl => match ws, hl with | [_, _, _, _], _ => rfl, PySem.W.mg_of X G a18⟩
  have F_all_fewest := fun_mk (st := s_all_fewest) l19 c19 k19
  have b_all_fewest := F_all_fewest.binds (ps := ["coat", "one", "other"]) fun _ _ _ _ _ _ us hl => match us, hl with | [_, _, _], _ => rfl
  have C_all_fewest : Callee l.prog w K mg base "all_fewest" 8 ["coat", "one", "other"] (sp_all_fewest) := ⟨_, _, ok_all_fewest F_all_fewest T C_can_stay C_fewest, F_all_fewest.kp, b_all_fewest, PySem.W.mg_of X G a19⟩
  have K_all_fewest : KwI l.prog w K mg base "all_fewest" 8 ["coat", "one", "other"] sp_all_fewest := ⟨_, _, ok_all_fewest F_all_fewest T C_can_stay C_fewest, F_all_fewest.kp, bindsKI (ps := ["coat", "one", "other"]) F_all_fewest fun _ _ _ _ _ _ ws hl => match ws, hl with | [_, _, _], _ => rfl, PySem.W.mg_of X G a19⟩
  have F_moved := fun_mk (st := s_moved) l20 c20 k20
  have b_moved := F_moved.binds (ps := ["coat", "doing", "thing"]) fun _ _ _ _ _ _ us hl => match us, hl with | [_, _, _], _ => rfl
  have C_moved : Callee l.prog w K mg base "moved" 5 ["coat", "doing", "thing"] (sp_moved) := ⟨_, _, ok_moved F_moved T C_is_pair C_with_pair C_without C_fits, F_moved.kp, b_moved, PySem.W.mg_of X G a20⟩
  have F_along := fun_mk (st := s_along) l21 c21 k21
  have b_along := F_along.binds (ps := ["coat", "doing", "thing"]) fun _ _ _ _ _ _ us hl => match us, hl with | [_, _, _], _ => rfl
  have C_along : Callee l.prog w K mg base "along" 6 ["coat", "doing", "thing"] (sp_along) := ⟨_, _, ok_along F_along T C_moved, F_along.kp, b_along, PySem.W.mg_of X G a21⟩
  have F_behind := fun_mk (st := s_behind) l22 c22 k22
  have b_behind := F_behind.binds (ps := ["coat", "doing", "thing"]) fun _ _ _ _ _ _ us hl => match us, hl with | [_, _, _], _ => rfl
  have C_behind : Callee l.prog w K mg base "behind" 7 ["coat", "doing", "thing"] (sp_behind) := ⟨_, _, ok_behind F_behind T C_along, F_behind.kp, b_behind, PySem.W.mg_of X G a22⟩
  have K_behind : KwI l.prog w K mg base "behind" 7 ["coat", "doing", "thing"] sp_behind := ⟨_, _, ok_behind F_behind T C_along, F_behind.kp, bindsKI (ps := ["coat", "doing", "thing"]) F_behind fun _ _ _ _ _ _ ws hl => match ws, hl with | [_, _, _], _ => rfl, PySem.W.mg_of X G a22⟩
  have F_least_done := fun_mk (st := s_least_done) l23 c23 k23
  have b_least_done := F_least_done.binds (ps := ["coat", "doing", "thing"]) fun _ _ _ _ _ _ us hl => match us, hl with | [_, _, _], _ => rfl
  have C_least_done : Callee l.prog w K mg base "least_done" 7 ["coat", "doing", "thing"] (sp_least_done) := ⟨_, _, ok_least_done F_least_done T C_along, F_least_done.kp, b_least_done, PySem.W.mg_of X G a23⟩
  have K_least_done : KwI l.prog w K mg base "least_done" 7 ["coat", "doing", "thing"] sp_least_done := ⟨_, _, ok_least_done F_least_done T C_along, F_least_done.kp, bindsKI (ps := ["coat", "doing", "thing"]) F_least_done fun _ _ _ _ _ _ ws hl => match ws, hl with | [_, _, _], _ => rfl, PySem.W.mg_of X G a23⟩
  have F_apart := fun_mk (st := s_apart) l24 c24 k24
  have b_apart := F_apart.binds (ps := ["one", "other"]) fun _ _ _ _ _ _ us hl => match us, hl with | [_, _], _ => rfl
  have C_apart : Callee l.prog w K mg base "apart" 1 ["one", "other"] (sp_apart) := ⟨_, _, ok_apart F_apart T, F_apart.kp, b_apart, PySem.W.mg_of X G a24⟩
  have K_apart : KwI l.prog w K mg base "apart" 1 ["one", "other"] sp_apart := ⟨_, _, ok_apart F_apart T, F_apart.kp, bindsKI (ps := ["one", "other"]) F_apart fun _ _ _ _ _ _ ws hl => match ws, hl with | [_, _], _ => rfl, PySem.W.mg_of X G a24⟩
  have F__law_three_right := fun_mk (st := s__law_three_right) l25 c25 k25
  have b__law_three_right := F__law_three_right.binds (ps := []) fun _ _ _ _ _ _ us hl => match us, hl with | [], _ => rfl
  have C__law_three_right : Callee l.prog w K mg base "_law_three_right" 9 [] (sp__law_three_right) := ⟨_, _, ok__law_three_right F__law_three_right T K_is_coat K_is_doing K_fits KR_fits K_can_stay C_can_stay K_fewest C_fewest K_all_fewest K_behind K_least_done K_straighten K_apart K_way, F__law_three_right.kp, b__law_three_right, PySem.W.mg_of X G a25⟩
  have F_number_of := fun_mk (st := s_number_of) l26 c26 k26
  have b_number_of := F_number_of.binds (ps := ["coat", "doing"]) fun _ _ _ _ _ _ us hl => match us, hl with | [_, _], _ => rfl
  have C_number_of : Callee l.prog w K mg base "number_of" 2 ["coat", "doing"] (sp_number_of) := ⟨_, _, ok_number_of F_number_of T C_all_doings, F_number_of.kp, b_number_of, PySem.W.mg_of X G a26⟩
  have K_number_of : KwI l.prog w K mg base "number_of" 2 ["coat", "doing"] sp_number_of := ⟨_, _, ok_number_of F_number_of T C_all_doings, F_number_of.kp, bindsKI (ps := ["coat", "doing"]) F_number_of fun _ _ _ _ _ _ ws hl => match ws, hl with | [_, _], _ => rfl, PySem.W.mg_of X G a26⟩
  have F_done_up := fun_mk (st := s_done_up) l27 c27 k27
  have b_done_up := F_done_up.binds (ps := ["coat"]) fun _ _ _ _ _ _ us hl => match us, hl with | [_], _ => rfl
  have C_done_up : Callee l.prog w K mg base "done_up" 5 ["coat"] (sp_done_up) := ⟨_, _, ok_done_up F_done_up T C_fits C_all_doings, F_done_up.kp, b_done_up, PySem.W.mg_of X G a27⟩
  have K_done_up : KwI l.prog w K mg base "done_up" 5 ["coat"] sp_done_up := ⟨_, _, ok_done_up F_done_up T C_fits C_all_doings, F_done_up.kp, bindsKI (ps := ["coat"]) F_done_up fun _ _ _ _ _ _ ws hl => match ws, hl with | [_], _ => rfl, PySem.W.mg_of X G a27⟩
  have F__law_two_right := fun_mk (st := s__law_two_right) l28 c28 k28
  have b__law_two_right := F__law_two_right.binds (ps := []) fun _ _ _ _ _ _ us hl => match us, hl with | [], _ => rfl
  have C__law_two_right : Callee l.prog w K mg base "_law_two_right" 9 [] (sp__law_two_right) := ⟨_, _, ok__law_two_right F__law_two_right T K_doing_of K_number_of K_how_many K_done_up C_all_fewest, F__law_two_right.kp, b__law_two_right, PySem.W.mg_of X G a28⟩
  have F__law_four_right := fun_mk (st := s__law_four_right) l29 c29 k29
  have b__law_four_right := F__law_four_right.binds (ps := []) fun _ _ _ _ _ _ us hl => match us, hl with | [], _ => rfl
  have C__law_four_right : Callee l.prog w K mg base "_law_four_right" 9 [] (sp__law_four_right) := ⟨_, _, ok__law_four_right F__law_four_right T C_can_stay C_apart C_all_fewest, F__law_four_right.kp, b__law_four_right, PySem.W.mg_of X G a29⟩
  have F_law := fun_mk (st := s_law) l30 c30 k30
  exact ok_law F_law T C_how_many C_doing_of C_straighten C__law_draw C__law_three_right C__law_two_right C__law_four_right
end Lw
open PySem PySem.W PyProof.Rows
set_option maxHeartbeats 0 in
theorem PySem.Challenge.cw_misbutton_k08_written_cases_and_names_holds : PySem.Challenge.rw_misbutton_k08_written_cases_and_names.Holds := by
  w_on; o_law; k_head; (case hw => w_witness2)
  k_fill
  refine L2.walk_of (l := PySem.Challenge.rw_misbutton_k08_written_cases_and_names) (n := 63) (k := 10) (x := "script") (CX := fun _ => L2.CX0) (sp := fun w => Dz.sp_law _) rfl (by decide) rfl ⟨rfl, by decide, by decide⟩ (fun w h Y => PySem.W.kIn_of Y) ?F (fun _ _ a ns hl _ hS => ⟨a, ns, rfl, hS, fun _ => rfl⟩) (fun _ _ _ _ _ h => h)
  case F =>
    intro w mg fa h KX G hmg
    refine' Lw.all_mk KX G hmg ?a0 ?l0 ?c0 ?k0 ?a1 ?l1 ?c1 ?k1 ?a2 ?l2 ?c2 ?k2 ?a3 ?l3 ?c3 ?k3 ?a4 ?l4 ?c4 ?k4 ?a5 ?l5 ?c5 ?k5 ?a6 ?l6 ?c6 ?k6 ?a7 ?l7 ?c7 ?k7 ?a8 ?l8 ?c8 ?k8 ?a9 ?l9 ?c9 ?k9 ?a10 ?l10 ?c10 ?k10 ?a11 ?l11 ?c11 ?k11 ?a12 ?l12 ?c12 ?k12 ?a13 ?l13 ?c13 ?k13 ?a14 ?l14 ?c14 ?k14 ?a15 ?l15 ?c15 ?k15 ?a16 ?l16 ?c16 ?k16 ?a17 ?l17 ?c17 ?k17 ?a18 ?l18 ?c18 ?k18 ?a19 ?l19 ?c19 ?k19 ?a20 ?l20 ?c20 ?k20 ?a21 ?l21 ?c21 ?k21 ?a22 ?l22 ?c22 ?k22 ?a23 ?l23 ?c23 ?k23 ?a24 ?l24 ?c24 ?k24 ?a25 ?l25 ?c25 ?k25 ?a26 ?l26 ?c26 ?k26 ?a27 ?l27 ?c27 ?k27 ?a28 ?l28 ?c28 ?k28 ?a29 ?l29 ?c29 ?k29 ?a30 ?l30 ?c30 ?k30 ?z_isinstance ?z_len ?z_all ?z_max ?z_min ?z_sorted ?z_range ?z_zip ?z_int ?z_bool ?z_str ?z_list ?z_tuple ?z_MOST
    (case a0 => k_is); (case l0 => k_is); (case c0 => k_is); (case k0 => k_is); (case a1 => k_is); (case l1 => k_is); (case c1 => k_is); (case k1 => k_is); (case a2 => k_is); (case l2 => k_is); (case c2 => k_is); (case k2 => k_is); (case a3 => k_is); (case l3 => k_is); (case c3 => k_is); (case k3 => k_is); (case a4 => k_is); (case l4 => k_is); (case c4 => k_is); (case k4 => k_is); (case a5 => k_is); (case l5 => k_is); (case c5 => k_is); (case k5 => k_is); (case a6 => k_is); (case l6 => k_is); (case c6 => k_is); (case k6 => k_is); (case a7 => k_is); (case l7 => k_is); (case c7 => k_is); (case k7 => k_is); (case a8 => k_is); (case l8 => k_is); (case c8 => k_is); (case k8 => k_is); (case a9 => k_is); (case l9 => k_is); (case c9 => k_is); (case k9 => k_is); (case a10 => k_is); (case l10 => k_is); (case c10 => k_is); (case k10 => k_is); (case a11 => k_is); (case l11 => k_is); (case c11 => k_is); (case k11 => k_is); (case a12 => k_is); (case l12 => k_is); (case c12 => k_is); (case k12 => k_is); (case a13 => k_is); (case l13 => k_is); (case c13 => k_is); (case k13 => k_is); (case a14 => k_is); (case l14 => k_is); (case c14 => k_is); (case k14 => k_is); (case a15 => k_is); (case l15 => k_is); (case c15 => k_is); (case k15 => k_is); (case a16 => k_is); (case l16 => k_is); (case c16 => k_is); (case k16 => k_is); (case a17 => k_is); (case l17 => k_is); (case c17 => k_is); (case k17 => k_is); (case a18 => k_is); (case l18 => k_is); (case c18 => k_is); (case k18 => k_is); (case a19 => k_is); (case l19 => k_is); (case c19 => k_is); (case k19 => k_is); (case a20 => k_is); (case l20 => k_is); (case c20 => k_is); (case k20 => k_is); (case a21 => k_is); (case l21 => k_is); (case c21 => k_is); (case k21 => k_is); (case a22 => k_is); (case l22 => k_is); (case c22 => k_is); (case k22 => k_is); (case a23 => k_is); (case l23 => k_is); (case c23 => k_is); (case k23 => k_is); (case a24 => k_is); (case l24 => k_is); (case c24 => k_is); (case k24 => k_is); (case a25 => k_is); (case l25 => k_is); (case c25 => k_is); (case k25 => k_is); (case a26 => k_is); (case l26 => k_is); (case c26 => k_is); (case k26 => k_is); (case a27 => k_is); (case l27 => k_is); (case c27 => k_is); (case k27 => k_is); (case a28 => k_is); (case l28 => k_is); (case c28 => k_is); (case k28 => k_is); (case a29 => k_is); (case l29 => k_is); (case c29 => k_is); (case k29 => k_is); (case a30 => k_is); (case l30 => k_is); (case c30 => k_is); (case k30 => k_is); (case z_isinstance => k_is); (case z_len => k_is); (case z_all => k_is); (case z_max => k_is); (case z_min => k_is); (case z_sorted => k_is); (case z_range => k_is); (case z_zip => k_is); (case z_int => k_is); (case z_bool => k_is); (case z_str => k_is); (case z_list => k_is); (case z_tuple => k_is); (case z_MOST => k_is)
