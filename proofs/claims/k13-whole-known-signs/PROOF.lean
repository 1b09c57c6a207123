import PyProof.Rows.All
import Wide.All
import OpenK.AllK
import Wide.FinOn
import HandS.ForMost
import HandS.Flow
import HandS.TupAny
import HandS.Deep
import HandS.Wide
import HandS.Style
import HandS.Strs
import HandS.IsInst
import KE.GoesNew
import KE.GoesEnum
import KE.GoesMore
import HandS.Codes
import HandS.SetFor
import HandS.TupSets
import KE.SortCalls
import KE.SortData
import HandS.Conv
import KE.KDictSum
import KE.KDictZip
import KE.KDictList
import KE.KRevSl
import HandS.Replace
import HandS.ReplaceLit
import HandS.Zip
import PySem.Challenge.RW_lampwires_k13_whole_known_signs
set_option Elab.async false
set_option linter.all false
set_option maxRecDepth 100000
namespace LW
open PySem L2

/-! ### heaps and data -/
def Ex (G H : Hp) : Prop := ∀ a o, G a = some o → H a = some o
theorem Ex.refl (H : Hp) : Ex H H := fun _ _ h => h
theorem Ex.trans {A B C : Hp} (p : Ex A B) (q : Ex B C) : Ex A C := fun a o h => q a o (p a o h)
theorem Ex.new {H : Hp} {p : Addr} {o : HO} (h : H p = none) : Ex H (upd H p o) := fun a u e => by
  rw [upd_ne (ne_of_none e h)]
  exact e
theorem Ex.back {G H : Hp} {p : Addr} (e : Ex G H) (h : H p = none) : G p = none := by
  cases h1 : G p with
  | none => rfl
  | some o =>
    rw [e p o h1] at h
    cases h
theorem Ex.both {G H : Hp} {p : Addr} {o : HO} (e : Ex G H) (h : H p = none) : Ex (upd G p o) (upd H p o) := fun a u q => by
  by_cases ha : a = p
  · subst ha
    rw [upd_same] at q ⊢
    exact q
  · rw [upd_ne ha] at q ⊢
    exact e a u q

mutual
def Dt (G : Hp) : PyData → V → Prop
  | .none, v => v = .non
  | .bool b, v => v = .bl b
  | .int i, v => v = .int i
  | .str x, v => v = .str x
  | .list ds, v => ∃ a xs, v = .ref a ∧ G a = some (.lst xs) ∧ DtAll G ds xs
  | .tuple ds, v => ∃ a xs, v = .ref a ∧ G a = some (.tup xs) ∧ DtAll G ds xs
  | .dict _, _ => False
def DtAll (G : Hp) : List PyData → List V → Prop
  | [], vs => vs = []
  | d :: ds, vs => ∃ v r, vs = v :: r ∧ Dt G d v ∧ DtAll G ds r
end

mutual
theorem Dt.mono {G G' : Hp} (e : Ex G G') : ∀ (d : PyData) (v : V), Dt G d v → Dt G' d v
  | .none, v, h => h
  | .bool b, v, h => h
  | .int i, v, h => h
  | .str x, v, h => h
  | .list ds, v, h => by
    obtain ⟨a, xs, h1, h2, h3⟩ := h
    exact ⟨a, xs, h1, e _ _ h2, DtAll.mono e ds xs h3⟩
  | .tuple ds, v, h => by
    obtain ⟨a, xs, h1, h2, h3⟩ := h
    exact ⟨a, xs, h1, e _ _ h2, DtAll.mono e ds xs h3⟩
  | .dict _, _, h => h
theorem DtAll.mono {G G' : Hp} (e : Ex G G') : ∀ (ds : List PyData) (vs : List V), DtAll G ds vs → DtAll G' ds vs
  | [], vs, h => h
  | d :: ds, vs, h => by
    obtain ⟨v, r, h1, h2, h3⟩ := h
    exact ⟨v, r, h1, Dt.mono e d v h2, DtAll.mono e ds r h3⟩
end

mutual
theorem Dt.dp {K : PySem.W.Frag} {G : Hp} : ∀ (d : PyData) (v : V), Dt G d v → Dp K G v d
  | .none, v, h => by cases h; exact .non
  | .bool b, v, h => by cases h; exact .bl b
  | .int i, v, h => by cases h; exact .int i
  | .str x, v, h => by cases h; exact .str x
  | .list ds, v, h => by
    obtain ⟨a, xs, h1, h2, h3⟩ := h
    subst h1
    exact .lst (.inl (.inl h2)) (DtAll.dp ds xs h3)
  | .tuple ds, v, h => by
    obtain ⟨a, xs, h1, h2, h3⟩ := h
    subst h1
    exact .tup (.inl (.inl h2)) (DtAll.dp ds xs h3)
  | .dict _, _, h => h.elim
theorem DtAll.dp {K : PySem.W.Frag} {G : Hp} : ∀ (ds : List PyData) (vs : List V), DtAll G ds vs → DpAll K G vs ds
  | [], vs, h => by cases h; exact .nil
  | d :: ds, vs, h => by
    obtain ⟨v, r, h1, h2, h3⟩ := h
    subst h1
    exact .cons (Dt.dp d v h2) (DtAll.dp ds r h3)
end

theorem DtAll.iff {G : Hp} : ∀ {ds : List PyData} {vs : List V}, DtAll G ds vs ↔ ds.length = vs.length ∧ ∀ (i : Nat) (d : PyData) (v : V), ds[i]? = some d → vs[i]? = some v → Dt G d v
  | [], vs => by
    constructor
    · intro h
      cases h
      exact ⟨rfl, fun i d v h => by simp at h⟩
    · rintro ⟨h, _⟩
      exact List.length_eq_zero_iff.mp h.symm
  | d :: ds, vs => by
    constructor
    · rintro ⟨v, r, h1, h2, h3⟩
      subst h1
      obtain ⟨l, q⟩ := DtAll.iff.mp h3
      refine ⟨by simp [l], fun i d' v' e1 e2 => ?_⟩
      cases i with
      | zero =>
        simp at e1 e2
        subst e1; subst e2
        exact h2
      | succ i => exact q i d' v' (by simpa using e1) (by simpa using e2)
    · rintro ⟨l, q⟩
      cases vs with
      | nil => simp at l
      | cons v r =>
        refine ⟨v, r, rfl, q 0 d v rfl rfl, DtAll.iff.mpr ⟨by simpa using l, fun i d' v' e1 e2 => q (i + 1) d' v' (by simpa using e1) (by simpa using e2)⟩⟩
theorem DtAll.len {G : Hp} {ds : List PyData} {vs : List V} (h : DtAll G ds vs) : ds.length = vs.length := (DtAll.iff.mp h).1
theorem DtAll.get {G : Hp} {ds : List PyData} {vs : List V} (h : DtAll G ds vs) {i : Nat} {d : PyData} (e : ds[i]? = some d) : ∃ v, vs[i]? = some v ∧ Dt G d v := by
  obtain ⟨l, q⟩ := DtAll.iff.mp h
  have hi : i < vs.length := by
    rw [← l]
    exact (List.getElem?_eq_some_iff.mp e).1
  exact ⟨vs[i], List.getElem?_eq_getElem hi, q i d _ e (List.getElem?_eq_getElem hi)⟩
theorem DtAll.got {G : Hp} {ds : List PyData} {vs : List V} (h : DtAll G ds vs) {i : Nat} {v : V} (e : vs[i]? = some v) : ∃ d, ds[i]? = some d ∧ Dt G d v := by
  obtain ⟨l, q⟩ := DtAll.iff.mp h
  have hi : i < ds.length := by
    rw [l]
    exact (List.getElem?_eq_some_iff.mp e).1
  exact ⟨ds[i], List.getElem?_eq_getElem hi, q i _ v (List.getElem?_eq_getElem hi) e⟩
theorem DtAll.append {G : Hp} : ∀ {ds es : List PyData} {vs ws : List V}, DtAll G ds vs → DtAll G es ws → DtAll G (ds ++ es) (vs ++ ws)
  | [], es, vs, ws, h, h' => by cases h; exact h'
  | d :: ds, es, vs, ws, h, h' => by
    obtain ⟨v, r, h1, h2, h3⟩ := h
    subst h1
    exact ⟨v, r ++ ws, rfl, h2, DtAll.append h3 h'⟩
theorem DtAll.one {G : Hp} {d : PyData} {v : V} (h : Dt G d v) : DtAll G [d] [v] := ⟨v, [], rfl, h, rfl⟩
theorem DtAll.drop {G : Hp} : ∀ (n : Nat) {ds : List PyData} {vs : List V}, DtAll G ds vs → DtAll G (ds.drop n) (vs.drop n)
  | 0, _, _, h => h
  | n + 1, [], vs, h => by cases h; rfl
  | n + 1, d :: ds, vs, h => by
    obtain ⟨v, r, h1, h2, h3⟩ := h
    subst h1
    exact DtAll.drop n h3
theorem DtAll.take {G : Hp} : ∀ (n : Nat) {ds : List PyData} {vs : List V}, DtAll G ds vs → DtAll G (ds.take n) (vs.take n)
  | 0, _, _, h => rfl
  | n + 1, [], vs, h => by cases h; rfl
  | n + 1, d :: ds, vs, h => by
    obtain ⟨v, r, h1, h2, h3⟩ := h
    subst h1
    exact ⟨v, r.take n, rfl, h2, DtAll.take n h3⟩
theorem DtAll.reverse {G : Hp} : ∀ {ds : List PyData} {vs : List V}, DtAll G ds vs → DtAll G ds.reverse vs.reverse
  | [], vs, h => by cases h; rfl
  | d :: ds, vs, h => by
    obtain ⟨v, r, h1, h2, h3⟩ := h
    subst h1
    rw [List.reverse_cons, List.reverse_cons]
    exact (DtAll.reverse h3).append (.one h2)
theorem DtAll.set {G : Hp} : ∀ {ds : List PyData} {vs : List V} (i : Nat) {d : PyData} {v : V}, DtAll G ds vs → Dt G d v → DtAll G (ds.set i d) (vs.set i v)
  | [], vs, i, d, v, h, _ => by cases h; rfl
  | e :: ds, vs, 0, d, v, h, hd => by
    obtain ⟨v', r, h1, h2, h3⟩ := h
    subst h1
    exact ⟨v, r, rfl, hd, h3⟩
  | e :: ds, vs, i + 1, d, v, h, hd => by
    obtain ⟨v', r, h1, h2, h3⟩ := h
    subst h1
    exact ⟨v', r.set i v, rfl, h2, DtAll.set i h3 hd⟩
theorem DtAll.eraseIdx {G : Hp} : ∀ {ds : List PyData} {vs : List V} (i : Nat), DtAll G ds vs → DtAll G (ds.eraseIdx i) (vs.eraseIdx i)
  | [], vs, i, h => by cases h; rfl
  | e :: ds, vs, 0, h => by
    obtain ⟨v', r, h1, h2, h3⟩ := h
    subst h1
    exact h3
  | e :: ds, vs, i + 1, h => by
    obtain ⟨v', r, h1, h2, h3⟩ := h
    subst h1
    exact ⟨v', r.eraseIdx i, rfl, h2, DtAll.eraseIdx i h3⟩
theorem DtAll.dropLast {G : Hp} {ds : List PyData} {vs : List V} (h : DtAll G ds vs) : DtAll G ds.dropLast vs.dropLast := by
  rw [List.dropLast_eq_take, List.dropLast_eq_take, h.len]
  exact h.take _
theorem DtAll.ints {G : Hp} : ∀ {ns : List Int} {vs : List V}, DtAll G (ns.map PyData.int) vs → vs = ns.map V.int
  | [], vs, h => h
  | n :: ns, vs, h => by
    obtain ⟨v, r, h1, h2, h3⟩ := h
    have e : v = .int n := h2
    rw [h1, e, DtAll.ints h3]
    rfl
theorem DtAll.of_ints {G : Hp} : ∀ (ns : List Int), DtAll G (ns.map PyData.int) (ns.map V.int)
  | [] => rfl
  | n :: ns => ⟨_, _, rfl, rfl, DtAll.of_ints ns⟩
theorem DtAll.bools {G : Hp} : ∀ {ns : List Bool} {vs : List V}, DtAll G (ns.map PyData.bool) vs → vs = ns.map V.bl
  | [], vs, h => h
  | n :: ns, vs, h => by
    obtain ⟨v, r, h1, h2, h3⟩ := h
    have e : v = .bl n := h2
    rw [h1, e, DtAll.bools h3]
    rfl
theorem DtAll.strs {G : Hp} : ∀ {ns : List Str} {vs : List V}, DtAll G (ns.map PyData.str) vs → vs = ns.map V.str
  | [], vs, h => h
  | n :: ns, vs, h => by
    obtain ⟨v, r, h1, h2, h3⟩ := h
    have e : v = .str n := h2
    rw [h1, e, DtAll.strs h3]
    rfl

/-! ### slots, cells -/
def kInt (k : List Int) : List L2.Key := k.map Sum.inl
inductive Sl where
  | un
  | dat (d : PyData)
  | raw (v : V)
  /-- a dict that is locked, its keys -/
  | fd (ks : List (List Int))
  /-- a list that is locked -/
  | fl (ds : List PyData)
  /-- a tuple of a raw value and two data -/
  | rdd (u : V) (d e : PyData)
def SlV (G : Hp) (v : V) : Sl → Prop
  | .un => True
  | .dat d => Dt G d v
  | .raw u => v = u
  | .fd ks => ∃ (a : Addr) (o : Obj) (ws : List (List L2.Key × V)), v = .ref a ∧ G a = some (.frz o (.dT ws)) ∧ ws.map (·.1) = ks.map kInt
  | .fl ds => ∃ (a : Addr) (o : Obj) (vs : List V), v = .ref a ∧ G a = some (.frz o (.lst vs)) ∧ DtAll G ds vs
  | .rdd u d e => ∃ (a : Addr) (x y : V), v = .ref a ∧ G a = some (.tup [u, x, y]) ∧ Dt G d x ∧ Dt G e y
def SlO (G : Hp) : Option V → Sl → Prop
  | _, .un => True
  | some v, s => SlV G v s
  | none, _ => False
theorem SlV.mono {G G' : Hp} (e : Ex G G') {v : V} : ∀ {s : Sl}, SlV G v s → SlV G' v s
  | .un, h => h
  | .dat d, h => Dt.mono e d v h
  | .raw u, h => h
  | .fd ks, ⟨a, o, ws, h1, h2, h3⟩ => ⟨a, o, ws, h1, e _ _ h2, h3⟩
  | .fl ds, ⟨a, o, vs, h1, h2, h3⟩ => ⟨a, o, vs, h1, e _ _ h2, h3.mono e⟩
  | .rdd u d d', ⟨a, x, y, h1, h2, h3, h4⟩ => ⟨a, x, y, h1, e _ _ h2, Dt.mono e d x h3, Dt.mono e d' y h4⟩
theorem SlO.mono {G G' : Hp} (e : Ex G G') : ∀ {o : Option V} {s : Sl}, SlO G o s → SlO G' o s
  | _, .un, _ => trivial
  | some v, .dat d, h => Dt.mono e d v h
  | some v, .raw u, h => h
  | some v, .fd ks, h => SlV.mono (s := .fd ks) e h
  | some v, .fl ds, h => SlV.mono (s := .fl ds) e h
  | some v, .rdd u d d', h => SlV.mono (s := .rdd u d d') e h
  | none, .dat d, h => h
  | none, .raw d, h => h
  | none, .fd d, h => h
  | none, .fl d, h => h
  | none, .rdd _ _ _, h => h
structure SlAll (G : Hp) (σ : L2.St) (ρ : List Sl) : Prop where
  len : σ.length = ρ.length
  at_ : ∀ (i : Nat) (o : Option V) (s : Sl), σ[i]? = some o → ρ[i]? = some s → SlO G o s
theorem SlAll.mono {G G' : Hp} (e : Ex G G') {σ : L2.St} {ρ : List Sl} (h : SlAll G σ ρ) : SlAll G' σ ρ := ⟨h.len, fun i o s h1 h2 => (h.at_ i o s h1 h2).mono e⟩
theorem SlAll.set {G : Hp} {σ : L2.St} {ρ : List Sl} (h : SlAll G σ ρ) (i : Nat) {v : V} {s : Sl} (hv : SlV G v s) : SlAll G (σ.set i (some v)) (ρ.set i s) := by
  refine ⟨by rw [List.length_set, List.length_set, h.len], fun j o s' h1 h2 => ?_⟩
  rw [List.getElem?_set] at h1 h2
  by_cases hj : i = j
  · rw [if_pos hj] at h1 h2
    by_cases hl : i < σ.length
    · rw [if_pos hl] at h1
      rw [if_pos (by rw [← h.len]; exact hl)] at h2
      cases h1; cases h2
      cases s with
      | un => trivial
      | dat d => exact hv
      | raw u => exact hv
      | fd u => exact hv
      | fl u => exact hv
      | rdd u d d' => exact hv
    · rw [if_neg hl] at h1
      cases h1
  · rw [if_neg hj] at h1 h2
    exact h.at_ j o s' h1 h2
theorem SlAll.unset {G : Hp} {σ : L2.St} {ρ : List Sl} (h : SlAll G σ ρ) (i : Nat) {o : Option V} : SlAll G (σ.set i o) (ρ.set i .un) := by
  refine ⟨by rw [List.length_set, List.length_set, h.len], fun j o s' h1 h2 => ?_⟩
  rw [List.getElem?_set] at h1 h2
  by_cases hj : i = j
  · rw [if_pos hj] at h1 h2
    by_cases hl : i < σ.length
    · rw [if_pos (by rw [← h.len]; exact hl)] at h2
      cases h2
      trivial
    · rw [if_neg hl] at h1
      cases h1
  · rw [if_neg hj] at h1 h2
    exact h.at_ j o s' h1 h2
theorem SlAll.get {G : Hp} {σ : L2.St} {ρ : List Sl} (h : SlAll G σ ρ) {i : Nat} {s : Sl} (e : ρ[i]? = some s) (hs : s ≠ .un) : ∃ v, σ[i]? = some (some v) ∧ SlV G v s := by
  have hi : i < σ.length := by
    rw [h.len]
    exact (List.getElem?_eq_some_iff.mp e).1
  have q := h.at_ i σ[i] s (List.getElem?_eq_getElem hi) e
  cases ho : σ[i] with
  | none =>
    rw [ho] at q
    cases s with
    | un => exact absurd rfl hs
    | dat d => exact q.elim
    | raw d => exact q.elim
    | fd d => exact q.elim
    | fl d => exact q.elim
    | rdd u d d' => exact q.elim
  | some v =>
    rw [ho] at q
    refine ⟨v, by rw [List.getElem?_eq_getElem hi, ho], ?_⟩
    cases s with
    | un => exact absurd rfl hs
    | dat d => exact q
    | raw d => exact q
    | fd d => exact q
    | fl d => exact q
    | rdd u d d' => exact q

def SlVs (G : Hp) : List V → List Sl → Prop
  | [], [] => True
  | v :: vs, s :: ss => SlV G v s ∧ SlVs G vs ss
  | _, _ => False
theorem SlVs.mono {G G' : Hp} (e : Ex G G') : ∀ {vs : List V} {ss : List Sl}, SlVs G vs ss → SlVs G' vs ss
  | [], [], h => h
  | v :: vs, s :: ss, h => ⟨h.1.mono e, SlVs.mono e h.2⟩
  | [], _ :: _, h => h
  | _ :: _, [], h => h
theorem SlVs.len {G : Hp} : ∀ {vs : List V} {ss : List Sl}, SlVs G vs ss → vs.length = ss.length
  | [], [], h => rfl
  | v :: vs, s :: ss, h => by simp [SlVs.len h.2]
  | [], _ :: _, h => h.elim
  | _ :: _, [], h => h.elim
/-- what stands at a cell: a list that may change, a dict whose keys are tuples of ints, the script, anything -/
inductive Ce where
  | lst (ds : List PyData)
  | dic (kvs : List (List Int × PyData))
  | scr (ns : List Int)
  | raw (o : HO)
  | ins (C dx : Addr) (fs : List (Str × Sl))
def CellIs (K : PySem.W.Frag) (G H : Hp) (a : Addr) : Ce → Prop
  | .lst ds => ∃ vs, H a = some (.lst vs) ∧ DtAll G ds vs
  | .dic kvs => ∃ ws : List (List L2.Key × V), H a = some (.dT ws) ∧ ws.map (·.1) = kvs.map (fun p => kInt p.1) ∧ DtAll G (kvs.map (·.2)) (ws.map (·.2))
  | .scr ns => Rd H a (.lst (ns.map V.int))
  | .raw o => H a = some o ∧ ∀ xs, o ≠ .tup xs
  | .ins C dx fs => ∃ ws : List (Str × V), H a = some (.ins C dx ws) ∧ ws.map (·.1) = fs.map (·.1) ∧ SlVs G (ws.map (·.2)) (fs.map (·.2)) ∧ (∀ ks, Sl.fd ks ∉ fs.map (·.2)) ∧ ∀ ks, Sl.fl ks ∉ fs.map (·.2)
abbrev Cs := List (Addr × Ce)
theorem CellIs.mono {K : PySem.W.Frag} {G G' H H' : Hp} {a : Addr} (e : Ex G G') (h : H' a = H a) : ∀ {c : Ce}, CellIs K G H a c → CellIs K G' H' a c
  | .lst ds, ⟨vs, h1, h2⟩ => ⟨vs, h.trans h1, h2.mono e⟩
  | .dic kvs, ⟨ws, h1, h2, h3⟩ => ⟨ws, h.trans h1, h2, h3.mono e⟩
  | .scr ns, q => by
    rcases q with q | ⟨o, q⟩
    · exact .inl (h.trans q)
    · exact .inr ⟨o, h.trans q⟩
  | .raw o, q => ⟨h.trans q.1, q.2⟩
  | .ins C dx fs, ⟨ws, h1, h2, h3⟩ => ⟨ws, h.trans h1, h2, h3.1.mono e, h3.2⟩
/-- a cell is no tuple -/
theorem CellIs.ne {K : PySem.W.Frag} {G H : Hp} {a : Addr} {xs : List V} (h : H a = some (.tup xs)) : ∀ {c : Ce}, CellIs K G H a c → False
  | .lst ds, ⟨vs, h1, _⟩ => by rw [h] at h1; cases h1
  | .dic kvs, ⟨ws, h1, _⟩ => by rw [h] at h1; cases h1
  | .scr ns, q => by
    rcases q with q | ⟨o, q⟩
    · rw [h] at q; cases q
    · rw [h] at q; cases q
  | .raw o, q => by
    have q1 := q.1
    rw [h] at q1
    exact q.2 _ (Option.some.inj q1).symm
  | .ins C dx fs, ⟨ws, h1, _⟩ => by rw [h] at h1; cases h1
/-- a place of the data that was not known, or a tuple that is known now -/
def Sm (G G' : Hp) (a : Addr) (o : HO) : Prop := G' a = G a ∨ ∃ xs, o = HO.tup xs
theorem Sm.trans {G G1 G2 : Hp} {a : Addr} {o : HO} (q : Sm G1 G2 a o) (p : Sm G G1 a o) : Sm G G2 a o := by
  rcases q with q | q
  · rcases p with p | p
    · exact .inl (q.trans p)
    · exact .inr p
  · exact .inr q
theorem Sm.cell {K : PySem.W.Frag} {G G' G0 H : Hp} {a : Addr} {o : HO} {c : Ce} (q : Sm G G' a o) (h : H a = some o) (hc : CellIs K G0 H a c) (hg : G a = none) : G' a = none := by
  rcases q with q | ⟨xs, rfl⟩
  · exact q.trans hg
  · exact (hc.ne h).elim
structure CsOk (K : PySem.W.Frag) (G H : Hp) (cs : Cs) : Prop where
  nd : (cs.map (·.1)).Nodup
  is : ∀ c ∈ cs, G c.1 = none ∧ (∃ o, H c.1 = some o) ∧ CellIs K G H c.1 c.2
theorem CsOk.nil {K : PySem.W.Frag} {G H : Hp} : CsOk K G H [] := ⟨List.nodup_nil, fun _ h => nomatch h⟩
/-- the heap's other part has grown -/
structure Gr (G H G' H' : Hp) : Prop where
  g : Ex G G'
  h : Ex H H'
  gh : Ex G' H'
  old : ∀ a o, H a = some o → Sm G G' a o
theorem Gr.refl {G H : Hp} (e : Ex G H) : Gr G H G H := ⟨.refl _, .refl _, e, fun _ _ _ => .inl rfl⟩
theorem Gr.trans {G H G1 H1 G2 H2 : Hp} (p : Gr G H G1 H1) (q : Gr G1 H1 G2 H2) : Gr G H G2 H2 := ⟨p.g.trans q.g, p.h.trans q.h, q.gh, fun a o h => (q.old a o (p.h a o h)).trans (p.old a o h)⟩
/-- a new object of the data -/
theorem Gr.new {G H : Hp} (e : Ex G H) {p : Addr} {o : HO} (hp : H p = none) : Gr G H (upd G p o) (upd H p o) :=
  ⟨.new (e.back hp), .new hp, e.both hp, fun a u h => .inl (upd_ne (ne_of_none h hp))⟩
/-- a tuple of the heap is known from now on -/
theorem Gr.see {G H : Hp} (e : Ex G H) {q : Addr} {xs : List V} (h : H q = some (.tup xs)) : Gr G H (upd G q (.tup xs)) H := by
  refine ⟨fun a o ha => ?_, .refl _, fun a o ha => ?_, fun a o ha => ?_⟩
  · by_cases hq : a = q
    · subst hq
      have e1 := e _ _ ha
      rw [h] at e1
      rw [upd_same]
      exact e1
    · rw [upd_ne hq]
      exact ha
  · by_cases hq : a = q
    · subst hq
      rw [upd_same] at ha
      rw [h]
      exact ha
    · rw [upd_ne hq] at ha
      exact e _ _ ha
  · by_cases hq : a = q
    · subst hq
      rw [h] at ha
      exact .inr ⟨xs, (Option.some.inj ha).symm⟩
    · exact .inl (upd_ne hq)
theorem CsOk.gr {K : PySem.W.Frag} {G H G' H' : Hp} {cs : Cs} (h : CsOk K G H cs) (g : Gr G H G' H') : CsOk K G' H' cs := by
  refine ⟨h.nd, fun c hc => ?_⟩
  obtain ⟨h1, ⟨o, h2⟩, h3⟩ := h.is c hc
  exact ⟨(g.old _ _ h2).cell h2 h3 h1, ⟨o, g.h _ _ h2⟩, h3.mono g.g ((g.h _ _ h2).trans h2.symm)⟩
structure Ok (K : PySem.W.Frag) (G : Hp) (σ : L2.St) (H : Hp) (ρ : List Sl) (cs : Cs) : Prop where
  ex : Ex G H
  sl : SlAll G σ ρ
  ce : CsOk K G H cs
theorem Ok.gr {K : PySem.W.Frag} {G H G' H' : Hp} {σ : L2.St} {ρ : List Sl} {cs : Cs} (h : Ok K G σ H ρ cs) (g : Gr G H G' H') : Ok K G' σ H' ρ cs := ⟨g.gh, h.sl.mono g.g, h.ce.gr g⟩
/-- what a run leaves alone -/
structure Fr (G H : Hp) (cs : Cs) (G' H' : Hp) (cs' : Cs) : Prop where
  g : Ex G G'
  keep : ∀ a o, H a = some o → a ∉ cs.map (·.1) → H' a = some o ∧ Sm G G' a o
  grow : ∀ a o, H a = some o → ∃ o', H' a = some o'
  new : ∀ a ∈ cs'.map (·.1), a ∈ cs.map (·.1) ∨ H a = none
theorem Fr.refl {G H : Hp} {cs : Cs} : Fr G H cs G H cs := ⟨.refl _, fun _ _ h _ => ⟨h, .inl rfl⟩, fun _ o h => ⟨o, h⟩, fun _ h => .inl h⟩
theorem Fr.trans {G H G1 H1 G2 H2 : Hp} {cs cs1 cs2 : Cs} (p : Fr G H cs G1 H1 cs1) (q : Fr G1 H1 cs1 G2 H2 cs2) : Fr G H cs G2 H2 cs2 := by
  refine ⟨p.g.trans q.g, fun a o h hn => ?_, fun a o h => ?_, fun a h => ?_⟩
  · obtain ⟨h1, g1⟩ := p.keep a o h hn
    have hn1 : a ∉ cs1.map (·.1) := fun z => by
      rcases p.new a z with z | z
      · exact hn z
      · rw [h] at z
        cases z
    obtain ⟨h2, g2⟩ := q.keep a o h1 hn1
    exact ⟨h2, g2.trans g1⟩
  · obtain ⟨o1, h1⟩ := p.grow a o h
    exact q.grow a o1 h1
  · rcases q.new a h with z | z
    · exact p.new a z
    · refine .inr ?_
      cases h1 : H a with
      | none => rfl
      | some o =>
        obtain ⟨o', h2⟩ := p.grow a o h1
        rw [z] at h2
        cases h2
theorem Gr.fr {G H G' H' : Hp} (g : Gr G H G' H') {cs : Cs} : Fr G H cs G' H' cs := ⟨g.g, fun a o h _ => ⟨g.h a o h, g.old a o h⟩, fun a o h => ⟨o, g.h a o h⟩, fun _ h => .inl h⟩
theorem Fr.gr {G H G' H' : Hp} {cs' : Cs} (f : Fr G H [] G' H' cs') (e : Ex G' H') : Gr G H G' H' := ⟨f.g, fun a o h => (f.keep a o h (by simp)).1, e, fun a o h => (f.keep a o h (by simp)).2⟩

/-! ### what an expression comes to -/
def Ev (K : PySem.W.Frag) (te : TE) (ρ : List Sl) (cs : Cs) (z : Sl) (cs' : Cs) : Prop :=
  ∀ G σ H, Ok K G σ H ρ cs → ∀ Q : VK, (∀ v G' H', Fr G H cs G' H' cs' → Ok K G' σ H' ρ cs' → SlV G' v z → Q v H') → te σ H Q
/-- it comes to a new object -/
def EvN (K : PySem.W.Frag) (te : TE) (ρ : List Sl) (cs : Cs) (c : Ce) (cs' : Cs) : Prop :=
  ∀ G σ H, Ok K G σ H ρ cs → ∀ Q : VK, (∀ p G' H', H p = none → Fr G H cs G' H' ((p, c) :: cs') → Ok K G' σ H' ρ ((p, c) :: cs') → Q (.ref p) H') → te σ H Q
def EvT (K : PySem.W.Frag) (tt : TT) (ρ : List Sl) (cs : Cs) (b : Bool) (cs' : Cs) : Prop :=
  ∀ G σ H, Ok K G σ H ρ cs → ∀ Q : Bool → Hp → Prop, (∀ G' H', Fr G H cs G' H' cs' → Ok K G' σ H' ρ cs' → Q b H') → tt σ H Q
def EvA (K : PySem.W.Frag) (ta : TA) (ρ : List Sl) (cs : Cs) (zs : List Sl) (cs' : Cs) : Prop :=
  ∀ G σ H, Ok K G σ H ρ cs → ∀ Q : List V → Hp → Prop, (∀ vs G' H', Fr G H cs G' H' cs' → Ok K G' σ H' ρ cs' → SlVs G' vs zs → Q vs H') → ta σ H Q
def EvO (K : PySem.W.Frag) (to : TO) (ρ : List Sl) (cs : Cs) (o : Option Int) (cs' : Cs) : Prop :=
  ∀ G σ H, Ok K G σ H ρ cs → ∀ Q : Option Int → Hp → Prop, (∀ G' H', Fr G H cs G' H' cs' → Ok K G' σ H' ρ cs' → Q o H') → to σ H Q

section
variable {K : PySem.W.Frag} {ρ : List Sl} {cs cs1 cs2 cs3 : Cs} {te ta tb : TE} {z z1 z2 : Sl} {d d1 d2 : PyData}
theorem ev_var (i : Nat) (h : ρ[i]? = some z) (hz : z ≠ .un) : Ev K (tVar i) ρ cs z cs := fun G σ H ok Q q => by
  obtain ⟨v, h1, h2⟩ := ok.sl.get h hz
  exact ⟨v, h1, q v G H .refl ok h2⟩
theorem ev_vard (i : Nat) (h : ρ[i]? = some (.dat d)) : Ev K (tVar i) ρ cs (.dat d) cs := ev_var i h (fun z => nomatch z)
theorem ev_varr (i : Nat) {v : V} (h : ρ[i]? = some (.raw v)) : Ev K (tVar i) ρ cs (.raw v) cs := ev_var i h (fun z => nomatch z)
theorem ev_int {i : Int} : Ev K (tC (.int i)) ρ cs (.dat (.int i)) cs := fun G σ H ok Q q => q _ G H .refl ok rfl
theorem ev_bl {i : Bool} : Ev K (tC (.bl i)) ρ cs (.dat (.bool i)) cs := fun G σ H ok Q q => q _ G H .refl ok rfl
theorem ev_str {i : Str} : Ev K (tC (.str i)) ρ cs (.dat (.str i)) cs := fun G σ H ok Q q => q _ G H .refl ok rfl
theorem ev_non : Ev K (tC .non) ρ cs (.dat .none) cs := fun G σ H ok Q q => q _ G H .refl ok rfl
theorem ev_raw {v : V} : Ev K (tC v) ρ cs (.raw v) cs := fun G σ H ok Q q => q _ G H .refl ok rfl
/-- an operation by values, read at data -/
def OpD (K : PySem.W.Frag) (r : R2) (z1 z2 : Sl) (cs : Cs) (z : Sl) : Prop :=
  ∀ x y G H, SlV G x z1 → SlV G y z2 → Ex G H → CsOk K G H cs → ∀ Q : VK, (∀ v G' H', Gr G H G' H' → SlV G' v z → Q v H') → r x y H Q
def OpN (K : PySem.W.Frag) (r : R2) (z1 z2 : Sl) (cs : Cs) (ds : List PyData) : Prop :=
  ∀ x y G H, SlV G x z1 → SlV G y z2 → Ex G H → CsOk K G H cs → ∀ Q : VK, (∀ p vs, H p = none → DtAll G ds vs → Q (.ref p) (upd H p (.lst vs))) → r x y H Q
theorem Ok.newL {G H : Hp} {σ : L2.St} (ok : Ok K G σ H ρ cs) {p : Addr} {vs : List V} {ds : List PyData} (hp : H p = none) (h : DtAll G ds vs) : Fr G H cs G (upd H p (.lst vs)) ((p, .lst ds) :: cs) ∧ Ok K G σ (upd H p (.lst vs)) ρ ((p, .lst ds) :: cs) := by
  have hpc : p ∉ cs.map (·.1) := fun z => by
    obtain ⟨c, hc, e⟩ := List.mem_map.mp z
    obtain ⟨_, ⟨o, h2⟩, _⟩ := ok.ce.is c hc
    have e' : c.1 = p := e
    rw [e', hp] at h2
    cases h2
  refine ⟨⟨.refl _, fun a o h hn => ⟨Ex.new hp a o h, .inl rfl⟩, fun a o h => ⟨o, Ex.new hp a o h⟩, fun a h => ?_⟩, ⟨ok.ex.trans (.new hp), ok.sl, ?_, fun c hc => ?_⟩⟩
  · rw [List.map_cons] at h
    rcases List.mem_cons.mp h with z | z
    · exact .inr (by rw [show a = p from z]; exact hp)
    · exact .inl z
  · rw [List.map_cons]
    exact List.nodup_cons.mpr ⟨hpc, ok.ce.nd⟩
  · rcases List.mem_cons.mp hc with z | z
    · subst z
      exact ⟨ok.ex.back hp, ⟨_, upd_same⟩, vs, upd_same, h⟩
    · obtain ⟨h1, ⟨o, h2⟩, h3⟩ := ok.ce.is c z
      have hne : c.1 ≠ p := ne_of_none h2 hp
      exact ⟨h1, ⟨o, (upd_ne hne).trans h2⟩, h3.mono (.refl _) (upd_ne hne)⟩
theorem Ok.newC {G H : Hp} {σ : L2.St} (ok : Ok K G σ H ρ cs) {p : Addr} {o : HO} {c : Ce} (hp : H p = none) (h : ∀ H', H' p = some o → CellIs K G H' p c) : Fr G H cs G (upd H p o) ((p, c) :: cs) ∧ Ok K G σ (upd H p o) ρ ((p, c) :: cs) := by
  have hpc : p ∉ cs.map (·.1) := fun z => by
    obtain ⟨c, hc, e⟩ := List.mem_map.mp z
    obtain ⟨_, ⟨o, h2⟩, _⟩ := ok.ce.is c hc
    have e' : c.1 = p := e
    rw [e', hp] at h2
    cases h2
  refine ⟨⟨.refl _, fun a o h hn => ⟨Ex.new hp a o h, .inl rfl⟩, fun a o h => ⟨o, Ex.new hp a o h⟩, fun a h => ?_⟩, ⟨ok.ex.trans (.new hp), ok.sl, ?_, fun c hc => ?_⟩⟩
  · rw [List.map_cons] at h
    rcases List.mem_cons.mp h with z | z
    · exact .inr (by rw [show a = p from z]; exact hp)
    · exact .inl z
  · rw [List.map_cons]
    exact List.nodup_cons.mpr ⟨hpc, ok.ce.nd⟩
  · rcases List.mem_cons.mp hc with z | z
    · subst z
      exact ⟨ok.ex.back hp, ⟨_, upd_same⟩, h _ upd_same⟩
    · obtain ⟨h1, ⟨o, h2⟩, h3⟩ := ok.ce.is c z
      have hne : c.1 ≠ p := ne_of_none h2 hp
      exact ⟨h1, ⟨o, (upd_ne hne).trans h2⟩, h3.mono (.refl _) (upd_ne hne)⟩
/-- a list that is not changed any more is data -/
theorem Ok.freeze {G H : Hp} {σ : L2.St} {p : Addr} {ds : List PyData} (ok : Ok K G σ H ρ ((p, .lst ds) :: cs)) : ∃ G', Fr G H ((p, .lst ds) :: cs) G' H cs ∧ Ok K G' σ H ρ cs ∧ Dt G' (.list ds) (.ref p) ∧ (∀ a, a ≠ p → G' a = G a) := by
  obtain ⟨h1, _, vs, h2, h3⟩ := ok.ce.is (p, .lst ds) List.mem_cons_self
  have h1 : G p = none := h1
  have h2 : H p = some (.lst vs) := h2
  have nd := ok.ce.nd
  rw [List.map_cons] at nd
  have hpn : p ∉ cs.map (·.1) := (List.nodup_cons.mp nd).1
  have ex : Ex G (upd G p (.lst vs)) := .new h1
  refine ⟨upd G p (.lst vs), ⟨ex, fun a o h hn => ⟨h, .inl (upd_ne fun z => hn (by rw [z]; exact List.mem_cons_self))⟩, fun a o h => ⟨o, h⟩, fun a h => .inl (List.mem_cons_of_mem _ h)⟩,
    ⟨fun a o h => ?_, ok.sl.mono ex, (List.nodup_cons.mp nd).2, fun c hc => ?_⟩, ⟨p, vs, rfl, upd_same, h3.mono ex⟩, fun a ha => upd_ne ha⟩
  · by_cases ha : a = p
    · subst ha
      rw [upd_same] at h
      rw [h2]
      exact h
    · rw [upd_ne ha] at h
      exact ok.ex a o h
  · obtain ⟨g1, g2, g3⟩ := ok.ce.is c (List.mem_cons_of_mem _ hc)
    have hne : c.1 ≠ p := fun z => hpn (by rw [← z]; exact List.mem_map.mpr ⟨c, hc, rfl⟩)
    exact ⟨(upd_ne hne).trans g1, g2, g3.mono ex rfl⟩
theorem ev_op {r : R2} (ha : Ev K ta ρ cs z1 cs1) (hb : Ev K tb ρ cs1 z2 cs2) (hr : OpD K r z1 z2 cs2 z) : Ev K (tOp r ta tb) ρ cs z cs2 := fun G σ H ok Q q =>
  ha G σ H ok _ fun x G1 H1 f1 ok1 h1 => hb G1 σ H1 ok1 _ fun y G2 H2 f2 ok2 h2 => hr x y G2 H2 (h1.mono f2.g) h2 ok2.ex ok2.ce _ fun v G3 H3 g3 h3 => q v G3 H3 ((f1.trans f2).trans g3.fr) (ok2.gr g3) h3
theorem evn_op {r : R2} {ds : List PyData} (ha : Ev K ta ρ cs z1 cs1) (hb : Ev K tb ρ cs1 z2 cs2) (hr : OpN K r z1 z2 cs2 ds) : EvN K (tOp r ta tb) ρ cs (.lst ds) cs2 := fun G σ H ok Q q =>
  ha G σ H ok _ fun x G1 H1 f1 ok1 h1 => hb G1 σ H1 ok1 _ fun y G2 H2 f2 ok2 h2 => hr x y G2 H2 (h1.mono f2.g) h2 ok2.ex ok2.ce _ fun p vs hp hvs => by
    obtain ⟨f3, ok3⟩ := ok2.newL hp hvs
    refine q p G2 _ ?_ ((f1.trans f2).trans f3) ok3
    cases h0 : H p with
    | none => rfl
    | some o =>
      obtain ⟨o', z⟩ := (f1.trans f2).grow p o h0
      rw [hp] at z
      cases z
theorem EvN.ev {ds : List PyData} (h : EvN K te ρ cs (.lst ds) cs') : Ev K te ρ cs (.dat (.list ds)) cs' := fun G σ H ok Q q =>
  h G σ H ok _ fun p G1 H1 hp f1 ok1 => by
    obtain ⟨G2, f2, ok2, hd, _⟩ := ok1.freeze
    exact q _ G2 H1 (f1.trans f2) ok2 hd
end
end LW

set_option Elab.async false
set_option linter.all false
set_option maxRecDepth 100000
namespace LW
open PySem PySem.Spec PyProof.Rows L2

/-! ### cells that are dropped, framed, changed -/
section
variable {K : PySem.W.Frag} {G H G' H' G1 H1 : Hp} {σ : L2.St} {ρ : List Sl} {cs cs' cs1 cs2 cs3 : Cs} {p : Addr} {ds : List PyData}
theorem CsOk.sub (h : CsOk K G H cs) (s : List.Sublist cs' cs) : CsOk K G H cs' := ⟨(s.map _).nodup h.nd, fun c hc => h.is c (s.subset hc)⟩
theorem Fr.sub (h : Fr G H cs G' H' cs1) (s : List.Sublist cs2 cs1) : Fr G H cs G' H' cs2 := ⟨h.g, h.keep, h.grow, fun a ha => h.new a ((s.map _).subset ha)⟩
theorem Ok.sub (h : Ok K G σ H ρ cs) (s : List.Sublist cs' cs) : Ok K G σ H ρ cs' := ⟨h.ex, h.sl, h.ce.sub s⟩
/-- a cell that a run does not know stays as it is -/
theorem frame1 {x : Addr × Ce} (ok : CsOk K G H (x :: cs)) (f : Fr G H cs G' H' cs') (ok' : CsOk K G' H' cs') : Fr G H (x :: cs) G' H' (x :: cs') ∧ CsOk K G' H' (x :: cs') := by
  have nd := ok.nd
  rw [List.map_cons] at nd
  have hx : x.1 ∉ cs.map (·.1) := (List.nodup_cons.mp nd).1
  obtain ⟨g1, ⟨o, g2⟩, g3⟩ := ok.is x List.mem_cons_self
  obtain ⟨k1, k2⟩ := f.keep _ _ g2 hx
  have hx' : x.1 ∉ cs'.map (·.1) := fun z => by
    rcases f.new _ z with z | z
    · exact hx z
    · rw [g2] at z
      cases z
  refine ⟨⟨f.g, fun a o h hn => f.keep a o h fun z => hn (List.mem_cons_of_mem _ z), f.grow, fun a h => ?_⟩, ?_, fun c hc => ?_⟩
  · rw [List.map_cons] at h
    rcases List.mem_cons.mp h with z | z
    · exact .inl (by rw [z]; exact List.mem_cons_self)
    · rcases f.new a z with y | y
      · exact .inl (List.mem_cons_of_mem _ y)
      · exact .inr y
  · rw [List.map_cons]
    exact List.nodup_cons.mpr ⟨hx', ok'.nd⟩
  · rcases List.mem_cons.mp hc with z | z
    · subst z
      exact ⟨k2.cell g2 g3 g1, ⟨o, k1⟩, g3.mono f.g (k1.trans g2.symm)⟩
    · exact ok'.is c z
theorem mem_set {α : Type} {l : List α} {k : Nat} {x y : α} (h : y ∈ l.set k x) : y = x ∨ ∃ j, j ≠ k ∧ l[j]? = some y := by
  obtain ⟨j, hj⟩ := List.mem_iff_getElem?.mp h
  rw [List.getElem?_set] at hj
  by_cases hk : k = j
  · rw [if_pos hk] at hj
    split at hj
    · exact .inl (Option.some.inj hj).symm
    · cases hj
  · rw [if_neg hk] at hj
    exact .inr ⟨j, fun z => hk z.symm, hj⟩
theorem map_set_fst {cs : Cs} {k : Nat} {p : Addr} {c c' : Ce} (h : cs[k]? = some (p, c)) : (cs.set k (p, c')).map (·.1) = cs.map (·.1) := by
  rw [List.map_set]
  refine List.ext_getElem? fun i => ?_
  rw [List.getElem?_set]
  by_cases hk : k = i
  · subst hk
    rw [if_pos rfl]
    have hl := (List.getElem?_eq_some_iff.mp h).1
    rw [if_pos (by rw [List.length_map]; exact hl), List.getElem?_map, h]
    rfl
  · rw [if_neg hk]
theorem addr_ne {cs : Cs} (nd : (cs.map (·.1)).Nodup) {j k : Nat} {p : Addr} {c : Ce} {y : Addr × Ce} (hk : cs[k]? = some (p, c)) (hj : cs[j]? = some y) (hne : j ≠ k) : y.1 ≠ p := fun z => by
  have h1 : (cs.map (·.1))[j]? = some p := by rw [List.getElem?_map, hj, ← z]; rfl
  have h2 : (cs.map (·.1))[k]? = some p := by rw [List.getElem?_map, hk]; rfl
  exact hne (nd_ix nd h1 h2)
/-- one cell is changed -/
theorem Ok.put {k : Nat} {c c' : Ce} {o : HO} (ok : Ok K G σ H ρ cs) (hk : cs[k]? = some (p, c)) (h : CellIs K G (upd H p o) p c') : Fr G H cs G (upd H p o) (cs.set k (p, c')) ∧ Ok K G σ (upd H p o) ρ (cs.set k (p, c')) := by
  have hm : (p, c) ∈ cs := List.mem_of_getElem? hk
  obtain ⟨g1, ⟨o1, g2⟩, g3⟩ := ok.ce.is _ hm
  have g1 : G p = none := g1
  have pm : p ∈ cs.map (·.1) := List.mem_map.mpr ⟨_, hm, rfl⟩
  refine ⟨⟨.refl _, fun a u h hn => ⟨(upd_ne (show a ≠ p from fun z => hn (by rw [z]; exact pm))).trans h, .inl rfl⟩, fun a u h => ?_, fun a h => .inl (by rw [map_set_fst hk] at h; exact h)⟩, fun a u h => ?_, ok.sl, ?_, fun y hy => ?_⟩
  · by_cases ha : a = p
    · subst ha
      exact ⟨o, upd_same⟩
    · exact ⟨u, (upd_ne ha).trans h⟩
  · have ha : a ≠ p := fun z => by
      rw [z, g1] at h
      cases h
    exact (upd_ne ha).trans (ok.ex a u h)
  · rw [map_set_fst hk]
    exact ok.ce.nd
  · rcases mem_set hy with z | ⟨j, hj, z⟩
    · subst z
      exact ⟨g1, ⟨o, upd_same⟩, h⟩
    · obtain ⟨f1, ⟨o2, f2⟩, f3⟩ := ok.ce.is y (List.mem_of_getElem? z)
      have hne : y.1 ≠ p := addr_ne ok.ce.nd hk z hj
      exact ⟨f1, ⟨o2, (upd_ne hne).trans f2⟩, f3.mono (.refl _) (upd_ne hne)⟩
/-- a cell's list is data from now on -/
theorem Ok.frz {k : Nat} (ok : Ok K G σ H ρ cs) (hk : cs[k]? = some (p, .lst ds)) : ∃ G', Fr G H cs G' H (cs.eraseIdx k) ∧ Ok K G' σ H ρ (cs.eraseIdx k) ∧ Dt G' (.list ds) (.ref p) := by
  have hm : (p, Ce.lst ds) ∈ cs := List.mem_of_getElem? hk
  obtain ⟨h1, _, vs, h2, h3⟩ := ok.ce.is _ hm
  have h1 : G p = none := h1
  have h2 : H p = some (.lst vs) := h2
  have pm : p ∈ cs.map (·.1) := List.mem_map.mpr ⟨_, hm, rfl⟩
  have ex : Ex G (upd G p (.lst vs)) := .new h1
  have sb : List.Sublist (cs.eraseIdx k) cs := List.eraseIdx_sublist _ _
  refine ⟨upd G p (.lst vs), ⟨ex, fun a o h hn => ⟨h, .inl (upd_ne fun z => hn (by rw [z]; exact pm))⟩, fun a o h => ⟨o, h⟩, fun a h => .inl ((sb.map _).subset h)⟩,
    ⟨fun a o h => ?_, ok.sl.mono ex, (sb.map _).nodup ok.ce.nd, fun c hc => ?_⟩, p, vs, rfl, upd_same, h3.mono ex⟩
  · by_cases ha : a = p
    · subst ha
      rw [upd_same] at h
      rw [h2]
      exact h
    · rw [upd_ne ha] at h
      exact ok.ex a o h
  · obtain ⟨j, hj⟩ := List.mem_iff_getElem?.mp hc
    rw [List.getElem?_eraseIdx] at hj
    have hne : c.1 ≠ p := by
      split at hj
      · exact addr_ne ok.ce.nd hk hj (by omega)
      · exact addr_ne ok.ce.nd hk hj (by omega)
    obtain ⟨g1, g2, g3⟩ := ok.ce.is c (sb.subset hc)
    exact ⟨(upd_ne hne).trans g1, g2, g3.mono ex rfl⟩
theorem Fr.fresh (f : Fr G H cs G' H' cs') (h : H' p = none) : H p = none := by
  cases h0 : H p with
  | none => rfl
  | some o =>
    obtain ⟨o', z⟩ := f.grow p o h0
    rw [h] at z
    cases z
end

/-! ### reading -/
def Rds (cs : Cs) : Sl → PyData → Prop
  | .dat e, d => e = d
  | .raw (.ref p), d => ∃ ds, d = .list ds ∧ (p, Ce.lst ds) ∈ cs
  | _, _ => False
section
variable {K : PySem.W.Frag} {G H : Hp} {cs : Cs} {z : Sl} {d : PyData} {v : V} {ds : List PyData} {p : Addr}
theorem rds_dat : Rds cs (.dat d) d := rfl
theorem rds_cell (k : Nat) (h : cs[k]? = some (p, .lst ds)) : Rds cs (.raw (.ref p)) (.list ds) := ⟨ds, rfl, List.mem_of_getElem? h⟩
theorem Rds.dt (h : Rds cs z d) (hv : SlV G v z) (ex : Ex G H) (ok : CsOk K G H cs) : Dt H d v := by
  cases z with
  | un => exact h.elim
  | fd ks => exact h.elim
  | fl ks => exact h.elim
  | rdd _ _ _ => exact h.elim
  | dat e =>
    cases h
    exact Dt.mono ex _ _ hv
  | raw u =>
    cases hv
    cases v <;> first | exact h.elim | skip
    obtain ⟨ds, rfl, hm⟩ := h
    obtain ⟨_, _, vs, h2, h3⟩ := ok.is _ hm
    exact ⟨_, vs, rfl, h2, h3.mono ex⟩
theorem Rds.list (h : Rds cs z (.list ds)) (hv : SlV G v z) (ex : Ex G H) (ok : CsOk K G H cs) : ∃ p vs, v = .ref p ∧ H p = some (.lst vs) ∧ DtAll G ds vs := by
  cases z with
  | un => exact h.elim
  | fd ks => exact h.elim
  | fl ks => exact h.elim
  | rdd _ _ _ => exact h.elim
  | dat e =>
    cases h
    obtain ⟨a, xs, h1, h2, h3⟩ := hv
    exact ⟨a, xs, h1, ex _ _ h2, h3⟩
  | raw u =>
    cases hv
    cases v <;> first | exact h.elim | skip
    obtain ⟨es, e, hm⟩ := h
    cases e
    obtain ⟨_, _, vs, h2, h3⟩ := ok.is _ hm
    exact ⟨_, vs, rfl, h2, h3⟩
theorem Rds.tuple (h : Rds cs z (.tuple ds)) (hv : SlV G v z) : ∃ p vs, v = .ref p ∧ G p = some (.tup vs) ∧ DtAll G ds vs := by
  cases z with
  | un => exact h.elim
  | fd ks => exact h.elim
  | fl ks => exact h.elim
  | rdd _ _ _ => exact h.elim
  | dat e =>
    cases h
    obtain ⟨a, xs, h1, h2, h3⟩ := hv
    exact ⟨a, xs, h1, h2, h3⟩
  | raw u =>
    cases u <;> first | exact h.elim | skip
    obtain ⟨es, e, hm⟩ := h
    cases e
theorem Rds.int {i : Int} (h : Rds cs z (.int i)) (hv : SlV G v z) : v = .int i := by
  cases z with
  | un => exact h.elim
  | fd ks => exact h.elim
  | fl ks => exact h.elim
  | rdd _ _ _ => exact h.elim
  | dat e =>
    cases h
    exact hv
  | raw u =>
    cases u <;> first | exact h.elim | skip
    obtain ⟨es, e, hm⟩ := h
    cases e
theorem Rds.str {i : Str} (h : Rds cs z (.str i)) (hv : SlV G v z) : v = .str i := by
  cases z with
  | un => exact h.elim
  | fd ks => exact h.elim
  | fl ks => exact h.elim
  | rdd _ _ _ => exact h.elim
  | dat e =>
    cases h
    exact hv
  | raw u =>
    cases u <;> first | exact h.elim | skip
    obtain ⟨es, e, hm⟩ := h
    cases e
theorem Rds.bool {i : Bool} (h : Rds cs z (.bool i)) (hv : SlV G v z) : v = .bl i := by
  cases z with
  | un => exact h.elim
  | fd ks => exact h.elim
  | fl ks => exact h.elim
  | rdd _ _ _ => exact h.elim
  | dat e =>
    cases h
    exact hv
  | raw u =>
    cases u <;> first | exact h.elim | skip
    obtain ⟨es, e, hm⟩ := h
    cases e
end

/-! ### operators: one rule for all kinds -/
theorem OpR_or {X : Cx} {f : Value → Value → Sem Value} {r r' : R2} (h : OpR X f r) (h' : OpR X f r') : OpR X f (fun x y H Q => r x y H Q ∨ r' x y H Q) := by
  intro pins s σ H x y v u Q I rx ry q
  rcases q with q | q
  · exact h pins s σ H x y v u Q I rx ry q
  · exact h' pins s σ H x y v u Q I rx ry q
def rAddS : R2 := fun x y H Q => ∃ i j, x = .str i ∧ y = .str j ∧ i.length + j.length ≤ sizeLine ∧ Q (.str (i ++ j)) H
def rAddM (K : PySem.W.Frag) : R2 := fun x y H Q => rI0 (fun i j => .int (i + j)) x y H Q ∨ rAddS x y H Q ∨ rCat x y H Q ∨ rCatA K x y H Q
theorem op_addM {X : Cx} : OpR X (binaryOp .Add) (rAddM X.K) := OpR_or op_add (OpR_or op_add_str (OpR_or op_cat op_catA))
def rMulS : R2 := fun x y H Q => ∃ i n, x = .str i ∧ y = .int n ∧ 0 ≤ n ∧ n ≤ 1000 ∧ i.length ≤ 1000 ∧ Q (.str (Txt.mul i n)) H
theorem op_mulS {X : Cx} : OpR X (binaryOp .Mult) rMulS := fun pins s σ H x y v u Q I rx ry h => by
  obtain ⟨i, n, rfl, rfl, h0, h1, h2, q⟩ := h
  obtain ⟨t, rfl⟩ := rx
  obtain ⟨t', rfl⟩ := ry
  have hb : i.length * n.toNat ≤ 1000 * 1000 := Nat.mul_le_mul h2 (by omega)
  refine SB.mul ⟨?_, fun h3 _ => ?_, fun _ _ => ?_⟩ fun t' k => ⟨.str _, H, I.kept (t' := k) fun _ _ z => z, ⟨_, rfl⟩, q⟩
  · rw [decide_eq_false (by omega), decide_eq_false (by omega)]
    rfl
  · intro h4
    have h5 : (1000 : Int) ≤ (2 ^ 63 - 1) / n := by
      rw [Int.le_ediv_iff_mul_le (by omega)]
      have h6 : 1000 * n ≤ 1000 * 1000 := Int.mul_le_mul_of_nonneg_left h1 (by decide)
      exact Int.le_trans h6 (by decide)
    omega
  · unfold Builtin.Str.tooLong
    first | (refine decide_eq_false ?_; rw [sizeLine_eq] at *; omega) | (simp; rw [sizeLine_eq]; omega) | (simp; omega)
def rMulM : R2 := fun x y H Q => rI (fun i j => IntMulOk i j) (fun i j => .int (i * j)) x y H Q ∨ rRep x y H Q ∨ rMulS x y H Q
theorem op_mulM {X : Cx} : OpR X (binaryOp .Mult) rMulM := OpR_or (opI fun _ _ _ _ _ _ _ hc q => PyProof.Rows.mul_int q hc) (OpR_or op_rep op_mulS)
section
variable {K : PySem.W.Frag} {cs : Cs} {z1 z2 : Sl} {i j : Int}
theorem opd_addI (h1 : Rds cs z1 (.int i)) (h2 : Rds cs z2 (.int j)) : OpD K (rAddM K) z1 z2 cs (.dat (.int (i + j))) := fun x y G H hx hy ex ok Q q =>
  .inl ⟨i, j, h1.int hx, h2.int hy, q _ G H (.refl ex) rfl⟩
theorem opd_addS {a b : Str} (h1 : Rds cs z1 (.str a)) (h2 : Rds cs z2 (.str b)) (hl : a.length + b.length ≤ 100000) : OpD K (rAddM K) z1 z2 cs (.dat (.str (a ++ b))) := fun x y G H hx hy ex ok Q q =>
  .inr (.inl ⟨a, b, h1.str hx, h2.str hy, Nat.le_trans hl (by decide), q _ G H (.refl ex) rfl⟩)
theorem opn_addL {a b : List PyData} (h1 : Rds cs z1 (.list a)) (h2 : Rds cs z2 (.list b)) (hl : a.length + b.length ≤ 100000) : OpN K (rAddM K) z1 z2 cs (a ++ b) := fun x y G H hx hy ex ok Q q => by
  obtain ⟨p, vs, rfl, hp, dp⟩ := h1.list hx ex ok
  obtain ⟨p', ws, rfl, hp', dp'⟩ := h2.list hy ex ok
  refine .inr (.inr (.inl ⟨p, p', vs, ws, rfl, rfl, hp, hp', ?_, fun n hn => q n _ hn (dp.append dp')⟩))
  rw [← dp.len, ← dp'.len]
  exact Nat.le_trans hl (by decide)
theorem opd_addT {a b : List PyData} (h1 : Rds cs z1 (.tuple a)) (h2 : Rds cs z2 (.tuple b)) (hl : a.length + b.length ≤ 100000) : OpD K (rAddM K) z1 z2 cs (.dat (.tuple (a ++ b))) := fun x y G H hx hy ex ok Q q => by
  obtain ⟨p, vs, rfl, hp, dp⟩ := h1.tuple hx
  obtain ⟨p', ws, rfl, hp', dp'⟩ := h2.tuple hy
  refine .inr (.inr (.inr ⟨p, p', vs, ws, rfl, rfl, .inl (.inl (ex _ _ hp)), .inl (.inl (ex _ _ hp')), ?_, fun e => ?_, fun _ e => ?_, fun _ _ n hn => ?_⟩))
  · rw [← dp.len, ← dp'.len]
    exact Nat.le_trans hl (by decide)
  · have ea : a = [] := List.length_eq_zero_iff.mp (by rw [dp.len, e]; rfl)
    subst ea
    exact q _ G H (.refl ex) ⟨p', ws, rfl, hp', dp'⟩
  · have ea : b = [] := List.length_eq_zero_iff.mp (by rw [dp'.len, e]; rfl)
    subst ea
    rw [List.append_nil] at q
    exact q _ G H (.refl ex) ⟨p, vs, rfl, hp, dp⟩
  · have g := Gr.new ex (o := .tup (vs ++ ws)) hn
    exact q _ _ _ g ⟨n, _, rfl, upd_same, (dp.append dp').mono g.g⟩
theorem opd_I0 {g : Int → Int → V} {dg : Int → Int → PyData} (h1 : Rds cs z1 (.int i)) (h2 : Rds cs z2 (.int j)) (hd : ∀ G, Dt G (dg i j) (g i j)) : OpD K (rI0 g) z1 z2 cs (.dat (dg i j)) := fun x y G H hx hy ex ok Q q =>
  ⟨i, j, h1.int hx, h2.int hy, q _ G H (.refl ex) (hd G)⟩
theorem opd_I {C : Int → Int → Prop} {g : Int → Int → V} {dg : Int → Int → PyData} (h1 : Rds cs z1 (.int i)) (h2 : Rds cs z2 (.int j)) (hc : C i j) (hd : ∀ G, Dt G (dg i j) (g i j)) : OpD K (rI C g) z1 z2 cs (.dat (dg i j)) := fun x y G H hx hy ex ok Q q =>
  ⟨i, j, h1.int hx, h2.int hy, hc, q _ G H (.refl ex) (hd G)⟩
theorem opd_sub (h1 : Rds cs z1 (.int i)) (h2 : Rds cs z2 (.int j)) : OpD K (rI0 fun i j => .int (i - j)) z1 z2 cs (.dat (.int (i - j))) := opd_I0 (dg := fun i j => .int (i - j)) h1 h2 fun _ => rfl
theorem opd_mulI (h1 : Rds cs z1 (.int i)) (h2 : Rds cs z2 (.int j)) (hc : IntMulOk i j) : OpD K rMulM z1 z2 cs (.dat (.int (i * j))) := fun x y G H hx hy ex ok Q q =>
  .inl ⟨i, j, h1.int hx, h2.int hy, hc, q _ G H (.refl ex) rfl⟩
theorem opn_mulL {a : List PyData} {n : Int} (h1 : Rds cs z1 (.list a)) (h2 : Rds cs z2 (.int n)) (h0 : 0 ≤ n) (hl : a.length * n.toNat ≤ 100000) (hn : n ≤ 100000) : OpN K rMulM z1 z2 cs (List.replicate n.toNat a).flatten := fun x y G H hx hy ex ok Q q => by
  obtain ⟨p, vs, rfl, hp, dp⟩ := h1.list hx ex ok
  refine .inr (.inl ⟨p, n, vs, rfl, h2.int hy, hp, by omega, by omega, ?_, fun m hm => q m _ hm ?_⟩)
  · rw [← dp.len]
    exact Nat.le_trans hl (by decide)
  · generalize n.toNat = k
    induction k with
    | zero => rfl
    | succ k ih =>
      rw [List.replicate_succ, List.replicate_succ, List.flatten_cons, List.flatten_cons]
      exact dp.append ih
theorem opd_mulS {a : Str} {n : Int} (h1 : Rds cs z1 (.str a)) (h2 : Rds cs z2 (.int n)) (h0 : 0 ≤ n) (hn : n ≤ 1000) (hl : a.length ≤ 1000) : OpD K rMulM z1 z2 cs (.dat (.str (Txt.mul a n))) := fun x y G H hx hy ex ok Q q =>
  .inr (.inr ⟨a, n, h1.str hx, h2.int hy, h0, hn, hl, q _ G H (.refl ex) rfl⟩)
theorem opd_mod (h1 : Rds cs z1 (.int i)) (h2 : Rds cs z2 (.int j)) (hc : 0 < j) : OpD K (rI (fun _ j => 0 < j) fun i j => .int (i % j)) z1 z2 cs (.dat (.int (i % j))) := opd_I (dg := fun i j => .int (i % j)) h1 h2 hc fun _ => rfl
theorem opd_fdiv (h1 : Rds cs z1 (.int i)) (h2 : Rds cs z2 (.int j)) (hc : CDiv i j) : OpD K (rI CDiv fun i j => .int (i / j)) z1 z2 cs (.dat (.int (i / j))) := opd_I (dg := fun i j => .int (i / j)) h1 h2 hc fun _ => rfl
theorem opd_pow (h1 : Rds cs z1 (.int i)) (h2 : Rds cs z2 (.int j)) (hc : CPow i j) : OpD K (rI CPow fun i j => .int (i ^ j.toNat)) z1 z2 cs (.dat (.int (i ^ j.toNat))) := opd_I (dg := fun i j => .int (i ^ j.toNat)) h1 h2 hc fun _ => rfl
theorem opd_lt (h1 : Rds cs z1 (.int i)) (h2 : Rds cs z2 (.int j)) : OpD K (rI0 fun i j => .bl (decide (i < j))) z1 z2 cs (.dat (.bool (decide (i < j)))) := opd_I0 (dg := fun i j => .bool (decide (i < j))) h1 h2 fun _ => rfl
theorem opd_le (h1 : Rds cs z1 (.int i)) (h2 : Rds cs z2 (.int j)) : OpD K (rI0 fun i j => .bl (decide (i ≤ j))) z1 z2 cs (.dat (.bool (decide (i ≤ j)))) := opd_I0 (dg := fun i j => .bool (decide (i ≤ j))) h1 h2 fun _ => rfl
theorem opd_gt (h1 : Rds cs z1 (.int i)) (h2 : Rds cs z2 (.int j)) : OpD K (rI0 fun i j => .bl (decide (j < i))) z1 z2 cs (.dat (.bool (decide (j < i)))) := opd_I0 (dg := fun i j => .bool (decide (j < i))) h1 h2 fun _ => rfl
theorem opd_ge (h1 : Rds cs z1 (.int i)) (h2 : Rds cs z2 (.int j)) : OpD K (rI0 fun i j => .bl (decide (j ≤ i))) z1 z2 cs (.dat (.bool (decide (j ≤ i)))) := opd_I0 (dg := fun i j => .bool (decide (j ≤ i))) h1 h2 fun _ => rfl
theorem opd_eq {d e : PyData} (h1 : Rds cs z1 d) (h2 : Rds cs z2 e) (s1 : SeqAt.shaped d = true) (s2 : SeqAt.shaped e = true) : OpD K (rEqD K) z1 z2 cs (.dat (.bool (PyData.eqv d e))) := fun x y G H hx hy ex ok Q q =>
  ⟨d, e, (h1.dt hx ex ok).dp, (h2.dt hy ex ok).dp, s1, s2, q _ G H (.refl ex) rfl⟩
theorem opd_ne {d e : PyData} (h1 : Rds cs z1 d) (h2 : Rds cs z2 e) (s1 : SeqAt.shaped d = true) (s2 : SeqAt.shaped e = true) : OpD K (rNeD K) z1 z2 cs (.dat (.bool (!PyData.eqv d e))) := fun x y G H hx hy ex ok Q q =>
  ⟨d, e, (h1.dt hx ex ok).dp, (h2.dt hy ex ok).dp, s1, s2, q _ G H (.refl ex) rfl⟩
end

/-! ### arguments, displays, tests -/
section
variable {K : PySem.W.Frag} {ρ : List Sl} {cs cs1 cs2 cs3 : Cs} {te ta tb : TE} {tr : TA} {z z1 z2 : Sl} {zs : List Sl} {d d1 d2 : PyData} {ds : List PyData} {a b : Bool} {t u : TT}
theorem ea_nil : EvA K tNil ρ cs [] cs := fun G σ H ok Q q => q [] G H .refl ok trivial
theorem ea_cons (ha : Ev K ta ρ cs z cs1) (hr : EvA K tr ρ cs1 zs cs2) : EvA K (tCons ta tr) ρ cs (z :: zs) cs2 := fun G σ H ok Q q =>
  ha G σ H ok _ fun x G1 H1 f1 ok1 h1 => hr G1 σ H1 ok1 _ fun xs G2 H2 f2 ok2 h2 => q (x :: xs) G2 H2 (f1.trans f2) ok2 ⟨h1.mono f2.g, h2⟩
/-- all are data -/
def Dats : List Sl → List PyData → Prop
  | [], [] => True
  | s :: ss, d :: ds => s = .dat d ∧ Dats ss ds
  | _, _ => False
theorem Dats.all {G : Hp} : ∀ {ss : List Sl} {ds : List PyData} {vs : List V}, Dats ss ds → SlVs G vs ss → DtAll G ds vs
  | [], [], [], _, _ => rfl
  | s :: ss, d :: ds, v :: vs, h, h' => ⟨v, vs, rfl, by rw [h.1] at h'; exact h'.1, Dats.all h.2 h'.2⟩
  | [], _ :: _, _, h, _ => h.elim
  | _ :: _, [], _, h, _ => h.elim
  | [], [], _ :: _, _, h => h.elim
  | _ :: _, _ :: _, [], _, h => h.elim
theorem dats_nil : Dats [] [] := trivial
theorem dats_cons (h : Dats zs ds) : Dats (.dat d :: zs) (d :: ds) := ⟨rfl, h⟩
theorem ev_tup (h : EvA K tr ρ cs zs cs1) (hd : Dats zs ds) (hl : ds.length ≤ 100000) : Ev K (tTup tr) ρ cs (.dat (.tuple ds)) cs1 := fun G σ H ok Q q =>
  h G σ H ok _ fun vs G1 H1 f1 ok1 h1 => by
    have hv := hd.all h1
    refine ⟨by rw [← hv.len]; exact Nat.le_trans hl (by decide), fun p hp => ?_⟩
    have g := Gr.new ok1.ex (o := .tup vs) hp
    exact q _ _ _ (f1.trans g.fr) (ok1.gr g) ⟨p, vs, rfl, upd_same, hv.mono g.g⟩
theorem evn_lst (h : EvA K tr ρ cs zs cs1) (hd : Dats zs ds) (hl : ds.length ≤ 100000) : EvN K (tLst tr) ρ cs (.lst ds) cs1 := fun G σ H ok Q q =>
  h G σ H ok _ fun vs G1 H1 f1 ok1 h1 => by
    have hv := hd.all h1
    refine ⟨by rw [← hv.len]; exact Nat.le_trans hl (by decide), fun p hp => ?_⟩
    obtain ⟨f2, ok2⟩ := ok1.newL hp hv
    exact q p _ _ (f1.fresh hp) (f1.trans f2) ok2
theorem ev_neg {i : Int} (h : Ev K te ρ cs (.dat (.int i)) cs1) : Ev K (tUn (rU fun i => .int (-i)) te) ρ cs (.dat (.int (-i))) cs1 := fun G σ H ok Q q =>
  h G σ H ok _ fun v G1 H1 f1 ok1 h1 => ⟨i, h1, q _ G1 H1 f1 ok1 rfl⟩
theorem et_test (h : Ev K te ρ cs (.dat (.bool b)) cs1) : EvT K (tTest te) ρ cs b cs1 := fun G σ H ok Q q => h G σ H ok _ fun v G1 H1 f1 ok1 h1 => ⟨b, h1, q G1 H1 f1 ok1⟩
theorem et_B (h : Ev K te ρ cs (.dat (.bool b)) cs1) : EvT K (tB te) ρ cs b cs1 := fun G σ H ok Q q => h G σ H ok _ fun v G1 H1 f1 ok1 h1 => ⟨b, h1, q G1 H1 f1 ok1⟩
theorem et_yes : EvT K tYes ρ cs true cs := fun G σ H ok Q q => q G H .refl ok
theorem et_not (h : EvT K t ρ cs a cs1) : EvT K (tNot t) ρ cs (!a) cs1 := fun G σ H ok Q q => h G σ H ok _ fun G1 H1 f1 ok1 => q G1 H1 f1 ok1
theorem et_and (h1 : EvT K t ρ cs a cs) (h2 : a = true → EvT K u ρ cs b cs) : EvT K (tAnd t u) ρ cs (a && b) cs := fun G σ H ok Q q => h1 G σ H ok _ fun G1 H1 f1 ok1 => by
  cases a with
  | true =>
    show u σ H1 Q
    exact h2 rfl G1 σ H1 ok1 Q fun G2 H2 f2 ok2 => q G2 H2 (f1.trans f2) ok2
  | false => exact q G1 H1 f1 ok1
theorem et_or (h1 : EvT K t ρ cs a cs) (h2 : a = false → EvT K u ρ cs b cs) : EvT K (tOr t u) ρ cs (a || b) cs := fun G σ H ok Q q => h1 G σ H ok _ fun G1 H1 f1 ok1 => by
  cases a with
  | false =>
    show u σ H1 Q
    exact h2 rfl G1 σ H1 ok1 Q fun G2 H2 f2 ok2 => q G2 H2 (f1.trans f2) ok2
  | true => exact q G1 H1 f1 ok1
theorem ev_andV (h1 : Ev K ta ρ cs (.dat (.bool a)) cs) (h2 : a = true → Ev K tb ρ cs (.dat (.bool b)) cs) : Ev K (tAndV ta tb) ρ cs (.dat (.bool (a && b))) cs := fun G σ H ok Q q => h1 G σ H ok _ fun v G1 H1 f1 ok1 e1 => by
  refine ⟨a, e1, ?_⟩
  cases a with
  | true =>
    show tb σ H1 Q
    exact h2 rfl G1 σ H1 ok1 Q fun v G2 H2 f2 ok2 e2 => q v G2 H2 (f1.trans f2) ok2 e2
  | false => exact q _ G1 H1 f1 ok1 rfl
theorem ev_orV (h1 : Ev K ta ρ cs (.dat (.bool a)) cs) (h2 : a = false → Ev K tb ρ cs (.dat (.bool b)) cs) : Ev K (tOrV ta tb) ρ cs (.dat (.bool (a || b))) cs := fun G σ H ok Q q => h1 G σ H ok _ fun v G1 H1 f1 ok1 e1 => by
  refine ⟨a, e1, ?_⟩
  cases a with
  | false =>
    show tb σ H1 Q
    exact h2 rfl G1 σ H1 ok1 Q fun v G2 H2 f2 ok2 e2 => q v G2 H2 (f1.trans f2) ok2 e2
  | true => exact q _ G1 H1 f1 ok1 rfl
theorem ev_notV (h1 : Ev K ta ρ cs (.dat (.bool a)) cs1) : Ev K (tNotV ta) ρ cs (.dat (.bool (!a))) cs1 := fun G σ H ok Q q => h1 G σ H ok _ fun v G1 H1 f1 ok1 e1 => ⟨a, e1, q _ G1 H1 f1 ok1 rfl⟩
theorem ev_if (h : EvT K t ρ cs b cs1) (h1 : b = true → Ev K ta ρ cs1 z cs2) (h2 : b = false → Ev K tb ρ cs1 z cs2) : Ev K (tIf t ta tb) ρ cs z cs2 := fun G σ H ok Q q => h G σ H ok _ fun G1 H1 f1 ok1 => by
  cases b with
  | true =>
    show ta σ H1 Q
    exact h1 rfl G1 σ H1 ok1 Q fun v G2 H2 f2 ok2 e2 => q v G2 H2 (f1.trans f2) ok2 e2
  | false =>
    show tb σ H1 Q
    exact h2 rfl G1 σ H1 ok1 Q fun v G2 H2 f2 ok2 e2 => q v G2 H2 (f1.trans f2) ok2 e2
theorem Ev.to {z' : Sl} {c' : Cs} (h : Ev K te ρ cs z cs1) (e : z = z') (e' : cs1 = c') : Ev K te ρ cs z' c' := by subst e; subst e'; exact h
theorem Ev.is {e : PyData} (h : Ev K te ρ cs (.dat d) cs1) (q : d = e) : Ev K te ρ cs (.dat e) cs1 := by subst q; exact h
theorem EvT.is (h : EvT K t ρ cs a cs1) (q : a = b) : EvT K t ρ cs b cs1 := by subst q; exact h
theorem EvN.is {es : List PyData} (h : EvN K te ρ cs (.lst ds) cs1) (q : ds = es) : EvN K te ρ cs (.lst es) cs1 := by subst q; exact h
end
end LW

set_option Elab.async false
set_option linter.all false
set_option maxRecDepth 100000
namespace LW
open PySem L2

/-! ### items and slices -/
section
variable {K : PySem.W.Frag} {ρ : List Sl} {cs cs1 cs2 cs3 cs4 : Cs} {te ta tb : TE} {tr : TA} {tl th : TO} {z z1 z2 : Sl} {zs : List Sl} {d d1 d2 : PyData} {ds es : List PyData} {i : Int} {lo hi : Option Int}
theorem atI_dt {G : Hp} {vs : List V} (h : DtAll G ds vs) (e : atI ds i = some d) : ∃ v, atI vs i = some v ∧ Dt G d v := by
  unfold atI at e ⊢
  rw [← h.len]
  cases hj : ixN ds.length i with
  | none =>
    rw [hj] at e
    cases e
  | some j =>
    rw [hj] at e
    exact h.get e
theorem opd_ixL (h1 : Rds cs z1 (.list ds)) (h2 : Rds cs z2 (.int i)) (h : atI ds i = some d) : OpD K (rIx K) z1 z2 cs (.dat d) := fun x y G H hx hy ex ok Q q => by
  obtain ⟨p, vs, rfl, hp, dp⟩ := h1.list hx ex ok
  obtain ⟨v, e, dv⟩ := atI_dt dp h
  exact .inl ⟨p, vs, i, v, rfl, h2.int hy, .inl (.inl hp), e, q v G H (.refl ex) dv⟩
theorem opd_ixT (h1 : Rds cs z1 (.tuple ds)) (h2 : Rds cs z2 (.int i)) (h : atI ds i = some d) : OpD K (rIx K) z1 z2 cs (.dat d) := fun x y G H hx hy ex ok Q q => by
  obtain ⟨p, vs, rfl, hp, dp⟩ := h1.tuple hx
  obtain ⟨v, e, dv⟩ := atI_dt dp h
  exact .inr (.inl ⟨p, vs, i, v, rfl, h2.int hy, .inl (.inl (ex _ _ hp)), e, q v G H (.refl ex) dv⟩)
theorem opd_ixS {x : Str} {c : Nat} (h1 : Rds cs z1 (.str x)) (h2 : Rds cs z2 (.int i)) (hl : x.length ≤ 100000) (h : atI x.cps.toList i = some c) : OpD K (rIx K) z1 z2 cs (.dat (.str ⟨#[c]⟩)) := fun x y G H hx hy ex ok Q q =>
  .inr (.inr ⟨_, i, c, h1.str hx, h2.int hy, Nat.le_trans hl (by decide), h, q _ G H (.refl ex) rfl⟩)
theorem eo_none : EvO K tNoPart ρ cs none cs := fun G σ H ok Q q => q G H .refl ok
theorem eo_some (h : Ev K te ρ cs (.dat (.int i)) cs1) : EvO K (tPart te) ρ cs (some i) cs1 := fun G σ H ok Q q => h G σ H ok _ fun v G1 H1 f1 ok1 h1 => ⟨i, h1, q G1 H1 f1 ok1⟩
def cutL {α : Type} (xs : List α) (lo hi : Option Int) : List α := (xs.drop (HT.sIx xs.length 0 lo)).take (HT.sIx xs.length xs.length hi - HT.sIx xs.length 0 lo)
theorem DtAll.cut {G : Hp} {vs : List V} (h : DtAll G ds vs) : DtAll G (cutL ds lo hi) (cutV vs lo hi) := by
  unfold cutL cutV
  rw [h.len]
  exact (h.drop _).take _
def rSlM (K : PySem.W.Frag) : V → Option Int → Option Int → Hp → VK → Prop := fun x lo hi H Q => rSlL K x lo hi H Q ∨ rSlA K x lo hi H Q ∨ ∃ z, x = .str z ∧ z.length ≤ sizeLine ∧ Q (.str (cutS z lo hi)) H
theorem sl_M {X : Cx} : SlR X (rSlM X.K) := sl_list.or (sl_tupA.or sl_str)
theorem evn_slL (h : Ev K te ρ cs z cs1) (h1 : EvO K tl ρ cs1 lo cs2) (h2 : EvO K th ρ cs2 hi cs3) (hr : Rds cs3 z (.list ds)) : EvN K (tSl (rSlM K) te tl th) ρ cs (.lst (cutL ds lo hi)) cs3 := fun G σ H ok Q q =>
  h G σ H ok _ fun v G1 H1 f1 ok1 e1 => h1 G1 σ H1 ok1 _ fun G2 H2 f2 ok2 => h2 G2 σ H2 ok2 _ fun G3 H3 f3 ok3 => by
    have f := (f1.trans f2).trans f3
    obtain ⟨p, vs, rfl, hp, dp⟩ := hr.list (e1.mono (f2.g.trans f3.g)) ok3.ex ok3.ce
    refine .inl ⟨p, vs, rfl, .inl (.inl hp), fun n hn => ?_⟩
    obtain ⟨f4, ok4⟩ := ok3.newL hn dp.cut
    exact q n _ _ (f.fresh hn) (f.trans f4) ok4
theorem ev_slT (h : Ev K te ρ cs z cs1) (h1 : EvO K tl ρ cs1 lo cs2) (h2 : EvO K th ρ cs2 hi cs3) (hr : Rds cs3 z (.tuple ds)) : Ev K (tSl (rSlM K) te tl th) ρ cs (.dat (.tuple (cutL ds lo hi))) cs3 := fun G σ H ok Q q =>
  h G σ H ok _ fun v G1 H1 f1 ok1 e1 => h1 G1 σ H1 ok1 _ fun G2 H2 f2 ok2 => h2 G2 σ H2 ok2 _ fun G3 H3 f3 ok3 => by
    have f := (f1.trans f2).trans f3
    obtain ⟨p, vs, rfl, hp, dp⟩ := hr.tuple (e1.mono (f2.g.trans f3.g))
    refine .inr (.inl ⟨p, vs, rfl, .inl (.inl (ok3.ex _ _ hp)), fun e => ?_, fun _ n hn => ?_⟩)
    · have e' : cutV vs lo hi = vs := by
        unfold cutV
        rw [e.1, e.2]
        simp
      have dc := dp.cut (lo := lo) (hi := hi)
      rw [e'] at dc
      exact q _ G3 H3 f ok3 ⟨p, vs, rfl, hp, dc⟩
    · have g := Gr.new ok3.ex (o := .tup (cutV vs lo hi)) hn
      exact q _ _ _ (f.trans g.fr) (ok3.gr g) ⟨n, _, rfl, upd_same, dp.cut.mono g.g⟩
theorem ev_slS {x : Str} (h : Ev K te ρ cs (.dat (.str x)) cs1) (h1 : EvO K tl ρ cs1 lo cs2) (h2 : EvO K th ρ cs2 hi cs3) (hl : x.length ≤ 100000) : Ev K (tSl (rSlM K) te tl th) ρ cs (.dat (.str (cutS x lo hi))) cs3 := fun G σ H ok Q q =>
  h G σ H ok _ fun v G1 H1 f1 ok1 e1 => h1 G1 σ H1 ok1 _ fun G2 H2 f2 ok2 => h2 G2 σ H2 ok2 _ fun G3 H3 f3 ok3 =>
    .inr (.inr ⟨x, e1, Nat.le_trans hl (by decide), q _ G3 H3 ((f1.trans f2).trans f3) ok3 rfl⟩)

/-! ### calls of built-ins -/
def CallD (K : PySem.W.Frag) (r : List V → Hp → VK → Prop) (zs : List Sl) (cs : Cs) (z : Sl) : Prop :=
  ∀ vs G H, SlVs G vs zs → Ex G H → CsOk K G H cs → ∀ Q : VK, (∀ v G' H', Gr G H G' H' → SlV G' v z → Q v H') → r vs H Q
def CallN (K : PySem.W.Frag) (r : List V → Hp → VK → Prop) (zs : List Sl) (cs : Cs) (ds : List PyData) : Prop :=
  ∀ vs G H, SlVs G vs zs → Ex G H → CsOk K G H cs → ∀ Q : VK, (∀ p ws, H p = none → DtAll G ds ws → Q (.ref p) (upd H p (.lst ws))) → r vs H Q
theorem ev_cb {r : List V → Hp → VK → Prop} (h : EvA K tr ρ cs zs cs1) (hr : CallD K r zs cs1 z) : Ev K (tCB r tr) ρ cs z cs1 := fun G σ H ok Q q =>
  h G σ H ok _ fun vs G1 H1 f1 ok1 h1 => hr vs G1 H1 h1 ok1.ex ok1.ce _ fun v G2 H2 g2 h2 => q v G2 H2 (f1.trans g2.fr) (ok1.gr g2) h2
theorem evn_cb {r : List V → Hp → VK → Prop} (h : EvA K tr ρ cs zs cs1) (hr : CallN K r zs cs1 ds) : EvN K (tCB r tr) ρ cs (.lst ds) cs1 := fun G σ H ok Q q =>
  h G σ H ok _ fun vs G1 H1 f1 ok1 h1 => hr vs G1 H1 h1 ok1.ex ok1.ce _ fun p ws hp hws => by
    obtain ⟨f2, ok2⟩ := ok1.newL hp hws
    exact q p _ _ (f1.fresh hp) (f1.trans f2) ok2
theorem SlVs.one {G : Hp} : ∀ {vs : List V} {z : Sl}, SlVs G vs [z] → ∃ v, vs = [v] ∧ SlV G v z
  | [], _, h => h.elim
  | [v], _, h => ⟨v, rfl, h.1⟩
  | _ :: _ :: _, _, h => h.2.elim
theorem SlVs.two {G : Hp} : ∀ {vs : List V} {z y : Sl}, SlVs G vs [z, y] → ∃ v w, vs = [v, w] ∧ SlV G v z ∧ SlV G w y
  | [], _, _, h => h.elim
  | [v], _, _, h => h.2.elim
  | [v, w], _, _, h => ⟨v, w, rfl, h.1, h.2.1⟩
  | _ :: _ :: _ :: _, _, _, h => h.2.2.elim
theorem CallR_or {X : Cx} {f : Value} {r r' : List V → Hp → VK → Prop} (h : CallR X f r) (h' : CallR X f r') : CallR X f (fun x H Q => r x H Q ∨ r' x H Q) := h.or h'
def rLenM (K : PySem.W.Frag) : List V → Hp → VK → Prop := fun xs H Q => (∃ p ys, xs = [.ref p] ∧ (SqL K H p ys ∨ SqT K H p ys) ∧ Q (.int ys.length) H) ∨ ∃ z, xs = [.str z] ∧ z.length ≤ sizeLine ∧ Q (.int z.length) H
theorem call_lenM {X : Cx} : CallR X (.builtin "len") (rLenM X.K) := CallR_or call_len_seq call_len_str
theorem cd_lenL (h : Rds cs z (.list ds)) : CallD K (rLenM K) [z] cs (.dat (.int (ds.length : Int))) := fun vs G H hv ex ok Q q => by
  obtain ⟨v, rfl, h1⟩ := hv.one
  obtain ⟨p, ws, rfl, hp, dp⟩ := h.list h1 ex ok
  refine .inl ⟨p, ws, rfl, .inl (.inl (.inl hp)), ?_⟩
  rw [← dp.len]
  exact q _ G H (.refl ex) rfl
theorem cd_lenT (h : Rds cs z (.tuple ds)) : CallD K (rLenM K) [z] cs (.dat (.int (ds.length : Int))) := fun vs G H hv ex ok Q q => by
  obtain ⟨v, rfl, h1⟩ := hv.one
  obtain ⟨p, ws, rfl, hp, dp⟩ := h.tuple h1
  refine .inl ⟨p, ws, rfl, .inr (.inl (.inl (ex _ _ hp))), ?_⟩
  rw [← dp.len]
  exact q _ G H (.refl ex) rfl
theorem cd_lenS {x : Str} (h : Rds cs z (.str x)) (hl : x.length ≤ 100000) : CallD K (rLenM K) [z] cs (.dat (.int (x.length : Int))) := fun vs G H hv ex ok Q q => by
  obtain ⟨v, rfl, h1⟩ := hv.one
  exact .inr ⟨x, by rw [h.str h1], Nat.le_trans hl (by decide), q _ G H (.refl ex) rfl⟩
def rListOf (K : PySem.W.Frag) : List V → Hp → VK → Prop := fun xs H Q => ∃ p ys, xs = [.ref p] ∧ (SqL K H p ys ∨ SqT K H p ys) ∧ ∀ l, H l = none → Q (.ref l) (upd H l (.lst ys))
def rTupleOf (K : PySem.W.Frag) : List V → Hp → VK → Prop := fun xs H Q => ∃ p ys, xs = [.ref p] ∧ ((SqL K H p ys ∧ ∀ l, H l = none → Q (.ref l) (upd H l (.tup ys))) ∨ (SqT K H p ys ∧ Q (.ref p) H))
theorem call_listM {X : Cx} : CallR X (.type "list") (rListOf X.K) := call_list_of
theorem call_tupleM {X : Cx} : CallR X (.type "tuple") (rTupleOf X.K) := call_tuple_of
theorem cn_listL (h : Rds cs z (.list ds)) : CallN K (rListOf K) [z] cs ds := fun vs G H hv ex ok Q q => by
  obtain ⟨v, rfl, h1⟩ := hv.one
  obtain ⟨p, ws, rfl, hp, dp⟩ := h.list h1 ex ok
  exact ⟨p, ws, rfl, .inl (.inl (.inl hp)), fun l hl => q l ws hl dp⟩
theorem cn_listT (h : Rds cs z (.tuple ds)) : CallN K (rListOf K) [z] cs ds := fun vs G H hv ex ok Q q => by
  obtain ⟨v, rfl, h1⟩ := hv.one
  obtain ⟨p, ws, rfl, hp, dp⟩ := h.tuple h1
  exact ⟨p, ws, rfl, .inr (.inl (.inl (ex _ _ hp))), fun l hl => q l ws hl dp⟩
theorem cd_tupleL (h : Rds cs z (.list ds)) : CallD K (rTupleOf K) [z] cs (.dat (.tuple ds)) := fun vs G H hv ex ok Q q => by
  obtain ⟨v, rfl, h1⟩ := hv.one
  obtain ⟨p, ws, rfl, hp, dp⟩ := h.list h1 ex ok
  refine ⟨p, ws, rfl, .inl ⟨.inl (.inl hp), fun l hl => ?_⟩⟩
  have g := Gr.new ex (o := .tup ws) hl
  exact q _ _ _ g ⟨l, ws, rfl, upd_same, dp.mono g.g⟩
theorem cd_all {bs : List Bool} (h : Rds cs z (.list (bs.map PyData.bool))) : CallD K (rAll K) [z] cs (.dat (.bool (bs.all id))) := fun vs G H hv ex ok Q q => by
  obtain ⟨v, rfl, h1⟩ := hv.one
  obtain ⟨p, ws, rfl, hp, dp⟩ := h.list h1 ex ok
  refine ⟨p, bs, rfl, .inl (.inl ?_), q _ G H (.refl ex) rfl⟩
  rw [← dp.bools]
  exact hp
theorem cd_any {bs : List Bool} (h : Rds cs z (.list (bs.map PyData.bool))) : CallD K (rAny K) [z] cs (.dat (.bool (bs.any id))) := fun vs G H hv ex ok Q q => by
  obtain ⟨v, rfl, h1⟩ := hv.one
  obtain ⟨p, ws, rfl, hp, dp⟩ := h.list h1 ex ok
  refine ⟨p, bs, rfl, .inl (.inl ?_), q _ G H (.refl ex) rfl⟩
  rw [← dp.bools]
  exact hp
theorem cd_sum {ns : List Int} (h : Rds cs z (.list (ns.map PyData.int))) : CallD K (rSum K) [z] cs (.dat (.int ns.sum)) := fun vs G H hv ex ok Q q => by
  obtain ⟨v, rfl, h1⟩ := hv.one
  obtain ⟨p, ws, rfl, hp, dp⟩ := h.list h1 ex ok
  refine ⟨p, ns, rfl, .inl (.inl ?_), q _ G H (.refl ex) rfl⟩
  rw [← dp.ints]
  exact hp
def rMax2 : List V → Hp → VK → Prop := fun xs H Q => ∃ i j, xs = [.int i, .int j] ∧ Q (.int (if j > i then j else i)) H
def rMin2 : List V → Hp → VK → Prop := fun xs H Q => ∃ i j, xs = [.int i, .int j] ∧ Q (.int (if j < i then j else i)) H
theorem cd_max2 {i j : Int} (h : Rds cs z1 (.int i)) (h' : Rds cs z2 (.int j)) : CallD K rMax2 [z1, z2] cs (.dat (.int (if j > i then j else i))) := fun vs G H hv ex ok Q q => by
  obtain ⟨v, w, rfl, h1, h2⟩ := hv.two
  exact ⟨i, j, by rw [h.int h1, h'.int h2], q _ G H (.refl ex) rfl⟩
theorem cd_min2 {i j : Int} (h : Rds cs z1 (.int i)) (h' : Rds cs z2 (.int j)) : CallD K rMin2 [z1, z2] cs (.dat (.int (if j < i then j else i))) := fun vs G H hv ex ok Q q => by
  obtain ⟨v, w, rfl, h1, h2⟩ := hv.two
  exact ⟨i, j, by rw [h.int h1, h'.int h2], q _ G H (.refl ex) rfl⟩
end

/-! ### methods of lists -/
section
variable {K : PySem.W.Frag} {ρ : List Sl} {cs cs1 cs2 : Cs} {te ta tb tx : TE} {z : Sl} {d : PyData} {ds es : List PyData} {p : Addr} {i k : Nat} {c0 : List PyData}
theorem seqIx_nat {n m : Nat} (h : n < m) : seqIndex? (n : Int) m = some n := by
  unfold seqIndex?
  have h1 : ¬ ((n : Int) < 0) := by omega
  simp [h1, h]
theorem CsOk.lst {G H : Hp} (ok : CsOk K G H cs) (hk : cs[k]? = some (p, .lst ds)) : ∃ vs, H p = some (.lst vs) ∧ DtAll G ds vs := by
  obtain ⟨_, _, vs, h2, h3⟩ := ok.is _ (List.mem_of_getElem? hk)
  exact ⟨vs, h2, h3⟩
theorem ev_append (k : Nat) (ho : Ev K ta ρ cs (.raw (.ref p)) cs) (h0 : cs[k]? = some (p, .lst c0)) (hx : Ev K tx ρ cs (.dat d) cs1) (hk : cs1[k]? = some (p, .lst ds)) (hl : ds.length < 100000) :
    Ev K (tBM K "list" rAppend ta (tCons tx tNil)) ρ cs (.dat .none) (cs1.set k (p, .lst (ds ++ [d]))) := fun G σ H ok Q q =>
  ho G σ H ok _ fun v G1 H1 f1 ok1 e1 => by
    cases e1
    obtain ⟨v0, hv0, _⟩ := ok1.ce.lst h0
    refine ⟨.inl ⟨rfl, v0, .inl (.inl hv0)⟩, hx G1 σ H1 ok1 _ fun y G2 H2 f2 ok2 e2 => ?_⟩
    obtain ⟨vs, hv, dv⟩ := ok2.ce.lst hk
    refine ⟨p, vs, y, rfl, rfl, hv, by rw [← dv.len]; exact Nat.lt_of_lt_of_le hl (by decide), ?_⟩
    obtain ⟨f3, ok3⟩ := ok2.put (o := .lst (vs ++ [y])) (c' := .lst (ds ++ [d])) hk ⟨_, upd_same, dv.append (.one e2)⟩
    exact q _ G2 _ ((f1.trans f2).trans f3) ok3 rfl
theorem ev_extend (k : Nat) (ho : Ev K ta ρ cs (.raw (.ref p)) cs) (h0 : cs[k]? = some (p, .lst c0)) (hx : Ev K tx ρ cs z cs1) (hz : Rds cs1 z (.list es)) (hk : cs1[k]? = some (p, .lst ds)) (hl : ds.length + es.length ≤ 100000) :
    Ev K (tBM K "list" rExtend ta (tCons tx tNil)) ρ cs (.dat .none) (cs1.set k (p, .lst (ds ++ es))) := fun G σ H ok Q q =>
  ho G σ H ok _ fun v G1 H1 f1 ok1 e1 => by
    cases e1
    obtain ⟨v0, hv0, _⟩ := ok1.ce.lst h0
    refine ⟨.inl ⟨rfl, v0, .inl (.inl hv0)⟩, hx G1 σ H1 ok1 _ fun y G2 H2 f2 ok2 e2 => ?_⟩
    obtain ⟨vs, hv, dv⟩ := ok2.ce.lst hk
    obtain ⟨b, ws, rfl, hb, db⟩ := hz.list e2 ok2.ex ok2.ce
    refine ⟨p, b, vs, ws, rfl, rfl, hv, hb, by rw [← dv.len, ← db.len]; exact Nat.le_trans hl (by decide), ?_⟩
    obtain ⟨f3, ok3⟩ := ok2.put (o := .lst (vs ++ ws)) (c' := .lst (ds ++ es)) hk ⟨_, upd_same, dv.append db⟩
    exact q _ G2 _ ((f1.trans f2).trans f3) ok3 rfl
theorem ev_pop (k : Nat) (ho : Ev K ta ρ cs (.raw (.ref p)) cs1) (hk : cs1[k]? = some (p, .lst (ds ++ [d]))) :
    Ev K (tBM0 K "list" rPop ta) ρ cs (.dat d) (cs1.set k (p, .lst ds)) := fun G σ H ok Q q =>
  ho G σ H ok _ fun v G1 H1 f1 ok1 e1 => by
    cases e1
    obtain ⟨vs, hv, dv⟩ := ok1.ce.lst hk
    have hlen := dv.len
    rw [List.length_append, List.length_singleton] at hlen
    obtain ⟨y, hy, dy⟩ := dv.get (i := ds.length) (d := d) (by simp)
    have h1 : vs[vs.length - 1]? = some y := by
      rw [← hlen]
      exact hy
    refine ⟨.inl ⟨rfl, vs, .inl (.inl hv)⟩, p, vs, y, rfl, rfl, hv, h1, ?_⟩
    have dd := dv.dropLast
    rw [List.dropLast_concat] at dd
    obtain ⟨f3, ok3⟩ := ok1.put (o := .lst vs.dropLast) (c' := .lst ds) hk ⟨_, upd_same, dd⟩
    exact q _ G1 _ (f1.trans f3) ok3 dy
theorem ev_popAt (k : Nat) {n : Nat} (ho : Ev K ta ρ cs (.raw (.ref p)) cs) (h0 : cs[k]? = some (p, .lst c0)) (hx : Ev K tx ρ cs (.dat (.int (n : Int))) cs1) (hk : cs1[k]? = some (p, .lst ds)) (hn : ds[n]? = some d) (hl : ds.length ≤ 100000) :
    Ev K (tBM K "list" rPopAt ta (tCons tx tNil)) ρ cs (.dat d) (cs1.set k (p, .lst (ds.eraseIdx n))) := fun G σ H ok Q q =>
  ho G σ H ok _ fun v G1 H1 f1 ok1 e1 => by
    cases e1
    obtain ⟨v0, hv0, _⟩ := ok1.ce.lst h0
    refine ⟨.inl ⟨rfl, v0, .inl (.inl hv0)⟩, hx G1 σ H1 ok1 _ fun y G2 H2 f2 ok2 e2 => ?_⟩
    cases e2
    obtain ⟨vs, hv, dv⟩ := ok2.ce.lst hk
    obtain ⟨w, hw, dw⟩ := dv.get hn
    have hlt : n < vs.length := (List.getElem?_eq_some_iff.mp hw).1
    have hln := dv.len
    refine ⟨p, vs, (n : Int), n, w, rfl, rfl, hv, by omega, by omega, ?_, hw, ?_⟩
    · exact seqIx_nat hlt
    · obtain ⟨f3, ok3⟩ := ok2.put (o := .lst (vs.eraseIdx n)) (c' := .lst (ds.eraseIdx n)) hk ⟨_, upd_same, dv.eraseIdx n⟩
      exact q _ G2 _ ((f1.trans f2).trans f3) ok3 dw
end
end LW

set_option Elab.async false
set_option linter.all false
set_option maxRecDepth 100000
namespace LW
open PySem L2

/-! ### what is walked -/
/-- J yields the data items, one after another, as long as G stands -/
structure Iter (J : It) (G : Hp) (items : List PyData) : Prop where
  stop : ∀ i H, Ex G H → items.length ≤ i → J.stop i H
  go : ∀ i H, Ex G H → i < items.length → J.go i H
  yld : ∀ i H x H', Ex G H → J.yld i H x H' → ∀ d, items[i]? = some d → ∀ G2, Ex G G2 → Ex G2 H → ∃ G3, Gr G2 H G3 H' ∧ Dt G3 d x
theorem Iter.mono {J : It} {G G' : Hp} {items : List PyData} (h : Iter J G items) (e : Ex G G') : Iter J G' items :=
  ⟨fun i H x => h.stop i H (e.trans x), fun i H x => h.go i H (e.trans x), fun i H x H' e1 y d hd G2 e2 e3 => h.yld i H x H' (e.trans e1) y d hd G2 (e.trans e2) e3⟩
def EvI (K : PySem.W.Frag) (wi : TI) (ρ : List Sl) (cs : Cs) (items : List PyData) (cs' : Cs) : Prop :=
  ∀ G σ H, Ok K G σ H ρ cs → ∀ R : It → Hp → Prop, (∀ J G' H', Fr G H cs G' H' cs' → Ok K G' σ H' ρ cs' → Iter J G' items → R J H') → wi σ H R
section
variable {K : PySem.W.Frag} {ρ : List Sl} {cs cs1 cs2 cs3 : Cs} {te ta tb : TE} {tr : TA} {z z1 z2 : Sl} {zs : List Sl} {d d1 d2 : PyData} {ds es items : List PyData}
theorem iter_list {G : Hp} {p : Addr} {vs : List V} (hp : G p = some (.lst vs)) (dv : DtAll G ds vs) : Iter (Itl K p) G ds := by
  refine ⟨fun i H ex hi => ⟨vs, .inl (.inl (ex _ _ hp)), by rw [← dv.len]; exact hi⟩, fun i H ex hi => ?_, fun i H x H' ex y d hd G2 e2 e3 => ?_⟩
  · have h : i < vs.length := by rw [← dv.len]; exact hi
    exact ⟨vs, vs[i], .inl (.inl (ex _ _ hp)), List.getElem?_eq_getElem h⟩
  · obtain ⟨rfl, h⟩ := y
    obtain ⟨v, hv, dv⟩ := dv.get hd
    have e : some v = some x := hv.symm.trans (h vs (.inl (.inl (ex _ _ hp))))
    cases e
    exact ⟨G2, .refl e3, Dt.mono e2 _ _ dv⟩
theorem iter_tup {G : Hp} {p : Addr} {vs : List V} (hp : G p = some (.tup vs)) (dv : DtAll G ds vs) : Iter (Itt K p) G ds := by
  refine ⟨fun i H ex hi => ⟨vs, .inl (.inl (ex _ _ hp)), by rw [← dv.len]; exact hi⟩, fun i H ex hi => ?_, fun i H x H' ex y d hd G2 e2 e3 => ?_⟩
  · have h : i < vs.length := by rw [← dv.len]; exact hi
    exact ⟨vs, vs[i], .inl (.inl (ex _ _ hp)), List.getElem?_eq_getElem h⟩
  · obtain ⟨rfl, h⟩ := y
    obtain ⟨v, hv, dv⟩ := dv.get hd
    have e : some v = some x := hv.symm.trans (h vs (.inl (.inl (ex _ _ hp))))
    cases e
    exact ⟨G2, .refl e3, Dt.mono e2 _ _ dv⟩
theorem ei_list (h : Ev K te ρ cs (.dat (.list ds)) cs1) : EvI K (iList K te) ρ cs ds cs1 := fun G σ H ok R q =>
  h G σ H ok _ fun v G1 H1 f1 ok1 e1 => by
    obtain ⟨p, vs, rfl, hp, dv⟩ := e1
    exact ⟨p, rfl, ⟨vs, .inl (.inl (ok1.ex _ _ hp))⟩, q _ G1 H1 f1 ok1 (iter_list hp dv)⟩
theorem ei_tup (h : Ev K te ρ cs (.dat (.tuple ds)) cs1) : EvI K (iTup K te) ρ cs ds cs1 := fun G σ H ok R q =>
  h G σ H ok _ fun v G1 H1 f1 ok1 e1 => by
    obtain ⟨p, vs, rfl, hp, dv⟩ := e1
    exact ⟨p, rfl, ⟨vs, .inl (.inl (ok1.ex _ _ hp))⟩, q _ G1 H1 f1 ok1 (iter_tup hp dv)⟩
def rangeD (lo : Int) (n : Nat) : List PyData := (List.range n).map fun (i : Nat) => .int (lo + (i : Int))
theorem rangeD_len (lo : Int) (n : Nat) : (rangeD lo n).length = n := by unfold rangeD; simp
theorem rangeD_get {lo : Int} {n i : Nat} {d : PyData} (h : (rangeD lo n)[i]? = some d) : i < n ∧ d = .int (lo + (i : Int)) := by
  unfold rangeD at h
  rw [List.getElem?_map] at h
  cases hr : (List.range n)[i]? with
  | none =>
    rw [hr] at h
    cases h
  | some j =>
    rw [hr] at h
    obtain ⟨h1, h2⟩ := List.getElem?_eq_some_iff.mp hr
    simp at h1 h2
    subst h2
    exact ⟨h1, (Option.some.inj h).symm⟩
theorem iter_range {G : Hp} {lo : Int} {n : Nat} : Iter (Itr lo n) G (rangeD lo n) := by
  refine ⟨fun i H ex hi => by rw [rangeD_len] at hi; exact hi, fun i H ex hi => by rw [rangeD_len] at hi; exact hi, fun i H x H' ex y d hd G2 e2 e3 => ?_⟩
  obtain ⟨rfl, rfl⟩ := y
  obtain ⟨_, rfl⟩ := rangeD_get hd
  exact ⟨G2, .refl e3, rfl⟩
theorem ei_range1 {n : Int} (h : EvA K tr ρ cs [.dat (.int n)] cs1) (h0 : -(2 ^ 62) ≤ n) (h1 : n < 2 ^ 62) : EvI K (iRng1 tr) ρ cs (rangeD 0 n.toNat) cs1 := fun G σ H ok R q =>
  h G σ H ok _ fun vs G1 H1 f1 ok1 e1 => by
    obtain ⟨v, rfl, e⟩ := e1.one
    cases e
    exact ⟨n, rfl, h0, h1, q _ G1 H1 f1 ok1 iter_range⟩
theorem ei_range2 {m n : Int} (h : EvA K tr ρ cs [.dat (.int m), .dat (.int n)] cs1) (h0 : -(2 ^ 62) ≤ n) (h1 : n < 2 ^ 62) (h2 : -(2 ^ 62) ≤ m) (h3 : m < 2 ^ 62) : EvI K (iRng2 tr) ρ cs (rangeD m (n - m).toNat) cs1 := fun G σ H ok R q =>
  h G σ H ok _ fun vs G1 H1 f1 ok1 e1 => by
    obtain ⟨v, w, rfl, e, e'⟩ := e1.two
    cases e
    cases e'
    exact ⟨m, n, rfl, ⟨h2, h3, h0, h1⟩, q _ G1 H1 f1 ok1 iter_range⟩
/-- the signs of a text -/
def signsD (x : Str) : List PyData := x.cps.toList.map fun c => .str ⟨#[c]⟩
theorem ei_str {x : Str} (h : Ev K te ρ cs (.dat (.str x)) cs1) : EvI K (iStr te) ρ cs (signsD x) cs1 := fun G σ H ok R q =>
  h G σ H ok _ fun v G1 H1 f1 ok1 e1 => by
    refine ⟨x, e1, q _ G1 H1 f1 ok1 ⟨fun i H ex hi => ?_, fun i H ex hi => ?_, fun i H y H' ex yl d hd G2 e2 e3 => ?_⟩⟩
    · unfold signsD at hi
      rw [List.length_map, Array.length_toList] at hi
      exact hi
    · unfold signsD at hi
      rw [List.length_map, Array.length_toList] at hi
      exact hi
    · obtain ⟨rfl, c, hc, rfl⟩ := yl
      unfold signsD at hd
      rw [List.getElem?_map, Array.getElem?_toList, hc] at hd
      have hd := (Option.some.inj hd).symm
      subst hd
      exact ⟨G2, .refl e3, rfl⟩
def enumD (ds : List PyData) : List PyData := ds.mapIdx fun i d => .tuple [.int (i : Int), d]
theorem enumD_get {i : Nat} {d : PyData} (h : (enumD ds)[i]? = some d) : ∃ e, ds[i]? = some e ∧ d = .tuple [.int (i : Int), e] := by
  unfold enumD at h
  rw [List.getElem?_mapIdx] at h
  cases hr : ds[i]? with
  | none =>
    rw [hr] at h
    cases h
  | some j =>
    rw [hr] at h
    exact ⟨j, rfl, (Option.some.inj h).symm⟩
theorem ei_enum (h : EvA K tr ρ cs [.dat (.list ds)] cs1) : EvI K (iEnum K tr) ρ cs (enumD ds) cs1 := fun G σ H ok R q =>
  h G σ H ok _ fun vs G1 H1 f1 ok1 e1 => by
    obtain ⟨v, rfl, p, ws, rfl, hp, dw⟩ := e1.one
    refine ⟨p, ws, rfl, .inl (.inl (ok1.ex _ _ hp)), q _ G1 H1 f1 ok1 ⟨fun i H ex hi => ?_, fun i H ex hi => ?_, fun i H y H' ex yl d hd G2 e2 e3 => ?_⟩⟩
    · unfold enumD at hi
      rw [List.length_mapIdx, dw.len] at hi
      exact ⟨ws, .inl (.inl (ex _ _ hp)), hi⟩
    · unfold enumD at hi
      rw [List.length_mapIdx, dw.len] at hi
      exact ⟨ws, ws[i], .inl (.inl (ex _ _ hp)), List.getElem?_eq_getElem hi⟩
    · obtain ⟨T, x, rfl, hT, rfl, hx⟩ := yl
      obtain ⟨e, he, rfl⟩ := enumD_get hd
      obtain ⟨v, hv, dv⟩ := dw.get he
      have e1 : some v = some x := hv.symm.trans (hx ws (.inl (.inl (ex _ _ hp))))
      have e1 := Option.some.inj e1
      subst e1
      have g := Gr.new e3 (o := .tup [.int (i : Nat), v]) hT
      exact ⟨_, g, T, _, rfl, upd_same, _, _, rfl, rfl, _, _, rfl, Dt.mono (e2.trans g.g) _ _ dv, rfl⟩
def zipD (ds es : List PyData) : List PyData := List.zipWith (fun d e => .tuple [d, e]) ds es
theorem ei_zip (h : EvA K tr ρ cs [.dat (.list ds), .dat (.list es)] cs1) : EvI K (iZip K tr) ρ cs (zipD ds es) cs1 := fun G σ H ok R q =>
  h G σ H ok _ fun vs G1 H1 f1 ok1 e1 => by
    obtain ⟨v, w, rfl, ⟨p, ws, rfl, hp, dw⟩, ⟨p', ws', rfl, hp', dw'⟩⟩ := e1.two
    refine ⟨p, p', ws, ws', rfl, .inl (.inl (ok1.ex _ _ hp)), .inl (.inl (ok1.ex _ _ hp')), q _ G1 H1 f1 ok1 ⟨fun i H ex hi => ?_, fun i H ex hi => ?_, fun i H y H' ex yl d hd G2 e2 e3 => ?_⟩⟩
    · unfold zipD at hi
      rw [List.length_zipWith, dw.len, dw'.len] at hi
      exact ⟨ws, ws', .inl (.inl (ex _ _ hp)), .inl (.inl (ex _ _ hp')), by omega⟩
    · unfold zipD at hi
      rw [List.length_zipWith, dw.len, dw'.len] at hi
      exact ⟨ws, ws', ws[i]'(by omega), ws'[i]'(by omega), .inl (.inl (ex _ _ hp)), .inl (.inl (ex _ _ hp')), List.getElem?_eq_getElem _, List.getElem?_eq_getElem _⟩
    · obtain ⟨T, x, y, rfl, hT, rfl, hx, hy⟩ := yl
      unfold zipD at hd
      rw [List.getElem?_zipWith] at hd
      cases h1 : ds[i]? with
      | none =>
        rw [h1] at hd
        cases hd
      | some a =>
        cases h2 : es[i]? with
        | none =>
          rw [h1, h2] at hd
          cases hd
        | some b =>
          rw [h1, h2] at hd
          have hd := (Option.some.inj hd).symm
          subst hd
          obtain ⟨v, hv, dv⟩ := dw.get h1
          obtain ⟨v', hv', dv'⟩ := dw'.get h2
          have e1 : some v = some x := hv.symm.trans (hx ws (.inl (.inl (ex _ _ hp))))
          have e1' : some v' = some y := hv'.symm.trans (hy ws' (.inl (.inl (ex _ _ hp'))))
          have e1 := Option.some.inj e1
          have e1' := Option.some.inj e1'
          subst e1
          subst e1'
          have g := Gr.new e3 (o := .tup [v, v']) hT
          exact ⟨_, g, T, _, rfl, upd_same, _, _, rfl, Dt.mono (e2.trans g.g) _ _ dv, _, _, rfl, Dt.mono (e2.trans g.g) _ _ dv', rfl⟩

/-! ### targets -/
def sets (σ : L2.St) : List Nat → List V → L2.St
  | i :: is, v :: vs => sets (σ.set i (some v)) is vs
  | _, _ => σ
def setsR (ρ : List Sl) : List (Nat × PyData) → List Sl
  | [] => ρ
  | (i, d) :: r => setsR (ρ.set i (.dat d)) r
/-- a target takes the datum apart into these places -/
def Tg (g : TG) (d : PyData) (as : List (Nat × PyData)) : Prop :=
  ∀ G v H σ, Dt G d v → Ex G H → ∀ Q : L2.St → Hp → Prop, (∀ ws, DtAll G (as.map (·.2)) ws → Q (sets σ (as.map (·.1)) ws) H) → g v σ H Q
theorem tg_name (i : Nat) : Tg (gName i) d [(i, d)] := fun G v H σ hd ex Q q => q [v] (.one hd)
theorem tg_pair {a b : PyData} (i j : Nat) : Tg (gTup K 2 (gCons (gName i) (gCons (gName j) gNil))) (.tuple [a, b]) [(i, a), (j, b)] := fun G v H σ hd ex Q q => by
  obtain ⟨p, xs, rfl, hp, x, r, rfl, hx, y, r', rfl, hy, e⟩ := hd
  cases e
  exact ⟨p, _, rfl, .inl (.inl (ex _ _ hp)), rfl, x, [y], rfl, y, [], rfl, rfl, q [x, y] ⟨_, _, rfl, hx, _, _, rfl, hy, rfl⟩⟩
theorem tg_three {a b c : PyData} (i j k : Nat) : Tg (gTup K 3 (gCons (gName i) (gCons (gName j) (gCons (gName k) gNil)))) (.tuple [a, b, c]) [(i, a), (j, b), (k, c)] := fun G v H σ hd ex Q q => by
  obtain ⟨p, xs, rfl, hp, x, r, rfl, hx, y, r', rfl, hy, w, r'', rfl, hw, e⟩ := hd
  cases e
  exact ⟨p, _, rfl, .inl (.inl (ex _ _ hp)), rfl, x, [y, w], rfl, y, [w], rfl, w, [], rfl, rfl, q [x, y, w] ⟨_, _, rfl, hx, _, _, rfl, hy, _, _, rfl, hw, rfl⟩⟩
theorem SlAll.sets {G : Hp} : ∀ {as : List (Nat × PyData)} {σ : L2.St} {ρ : List Sl} {ws : List V}, SlAll G σ ρ → DtAll G (as.map (·.2)) ws → SlAll G (sets σ (as.map (·.1)) ws) (setsR ρ as)
  | [], σ, ρ, ws, h, hw => by cases hw; exact h
  | (i, d) :: r, σ, ρ, ws, h, hw => by
    obtain ⟨v, vs, rfl, h1, h2⟩ := hw
    exact SlAll.sets (as := r) (SlAll.set h i (s := .dat d) h1) h2
def wipeR (ρ : List Sl) : List Nat → List Sl
  | [] => ρ
  | v :: vs => (wipeR ρ vs).set v .un
theorem SlAll.wipe {G : Hp} {σ : L2.St} {ρ : List Sl} (h : SlAll G σ ρ) : ∀ vs : List Nat, SlAll G (wipe σ vs) (wipeR ρ vs)
  | [] => h
  | v :: vs => (h.wipe vs).unset v
theorem wipe_get (σ : L2.St) (i : Nat) : ∀ vs : List Nat, (wipe σ vs)[i]? = if i ∈ vs then (σ[i]?).map (fun _ => none) else σ[i]?
  | [] => by simp [wipe]
  | v :: vs => by
    show ((wipe σ vs).set v none)[i]? = _
    rw [List.getElem?_set, wipe_length]
    by_cases hv : v = i
    · subst hv
      rw [if_pos rfl, if_pos List.mem_cons_self]
      by_cases hl : v < σ.length
      · rw [if_pos hl, List.getElem?_eq_getElem hl]
        rfl
      · rw [if_neg hl, List.getElem?_eq_none (by omega)]
        rfl
    · rw [if_neg hv, wipe_get σ i vs]
      have e : (i ∈ v :: vs) ↔ i ∈ vs := by
        rw [List.mem_cons]
        exact ⟨fun h => h.resolve_left fun z => hv z.symm, .inr⟩
      simp only [e]
theorem wipe_set {σ : L2.St} {i : Nat} {o : Option V} {vs : List Nat} (h : i ∈ vs) : wipe (σ.set i o) vs = wipe σ vs := by
  refine List.ext_getElem? fun j => ?_
  rw [wipe_get, wipe_get, List.getElem?_set]
  by_cases hj : i = j
  · subst hj
    rw [if_pos h, if_pos h, if_pos rfl]
    by_cases hl : i < σ.length
    · rw [if_pos hl, List.getElem?_eq_getElem hl]
      rfl
    · rw [if_neg hl, List.getElem?_eq_none (by omega)]
  · rw [if_neg hj]
theorem wipe_wipe {σ : L2.St} {vs : List Nat} : wipe (wipe σ vs) vs = wipe σ vs := by
  refine List.ext_getElem? fun j => ?_
  rw [wipe_get, wipe_get]
  split
  · cases σ[j]? <;> rfl
  · rfl
theorem wipe_sets {vs : List Nat} : ∀ {is : List Nat} {σ : L2.St} {ws : List V}, (∀ i ∈ is, i ∈ vs) → wipe (sets σ is ws) vs = wipe σ vs
  | [], σ, ws, _ => by cases ws <;> rfl
  | i :: is, σ, [], _ => rfl
  | i :: is, σ, w :: ws, h => by
    show wipe (sets (σ.set i (some w)) is ws) vs = _
    rw [wipe_sets fun j hj => h j (List.mem_cons_of_mem _ hj), wipe_set (h i List.mem_cons_self)]

/-! ### list comprehensions -/
/-- one turn of a comprehension that changes nothing: the datum is left out or gives one more -/
def LcB (K : PySem.W.Frag) (tt : TT) (te : TE) (ρ : List Sl) (cs : Cs) : Option PyData → Prop
  | none => EvT K tt ρ cs false cs
  | some e => EvT K tt ρ cs true cs ∧ Ev K te ρ cs (.dat e) cs
/-- the same with cells that change -/
def LcM (K : PySem.W.Frag) (tt : TT) (te : TE) (ρ : List Sl) (cs : Cs) (o : Option PyData) (cs' : Cs) : Prop :=
  match o with
  | none => EvT K tt ρ cs false cs'
  | some e => ∃ c1, EvT K tt ρ cs true c1 ∧ Ev K te ρ c1 (.dat e) cs'
theorem Ev.frame {x : Addr × Ce} (h : Ev K te ρ cs z cs1) : Ev K te ρ (x :: cs) z (x :: cs1) := fun G σ H ok Q q =>
  h G σ H (ok.sub (List.sublist_cons_self _ _)) Q fun v G1 H1 f1 ok1 e1 => by
    obtain ⟨f2, ok2⟩ := frame1 ok.ce f1 ok1.ce
    exact q v G1 H1 f2 ⟨ok1.ex, ok1.sl, ok2⟩ e1
theorem EvT.frame {x : Addr × Ce} {t : TT} {b : Bool} (h : EvT K t ρ cs b cs1) : EvT K t ρ (x :: cs) b (x :: cs1) := fun G σ H ok Q q =>
  h G σ H (ok.sub (List.sublist_cons_self _ _)) Q fun G1 H1 f1 ok1 => by
    obtain ⟨f2, ok2⟩ := frame1 ok.ce f1 ok1.ce
    exact q G1 H1 f2 ⟨ok1.ex, ok1.sl, ok2⟩
theorem evn_lcM {wi : TI} {g : TG} {tt : TT} {vs : List Nat} {out : List PyData} (Inv : Nat → List PyData → Cs → Prop) (hi : EvI K wi ρ cs items cs1) (hl : items.length ≤ 100000) (h0 : Inv 0 [] cs1)
    (hs : ∀ (i : Nat) (d : PyData) (acc : List PyData) (c : Cs), items[i]? = some d → Inv i acc c → ∃ as o c', Tg g d as ∧ (∀ a ∈ as.map (·.1), a ∈ vs) ∧ LcM K tt te (setsR (wipeR ρ vs) as) c o c' ∧ Inv (i + 1) (acc ++ o.toList) c')
    (hd : ∀ acc c, Inv items.length acc c → acc = out ∧ c = cs2) : EvN K (tLc wi g tt te vs) ρ cs (.lst out) cs2 := fun G σ H ok Q q =>
  hi G σ H ok _ fun J G1 H1 f1 ok1 it => by
    intro D hD
    -- the invariant over heaps
    let W : Nat → Nat → Hp → Prop := fun i m Hx => i + m = items.length ∧ ∃ acc c Gx, acc.length ≤ i ∧ Inv i acc c ∧ Fr G1 H1 cs1 Gx Hx ((D, .lst acc) :: c) ∧ Ok K Gx σ Hx ρ ((D, .lst acc) :: c)
    have hW0 : W 0 items.length (upd H1 D (.lst [])) := by
      obtain ⟨f2, ok2⟩ := ok1.newL (ds := []) (vs := []) hD rfl
      exact ⟨by omega, [], cs1, G1, Nat.le_refl _, h0, f2, ok2⟩
    refine ⟨W, ⟨items.length, hW0⟩, ?_⟩
    rintro i m Hx ⟨em, acc, c, Gx, hal, hin, fx, okx⟩
    by_cases hlt : i < items.length
    · obtain ⟨d, hd'⟩ : ∃ d, items[i]? = some d := ⟨_, List.getElem?_eq_getElem hlt⟩
      obtain ⟨as, o, c', tg, has, hb, hin'⟩ := hs i d acc c hd' hin
      have itx := it.mono fx.g
      refine .inr ⟨itx.go i Hx okx.ex hlt, fun H' => W (i + 1) (m - 1) H', fun H' h => ⟨m - 1, by omega, h⟩, fun x H' y => ?_⟩
      obtain ⟨G3, g3, dx⟩ := itx.yld i Hx x H' okx.ex y d hd' Gx (.refl _) okx.ex
      have ok3 := okx.gr g3
      have f3 := fx.trans (g3.fr (cs := (D, .lst acc) :: c))
      refine tg G3 x H' (wipe σ vs) dx ok3.ex _ fun ws hws => ⟨by rw [wipe_sets has, wipe_wipe], ?_⟩
      have ok4 : Ok K G3 (sets (wipe σ vs) (as.map (·.1)) ws) H' (setsR (wipeR ρ vs) as) ((D, .lst acc) :: c) := ⟨ok3.ex, (ok3.sl.wipe vs).sets hws, ok3.ce⟩
      cases o with
      | none =>
        refine (EvT.frame (x := (D, .lst acc)) hb) G3 _ H' ok4 _ fun G5 H5 f5 ok5 => ?_
        refine iteF ?_
        refine ⟨by omega, acc, c', G5, by omega, by simpa using hin', f3.trans f5, ok5.ex, ok3.sl.mono f5.g, ok5.ce⟩
      | some e =>
        obtain ⟨c1, ht, he⟩ := hb
        refine (EvT.frame (x := (D, .lst acc)) ht) G3 _ H' ok4 _ fun G5 H5 f5 ok5 => ?_
        refine iteT ?_
        refine (Ev.frame (x := (D, .lst acc)) he) G5 _ H5 ok5 _ fun y G6 H6 f6 ok6 e6 => ?_
        obtain ⟨vs6, hv6, dv6⟩ := ok6.ce.lst (k := 0) rfl
        refine ⟨vs6, hv6, by rw [← dv6.len]; exact Nat.lt_of_lt_of_le (show acc.length < 100000 by omega) (by decide), ?_⟩
        obtain ⟨f7, ok7⟩ := ok6.put (k := 0) (o := .lst (vs6 ++ [y])) (c' := .lst (acc ++ [e])) rfl ⟨_, upd_same, dv6.append (.one e6)⟩
        exact ⟨by omega, acc ++ [e], c', G6, by simp; omega, hin', ((f3.trans f5).trans f6).trans f7, ok7.ex, ok3.sl.mono (f5.g.trans f6.g), ok7.ce⟩
    · have ei : i = items.length := by omega
      subst ei
      obtain ⟨rfl, rfl⟩ := hd acc c hin
      refine .inl ⟨(it.mono fx.g).stop _ Hx okx.ex (Nat.le_refl _), q D Gx Hx (f1.fresh hD) (f1.trans fx) okx⟩
theorem evn_lc {wi : TI} {g : TG} {tt : TT} {vs : List Nat} (f : PyData → Option PyData) (hi : EvI K wi ρ cs items cs1) (hl : items.length ≤ 100000)
    (hs : ∀ (i : Nat) (d : PyData), items[i]? = some d → ∃ as, Tg g d as ∧ (∀ a ∈ as.map (·.1), a ∈ vs) ∧ LcB K tt te (setsR (wipeR ρ vs) as) cs1 (f d)) : EvN K (tLc wi g tt te vs) ρ cs (.lst (items.filterMap f)) cs1 := by
  refine evn_lcM (fun i acc c => acc = (items.take i).filterMap f ∧ c = cs1) hi hl ⟨rfl, rfl⟩ (fun i d acc c hd ⟨e1, e2⟩ => ?_) (fun acc c ⟨e1, e2⟩ => ⟨by rw [e1, List.take_length], e2⟩)
  subst e2
  obtain ⟨as, tg, has, hb⟩ := hs i d hd
  refine ⟨as, f d, c, tg, has, ?_, ?_, rfl⟩
  · cases hf : f d with
    | none =>
      rw [hf] at hb
      exact hb
    | some e =>
      rw [hf] at hb
      exact ⟨c, hb.1, hb.2⟩
  · rw [e1, List.take_add_one, hd, List.filterMap_append]
    cases hf : f d with
    | none => simp [hf]
    | some e => simp [hf]
/-- over encoded items -/
theorem evn_lcE {α β : Type} {wi : TI} {g : TG} {tt : TT} {vs : List Nat} {xs : List α} {enc : α → PyData} {enc2 : β → PyData} (f : α → Option β) (hi : EvI K wi ρ cs (xs.map enc) cs1) (hl : xs.length ≤ 100000)
    (hs : ∀ x ∈ xs, ∃ as, Tg g (enc x) as ∧ (∀ a ∈ as.map (·.1), a ∈ vs) ∧ LcB K tt te (setsR (wipeR ρ vs) as) cs1 ((f x).map enc2)) : EvN K (tLc wi g tt te vs) ρ cs (.lst ((xs.filterMap f).map enc2)) cs1 := by
  refine evn_lcM (fun i acc c => acc = ((xs.take i).filterMap f).map enc2 ∧ c = cs1) hi (by rw [List.length_map]; exact hl) ⟨rfl, rfl⟩ (fun i d acc c hd ⟨e1, e2⟩ => ?_) (fun acc c ⟨e1, e2⟩ => ⟨by rw [e1, List.length_map, List.take_length], e2⟩)
  subst e2
  rw [List.getElem?_map] at hd
  cases hx : xs[i]? with
  | none =>
    rw [hx] at hd
    cases hd
  | some x =>
    rw [hx] at hd
    have hd := (Option.some.inj hd).symm
    subst hd
    obtain ⟨as, tg, has, hb⟩ := hs x (List.mem_of_getElem? hx)
    refine ⟨as, (f x).map enc2, c, tg, has, ?_, ?_, rfl⟩
    · cases hf : f x with
      | none =>
        rw [hf] at hb
        exact hb
      | some e =>
        rw [hf] at hb
        exact ⟨c, hb.1, hb.2⟩
    · rw [e1, List.take_add_one, hx, List.filterMap_append]
      cases hf : f x with
      | none => simp [hf]
      | some e => simp [hf]
/-- .. without a test: a map -/
theorem evn_map {α : Type} {wi : TI} {g : TG} {vs : List Nat} {xs : List α} {enc : α → PyData} (f : α → PyData) (hi : EvI K wi ρ cs (xs.map enc) cs1) (hl : xs.length ≤ 100000)
    (hs : ∀ x ∈ xs, ∃ as, Tg g (enc x) as ∧ (∀ a ∈ as.map (·.1), a ∈ vs) ∧ Ev K te (setsR (wipeR ρ vs) as) cs1 (.dat (f x)) cs1) : EvN K (tLc wi g tYes te vs) ρ cs (.lst (xs.map f)) cs1 := by
  refine (evn_lcE (enc2 := id) (fun x => some (f x)) hi hl fun x hx => ?_).is (by simp)
  obtain ⟨as, h1, h2, h3⟩ := hs x hx
  exact ⟨as, h1, h2, et_yes, h3⟩
end
end LW

set_option Elab.async false
set_option linter.all false
set_option maxRecDepth 100000
namespace LW
open PySem PySem.Spec PyProof.Rows L2

/-! ### statements -/
structure Po where
  nx : List Sl → Cs → Prop
  rt : Sl → Cs → Prop
  bk : List Sl → Cs → Prop := fun _ _ => False
  ct : List Sl → Cs → Prop := fun _ _ => False
def Goes (K : PySem.W.Frag) (G H : Hp) (cs : Cs) (A : List Sl → Cs → Prop) (k : L2.St → Hp → Prop) : Prop := ∀ ρ' c' G' σ' H', A ρ' c' → Fr G H cs G' H' c' → Ok K G' σ' H' ρ' c' → k σ' H'
def Gives (K : PySem.W.Frag) (G H : Hp) (cs : Cs) (A : Sl → Cs → Prop) (k : VK) : Prop := ∀ z v c' G' H', A z c' → Fr G H cs G' H' c' → Ex G' H' → CsOk K G' H' c' → SlV G' v z → k v H'
def Run (K : PySem.W.Frag) (ts : TS) (ρ : List Sl) (cs : Cs) (P : Po) : Prop := ∀ G σ H (D : Ends), Ok K G σ H ρ cs →
  Goes K G H cs P.nx D.nx → Gives K G H cs P.rt D.rt → Goes K G H cs P.bk D.bk → Goes K G H cs P.ct D.ct → ts D σ H
section
variable {K : PySem.W.Frag} {ρ : List Sl} {cs cs1 cs2 cs3 : Cs} {te ta tb : TE} {tr : TA} {t u : TS} {z z1 z2 : Sl} {zs : List Sl} {d d1 d2 : PyData} {ds es items : List PyData} {P : Po} {b : Bool} {tt : TT} {p : Addr}
theorem Goes.after {G H G1 H1 : Hp} {A : List Sl → Cs → Prop} {k : L2.St → Hp → Prop} (h : Goes K G H cs A k) (f : Fr G H cs G1 H1 cs1) : Goes K G1 H1 cs1 A k := fun ρ' c' G' σ' H' a f' ok => h ρ' c' G' σ' H' a (f.trans f') ok
theorem Gives.after {G H G1 H1 : Hp} {A : Sl → Cs → Prop} {k : VK} (h : Gives K G H cs A k) (f : Fr G H cs G1 H1 cs1) : Gives K G1 H1 cs1 A k := fun z v c' G' H' a f' e ok hz => h z v c' G' H' a (f.trans f') e ok hz
theorem run_seq (N : List Sl → Cs → Prop) (h : Run K t ρ cs { P with nx := N }) (h' : ∀ ρ' c', N ρ' c' → Run K u ρ' c' P) : Run K (tSeq t u) ρ cs P := fun G σ H D ok n r bk ct =>
  h G σ H { D with nx := u D } ok (fun ρ' c' G' σ' H' a f ok' => h' ρ' c' a G' σ' H' D ok' (n.after f) (r.after f) (bk.after f) (ct.after f)) r bk ct
theorem run_asg (i : Nat) (h : Ev K te ρ cs z cs1) (h' : Run K u (ρ.set i z) cs1 P) : Run K (tSeq (tAsg te (gName i)) u) ρ cs P := fun G σ H D ok n r bk ct =>
  h G σ H ok _ fun v G1 H1 f1 ok1 e1 => h' G1 (σ.set i (some v)) H1 D ⟨ok1.ex, ok1.sl.set i e1, ok1.ce⟩ (n.after f1) (r.after f1) (bk.after f1) (ct.after f1)
theorem run_asgN (i : Nat) {c : Ce} (h : EvN K te ρ cs c cs1) (h' : ∀ p, Run K u (ρ.set i (.raw (.ref p))) ((p, c) :: cs1) P) : Run K (tSeq (tAsg te (gName i)) u) ρ cs P := fun G σ H D ok n r bk ct =>
  h G σ H ok _ fun p G1 H1 hp f1 ok1 => h' p G1 (σ.set i (some (.ref p))) H1 D ⟨ok1.ex, ok1.sl.set i rfl, ok1.ce⟩ (n.after f1) (r.after f1) (bk.after f1) (ct.after f1)
/-- an assignment to a target of several names -/
theorem run_asgT {g : TG} {as : List (Nat × PyData)} (h : Ev K te ρ cs (.dat d) cs1) (hg : Tg g d as) (h' : Run K u (setsR ρ as) cs1 P) : Run K (tSeq (tAsg te g) u) ρ cs P := fun G σ H D ok n r bk ct =>
  h G σ H ok _ fun v G1 H1 f1 ok1 e1 => hg G1 v H1 σ e1 ok1.ex _ fun ws hws => h' G1 _ H1 D ⟨ok1.ex, ok1.sl.sets hws, ok1.ce⟩ (n.after f1) (r.after f1) (bk.after f1) (ct.after f1)
theorem run_asg1 (i : Nat) (h : Ev K te ρ cs z cs1) (h' : P.nx (ρ.set i z) cs1) : Run K (tAsg te (gName i)) ρ cs P := fun G σ H D ok n r bk ct =>
  h G σ H ok _ fun v G1 H1 f1 ok1 e1 => n _ _ G1 _ H1 h' f1 ⟨ok1.ex, ok1.sl.set i e1, ok1.ce⟩
theorem run_asgN1 (i : Nat) {c : Ce} (h : EvN K te ρ cs c cs1) (h' : ∀ p, P.nx (ρ.set i (.raw (.ref p))) ((p, c) :: cs1)) : Run K (tAsg te (gName i)) ρ cs P := fun G σ H D ok n r bk ct =>
  h G σ H ok _ fun p G1 H1 hp f1 ok1 => n _ _ G1 _ H1 (h' p) f1 ⟨ok1.ex, ok1.sl.set i rfl, ok1.ce⟩
/-- a, b = e1, e2 -/
theorem run_par (i j : Nat) (h : EvA K tr ρ cs [z1, z2] cs1) (h' : Run K u ((ρ.set i z1).set j z2) cs1 P) : Run K (tSeq (tPar i j tr) u) ρ cs P := fun G σ H D ok n r bk ct =>
  h G σ H ok _ fun vs G1 H1 f1 ok1 e1 => by
    obtain ⟨v, w, rfl, q1, q2⟩ := e1.two
    exact ⟨v, w, rfl, h' G1 _ H1 D ⟨ok1.ex, (ok1.sl.set i q1).set j q2, ok1.ce⟩ (n.after f1) (r.after f1) (bk.after f1) (ct.after f1)⟩
theorem run_expr (h : Ev K te ρ cs z cs1) (h' : Run K u ρ cs1 P) : Run K (tSeq (tDrop te) u) ρ cs P := fun G σ H D ok n r bk ct =>
  h G σ H ok _ fun v G1 H1 f1 ok1 e1 => h' G1 σ H1 D ok1 (n.after f1) (r.after f1) (bk.after f1) (ct.after f1)
theorem run_expr1 (h : Ev K te ρ cs z cs1) (h' : P.nx ρ cs1) : Run K (tDrop te) ρ cs P := fun G σ H D ok n r bk ct =>
  h G σ H ok _ fun v G1 H1 f1 ok1 e1 => n _ _ G1 σ H1 h' f1 ok1
theorem run_ret (h : Ev K te ρ cs z cs1) (h' : P.rt z cs1) : Run K (tRet te) ρ cs P := fun G σ H D ok n r bk ct =>
  h G σ H ok _ fun v G1 H1 f1 ok1 e1 => r z v cs1 G1 H1 h' f1 ok1.ex ok1.ce e1
/-- a local list is handed back: data from now on -/
theorem run_retL (k : Nat) (h : Ev K te ρ cs (.raw (.ref p)) cs1) (hk : cs1[k]? = some (p, .lst ds)) (h' : P.rt (.dat (.list ds)) (cs1.eraseIdx k)) : Run K (tRet te) ρ cs P := fun G σ H D ok n r bk ct =>
  h G σ H ok _ fun v G1 H1 f1 ok1 e1 => by
    cases e1
    obtain ⟨G2, f2, ok2, hd⟩ := ok1.frz hk
    exact r _ _ _ G2 H1 h' (f1.trans f2) ok2.ex ok2.ce hd
theorem run_retN (h : EvN K te ρ cs (.lst ds) cs1) (h' : P.rt (.dat (.list ds)) cs1) : Run K (tRet te) ρ cs P := run_ret h.ev h'
theorem run_next (h : P.nx ρ cs) : Run K tNext ρ cs P := fun G σ H D ok n r bk ct => n ρ cs G σ H h .refl ok
theorem run_nextS (h : Run K u ρ cs P) : Run K (tSeq tNext u) ρ cs P := fun G σ H D ok n r bk ct => h G σ H D ok n r bk ct
theorem run_if {c : TT} (h : EvT K c ρ cs b cs1) (h1 : b = true → Run K t ρ cs1 P) (h2 : b = false → Run K u ρ cs1 P) : Run K (tIfS c t u) ρ cs P := fun G σ H D ok n r bk ct =>
  h G σ H ok _ fun G1 H1 f1 ok1 => by
    cases b with
    | true => exact h1 rfl G1 σ H1 D ok1 (n.after f1) (r.after f1) (bk.after f1) (ct.after f1)
    | false => exact h2 rfl G1 σ H1 D ok1 (n.after f1) (r.after f1) (bk.after f1) (ct.after f1)
/-- an if whose ways each go on with the rest, or leave -/
theorem run_ifS {c : TT} {w : TS} (h : EvT K c ρ cs b cs1) (h1 : b = true → Run K (tSeq t w) ρ cs1 P) (h2 : b = false → Run K (tSeq u w) ρ cs1 P) : Run K (tSeq (tIfS c t u) w) ρ cs P := fun G σ H D ok n r bk ct =>
  h G σ H ok _ fun G1 H1 f1 ok1 => by
    cases b with
    | true => exact h1 rfl G1 σ H1 D ok1 (n.after f1) (r.after f1) (bk.after f1) (ct.after f1)
    | false => exact h2 rfl G1 σ H1 D ok1 (n.after f1) (r.after f1) (bk.after f1) (ct.after f1)
theorem run_assoc {w : TS} (h : Run K (tSeq t (tSeq u w)) ρ cs P) : Run K (tSeq (tSeq t u) w) ρ cs P := h
theorem run_retS (h : Run K (tRet te) ρ cs P) : Run K (tSeq (tRet te) u) ρ cs P := fun G σ H D ok n r bk ct => h G σ H D ok n r bk ct
theorem run_mono {P' : Po} (h : Run K t ρ cs P') (h1 : ∀ r c, P'.nx r c → P.nx r c) (h2 : ∀ r c, P'.rt r c → P.rt r c) (h3 : ∀ r c, P'.bk r c → P.bk r c) (h4 : ∀ r c, P'.ct r c → P.ct r c) : Run K t ρ cs P := fun G σ H D ok n r bk ct =>
  h G σ H D ok (fun a b c d e q => n a b c d e (h1 _ _ q)) (fun a b c d e q => r a b c d e (h2 _ _ q)) (fun a b c d e q => bk a b c d e (h3 _ _ q)) (fun a b c d e q => ct a b c d e (h4 _ _ q))
/-- what the slot i holds, a local list, is data from now on -/
theorem run_frz (i k : Nat) (hi : ρ[i]? = some (.raw (.ref p))) (hk : cs[k]? = some (p, .lst ds)) (h : Run K t (ρ.set i (.dat (.list ds))) (cs.eraseIdx k) P) : Run K t ρ cs P := fun G σ H D ok n r bk ct => by
  obtain ⟨G1, f1, ok1, hd⟩ := ok.frz hk
  have e : σ.set i (some (.ref p)) = σ := by
    obtain ⟨v, hv, e⟩ := ok.sl.get hi (fun z => nomatch z)
    cases e
    refine List.ext_getElem? fun j => ?_
    rw [List.getElem?_set]
    by_cases hj : i = j
    · subst hj
      rw [if_pos rfl, hv, if_pos (List.getElem?_eq_some_iff.mp hv).1]
    · rw [if_neg hj]
  have sl1 := ok1.sl.set i (v := .ref p) (s := .dat (.list ds)) hd
  rw [e] at sl1
  exact h G1 σ H D ⟨ok1.ex, sl1, ok1.ce⟩ (n.after f1) (r.after f1) (bk.after f1) (ct.after f1)
/-- cells that are not wanted any more -/
theorem run_drop (h : Run K t ρ cs1 P) (s : List.Sublist cs1 cs) : Run K t ρ cs P := fun G σ H D ok n r bk ct => by
  have f : Fr G H cs G H cs1 := Fr.sub .refl s
  exact h G σ H D (ok.sub s) (n.after f) (r.after f) (bk.after f) (ct.after f)
/-- slots that are not wanted any more -/
theorem run_un (i : Nat) (h : Run K t (ρ.set i .un) cs P) : Run K t ρ cs P := fun G σ H D ok n r bk ct => by
  have e : SlAll G σ (ρ.set i .un) := by
    refine ⟨by rw [List.length_set]; exact ok.sl.len, fun j o s h1 h2 => ?_⟩
    rw [List.getElem?_set] at h2
    by_cases hj : i = j
    · rw [if_pos hj] at h2
      split at h2
      · cases h2
        cases o <;> trivial
      · cases h2
    · rw [if_neg hj] at h2
      exact ok.sl.at_ j o s h1 h2
  exact h G σ H D ⟨ok.ex, e, ok.ce⟩ n r bk ct
theorem run_for {wi : TI} {g : TG} {tb : TS} (Inv : Nat → List Sl → Cs → Prop) (hi : EvI K wi ρ cs items cs1) (h0 : Inv 0 ρ cs1)
    (hs : ∀ (i : Nat) (d : PyData) (ρ' : List Sl) (c : Cs), items[i]? = some d → Inv i ρ' c → ∃ as, Tg g d as ∧ Run K tb (setsR ρ' as) c { nx := Inv (i + 1), rt := P.rt, bk := P.nx, ct := Inv (i + 1) })
    (hd : ∀ ρ' c, Inv items.length ρ' c → P.nx ρ' c) : Run K (tFor wi g tb) ρ cs P := fun G σ H D ok n r bk ct =>
  hi G σ H ok _ fun J G1 H1 f1 ok1 it => by
    let W : Nat → Nat → L2.St → Hp → Prop := fun i m σx Hx => i + m = items.length ∧ ∃ ρx c Gx, Inv i ρx c ∧ Fr G1 H1 cs1 Gx Hx c ∧ Ok K Gx σx Hx ρx c
    refine ⟨W, ⟨items.length, by omega, ρ, cs1, G1, h0, .refl, ok1⟩, ?_⟩
    rintro i m σx Hx ⟨em, ρx, c, Gx, hin, fx, okx⟩
    have itx := it.mono fx.g
    by_cases hlt : i < items.length
    · obtain ⟨d, hd'⟩ : ∃ d, items[i]? = some d := ⟨_, List.getElem?_eq_getElem hlt⟩
      obtain ⟨as, tg, hb⟩ := hs i d ρx c hd' hin
      refine .inr ⟨itx.go i Hx okx.ex hlt, fun σ' H' => W (i + 1) (m - 1) σ' H', fun σ' H' h => ⟨m - 1, by omega, h⟩, fun x H' y => ?_⟩
      obtain ⟨G3, g3, dx⟩ := itx.yld i Hx x H' okx.ex y d hd' Gx (.refl _) okx.ex
      have ok3 := okx.gr g3
      have f3 := fx.trans (g3.fr (cs := c))
      refine tg G3 x H' σx dx ok3.ex _ fun ws hws => ?_
      have f4 := f1.trans f3
      have again : Goes K G3 H' c (Inv (i + 1)) (fun σ' H' => W (i + 1) (m - 1) σ' H') := fun ρ5 c5 G5 σ5 H5 a f5 ok5 => ⟨by omega, ρ5, c5, G5, a, f3.trans f5, ok5⟩
      exact hb G3 _ H' { D with nx := fun σ' H' => W (i + 1) (m - 1) σ' H', ct := fun σ' H' => W (i + 1) (m - 1) σ' H', bk := D.nx } ⟨ok3.ex, ok3.sl.sets hws, ok3.ce⟩ again (r.after f4) (n.after f4) again
    · have ei : i = items.length := by omega
      subst ei
      exact .inl ⟨itx.stop _ Hx okx.ex (Nat.le_refl _), n ρx c Gx σx Hx (hd ρx c hin) (f1.trans fx) okx⟩
theorem run_while {c : TT} {tb : TS} (Inv : Nat → List Sl → Cs → Prop) (m0 : Nat) (h0 : Inv m0 ρ cs)
    (hs : ∀ (m : Nat) (ρ' : List Sl) (cx : Cs), Inv m ρ' cx → ∃ b c1, EvT K c ρ' cx b c1 ∧ (b = true → Run K tb ρ' c1 { nx := fun r x => ∃ m', m' < m ∧ Inv m' r x, rt := P.rt, bk := P.nx, ct := fun r x => ∃ m', m' < m ∧ Inv m' r x }) ∧ (b = false → P.nx ρ' c1)) :
    Run K (tWhile c tb) ρ cs P := fun G σ H D ok n r bk ct => by
  let W : Nat → L2.St → Hp → Prop := fun m σx Hx => ∃ ρx cx Gx, Inv m ρx cx ∧ Fr G H cs Gx Hx cx ∧ Ok K Gx σx Hx ρx cx
  refine ⟨W, ⟨m0, ρ, cs, G, h0, .refl, ok⟩, ?_⟩
  rintro m σx Hx ⟨ρx, cx, Gx, hin, fx, okx⟩
  obtain ⟨b, c1, ht, hT, hF⟩ := hs m ρx cx hin
  refine ht Gx σx Hx okx _ fun G1 H1 f1 ok1 => ?_
  have f2 := fx.trans f1
  cases b with
  | true =>
    refine iteT ?_
    have again : Goes K G1 H1 c1 (fun r x => ∃ m', m' < m ∧ Inv m' r x) (fun σ' H' => ∃ m', m' < m ∧ W m' σ' H') := fun ρ5 c5 G5 σ5 H5 ⟨m', hm, a⟩ f5 ok5 => ⟨m', hm, ρ5, c5, G5, a, f2.trans f5, ok5⟩
    exact ⟨fun σ' H' => ∃ m', m' < m ∧ W m' σ' H', fun σ' H' h => h, hT rfl G1 σx H1 { D with nx := fun σ' H' => ∃ m', m' < m ∧ W m' σ' H', ct := fun σ' H' => ∃ m', m' < m ∧ W m' σ' H', bk := D.nx } ok1 again (r.after f2) (n.after f2) again⟩
  | false =>
    refine iteF ?_
    exact n ρx c1 G1 σx H1 (hF rfl) f2 ok1
/-- x op= e -/
theorem run_aug (i : Nat) {ti : TIp} (hi : ρ[i]? = some z1) (hz : z1 ≠ .un) (h : Ev K te ρ cs z2 cs1) (hop : OpD K ti z1 z2 cs1 z) (h' : Run K u (ρ.set i z) cs1 P) : Run K (tSeq (tAug i te ti) u) ρ cs P := fun G σ H D ok n r bk ct => by
  obtain ⟨v, hv, e⟩ := ok.sl.get hi hz
  refine ⟨v, hv, h G σ H ok _ fun y G1 H1 f1 ok1 e1 => hop v y G1 H1 (e.mono f1.g) e1 ok1.ex ok1.ce _ fun w G2 H2 g2 h2 => ?_⟩
  have f2 := f1.trans (g2.fr (cs := cs1))
  have ok2 := ok1.gr g2
  exact h' G2 _ H2 D ⟨ok2.ex, ok2.sl.set i h2, ok2.ce⟩ (n.after f2) (r.after f2) (bk.after f2) (ct.after f2)
theorem run_aug1 (i : Nat) {ti : TIp} (hi : ρ[i]? = some z1) (hz : z1 ≠ .un) (h : Ev K te ρ cs z2 cs1) (hop : OpD K ti z1 z2 cs1 z) (h' : P.nx (ρ.set i z) cs1) : Run K (tAug i te ti) ρ cs P := fun G σ H D ok n r bk ct => by
  obtain ⟨v, hv, e⟩ := ok.sl.get hi hz
  refine ⟨v, hv, h G σ H ok _ fun y G1 H1 f1 ok1 e1 => hop v y G1 H1 (e.mono f1.g) e1 ok1.ex ok1.ce _ fun w G2 H2 g2 h2 => ?_⟩
  have f2 := f1.trans (g2.fr (cs := cs1))
  have ok2 := ok1.gr g2
  exact n _ _ G2 _ H2 h' f2 ⟨ok2.ex, ok2.sl.set i h2, ok2.ce⟩
/-- xs[i] = e, xs a local list -/
theorem run_setL (k : Nat) {n : Nat} {ti : TE} (h : Ev K te ρ cs (.dat d) cs1) (ho : Ev K ta ρ cs1 (.raw (.ref p)) cs1) (hi : Ev K ti ρ cs1 (.dat (.int (n : Int))) cs2) (hk : cs2[k]? = some (p, .lst ds)) (hn : n < ds.length) (h' : Run K u ρ (cs2.set k (p, .lst (ds.set n d))) P) :
    Run K (tSeq (tAsg te (gSub ta ti rSetL)) u) ρ cs P := fun G σ H D ok nn r bk ct =>
  h G σ H ok _ fun v G1 H1 f1 ok1 e1 => ho G1 σ H1 ok1 _ fun v2 G2 H2 f2 ok2 e2 => hi G2 σ H2 ok2 _ fun v3 G3 H3 f3 ok3 e3 => by
    cases e2
    cases e3
    obtain ⟨vs, hv, dv⟩ := ok3.ce.lst hk
    have hl := dv.len
    have e1' : Dt G3 d v := Dt.mono (f2.g.trans f3.g) _ _ e1
    obtain ⟨f4, ok4⟩ := ok3.put (o := .lst (vs.set n v)) (c' := .lst (ds.set n d)) hk ⟨_, upd_same, DtAll.set n dv e1'⟩
    have f := ((f1.trans f2).trans f3).trans f4
    refine ⟨p, vs, (n : Int), n, rfl, rfl, hv, ?_, h' G3 σ _ D ok4 (nn.after f) (r.after f) (bk.after f) (ct.after f)⟩
    unfold ixN
    rw [if_pos (by omega), if_pos (by omega)]
    simp
end

/-! ### defs -/
/-- a def's promise: what it hands back (z), from arguments and the cells it is given -/
def SpG (K : PySem.W.Frag) (R : List Sl → Cs → Sl → Cs → Prop) : Sp := fun vs H Q _ => ∃ G args cs z cs', Ex G H ∧ SlVs G vs args ∧ CsOk K G H cs ∧ R args cs z cs' ∧
  ∀ v G' H', Fr G H cs G' H' cs' → Ex G' H' → CsOk K G' H' cs' → SlV G' v z → Q v H'
/-- .. a new object -/
def SpN (K : PySem.W.Frag) (R : List Sl → Cs → Ce → Cs → Prop) : Sp := fun vs H Q _ => ∃ G args cs c cs', Ex G H ∧ SlVs G vs args ∧ CsOk K G H cs ∧ R args cs c cs' ∧
  ∀ p G' H', H p = none → Fr G H cs G' H' ((p, c) :: cs') → Ex G' H' → CsOk K G' H' ((p, c) :: cs') → Q (.ref p) H'
section
variable {K : PySem.W.Frag} {ρ : List Sl} {cs cs1 cs2 cs3 : Cs} {tr : TA} {z : Sl} {zs : List Sl} {E : XK} {R : List Sl → Cs → Sl → Cs → Prop} {RN : List Sl → Cs → Ce → Cs → Prop} {c c' : Ce} {p q : Addr} {k j : Nat} {e e' : Ce}
/-- the cells of the callee are some of the caller's; they stay, or one is changed -/
theorem sub_back {G H G' H' : Hp} {sub sub' : Cs} (ok : CsOk K G H cs) (hs : ∀ x ∈ sub, x ∈ cs) (ha : ∀ x ∈ sub', x ∈ sub) (f : Fr G H sub G' H' sub') (ok' : CsOk K G' H' sub') (hall : ∀ x ∈ sub, x ∈ sub') : Fr G H cs G' H' cs ∧ CsOk K G' H' cs := by
  refine ⟨⟨f.g, fun a o h hn => f.keep a o h fun z => hn ?_, f.grow, fun a h => .inl h⟩, ok.nd, fun x hx => ?_⟩
  · obtain ⟨y, hy, e⟩ := List.mem_map.mp z
    exact List.mem_map.mpr ⟨y, hs y hy, e⟩
  · by_cases hm : x ∈ sub
    · exact ok'.is x (hall x hm)
    · obtain ⟨h1, ⟨o, h2⟩, h3⟩ := ok.is x hx
      have hn : x.1 ∉ sub.map (·.1) := fun z => by
        obtain ⟨y, hy, e⟩ := List.mem_map.mp z
        obtain ⟨i1, e1⟩ := List.mem_iff_getElem?.mp (hs y hy)
        obtain ⟨i2, e2⟩ := List.mem_iff_getElem?.mp hx
        have e3 : (cs.map (·.1))[i1]? = some x.1 := by rw [List.getElem?_map, e1, ← e]; rfl
        have e4 : (cs.map (·.1))[i2]? = some x.1 := by rw [List.getElem?_map, e2]; rfl
        have e5 := nd_ix ok.nd e3 e4
        rw [e5, e2] at e1
        cases e1
        exact hm hy
      obtain ⟨k1, k2⟩ := f.keep _ _ h2 hn
      exact ⟨k2.cell h2 h3 h1, ⟨o, k1⟩, h3.mono f.g (k1.trans h2.symm)⟩
theorem ev_call {sub : Cs} (h : EvA K tr ρ cs zs cs1) (hs : List.Sublist sub cs1) (hR : R zs sub z sub) : Ev K (tCall (SpG K R) [] E tr) ρ cs z cs1 := fun G σ H ok Q q =>
  h G σ H ok _ fun vs G1 H1 f1 ok1 h1 => by
    refine ⟨G1, zs, sub, z, sub, ok1.ex, by rw [List.append_nil]; exact h1, ok1.ce.sub hs, hR, fun v G2 H2 f2 ex2 ok2 hv => ?_⟩
    obtain ⟨f3, ok3⟩ := sub_back ok1.ce (fun x hx => hs.subset hx) (fun x hx => hx) f2 ok2 (fun x hx => hx)
    exact q v G2 H2 (f1.trans f3) ⟨ex2, ok1.sl.mono f2.g, ok3⟩ hv
theorem evn_call {sub : Cs} (h : EvA K tr ρ cs zs cs1) (hs : List.Sublist sub cs1) (hR : RN zs sub c sub) : EvN K (tCall (SpN K RN) [] E tr) ρ cs c cs1 := fun G σ H ok Q q =>
  h G σ H ok _ fun vs G1 H1 f1 ok1 h1 => by
    refine ⟨G1, zs, sub, c, sub, ok1.ex, by rw [List.append_nil]; exact h1, ok1.ce.sub hs, hR, fun p G2 H2 hp f2 ex2 ok2 => ?_⟩
    obtain ⟨f3, ok3⟩ := sub_back ok1.ce (fun x hx => hs.subset hx) (fun x hx => hx) (f2.sub (List.sublist_cons_self _ _)) (ok2.sub (List.sublist_cons_self _ _)) (fun x hx => hx)
    have hpc : p ∉ cs1.map (·.1) := fun z => by
      obtain ⟨y, hy, e⟩ := List.mem_map.mp z
      obtain ⟨_, ⟨o, h2⟩, _⟩ := ok1.ce.is y hy
      have e' : y.1 = p := e
      rw [e', hp] at h2
      cases h2
    refine q p G2 H2 (f1.fresh hp) (f1.trans ⟨f3.g, f3.keep, f3.grow, fun a ha => ?_⟩) ⟨ex2, ok1.sl.mono f2.g, ?_, fun x hx => ?_⟩
    · rw [List.map_cons] at ha
      rcases List.mem_cons.mp ha with y | y
      · exact .inr (by rw [y]; exact hp)
      · exact .inl y
    · rw [List.map_cons]
      exact List.nodup_cons.mpr ⟨hpc, ok1.ce.nd⟩
    · rcases List.mem_cons.mp hx with y | y
      · subst y
        exact ok2.is _ List.mem_cons_self
      · exact ok3.is x y
/-- one of the cells is changed by the call, the second is read -/
theorem ev_callM (k : Nat) {ro : Cs} (h : EvA K tr ρ cs zs cs1) (hk : cs1[k]? = some (p, e)) (hro : ∀ x ∈ ro, ∃ j, j ≠ k ∧ cs1[j]? = some x) (hnd : (ro.map (·.1)).Nodup) (hR : R zs ((p, e) :: ro) z ((p, e') :: ro)) : Ev K (tCall (SpG K R) [] E tr) ρ cs z (cs1.set k (p, e')) := fun G σ H ok Q q =>
  h G σ H ok _ fun vs G1 H1 f1 ok1 h1 => by
    have hpr : p ∉ ro.map (·.1) := fun z => by
      obtain ⟨y, hy, ey⟩ := List.mem_map.mp z
      obtain ⟨j, hj, ej⟩ := hro y hy
      exact addr_ne ok1.ce.nd hk ej hj ey
    have okS : CsOk K G1 H1 ((p, e) :: ro) := ⟨by rw [List.map_cons]; exact List.nodup_cons.mpr ⟨hpr, hnd⟩, fun x hx => by
      rcases List.mem_cons.mp hx with y | y
      · rw [y]
        exact ok1.ce.is _ (List.mem_of_getElem? hk)
      · obtain ⟨j, _, ej⟩ := hro x y
        exact ok1.ce.is _ (List.mem_of_getElem? ej)⟩
    refine ⟨G1, zs, _, z, _, ok1.ex, by rw [List.append_nil]; exact h1, okS, hR, fun v G2 H2 f2 ex2 ok2 hv => ?_⟩
    have mem_sub : ∀ a, a ∈ ((p, e) :: ro).map (·.1) → a ∈ cs1.map (·.1) := fun a ha => by
      rw [List.map_cons] at ha
      rcases List.mem_cons.mp ha with y | y
      · rw [y]
        exact List.mem_map.mpr ⟨_, List.mem_of_getElem? hk, rfl⟩
      · obtain ⟨w, hw, ew⟩ := List.mem_map.mp y
        obtain ⟨j, _, ej⟩ := hro w hw
        exact List.mem_map.mpr ⟨w, List.mem_of_getElem? ej, ew⟩
    have f3 : Fr G1 H1 cs1 G2 H2 (cs1.set k (p, e')) := ⟨f2.g, fun a o h hn => f2.keep a o h fun z => hn (mem_sub a z), f2.grow, fun a h => .inl (by rw [map_set_fst hk] at h; exact h)⟩
    refine q v G2 H2 (f1.trans f3) ⟨ex2, ok1.sl.mono f2.g, by rw [map_set_fst hk]; exact ok1.ce.nd, fun x hx => ?_⟩ hv
    rcases mem_set hx with y | ⟨j, hj, ej⟩
    · rw [y]
      exact ok2.is _ List.mem_cons_self
    · by_cases hm : x ∈ ro
      · exact ok2.is x (List.mem_cons_of_mem _ hm)
      · obtain ⟨g1, ⟨o, g2⟩, g3⟩ := ok1.ce.is x (List.mem_of_getElem? ej)
        have hn : x.1 ∉ ((p, e) :: ro).map (·.1) := fun z => by
          rw [List.map_cons] at z
          rcases List.mem_cons.mp z with y | y
          · exact addr_ne ok1.ce.nd hk ej hj y
          · obtain ⟨w, hw, ew⟩ := List.mem_map.mp y
            obtain ⟨j2, _, ej2⟩ := hro w hw
            have e3 : (cs1.map (·.1))[j2]? = some x.1 := by rw [List.getElem?_map, ej2, ← ew]; rfl
            have e4 : (cs1.map (·.1))[j]? = some x.1 := by rw [List.getElem?_map, ej]; rfl
            have e5 := nd_ix ok1.ce.nd e3 e4
            rw [e5, ej] at ej2
            cases ej2
            exact hm hw
        obtain ⟨k1, k2⟩ := f2.keep _ _ g2 hn
        exact ⟨k2.cell g2 g3 g1, ⟨o, k1⟩, g3.mono f2.g (k1.trans g2.symm)⟩
end
def startR (N : List Str) (args : List Sl) : List Sl := args ++ List.replicate (N.length - args.length) .un
theorem SlAll.start {G : Hp} {N : List Str} {vs : List V} {args : List Sl} (h : SlVs G vs args) : SlAll G (L2.start N vs) (startR N args) := by
  unfold L2.start startR
  have hl := h.len
  refine ⟨by simp [hl], fun i o s h1 h2 => ?_⟩
  by_cases hi : i < args.length
  · rw [List.getElem?_append_left (by rw [List.length_map, hl]; exact hi)] at h1
    rw [List.getElem?_append_left hi] at h2
    have key : ∀ {vs : List V} {args : List Sl} {i : Nat} {o : Option V} {s : Sl}, SlVs G vs args → (vs.map some)[i]? = some o → args[i]? = some s → SlO G o s := by
      intro vs
      induction vs with
      | nil => intro args i o s _ h1 _; simp at h1
      | cons v vs ih =>
        intro args i o s h h1 h2
        cases args with
        | nil => simp at h2
        | cons a as =>
          cases i with
          | zero =>
            simp at h1 h2
            subst h1; subst h2
            cases a with
            | un => trivial
            | dat d => exact h.1
            | raw u => exact h.1
            | fd u => exact h.1
            | fl u => exact h.1
            | rdd u d d' => exact h.1
          | succ i => exact ih h.2 (by simpa using h1) (by simpa using h2)
    exact key h h1 h2
  · rw [List.getElem?_append_right (by omega)] at h2
    obtain ⟨h3, h4⟩ := List.getElem?_eq_some_iff.mp h2
    rw [List.getElem_replicate] at h4
    subst h4
    cases o <;> trivial
/-- a def of the text, by its name -/
structure Def (K : PySem.W.Frag) (mg : Str → Option Value) (x : Str) (st : Stmt) (ps : List Str) : Prop where
  ex : ∃ (f : Addr) (fd : FuncData), mg x = some (.ref f) ∧ Fun K x x st f fd ∧ Binds K fd ps []
/-- a def that can be called -/
structure Cal (P : Program) (w : World) (K : PySem.W.Frag) (mg : Str → Option Value) (base : Heap) (k : Nat) (x : Str) (ps : List Str) (sp : Sp) : Prop where
  ex : ∃ (f : Addr) (fd : FuncData), mg x = some (.ref f) ∧ PySem.W.keepIn K (.ref f) = true ∧ Binds K fd ps [] ∧ FnOk P w K mg base CX0 k f fd ps sp
section
variable {P : Program} {w : World} {K : PySem.W.Frag} {mg : Str → Option Value} {base : Heap} {x : Str} {st : Stmt} {ps N : List Str} {k : Nat}
theorem Def.cal {R : List Sl → Cs → Sl → Cs → Prop} (D : Def K mg x st ps) (S : FnScope N ps (defScope st)) (hlen : ∀ args cs z cs', R args cs z cs' → args.length = ps.length)
    (hbody : ∀ (cdv : Value) (A : Around) (outer : List Env) (s : Shared) (H : Hp) (E : XK) (f : Addr), Room k (A.deeper (envOfC x (defScope st) s.heap.objs.size f cdv)) →
      ∃ t, PSs (cxOf CX0 P w K mg base N x (defScope st) f cdv A outer s H E).nox (defBody st) t ∧
        ∀ args cs z cs', R args cs z cs' → Run K t (startR N args) cs { nx := fun _ c => z = .dat .none ∧ List.Sublist cs' c, rt := fun y c => y = z ∧ List.Sublist cs' c }) :
    Cal P w K mg base (k + 1) x ps (SpG K R) := by
  obtain ⟨f, fd, hm, F, B⟩ := D.ex
  refine ⟨f, fd, hm, F.kp, B, F.ok S (fun vs H Q E h => ?_) (fun cdv A outer s H vs Q E hr h => ?_)⟩
  · obtain ⟨G, args, cs, z, cs', _, h1, _, h2, _⟩ := h
    rw [h1.len]
    exact hlen _ _ _ _ h2
  · obtain ⟨t, ht, hrun⟩ := hbody cdv A outer s H E f hr
    refine ⟨t, ht, ?_⟩
    obtain ⟨G, args, cs, z, cs', ex, h1, h2, hR, q⟩ := h
    refine hrun args cs z cs' hR G _ H _ ⟨ex, .start h1, h2⟩ (fun ρ' c' G' σ' H' ⟨e, sb⟩ f' ok' => ?_) (fun z' v c' G' H' ⟨e, sb⟩ f' ex' ok' hv => ?_) (fun _ _ _ _ _ h => h.elim) (fun _ _ _ _ _ h => h.elim)
    · subst e
      exact q _ G' H' (f'.sub sb) ok'.ex (ok'.ce.sub sb) rfl
    · subst e
      exact q _ G' H' (f'.sub sb) ex' (ok'.sub sb) hv
theorem Def.calN {R : List Sl → Cs → Ce → Cs → Prop} (D : Def K mg x st ps) (S : FnScope N ps (defScope st)) (hlen : ∀ args cs z cs', R args cs z cs' → args.length = ps.length) (hcs : ∀ args cs z cs', R args cs z cs' → cs'.map (·.1) = cs.map (·.1))
    (hbody : ∀ (cdv : Value) (A : Around) (outer : List Env) (s : Shared) (H : Hp) (E : XK) (f : Addr), Room k (A.deeper (envOfC x (defScope st) s.heap.objs.size f cdv)) →
      ∃ t, PSs (cxOf CX0 P w K mg base N x (defScope st) f cdv A outer s H E).nox (defBody st) t ∧
        ∀ args cs c cs', R args cs c cs' → Run K t (startR N args) cs { nx := fun _ _ => False, rt := fun y c1 => ∃ p, y = .raw (.ref p) ∧ List.Sublist ((p, c) :: cs') c1 }) :
    Cal P w K mg base (k + 1) x ps (SpN K R) := by
  obtain ⟨f, fd, hm, F, B⟩ := D.ex
  refine ⟨f, fd, hm, F.kp, B, F.ok S (fun vs H Q E h => ?_) (fun cdv A outer s H vs Q E hr h => ?_)⟩
  · obtain ⟨G, args, cs, z, cs', _, h1, _, h2, _⟩ := h
    rw [h1.len]
    exact hlen _ _ _ _ h2
  · obtain ⟨t, ht, hrun⟩ := hbody cdv A outer s H E f hr
    refine ⟨t, ht, ?_⟩
    obtain ⟨G, args, cs, c, cs', ex, h1, h2, hR, q⟩ := h
    refine hrun args cs c cs' hR G _ H _ ⟨ex, .start h1, h2⟩ (fun ρ' c' G' σ' H' h f' ok' => h.elim) (fun z' v c' G' H' ⟨p, e, sb⟩ f' ex' ok' hv => ?_) (fun _ _ _ _ _ h => h.elim) (fun _ _ _ _ _ h => h.elim)
    subst e
    cases hv
    have f2 := f'.sub sb
    have ok2 := ok'.sub sb
    refine q p G' H' ?_ f2 ex' ok2
    rcases f2.new p (by rw [List.map_cons]; exact List.mem_cons_self) with z | z
    · have nd := ok2.nd
      rw [List.map_cons, hcs _ _ _ _ hR] at nd
      exact absurd z (List.nodup_cons.mp nd).1
    · exact z
/-- a call of such a def -/
theorem pe_cal {X : Cx} {sp : Sp} {e : Expr} {es : List Expr} {p pos : Pos} {t : TA} {j : Nat} (c : Cal X.prog X.w X.K X.mg X.base k x ps sp) (hr : Room j X.A) (hj : k ≤ j) (hg : Gl X x) (ha : PA X (e :: es) t) (hn : (x == ("__debug__" : Str)) = false := by decide)
    (he : starEach (e :: es) X.env = (false, eval e X.env) :: starEach es X.env := by rfl) (hpl : (backTo pos (starEach es X.env)).any (·.1) = false := by rfl) :
    PE X (.Call (.Name x p) (e :: es) [] pos) (tCall sp [] E0 t) := by
  obtain ⟨f, fd, hm, hk, hb, F⟩ := c.ex
  first
    | exact pe_call F (hr.mono hj) hg hm hk hb .nil pass0 ha hn he hpl
    | exact pe_call F (hr.mono hj) hg hm hk hb .nil pass0 ha
end
end LW

set_option Elab.async false
set_option linter.all false
set_option maxRecDepth 100000
namespace LW
open PySem PySem.Spec PyProof.Rows L2
open AutoSeq1 (wpAny_loadPart')

/-! ### enumerate of a tuple -/
abbrev oTI (t : Addr) : Obj := { cls := .type "tuple_iterator", data := .fields #[.ref t, .int 0 0] }
abbrev oEn (i : Addr) : Obj := { cls := .type "enumerate", data := .fields #[.none, .bool false, .ref i, rawInt 0, .none, .none] }
set_option maxHeartbeats 2000000 in
theorem meets_enumT (t : Addr) (items : Array Value) :
    Meets (Builtin.«enumerate.__new__» ⟨[.type "enumerate", .ref t], []⟩) (fun _ R s => s.heap.IsTuple t items ∧ R (.ok (.ret (.ref (s.heap.push (oTI t)).objs.size))) { s with heap := (s.heap.push (oTI t)).push (oEn s.heap.objs.size) }) :=
  .of_wp fun prog w A R s h => by
    obtain ⟨hp, g, d, tk, os⟩ := s
    obtain ⟨h1, h⟩ := h
    have hsub := sub_enumerate
    have q1 : ∀ {A' : Around} {E : Value → Shared → Prop} {Q : Value → Shared → Prop}, Q (.ref hp.objs.size) ⟨hp.push (oTI t), g, d, tk, os⟩ → wpAny (model prog w) A' (pyIter (.ref t)) Q E ⟨hp, g, d, tk, os⟩ :=
      fun q => (begins_tuple t items).iter prog w _ _ ⟨hp, g, d, tk, os⟩ _ h1 q
    wp_walk using q1
    refine wpAny_stack_any fun st => wpAny_pure ?_
    split
    · rename_i c _ _ _ _ _
      cases (c == Value.type "enumerate") <;> (wp_walk using q1; exact ⟨_, rfl, h⟩)
    · wp_walk using q1
      exact ⟨_, rfl, h⟩
section
variable {prog : Program} {w : World} {A : Around} {E : Value → Shared → Prop} {s : Shared}
theorem call_enumT {t : Addr} {items : Array Value} {Q : Value → Shared → Prop} (hT : s.heap.IsTuple t items)
    (h : ∀ h', IsEnum h' (s.heap.objs.size + 1) s.heap.objs.size 0 .none → h'.IsTupleIter s.heap.objs.size t 0 → (∀ b o, s.heap.get? b = some o → h'.get? b = some o) → Q (.ref (s.heap.objs.size + 1)) { s with heap := h' }) :
    wpAny (model prog w) A (call (.type "enumerate") [.ref t]) Q E s := by
  have hz : (s.heap.push (oTI t)).objs.size = s.heap.objs.size + 1 := Heap.size_push ..
  have he : IsEnum ((s.heap.push (oTI t)).push (oEn s.heap.objs.size)) (s.heap.objs.size + 1) s.heap.objs.size 0 .none := by
    have q := Heap.get?_push_size (s.heap.push (oTI t)) (o := oEn s.heap.objs.size) rfl
    rw [hz] at q
    exact q
  refine callType_new F.called_enumerate (by decide) (F.typeCall_enumerate_1 _) (F.newCall_enumerate_1 _) (fun obj => F.args_object_init_2 obj _) F.entry_enumerate_new (meets_enumT t items) ⟨hT, ?_⟩
  show _ ∧ _
  rw [hz]
  exact ⟨⟨_, he, rfl⟩, h _ he ⟨_, Heap.get?_push_of_some _ (Heap.get?_push_size _ rfl), rfl, rfl⟩ fun b o x => Heap.get?_push_of_some _ (Heap.get?_push_of_some _ x)⟩
end
def Itn (K : PySem.W.Frag) (a : Addr) : It where
  go := fun i H => ∃ (xs : List V) (x : V), SqT K H a xs ∧ xs[i]? = some x
  yld := fun i H v H' => ∃ T x, v = .ref T ∧ H T = none ∧ H' = upd H T (.tup [.int (i : Nat), x]) ∧ ∀ xs, SqT K H a xs → xs[i]? = some x
  stop := fun i H => ∃ xs : List V, SqT K H a xs ∧ xs.length ≤ i
theorem turn_enumT {P : Program} {w : World} {K : PySem.W.Frag} {elts : List Expr} {kk : Nat} {tpos : Pos} (a e it : Addr) (hei : e ≠ it) (hea : a ≠ e) (hia : a ≠ it) :
    Turn P w K (.Tuple elts kk tpos) (Itn K a) [e, it] e (fun i h => (∃ old, IsEnum h e it (0 + ((i : Nat) : Int)) old) ∧ h.IsTupleIter it a i) where
  mem := List.mem_cons_self
  obj := fun i h st b hb => by
    obtain ⟨⟨old, he⟩, o, ho, hc, hd⟩ := st
    rcases List.mem_cons.mp hb with z | z
    · exact ⟨_, by rw [z]; exact he, fun v q => by cases q⟩
    · exact ⟨o, by rw [List.mem_singleton.mp z]; exact ho, fun v q => by rw [hd] at q; cases q⟩
  keep := fun i h h' st k => ⟨⟨st.1.choose, k e (by simp) _ st.1.choose_spec⟩, st.2.at fun o q => k it (by simp) o q⟩
  item := fun X hP hw hK hc i pins s σ H E I hf st hg => by
    subst hP hw hK
    obtain ⟨xs, x, hq, hx⟩ := hg
    obtain ⟨its, rv, pt, hz⟩ := I.tuple hq
    obtain ⟨u, hu, ru⟩ := rv.get hx
    have W := GoesN.enumFrom (elts := elts) (x1 := kk) (pos := tpos) 0 (Draws.tuple (prog := X.prog) (w := X.w) (A := X.A.in1) (by simp [I.ok.hd hc]) it a hia its.toArray) e hei (by simp [hei, Ne.symm hea]) (by simp)
    have hlt : i < its.toArray.size := by
      rw [List.size_toArray]
      exact (List.getElem?_eq_some_iff.mp hu).1
    refine W.goes i s _ E hlt ⟨st.1, st.2, pt⟩ fun v h' tk hY st' hk htk => ?_
    obtain ⟨T, t, y, rfl, hT, hy, hI⟩ := hY
    have ey : y = u := by
      rw [List.getElem?_toArray] at hy
      exact Option.some.inj (hy.symm.trans hu)
    subst ey
    have hn : H T = none := I.hok.fresh hT
    have new : ObjOk X.prog X.w (upd H T (.tup [.int (i : Nat), x])) h' T (.tup [.int (i : Nat), x]) := by
      refine ⟨by show 2 ≤ sizeLine; decide, [.int (i : Nat) t, y], .cons ⟨_, rfl⟩ (.cons ru .nil), ?_⟩
      rw [Int.zero_add] at hI
      exact hI
    have I1 := I.turnedNew (t' := tk) (ch := [e, it]) (fun b ob hb q => hk b ob hb q) hf hT new
    refine ⟨.ref T, _, I1, rfl, ⟨T, x, rfl, hn, rfl, fun ys hy => by rw [I.tuple_inj hy hq]; exact hx⟩, ⟨st'.1, st'.2.1⟩, fun b hb => ?_⟩
    have hb2 : b ≠ T := fun z => by
      obtain ⟨o, ho, _⟩ : ∃ o, s.heap.get? b = some o ∧ True := by
        rcases List.mem_cons.mp hb with y | y
        · exact ⟨_, by rw [y]; exact st.1.choose_spec, trivial⟩
        · obtain ⟨o, ho, _⟩ := st.2
          exact ⟨o, by rw [List.mem_singleton.mp y]; exact ho, trivial⟩
      have q := Heap.lt_size ho
      rw [z] at q
      exact absurd (Nat.lt_of_lt_of_le q hT) (Nat.lt_irrefl _)
    rw [upd_ne hb2]
    exact (hf b hb).1
  done := fun X hP hw hK hc i pins s σ H E I hf st hg => by
    subst hP hw hK
    obtain ⟨xs, hq, hx⟩ := hg
    obtain ⟨its, rv, pt, hz⟩ := I.tuple hq
    obtain ⟨f0, f1, f2, f3, f4, f5⟩ := hf it (by simp)
    obtain ⟨⟨old, he⟩, hit⟩ := st
    have hsz : its.toArray.size ≤ i := by
      rw [List.size_toArray, ← rv.length]
      exact hx
    have D : Draws X.prog X.w X.A.in1 it [it, a] i (fun i v => its.toArray[i]? = some v) (fun j h => j = i ∧ h.IsTupleIter it a i ∧ h.IsTuple a its.toArray) :=
      { live := fun _ _ st => let ⟨o, ho, _⟩ := st.2.1; ⟨o, ho⟩
        frame := fun _ _ _ st hk => ⟨st.1, st.2.1.at fun o e => hk it (by simp) o e, st.2.2.at fun o e => hk a (by simp) o e⟩
        item := fun j s Q E hi st hQ => absurd st.1 (Nat.ne_of_lt hi)
        done := fun s Q E st hE => wpAny_nextOf_tuple_end (by simp [I.ok.hd hc]) st.2.1 st.2.2 (by simp; simpa using hsz) hE }
    exact wpAny_pyNext_enum_endD D he ⟨rfl, hit, pt⟩ fun h' eb => ⟨rfl, I.turned (t' := s.toks) (fun b o hb q => eb b o hb q) f0 f1 f3 f4 f5⟩
  self := fun A i s Q E st h => wpAny_pyIter_enum st.1.choose_spec h

def iEnumT (K : PySem.W.Frag) (ta : TA) : TI := fun σ H R => ta σ H fun vs H1 => ∃ a xs, vs = [.ref a] ∧ SqT K H1 a xs ∧ R (Itn K a) H1
theorem pi_enumT {X : Cx} {e : Expr} {ta : TA} {p pos tpos : Pos} {elts : List Expr} {kk : Nat} (hg : Gl X "enumerate") (hm : X.mg "enumerate" = none) (ha : PA X [e] ta) (hs : starEach [e] X.env = [(false, eval e X.env)] := by rfl) :
    PI X (.Tuple elts kk tpos) (.Call (.Name "enumerate" p) [e] [] pos) (iEnumT X.K ta) := ⟨fun pins s σ H R I h => by
  refine Call_ (ld_blt I hg hm boot_enumerate (callWith_type1 (thn (ha.run pos pins s σ H _ I h) fun us s1 ⟨vs, H1, I1, r1, q1⟩ => ?_) hs rfl))
  obtain ⟨a, xs, rfl, hq, q⟩ := q1
  rw [Vals.ref1 r1]
  obtain ⟨its, rv, pt, hz⟩ := I1.tuple hq
  have hal : a < s1.heap.objs.size := by
    obtain ⟨o, ho, _⟩ := pt
    exact Heap.lt_size ho
  refine call_enumT (show s1.heap.IsTuple a its.toArray from pt) fun h' he hit hk => wpAny_pyIter_enum he ?_
  refine ⟨s1.heap.objs.size + 1, [s1.heap.objs.size + 1, s1.heap.objs.size], _, _, H1, rfl, I1.kept (t' := s1.toks) hk, turn_enumT a (s1.heap.objs.size + 1) s1.heap.objs.size (Nat.succ_ne_self _) (Nat.ne_of_lt (Nat.lt_succ_of_lt hal)) (Nat.ne_of_lt hal), ⟨⟨.none, he⟩, hit⟩, fun b hb => ?_, q⟩
  have hle : s1.heap.objs.size ≤ b := by
    rcases List.mem_cons.mp hb with z | z
    · rw [z]
      exact Nat.le_succ _
    · rw [List.mem_singleton.mp z]
      exact Nat.le_refl _
  exact I1.fpOk hle (I1.hok.fresh hle)⟩
/-- one of two readings of what is walked -/
theorem PI_or {X : Cx} {tg e : Expr} {wi wi' : TI} (h : PI X tg e wi) (h' : PI X tg e wi') : PI X tg e (fun σ H R => wi σ H R ∨ wi' σ H R) := ⟨fun pins s σ H R I q => by
  rcases q with q | q
  · exact h.run pins s σ H R I q
  · exact h'.run pins s σ H R I q⟩
def iM (K : PySem.W.Frag) (te : TE) : TI := fun σ H R => iList K te σ H R ∨ iTup K te σ H R ∨ iStr te σ H R
theorem pi_M {X : Cx} {tg e : Expr} {te : TE} (h : PE X e te) : PI X tg e (iM X.K te) := PI_or (pi_list h) (PI_or (pi_tup h) (pi_str h))
def iEnumM (K : PySem.W.Frag) (ta : TA) : TI := fun σ H R => iEnum K ta σ H R ∨ iEnumT K ta σ H R
theorem pi_enumM {X : Cx} {e : Expr} {ta : TA} {p pos tpos : Pos} {elts : List Expr} {kk : Nat} (hg : Gl X "enumerate") (hm : X.mg "enumerate" = none) (ha : PA X [e] ta) (hs : starEach [e] X.env = [(false, eval e X.env)] := by rfl) :
    PI X (.Tuple elts kk tpos) (.Call (.Name "enumerate" p) [e] [] pos) (iEnumM X.K ta) := PI_or (pi_enum hg hm ha hs) (pi_enumT hg hm ha hs)
section
variable {K : PySem.W.Frag} {ρ : List Sl} {cs cs1 cs2 cs3 : Cs} {te ta tb : TE} {tr : TA} {z z1 z2 : Sl} {d d1 d2 : PyData} {ds es items : List PyData} {wi wi' : TI}
theorem EvI.l (h : EvI K wi ρ cs items cs1) : EvI K (fun σ H R => wi σ H R ∨ wi' σ H R) ρ cs items cs1 := fun G σ H ok R q => .inl (h G σ H ok R q)
theorem EvI.r (h : EvI K wi' ρ cs items cs1) : EvI K (fun σ H R => wi σ H R ∨ wi' σ H R) ρ cs items cs1 := fun G σ H ok R q => .inr (h G σ H ok R q)
theorem ei_ML (h : Ev K te ρ cs (.dat (.list ds)) cs1) : EvI K (iM K te) ρ cs ds cs1 := EvI.l (ei_list h)
theorem ei_MT (h : Ev K te ρ cs (.dat (.tuple ds)) cs1) : EvI K (iM K te) ρ cs ds cs1 := EvI.r (EvI.l (ei_tup h))
theorem ei_MS {x : Str} (h : Ev K te ρ cs (.dat (.str x)) cs1) : EvI K (iM K te) ρ cs (signsD x) cs1 := EvI.r (EvI.r (ei_str h))
theorem ei_enumT (h : EvA K tr ρ cs [.dat (.tuple ds)] cs1) : EvI K (iEnumM K tr) ρ cs (enumD ds) cs1 := EvI.r (fun G σ H ok R q =>
  h G σ H ok _ fun vs G1 H1 f1 ok1 e1 => by
    obtain ⟨v, rfl, p, ws, rfl, hp, dw⟩ := e1.one
    refine ⟨p, ws, rfl, .inl (.inl (ok1.ex _ _ hp)), q _ G1 H1 f1 ok1 ⟨fun i H ex hi => ?_, fun i H ex hi => ?_, fun i H y H' ex yl d hd G2 e2 e3 => ?_⟩⟩
    · unfold enumD at hi
      rw [List.length_mapIdx, dw.len] at hi
      exact ⟨ws, .inl (.inl (ex _ _ hp)), hi⟩
    · unfold enumD at hi
      rw [List.length_mapIdx, dw.len] at hi
      exact ⟨ws, ws[i], .inl (.inl (ex _ _ hp)), List.getElem?_eq_getElem hi⟩
    · obtain ⟨T, x, rfl, hT, rfl, hx⟩ := yl
      obtain ⟨e, he, rfl⟩ := enumD_get hd
      obtain ⟨v, hv, dv⟩ := dw.get he
      have e1 := Option.some.inj (hv.symm.trans (hx ws (.inl (.inl (ex _ _ hp)))))
      subst e1
      have g := Gr.new e3 (o := .tup [.int (i : Nat), v]) hT
      exact ⟨_, g, T, _, rfl, upd_same, _, _, rfl, rfl, _, _, rfl, Dt.mono (e2.trans g.g) _ _ dv, rfl⟩)
theorem ei_enumL (h : EvA K tr ρ cs [.dat (.list ds)] cs1) : EvI K (iEnumM K tr) ρ cs (enumD ds) cs1 := EvI.l (ei_enum h)
end

/-! ### in, not in; xs[i] += e; 'x' * n -/
def rInSgn (neg : Bool) : R2 := fun x y H Q => ∃ (c : Nat) (z : Str), x = .str ⟨#[c]⟩ ∧ y = .str z ∧ Q (.bl (if neg then !decide (c ∈ z.cps.toList) else decide (c ∈ z.cps.toList))) H
def rInM (K : PySem.W.Frag) : R2 := fun x y H Q => rIn K false x y H Q ∨ rInSgn false x y H Q ∨ rInD K x y H Q
def rNotInM (K : PySem.W.Frag) : R2 := fun x y H Q => rIn K true x y H Q ∨ rInSgn true x y H Q ∨ rNotInD K x y H Q
theorem ru {k : Nat} {A : Around} (r : Room k A) : A.units + 65 < cLine := by
  have q := r.un
  omega
theorem op_inM {X : Cx} (hu : X.A.units + 65 < cLine) : OpR X (compareOp .In) (rInM X.K) := OpR_or op_in_seq (OpR_or op_in_sign (op_inD hu))
theorem op_notInM {X : Cx} (hu : X.A.units + 65 < cLine) : OpR X (compareOp .NotIn) (rNotInM X.K) := OpR_or op_notIn_seq (OpR_or op_notIn_sign (op_notInD hu))
def rGetL (K : PySem.W.Frag) : V → V → Hp → VK → Prop := fun o i H Q => ∃ p xs k v, o = .ref p ∧ i = .int k ∧ SqL K H p xs ∧ 0 ≤ k ∧ k < 2 ^ 62 ∧ xs[k.toNat]? = some v ∧ Q v H
theorem get_list {X : Cx} : PGet X (rGetL X.K) := fun pins s σ H o i ov iv Q I ro ri h => by
  obtain ⟨p, xs, k, v, rfl, rfl, hp, h0, h1, hv, q⟩ := h
  obtain ⟨t, rfl⟩ := ri
  cases ro
  obtain ⟨its, rv, pl, hz⟩ := I.list hp
  obtain ⟨u, hu, ru⟩ := rv.get hv
  exact wpAny_getItem_list pl.isList h0 (by omega) (by simpa using hu) ⟨v, H, I, ru, q⟩
section
variable {K : PySem.W.Frag} {ρ : List Sl} {cs cs1 cs2 cs3 : Cs} {te ta tb ti : TE} {u : TS} {z z1 z2 : Sl} {d : PyData} {ds : List PyData} {P : Po} {p : Addr}
/-- xs[n] += e, ints -/
theorem run_augL (k : Nat) {n : Nat} {i j : Int} (ho : Ev K ta ρ cs (.raw (.ref p)) cs) (hi : Ev K ti ρ cs (.dat (.int (n : Int))) cs) (he : Ev K te ρ cs (.dat (.int j)) cs) (hk : cs[k]? = some (p, .lst ds)) (hn : ds[n]? = some (.int i)) (hl : ds.length ≤ 100000) (h' : Run K u ρ (cs.set k (p, .lst (ds.set n (.int (i + j))))) P) :
    Run K (tSeq (tAugS ta ti te (rGetL K) (ipI fun i j => i + j) rSetL) u) ρ cs P := fun G σ H D ok nn r bk ct =>
  ho G σ H ok _ fun v1 G1 H1 f1 ok1 e1 => hi G1 σ H1 ok1 _ fun v2 G2 H2 f2 ok2 e2 => by
    cases e1
    cases e2
    obtain ⟨vs, hv, dv⟩ := ok2.ce.lst hk
    obtain ⟨w, hw, dw⟩ := dv.get hn
    cases dw
    have hlt := (List.getElem?_eq_some_iff.mp hn).1
    refine ⟨p, vs, (n : Int), _, rfl, rfl, .inl (.inl hv), by omega, by omega, by simpa using hw, he G2 σ H2 ok2 _ fun v3 G3 H3 f3 ok3 e3 => ?_⟩
    cases e3
    obtain ⟨vs', hv', dv'⟩ := ok3.ce.lst hk
    refine ⟨i, j, rfl, rfl, ?_⟩
    have e1' : Dt G3 (.int (i + j)) (.int (i + j)) := rfl
    obtain ⟨f4, ok4⟩ := ok3.put (o := .lst (vs'.set n (.int (i + j)))) (c' := .lst (ds.set n (.int (i + j)))) hk ⟨_, upd_same, DtAll.set n dv' e1'⟩
    have f := ((f1.trans f2).trans f3).trans f4
    have hl' := dv'.len
    refine ⟨p, vs', (n : Int), n, rfl, rfl, hv', ?_, h' G3 σ _ D ok4 (nn.after f) (r.after f) (bk.after f) (ct.after f)⟩
    unfold ixN
    rw [if_pos (by omega), if_pos (by omega)]
    simp
/-- in: ints -/
theorem inV_ints (i : Int) (ns : List Int) : inV (.int i) (ns.map V.int) = decide (i ∈ ns) := by
  unfold inV
  induction ns with
  | nil => simp
  | cons n ns ih =>
    rw [List.map_cons, List.any_cons, ih]
    have e : eqV (.int n) (.int i) = decide (i = n) := by
      show (n == i) = _
      by_cases h : i = n
      · subst h
        simp
      · rw [decide_eq_false h]
        exact beq_eq_false_iff_ne.mpr fun z => h z.symm
    rw [e, ← Bool.decide_or]
    exact decide_eq_decide.mpr List.mem_cons.symm
theorem flat_ints (ns : List Int) : (ns.map V.int).all flatV = true := by
  rw [List.all_map, List.all_eq_true]
  intro x _
  rfl
theorem opd_inL {i : Int} {ns : List Int} (h1 : Rds cs z1 (.int i)) (h2 : Rds cs z2 (.list (ns.map PyData.int))) : OpD K (rInM K) z1 z2 cs (.dat (.bool (decide (i ∈ ns)))) := fun x y G H hx hy ex ok Q q => by
  obtain ⟨p, vs, rfl, hp, dp⟩ := h2.list hy ex ok
  rw [dp.ints] at hp
  rw [h1.int hx]
  refine .inl ⟨p, _, rfl, .inl (.inl (.inl hp)), rfl, flat_ints ns, ?_⟩
  rw [inV_ints]
  exact q _ G H (.refl ex) rfl
theorem opd_inT {i : Int} {ns : List Int} (h1 : Rds cs z1 (.int i)) (h2 : Rds cs z2 (.tuple (ns.map PyData.int))) : OpD K (rInM K) z1 z2 cs (.dat (.bool (decide (i ∈ ns)))) := fun x y G H hx hy ex ok Q q => by
  obtain ⟨p, vs, rfl, hp, dp⟩ := h2.tuple hy
  rw [dp.ints] at hp
  rw [h1.int hx]
  refine .inl ⟨p, _, rfl, .inr (.inl (.inl (ex _ _ hp))), rfl, flat_ints ns, ?_⟩
  rw [inV_ints]
  exact q _ G H (.refl ex) rfl
theorem opd_ninT {i : Int} {ns : List Int} (h1 : Rds cs z1 (.int i)) (h2 : Rds cs z2 (.tuple (ns.map PyData.int))) : OpD K (rNotInM K) z1 z2 cs (.dat (.bool (!decide (i ∈ ns)))) := fun x y G H hx hy ex ok Q q => by
  obtain ⟨p, vs, rfl, hp, dp⟩ := h2.tuple hy
  rw [dp.ints] at hp
  rw [h1.int hx]
  refine .inl ⟨p, _, rfl, .inr (.inl (.inl (ex _ _ hp))), rfl, flat_ints ns, ?_⟩
  rw [inV_ints]
  exact q _ G H (.refl ex) rfl
theorem opd_ninL {i : Int} {ns : List Int} (h1 : Rds cs z1 (.int i)) (h2 : Rds cs z2 (.list (ns.map PyData.int))) : OpD K (rNotInM K) z1 z2 cs (.dat (.bool (!decide (i ∈ ns)))) := fun x y G H hx hy ex ok Q q => by
  obtain ⟨p, vs, rfl, hp, dp⟩ := h2.list hy ex ok
  rw [dp.ints] at hp
  rw [h1.int hx]
  refine .inl ⟨p, _, rfl, .inl (.inl (.inl hp)), rfl, flat_ints ns, ?_⟩
  rw [inV_ints]
  exact q _ G H (.refl ex) rfl
theorem opd_inS {c : Nat} {x : Str} (h1 : Rds cs z1 (.str ⟨#[c]⟩)) (h2 : Rds cs z2 (.str x)) : OpD K (rInM K) z1 z2 cs (.dat (.bool (decide (c ∈ x.cps.toList)))) := fun x y G H hx hy ex ok Q q =>
  .inr (.inl ⟨c, _, h1.str hx, h2.str hy, q _ G H (.refl ex) rfl⟩)
end
end LW

set_option Elab.async false
set_option linter.all false
set_option maxRecDepth 100000
namespace LW
open PySem PySem.Spec PyProof.Rows L2
open Sem (wp)

/-! ### sum(lists, []) -/
abbrev oL (vs : List Value) (n : Nat) : Obj := { cls := .type "list", dict := none, data := .seq vs.toArray n, slots := #[] }
theorem args_sumTwo (a b : Value) : argsOk "sum" ⟨[a, b], []⟩ := by unfold argsOk; kernel_rfl
section
variable {prog : Program} {w : World} {A : Around} {E : Value → Shared → Prop} {R : Result → Shared → Prop}
theorem sumL_loop {I l S : Addr} {items : Array Value} {its : Nat → List Value} (hh : A.in1.handled = none) (hlI : l ≠ I) (hlS : l ≠ S) (hSI : S ≠ I) (hsz : ((List.range items.size).map fun j => (its j).length).sum ≤ 100000) :
    ∀ (k i : Nat) (s : Shared) (tot : Addr) (acc : List Value) (c m : Nat), items.size - i = k → i ≤ items.size → s.heap.IsListIter I l i → s.heap.IsList l items → s.heap.get? S = some (oL [.ref tot] c) → s.heap.get? tot = some (oL acc m) →
      (∀ j v, items[j]? = some v → ∃ a n, v = .ref a ∧ s.heap.get? a = some (oL (its j) n) ∧ a ≠ I ∧ a ≠ S) → tot ≠ I → tot ≠ S → acc.length = ((List.range i).map fun j => (its j).length).sum →
      (∀ h' tk tot' m', (∀ b o, b ≠ I → b ≠ S → s.heap.get? b = some o → h'.get? b = some o) → h'.get? tot' = some (oL (acc ++ ((List.range' i (items.size - i)).map its).flatten) m') → (i < items.size → s.heap.objs.size ≤ tot') → (i = items.size → tot' = tot) → R (.ok (.ret (.ref tot'))) { s with heap := h', toks := tk }) →
      codeAny (model prog w) A (.builtin "sum.loop" ⟨[.ref I, .ref S, rawInt 2, rawInt 0], []⟩) R s := by
  have W := Walks.list (prog := prog) (w := w) hh I l hlI items
  intro k
  induction k with
  | zero =>
    intro i s tot acc c m hk hi st hL hS hT hin _ _ hacc hR
    have hin' : i = items.size := by omega
    subst hin'
    refine codeAny_builtin F.entry_sum_loop ?_
    rw [Around.under_plainId F.plain_sum_loop _]
    show wpAny _ A.in1 (seqItems? (.ref S) >>= _) _ _ s
    refine wpAny_bind (wpAny_seqItems hS rfl ?_)
    show wpAny _ A.in1 (tryCatch (pyNext (.ref I)) _ >>= _) _ _ s
    refine wpAny_bind (wpAny_tryCatch (W.done s _ _ ⟨st, hL⟩ fun h' tk kp => ?_))
    refine wpAny_pure (hR h' tk tot m (fun b o hb _ e => kp b o (by simpa using hb) e) ?_ (fun z => absurd z (Nat.lt_irrefl _)) fun _ => rfl)
    rw [Nat.sub_self]
    simp only [List.range'_zero, List.map_nil, List.flatten_nil, List.append_nil]
    exact kp _ _ (by simpa using by assumption) hT
  | succ k ih =>
    intro i s tot acc c m hk hi st hL hS hT hin hTI hTS hacc hR
    have hlt : i < items.size := by omega
    refine codeAny_builtin F.entry_sum_loop ?_
    rw [Around.under_plainId F.plain_sum_loop _]
    show wpAny _ A.in1 (seqItems? (.ref S) >>= _) _ _ s
    refine wpAny_bind (wpAny_seqItems hS rfl ?_)
    show wpAny _ A.in1 (tryCatch (pyNext (.ref I)) _ >>= _) _ _ s
    obtain ⟨v, hv⟩ : ∃ v, items[i]? = some v := ⟨_, Array.getElem?_eq_getElem hlt⟩
    refine wpAny_bind (wpAny_tryCatch (wpAny_pyNext_list_item st hL hv fun h1 st1 sb => ?_))
    obtain ⟨a, n, rfl, ha, haI, haS⟩ := hin i v hv
    have kp1 : ∀ b o, b ≠ I → s.heap.get? b = some o → h1.get? b = some o := fun b o hb e => (sb.2 b hb).trans e
    have hS1 := kp1 _ _ hSI hS
    have hT1 := kp1 _ _ hTI hT
    have ha1 := kp1 _ _ haI ha
    have hsi : ((List.range (i + 1)).map fun j => (its j).length).sum ≤ 100000 := by
      refine Nat.le_trans ?_ hsz
      have e : List.range items.size = List.range (i + 1) ++ (List.range' (i + 1) (items.size - (i + 1))) := by
        have q := List.range'_append_1 (s := 0) (m := i + 1) (n := items.size - (i + 1))
        rw [Nat.zero_add, show i + 1 + (items.size - (i + 1)) = items.size by omega] at q
        rw [List.range_eq_range', List.range_eq_range']
        exact q.symm
      rw [e, List.map_append, List.sum_append]
      exact Nat.le_add_right _ _
    have hsum : acc.length + (its i).length = ((List.range (i + 1)).map fun j => (its j).length).sum := by
      rw [List.range_succ, List.map_append, List.sum_append, hacc]
      simp
    show wpAny _ A.in1 ((holding [Value.ref a] (binaryOp .Add (.ref tot) (.ref a))).attempt >>= _) _ _ _
    refine wpAny_bind (wpAny_attempt (wpAny_holding (P.add_list hT1 ha1 ?_ (by
      rw [List.size_toArray, List.size_toArray, hsum]
      exact Nat.le_trans hsi (by decide)))))
    have ecat : acc.toArray ++ (its i).toArray = (acc ++ its i).toArray := by simp
    rw [ecat]
    have hz1 : h1.objs.size = s.heap.objs.size := sb.1
    show wpAny _ A.in1 (updateSeq S (fun _ => #[.ref h1.objs.size]) >>= _) _ _ _
    have hS2 : (h1.push (oL (acc ++ its i) 0)).get? S = some (oL [.ref tot] c) := Heap.get?_push_of_some _ hS1
    refine wpAny_bind (wpAny_updateSeq hS2 rfl ?_)
    have hS3 := Heap.get?_update_self (Obj.mapSeq fun _ => #[Value.ref h1.objs.size]) hS2 rfl
    refine wpAny_bind (wpAny_letGo ?_)
    refine wpAny_bind (wpAny_updateSeq hS3 rfl ?_)
    have hS4 := Heap.get?_update_self (Obj.mapSeq fun _ => #[Value.ref h1.objs.size]) hS3 rfl
    have oth : ∀ b, b ≠ S → (((h1.push (oL (acc ++ its i) 0)).update S (Obj.mapSeq fun _ => #[Value.ref h1.objs.size])).update S (Obj.mapSeq fun _ => #[Value.ref h1.objs.size])).get? b = (h1.push (oL (acc ++ its i) 0)).get? b := fun b hb => by
      rw [Heap.get?_update_other _ _ (fun z => hb z.symm), Heap.get?_update_other _ _ (fun z => hb z.symm)]
    have kp2 : ∀ b o, b ≠ S → h1.get? b = some o → (((h1.push (oL (acc ++ its i) 0)).update S (Obj.mapSeq fun _ => #[Value.ref h1.objs.size])).update S (Obj.mapSeq fun _ => #[Value.ref h1.objs.size])).get? b = some o := fun b o hb e => (oth b hb).trans (Heap.get?_push_of_some _ e)
    have hltS : S < h1.objs.size := Heap.lt_size hS1
    have hltI : I < h1.objs.size := by
      obtain ⟨o, ho, _⟩ := st1
      exact Heap.lt_size ho
    refine wpAny_pure ⟨plainId_quiet F.plain_sum_loop _, ih (i + 1) _ h1.objs.size (acc ++ its i) _ 0 (by omega) hlt ?_ ?_ hS4 ?_ (fun j v hj => ?_) (Nat.ne_of_gt hltI) (Nat.ne_of_gt hltS) ?_ fun h' tk tot' m' k1 k2 k3 k4 => ?_⟩
    · exact st1.at fun o e => kp2 I o hSI.symm e
    · exact hL.at fun o e => kp2 l o hlS (kp1 l o hlI e)
    · rw [oth _ (Nat.ne_of_gt hltS)]
      exact Heap.get?_push_size _ rfl
    · obtain ⟨a2, n2, e2, g2, g3, g4⟩ := hin j v hj
      exact ⟨a2, n2, e2, kp2 _ _ g4 (kp1 _ _ g3 g2), g3, g4⟩
    · rw [List.length_append, hsum]
    · refine hR h' tk tot' m' (fun b o hb1 hb2 e => k1 b o hb1 hb2 (kp2 b o hb2 (kp1 b o hb1 e))) ?_ (fun _ => ?_) (fun z => absurd z (Nat.ne_of_lt hlt))
      · rw [show items.size - i = (items.size - (i + 1)) + 1 by omega, List.range'_succ, List.map_cons, List.flatten_cons, ← List.append_assoc]
        exact k2
      · by_cases hlast : i + 1 < items.size
        · have q := k3 hlast
          have e : (((h1.push (oL (acc ++ its i) 0)).update S (Obj.mapSeq fun _ => #[Value.ref h1.objs.size])).update S (Obj.mapSeq fun _ => #[Value.ref h1.objs.size])).objs.size = h1.objs.size + 1 := by
            rw [(Heap.SameBut.update _ _ _).1, (Heap.SameBut.update _ _ _).1, Heap.size_push]
          have q' : (((h1.push (oL (acc ++ its i) 0)).update S (Obj.mapSeq fun _ => #[Value.ref h1.objs.size])).update S (Obj.mapSeq fun _ => #[Value.ref h1.objs.size])).objs.size ≤ tot' := q
          rw [e] at q'
          omega
        · have q := k4 (by omega)
          rw [q, hz1]
          exact Nat.le_refl _
theorem call_sumL {l st : Addr} {items : Array Value} {its : Nat → List Value} {s : Shared} {m : Nat} {Q : Value → Shared → Prop} (hh : A.handled = none) (hL : s.heap.IsList l items) (hst : s.heap.get? st = some (oL [] m))
    (hin : ∀ j v, items[j]? = some v → ∃ a n, v = .ref a ∧ s.heap.get? a = some (oL (its j) n)) (hsz : ((List.range items.size).map fun j => (its j).length).sum ≤ 100000)
    (h : ∀ h' tk tot' m', (∀ b o, s.heap.get? b = some o → h'.get? b = some o) → h'.get? tot' = some (oL ((List.range items.size).map its).flatten m') → (0 < items.size → s.heap.objs.size ≤ tot') → (items.size = 0 → tot' = st) → Q (.ref tot') { s with heap := h', toks := tk }) :
    wpAny (model prog w) A (call (.builtin "sum") [.ref l, .ref st]) Q E s := by
  refine call_function_tree F.kind_sum F.plain_sum F.entry_sum (args_sumTwo _ _) ?_
  unfold Builtin.«sum»
  simp only [List.length_cons, List.length_nil]
  rw [if_neg (by decide)]
  refine wpAny_bind (wpAny_of_eq (show Builtin.Builtins.bindParams "sum" ["start"] 0 ⟨[.ref st], []⟩ = pure [some (.ref st)] from rfl) ?_)
  refine wpAny_bind (wpAny_pyIter_list hL ?_)
  generalize hI : s.heap.objs.size = I
  let h1 := s.heap.push { cls := .type "list_iterator", data := .fields #[.ref l, .int 0 0] }
  have hz1 : h1.objs.size = I + 1 := by
    show (s.heap.push _).objs.size = _
    rw [Heap.size_push, hI]
  have hst1 : h1.get? st = some (oL [] m) := Heap.get?_push_of_some _ hst
  have ty : Shared.TypeIs { s with heap := h1 } (.ref st) "list" := ⟨_, hst1, rfl⟩
  refine wpAny_bind (wpAny_pure ?_)
  simp only [List.forIn_cons, List.forIn_nil]
  refine wpAny_bind (wpAny_bind (wpAny_bind (wpAny_isInstance (T := "list") (b := false) ty F.sub_list_str ?_)))
  simp only [Bool.false_eq_true, if_false]
  refine wpAny_pure (wpAny_bind (wpAny_bind (wpAny_isInstance (T := "list") (b := false) ty F.sub_list_bytes ?_)))
  simp only [Bool.false_eq_true, if_false]
  refine wpAny_pure (wpAny_bind (wpAny_bind (wpAny_isInstance (T := "list") (b := false) ty F.sub_list_bytearray ?_)))
  simp only [Bool.false_eq_true, if_false]
  refine wpAny_pure (wpAny_pure ?_)
  refine wpAny_bind (wpAny_newObj_type ?_)
  have hlI : l < I := by
    rw [← hI]
    obtain ⟨o, ho, _⟩ := hL
    exact Heap.lt_size ho
  have hsI : st < I := by
    rw [← hI]
    exact Heap.lt_size hst
  have k0 : ∀ b o, s.heap.get? b = some o → (h1.push (oL [.ref st] 0)).get? b = some o := fun b o e => Heap.get?_push_of_some _ (Heap.get?_push_of_some _ e)
  have hS : (h1.push (oL [.ref st] 0)).get? h1.objs.size = some (oL [.ref st] 0) := Heap.get?_push_size _ rfl
  have neI : ∀ b o, s.heap.get? b = some o → b ≠ I := fun b o e => by
    have q := Heap.lt_size e
    rw [hI] at q
    exact Nat.ne_of_lt q
  have neS : ∀ b o, s.heap.get? b = some o → b ≠ h1.objs.size := fun b o e => by
    have q := Heap.lt_size e
    rw [hI] at q
    rw [hz1]
    exact Nat.ne_of_lt (Nat.lt_succ_of_lt q)
  refine wpAny_pure ⟨plainId_quiet F.plain_sum_loop _, sumL_loop (its := its) (I := I) (l := l) (S := h1.objs.size) (items := items) (by simp [hh]) (Nat.ne_of_lt hlI) (by rw [hz1]; exact Nat.ne_of_lt (Nat.lt_succ_of_lt hlI)) (by rw [hz1]; exact Nat.succ_ne_self _) hsz (items.size - 0) 0 _ st [] 0 m rfl (Nat.zero_le _) ?_ ?_ hS (k0 _ _ hst) (fun j v hj => ?_) (Nat.ne_of_lt hsI) (by rw [hz1]; exact Nat.ne_of_lt (Nat.lt_succ_of_lt hsI)) rfl fun h' tk tot' m' k1 k2 k3 k4 => ?_⟩
  · have q : h1.get? I = some { cls := .type "list_iterator", data := .fields #[.ref l, .int 0 0] } := by
      rw [← hI]
      exact Heap.get?_push_size _ rfl
    exact ⟨_, Heap.get?_push_of_some _ q, rfl, rfl⟩
  · exact hL.at fun o e => k0 _ _ e
  · obtain ⟨a, n, e, g⟩ := hin j v hj
    exact ⟨a, n, e, k0 _ _ g, neI _ _ g, neS _ _ g⟩
  · refine h h' tk tot' m' (fun b o e => k1 b o (neI b o e) (neS b o e) (k0 b o e)) ?_ (fun z => ?_) fun z => k4 z.symm
    · rw [List.nil_append, Nat.sub_zero, ← List.range_eq_range'] at k2
      exact k2
    · have q := k3 z
      have q' : (h1.push (oL [.ref st] 0)).objs.size ≤ tot' := q
      rw [Heap.size_push, hz1] at q'
      rw [hI]
      omega
end
/-- sum(xss, ys), ys the empty list -/
def rSumL : List V → Hp → VK → Prop := fun vs H Q => ∃ (a b : Addr) (xs : List V) (yss : List (List V)), vs = [V.ref a, V.ref b] ∧ H a = some (.lst xs) ∧ H b = some (.lst []) ∧ Paired (fun x ys => ∃ p, x = V.ref p ∧ H p = some (.lst ys)) xs yss ∧ yss.flatten.length ≤ 100000 ∧
  (xs = [] → Q (.ref b) H) ∧ (xs ≠ [] → ∀ p, H p = none → Q (.ref p) (upd H p (.lst yss.flatten)))
theorem paired_at {α β : Type} {F : α → β → Prop} : ∀ {l : List α} {m : List β}, Paired F l m → ∀ (i : Nat) (x : α), l[i]? = some x → ∃ y, m[i]? = some y ∧ F x y
  | _, _, .nil, i, x, h => by simp at h
  | _, _, .cons r t, 0, x, h => by simp at h; subst h; exact ⟨_, rfl, r⟩
  | _, _, .cons r t, i + 1, x, h => by
    obtain ⟨y, h1, h2⟩ := paired_at t i x (by simpa using h)
    exact ⟨y, by simpa using h1, h2⟩
theorem paired_len {α β : Type} {F : α → β → Prop} : ∀ {l : List α} {m : List β}, Paired F l m → l.length = m.length
  | _, _, .nil => rfl
  | _, _, .cons r t => by simp [paired_len t]
theorem cr_sumL {X : Cx} (hc : X.calm = true) : CallR X (.builtin "sum") rSumL := fun pins s σ H vs us Q I r h => by
  obtain ⟨a, b, xs, yss, rfl, ha, hb, hp, hz, q0, q1⟩ := h
  cases r with
  | cons r1 rr =>
    cases rr with
    | cons r2 rr =>
      cases rr
      cases r1
      cases r2
      obtain ⟨z, its, n, rv, hl, e⟩ := I.lstM ha
      obtain ⟨z2, its2, n2, rv2, hl2, e2⟩ := I.lstM hb
      cases rv2
      -- the inner lists
      have inner : ∀ j v, its.toArray[j]? = some v → ∃ p ys ws m, v = Value.ref p ∧ yss[j]? = some ys ∧ Vals ys ws ∧ s.heap.get? p = some (oL ws m) := fun j v hj => by
        rw [List.getElem?_toArray] at hj
        have hlt : j < xs.length := by
          rw [rv.length]
          exact (List.getElem?_eq_some_iff.mp hj).1
        obtain ⟨u, hu, ru⟩ := rv.get (List.getElem?_eq_getElem hlt)
        have e3 : u = v := Option.some.inj (hu.symm.trans hj)
        subst e3
        obtain ⟨ys, hys, p, ep, hpp⟩ := paired_at hp j _ (List.getElem?_eq_getElem hlt)
        rw [ep] at ru
        obtain ⟨_, ws, m, rw_, _, ew⟩ := I.lstM hpp
        exact ⟨p, ys, ws, m, ru, hys, rw_, ew⟩
      let f : Nat → List Value := fun j => match its.toArray[j]? with
        | some (.ref p) => (match s.heap.get? p with | some o => (match o.data with | .seq w _ => w.toList | _ => []) | none => [])
        | _ => []
      have hf : ∀ j p ws m, its.toArray[j]? = some (Value.ref p) → s.heap.get? p = some (oL ws m) → f j = ws := fun j p ws m h1 h2 => by
        show (match its.toArray[j]? with
        | some (.ref p) => (match s.heap.get? p with | some o => (match o.data with | .seq w _ => w.toList | _ => []) | none => [])
        | _ => []) = ws
        rw [h1]
        simp only [h2]
      have hlen := rv.length
      have hlen2 := paired_len hp
      have valsAll : ∀ (n : Nat), n ≤ its.length → Vals ((yss.take n).flatten) ((List.range n).map f).flatten := by
        intro n
        induction n with
        | zero => intro _; exact .nil
        | succ n ih =>
          intro hn
          have h1 : its.toArray[n]? = some its[n] := by
            rw [List.getElem?_toArray]
            exact List.getElem?_eq_getElem hn
          obtain ⟨p, ys, ws, m, e3, e4, e5, e6⟩ := inner n _ h1
          have e7 := hf n p ws m (by rw [h1, e3]) e6
          rw [List.take_add_one, e4, List.range_succ, List.map_append, List.flatten_append, List.flatten_append]
          refine (ih (by omega)).append ?_
          simp only [Option.toList_some, List.flatten_cons, List.flatten_nil, List.append_nil, List.map_cons, List.map_nil]
          rw [e7]
          exact e5
      have vall := valsAll its.length (Nat.le_refl _)
      have etake : yss.take its.length = yss := List.take_of_length_le (by omega)
      rw [etake] at vall
      have hsize : its.toArray.size = its.length := by rw [List.size_toArray]
      refine call_sumL (its := f) (I.ok.hd hc) ⟨_, e, rfl, _, rfl⟩ e2 (fun j v hj => ?_) ?_ fun h' tk tot' m' k1 k2 k3 k4 => ?_
      · obtain ⟨p, ys, ws, m, e3, e4, e5, e6⟩ := inner j v hj
        rw [e3] at hj
        rw [hf j p ws m hj e6]
        exact ⟨p, m, e3, e6⟩
      · rw [hsize]
        have q := vall.length
        have q2 : ((List.range its.length).map fun j => (f j).length).sum = yss.flatten.length := by
          rw [q, List.length_flatten, List.map_map]
          rfl
        rw [q2]
        exact hz
      · rw [hsize] at k2 k3 k4
        by_cases hx : xs = []
        · have h0 : its.length = 0 := by
            rw [← hlen, hx]
            rfl
          have e9 := k4 h0
          subst e9
          exact ⟨.ref _, H, I.kept (t' := tk) k1, rfl, q0 hx⟩
        · have h0 : 0 < its.length := by
            rw [← hlen]
            exact List.length_pos_iff.mpr hx
          have hn : s.heap.objs.size ≤ tot' := k3 h0
          have new : ObjOk X.prog X.w (upd H tot' (.lst yss.flatten)) h' tot' (.lst yss.flatten) := ⟨Nat.le_trans hz (by decide), _, m', vall, k2⟩
          exact ⟨.ref tot', _, I.laid (t' := tk) k1 hn new, rfl, q1 hx tot' (I.hok.fresh hn)⟩
section
variable {K : PySem.W.Frag} {ρ : List Sl} {cs cs1 cs2 : Cs} {tr : TA}
theorem dt_lists {G : Hp} : ∀ {nss : List (List PyData)} {vs : List V}, DtAll G (nss.map PyData.list) vs → ∃ yss, Paired (fun x ys => ∃ p, x = V.ref p ∧ G p = some (.lst ys)) vs yss ∧ DtAll G nss.flatten yss.flatten
  | [], vs, h => by
    cases h
    exact ⟨[], .nil, rfl⟩
  | ns :: nss, vs, h => by
    obtain ⟨v, r, rfl, ⟨p, xs, rfl, hp, dx⟩, h3⟩ := h
    obtain ⟨yss, h4, h5⟩ := dt_lists h3
    exact ⟨xs :: yss, .cons ⟨p, rfl, hp⟩ h4, by
      rw [List.flatten_cons, List.flatten_cons]
      exact dx.append h5⟩
/-- sum(xss, []) -/
theorem ev_sumL {nss : List (List PyData)} (h : EvA K tr ρ cs [.dat (.list (nss.map PyData.list)), .dat (.list [])] cs1) (hl : nss.flatten.length ≤ 100000) : Ev K (tCB rSumL tr) ρ cs (.dat (.list nss.flatten)) cs1 := fun G σ H ok Q q =>
  h G σ H ok _ fun vs G1 H1 f1 ok1 h1 => by
    obtain ⟨v, w, rfl, ⟨p, xs, rfl, hp, dx⟩, ⟨p', xs', rfl, hp', dx'⟩⟩ := h1.two
    cases dx'
    obtain ⟨yss, hP, hD⟩ := dt_lists dx
    refine ⟨p, p', xs, yss, rfl, ok1.ex _ _ hp, ok1.ex _ _ hp', Paired.mapP hP fun a b ⟨c, e1, e2⟩ => ⟨c, e1, ok1.ex _ _ e2⟩, by rw [← hD.len]; exact hl, fun e => ?_, fun _ n hn => ?_⟩
    · subst e
      cases hP
      have e0 : nss = [] := by
        have q := dx.len
        rw [List.length_map] at q
        exact List.length_eq_zero_iff.mp q
      subst e0
      exact q _ G1 H1 f1 ok1 ⟨p', [], rfl, hp', rfl⟩
    · have g := Gr.new ok1.ex (o := .lst yss.flatten) hn
      exact q _ _ _ (f1.trans g.fr) (ok1.gr g) ⟨n, _, rfl, upd_same, hD.mono g.g⟩
end
end LW

set_option Elab.async false
set_option linter.all false
set_option maxRecDepth 100000
namespace LW
open PySem PySem.Spec PyProof.Rows L2
open Sem (wp)

/-! ### set(xs), whatever the items are -/
abbrev oSet (w : World) : Obj := { cls := .type "set", dict := none, data := .set #[] 0 (.fresh 0 0 (!w.params.followText "set-order")) }
abbrev oIt (T : String) (l : Addr) : Obj := { cls := .type (T ++ "_iterator"), data := .fields #[.ref l, .int 0 0] }
section
variable {P : Program} {w : World} {A : Around} {E : Value → Shared → Prop} {s : Shared}
set_option maxHeartbeats 4000000 in
theorem call_setG {l : Addr} {T : String} {items : Array Value} {od : Option Addr} {n : Nat} {sl : Array (Option Value)} {Q : Value → Shared → Prop} (Post : Heap → Prop) (hh : A.handled = none)
    (hl : s.heap.get? l = some { cls := .type T, dict := od, data := .seq items n, slots := sl }) (hT : T = "list" ∨ T = "tuple")
    (hloop : ∀ (A' : Around) (R : Result → Shared → Prop), A'.handled = none → A'.units ≤ A.units + 3 → (∀ h' tk, Post h' → (∀ b o, s.heap.get? b = some o → h'.get? b = some o) → R (.ok (.ret .none)) { s with heap := h', toks := tk }) →
      codeAny (model P w) A' (.builtin "set.update.loop" ⟨[.ref s.heap.objs.size, .ref (s.heap.push (oSet w)).objs.size], []⟩) R { s with heap := (s.heap.push (oSet w)).push (oIt T l) })
    (h : ∀ (h' : Heap) (tk : Nat), Post h' → (∀ b o, s.heap.get? b = some o → h'.get? b = some o) → Q (.ref s.heap.objs.size) { s with heap := h', toks := tk }) :
    wpAny (model P w) A (call (.type "set") [.ref l]) Q E s := by
  obtain ⟨c, tl, hmro⟩ := F.called_set.mro
  have hmade := F.called_set.made
  have hsub := F.called_set.sub
  refine wpAny_call (codeAny_of_tree ?_)
  show wpAny _ _ (callAny (.type "set") _) _ _ _
  refine wpAny_pure ⟨Code.quiet_builtin _ (by decide +kernel), codeAny_builtin F.entry_type_call ?_⟩
  rw [Around.under_plain (weight_type_call_type "set" [.ref l] []) rfl]
  have h1 := F.called_set.notType
  have h2 := F.called_set.canCreate
  have hct := F.typeCall_set_1 (.ref l)
  repeat (any_goals (first | assumption | wp_step))
  refine codeAny_mono (code_set_led1 (.ref l) (E := E) (Q₁ := fun obj s₁ => obj = .ref s.heap.objs.size ∧ s₁ = { s with heap := s.heap.push (oSet w) }) ⟨rfl, rfl⟩) fun r s₁ hr => ?_
  cases r with
  | error e => exact hr
  | ok fl =>
    cases fl with
    | ret obj =>
      obtain ⟨rfl, rfl⟩ := hr
      have hS : (s.heap.push (oSet w)).get? s.heap.objs.size = some (oSet w) := Heap.get?_push_size _ rfl
      have hTy : Shared.TypeIs { s with heap := s.heap.push (oSet w) } (.ref s.heap.objs.size) "set" := ⟨_, hS, rfl⟩
      have hli := F.called_set.init.lookup
      have hbi := F.called_set.init.bind (.ref s.heap.objs.size)
      repeat (any_goals (first | assumption | wp_step))
      refine codeAny_mono (codeAny_call_builtin (R := wants (fun r s₂ => r = .none ∧ ∃ h' tk, s₂ = { s with heap := h', toks := tk } ∧ Post h' ∧ (∀ b o, s.heap.get? b = some o → h'.get? b = some o)) E) F.called_set.init.plain F.entry_set_init (check_set_init_1 hTy ?_)) fun r₂ s₂ hr₂ => ?_
      · have hol' : (s.heap.push (oSet w)).get? l = some { cls := .type T, dict := od, data := .seq items n, slots := sl } := Heap.get?_push_of_some _ hl
        unfold Builtin.«set.__init__» noKeywords Builtin.Frozenset.updateFrom
        generalize hPI : pyIter = PI
        rcases hT with rfl | rfl
        · have hsls := F.sub_list_set
          have hslf := F.sub_list_frozenset
          have hne : (Value.type "list" == Value.type "dict") = false := by decide
          wp_walk
          subst hPI
          refine wpAny_pyIter_list (show (s.heap.push (oSet w)).IsList l items from ⟨_, hol', rfl, n, rfl⟩) ?_
          refine wpAny_bind (wpAny_runValue ?_)
          refine hloop _ _ (by simp [hh]) (by first | exact Nat.le_refl _ | (simp [Around.in1])) fun h' tk hp hk => ?_
          show wpAny _ _ _ _ _ _
          refine wpAny_pure ?_
          show wpAny _ _ (ret Value.none) _ _ _
          exact wpAny_pure ⟨rfl, h', tk, rfl, hp, hk⟩
        · have hsls := F.sub_tuple_set
          have hslf := F.sub_tuple_frozenset
          have hne : (Value.type "tuple" == Value.type "dict") = false := by decide
          wp_walk
          subst hPI
          refine wpAny_pyIter_tuple (show (s.heap.push (oSet w)).IsTuple l items from ⟨_, hol', rfl, n, rfl⟩) ?_
          refine wpAny_bind (wpAny_runValue ?_)
          refine hloop _ _ (by simp [hh]) (by first | exact Nat.le_refl _ | (simp [Around.in1])) fun h' tk hp hk => ?_
          show wpAny _ _ _ _ _ _
          refine wpAny_pure ?_
          show wpAny _ _ (ret Value.none) _ _ _
          exact wpAny_pure ⟨rfl, h', tk, rfl, hp, hk⟩
      · cases r₂ with
        | error e => exact hr₂
        | ok fl₂ =>
          cases fl₂ with
          | ret r =>
            obtain ⟨rfl, h', tk, rfl, hp, hk⟩ := hr₂
            repeat (any_goals (first | assumption | wp_step))
            exact h _ _ hp hk
          | _ => exact hr₂.elim
    | _ => exact hr.elim
end
end LW

set_option Elab.async false
set_option linter.all false
set_option maxRecDepth 100000
namespace LW
open PySem PySem.Spec PyProof.Rows L2
open Sem (wp)

theorem nodup_le : ∀ {l ks : List Int}, l.Nodup → (∀ x ∈ l, x ∈ ks) → l.length ≤ ks.length
  | [], _, _, _ => Nat.zero_le _
  | x :: l, ks, hn, hs => by
    have hx : x ∈ ks := hs x List.mem_cons_self
    have q := nodup_le (l := l) (ks := ks.erase x) (List.nodup_cons.mp hn).2 fun y hy => by
      have hne : y ≠ x := fun z => (List.nodup_cons.mp hn).1 (by rw [← z]; exact hy)
      exact (List.mem_erase_of_ne hne).mpr (hs y (List.mem_cons_of_mem _ hy))
    have hp : 0 < ks.length := List.length_pos_of_mem hx
    rw [List.length_erase_of_mem hx] at q
    rw [List.length_cons]
    omega
/-- how many there are at most -/
def Few (ns : List Int) (n : Nat) : Prop := ∀ ks : List Int, (∀ k ∈ ns, k ∈ ks) → n ≤ ks.length
theorem SetR.few {w : World} {h : Heap} {a : Addr} {ns : List Int} {n : Nat} (R : SetR w h a (fun j => decide (j ∈ ns)) n) : Few ns n := fun ks hk => by
  obtain ⟨o, es, ep, t, _, _, _, _, hnd, hmem, _, _, hsz, _⟩ := R
  rw [← hsz, ← Array.length_toList, ← List.length_map (f := keyOf)]
  refine nodup_le hnd fun x hx => hk x ?_
  have q := (hmem x).mpr hx
  exact of_decide_eq_true q
section
variable {P : Program} {w : World} {A : Around} {E : Value → Shared → Prop} {s : Shared}
theorem noneOf {h : Heap} {b : Addr} (hb : h.objs.size ≤ b) : h.get? b = none := by
  cases q : h.get? b with
  | none => rfl
  | some o => exact absurd (Nat.lt_of_lt_of_le (Heap.lt_size q) hb) (Nat.lt_irrefl _)
theorem call_setI {l : Addr} {T : String} {items : Array Value} {od : Option Addr} {n : Nat} {sl : Array (Option Value)} {ns : List Int} {Q : Value → Shared → Prop} (hh : A.handled = none)
    (hl : s.heap.get? l = some { cls := .type T, dict := od, data := .seq items n, slots := sl }) (hT : T = "list" ∨ T = "tuple") (hit : IntsAre items.toList ns) (hb : ns.length + 1 < scanBound)
    (h : ∀ (h' : Heap) (tk c : Nat), SetR w h' s.heap.objs.size (fun j => decide (j ∈ ns)) c → (∀ b o, s.heap.get? b = some o → h'.get? b = some o) → Q (.ref s.heap.objs.size) { s with heap := h', toks := tk }) :
    wpAny (model P w) A (call (.type "set") [.ref l]) Q E s := by
  have hisz : items.size = ns.length := by
    have q := IntsAre.length hit
    rw [Array.length_toList] at q
    exact q
  have hlS : l < s.heap.objs.size := Heap.lt_size hl
  have hz1 : (s.heap.push (oSet w)).objs.size = s.heap.objs.size + 1 := Heap.size_push ..
  have hneI : l ≠ (s.heap.push (oSet w)).objs.size := by
    rw [hz1]
    exact Nat.ne_of_lt (Nat.lt_succ_of_lt hlS)
  have hSf : s.heap.objs.size ∉ [(s.heap.push (oSet w)).objs.size, l] := by
    rw [hz1]
    simp only [List.mem_cons, List.not_mem_nil, or_false, not_or]
    exact ⟨Nat.ne_of_lt (Nat.lt_succ_self _), Nat.ne_of_gt hlS⟩
  have hval : ∀ (i : Nat) (v : Value), items[i]? = some v → ∃ k t, ns[i]? = some k ∧ v = .int k t := fun i v hv => by
    have hi : i < ns.length := by
      rw [← hisz]
      exact (Array.getElem?_eq_some_iff.mp hv).1
    obtain ⟨t, e⟩ := IntsAre.int_at hit i v (by rw [Array.getElem?_toList]; exact hv)
    refine ⟨ns[i], t, List.getElem?_eq_getElem hi, ?_⟩
    rw [e, List.getD_eq_getElem?_getD, List.getElem?_eq_getElem hi]
    rfl
  have hS : ((s.heap.push (oSet w)).push (oIt T l)).get? s.heap.objs.size = some (oSet w) := Heap.get?_push_of_some _ (Heap.get?_push_size _ rfl)
  have hl2 : ((s.heap.push (oSet w)).push (oIt T l)).get? l = _ := Heap.get?_push_of_some _ (Heap.get?_push_of_some _ hl)
  have fin : ∀ (R : Result → Shared → Prop), (∀ h' tk, (∃ c, SetR w h' s.heap.objs.size (fun j => decide (j ∈ ns)) c) → (∀ b o, s.heap.get? b = some o → h'.get? b = some o) → R (.ok (.ret .none)) { s with heap := h', toks := tk }) → ∀ (G : Array GenState → Array GenState → Prop), (∀ a b, G a b → b = a) →
      ∀ s' c, Moved [s.heap.objs.size, (s.heap.push (oSet w)).objs.size] G { s with heap := (s.heap.push (oSet w)).push (oIt T l) } s' → c ≤ items.size → SetR w s'.heap s.heap.objs.size (fun j => decide (j ∈ ns)) c → R (.ok (.ret .none)) s' := fun R hR G hG s' c hm _ hS' => by
    obtain ⟨h', g2, d', tk', os'⟩ := s'
    have eg : g2 = s.gens := hG _ _ hm.gens
    have ed : d' = s.drawn := hm.drawn
    have eo : os' = s.os := hm.os
    subst eg; subst ed; subst eo
    refine hR h' tk' ⟨c, hS'⟩ fun b o e => ?_
    have hb0 : b < s.heap.objs.size := Heap.lt_size e
    refine hm.heap b o ?_ (Heap.get?_push_of_some _ (Heap.get?_push_of_some _ e))
    rw [hz1]
    simp only [List.mem_cons, List.not_mem_nil, or_false, not_or]
    exact ⟨Nat.ne_of_lt hb0, Nat.ne_of_lt (Nat.lt_succ_of_lt hb0)⟩
  refine call_setG (fun h' => ∃ c, SetR w h' s.heap.objs.size (fun j => decide (j ∈ ns)) c) hh hl hT (fun A' R hA _ hR => ?_) fun h' tk ⟨c, hc⟩ hk => h h' tk c hc hk
  have hA1 : A'.in1.handled = none := by simp [hA]
  rcases hT with rfl | rfl
  · refine set_update_ints ((Walks.list hA1 _ l hneI items).toS) s.heap.objs.size hSf ns hisz hb hval (items.size - 0) 0 _ rfl (Nat.zero_le _) ⟨⟨_, Heap.get?_push_size _ rfl, rfl, rfl⟩, ⟨_, hl2, rfl, _, rfl⟩⟩ ⟨0, Nat.le_refl _, setR_new_at hS⟩ ?_
    exact fin R hR _ (fun a b h => h)
  · refine set_update_ints ((Walks.tuple hA1 _ l hneI items).toS) s.heap.objs.size hSf ns hisz hb hval (items.size - 0) 0 _ rfl (Nat.zero_le _) ⟨⟨_, Heap.get?_push_size _ rfl, rfl, rfl⟩, ⟨_, hl2, rfl, _, rfl⟩⟩ ⟨0, Nat.le_refl _, setR_new_at hS⟩ ?_
    exact fin R hR _ (fun a b h => h)
end

theorem isSeq {X : Cx} {pins : List (Addr × Obj)} {σ : L2.St} {H : Hp} {s : Shared} {l : Addr} {xs : List V} (I : L2.Inv X pins σ H s) (h : SqL X.K H l xs ∨ SqT X.K H l xs) : ∃ T its od n sl, (T = "list" ∨ T = "tuple") ∧ Vals xs its ∧ s.heap.get? l = some { cls := .type T, dict := od, data := .seq its.toArray n, slots := sl } := by
  rcases h with h | h
  · obtain ⟨its, rv, pl, _⟩ := I.list h
    obtain ⟨⟨c, od, dt, sl⟩, ho, hc, n, hd⟩ := pl.isList
    have hc : c = .type "list" := hc
    have hd : dt = .seq its.toArray n := hd
    subst hc; subst hd
    exact ⟨"list", its, od, n, sl, .inl rfl, rv, ho⟩
  · obtain ⟨its, rv, pt, _⟩ := I.tuple h
    obtain ⟨⟨c, od, dt, sl⟩, ho, hc, n, hd⟩ := pt
    have hc : c = .type "tuple" := hc
    have hd : dt = .seq its.toArray n := hd
    subst hc; subst hd
    exact ⟨"tuple", its, od, n, sl, .inr rfl, rv, ho⟩
theorem intsAre_of : ∀ {ns : List Int} {us : List Value}, Vals (ns.map V.int) us → IntsAre us ns
  | [], _, .nil => .nil
  | n :: ns, _, .cons r t => by
    obtain ⟨k, rfl⟩ := r
    exact .cons n k (intsAre_of t)
/-- set(xs), ints -/
def rSetI (K : PySem.W.Frag) (w : World) : List V → Hp → VK → Prop := fun xs H Q => ∃ (l : Addr) (ns : List Int), xs = [V.ref l] ∧ (SqL K H l (ns.map V.int) ∨ SqT K H l (ns.map V.int)) ∧ ns.length ≤ 4000 ∧
  ∀ a n, H a = none → Few ns n → Q (.ref a) (upd H a (SetO w a (fun j => decide (j ∈ ns)) n))
theorem cr_setI {X : Cx} (hc : X.calm = true) : CallR X (.type "set") (rSetI X.K X.w) := fun pins s σ H xs us Q I r h => by
  obtain ⟨l, ns, rfl, hl, hn, q⟩ := h
  rw [Vals.ref1 r]
  obtain ⟨T, its, od, n, sl, hT, rv, ho⟩ := isSeq I hl
  refine call_setI (I.ok.hd hc) ho hT (by simpa using intsAre_of rv) (by unfold scanBound; omega) fun h' tk c hS hk => ?_
  have hn0 : H s.heap.objs.size = none := I.hok.fresh (Nat.le_refl _)
  exact ⟨.ref s.heap.objs.size, _, I.laid (t' := tk) hk (Nat.le_refl _) (setO_new hS), rfl, q _ c hn0 (SetR.few hS)⟩

/-! ### the list of the members, rising -/
def sins (x : Int) : List Int → List Int
  | [] => [x]
  | y :: ys => if x < y then x :: y :: ys else if x = y then y :: ys else y :: sins x ys
def sd (l : List Int) : List Int := l.foldr sins []
theorem mem_sins {x z : Int} : ∀ {ys : List Int}, z ∈ sins x ys ↔ z = x ∨ z ∈ ys
  | [] => by simp [sins]
  | y :: ys => by
    unfold sins
    split
    · simp
    · split
      · rename_i h
        subst h
        simp
      · rw [List.mem_cons, mem_sins, List.mem_cons]
        constructor
        · rintro (h | h | h)
          · exact .inr (.inl h)
          · exact .inl h
          · exact .inr (.inr h)
        · rintro (h | h | h)
          · exact .inr (.inl h)
          · exact .inl h
          · exact .inr (.inr h)
theorem mem_sd {z : Int} : ∀ {l : List Int}, z ∈ sd l ↔ z ∈ l
  | [] => Iff.rfl
  | x :: l => by
    show z ∈ sins x (sd l) ↔ _
    rw [mem_sins, mem_sd, List.mem_cons]
theorem sins_sorted {x : Int} : ∀ {ys : List Int}, ys.Pairwise (· < ·) → (sins x ys).Pairwise (· < ·)
  | [], _ => by simp [sins]
  | y :: ys, h => by
    unfold sins
    have h1 := (List.pairwise_cons.mp h).1
    have h2 := (List.pairwise_cons.mp h).2
    split
    · rename_i hlt
      refine List.pairwise_cons.mpr ⟨fun z hz => ?_, h⟩
      rcases List.mem_cons.mp hz with e | e
      · rw [e]
        exact hlt
      · exact Int.lt_trans hlt (h1 z e)
    · split
      · exact h
      · rename_i n1 n2
        refine List.pairwise_cons.mpr ⟨fun z hz => ?_, sins_sorted h2⟩
        rcases mem_sins.mp hz with e | e
        · rw [e]
          omega
        · exact h1 z e
theorem sd_sorted : ∀ (l : List Int), (sd l).Pairwise (· < ·)
  | [] => .nil
  | x :: l => sins_sorted (sd_sorted l)
theorem sorted_same : ∀ {a b : List Int}, a.Pairwise (· < ·) → b.Pairwise (· < ·) → (∀ z, z ∈ a ↔ z ∈ b) → a = b
  | [], [], _, _, _ => rfl
  | [], y :: b, _, _, h => by
    have q := (h y).mpr List.mem_cons_self
    cases q
  | x :: a, [], _, _, h => by
    have q := (h x).mp List.mem_cons_self
    cases q
  | x :: a, y :: b, h1, h2, h => by
    have ha := List.pairwise_cons.mp h1
    have hb := List.pairwise_cons.mp h2
    have e : x = y := by
      rcases List.mem_cons.mp ((h x).mp List.mem_cons_self) with z | z
      · exact z
      · rcases List.mem_cons.mp ((h y).mpr List.mem_cons_self) with w | w
        · exact w.symm
        · have q1 := hb.1 x z
          have q2 := ha.1 y w
          omega
    subst e
    rw [sorted_same ha.2 hb.2 fun z => ?_]
    constructor
    · intro hz
      rcases List.mem_cons.mp ((h z).mp (List.mem_cons_of_mem _ hz)) with w | w
      · have q := ha.1 z hz
        omega
      · exact w
    · intro hz
      rcases List.mem_cons.mp ((h z).mpr (List.mem_cons_of_mem _ hz)) with w | w
      · have q := hb.1 z hz
        omega
      · exact w
theorem sd_of {l m : List Int} (h1 : m.Pairwise (· < ·)) (h2 : ∀ z, z ∈ m ↔ z ∈ l) : m = sd l := sorted_same h1 (sd_sorted l) fun z => by rw [mem_sd]; exact h2 z
theorem sd_self {l : List Int} (h : l.Pairwise (· < ·)) : sd l = l := (sd_of h fun _ => Iff.rfl).symm
theorem sd_congr {l m : List Int} (h : ∀ z, z ∈ l ↔ z ∈ m) : sd l = sd m := sd_of (sd_sorted l) fun z => by rw [mem_sd]; exact h z
theorem sd_few {l : List Int} {n : Nat} (h : ∀ z ∈ l, 0 ≤ z ∧ z < n) : (sd l).length ≤ n := by
  have q := nodup_le (l := sd l) (ks := (List.range n).map fun (i : Nat) => (i : Int)) ((sd_sorted l).imp fun h => Int.ne_of_lt h) fun x hx => by
    have q := h x (mem_sd.mp hx)
    exact List.mem_map.mpr ⟨x.toNat, List.mem_range.mpr (by omega), by omega⟩
  simpa using q
section
variable {K : PySem.W.Frag} {w : World} {ρ : List Sl} {cs cs1 cs2 : Cs} {te : TE} {z : Sl} {ns : List Int}
/-- sorted(set(xs)) -/
theorem evn_sortedSet (h : Ev K te ρ cs z cs1) (hz : Rds cs1 z (.list (ns.map PyData.int)) ∨ Rds cs1 z (.tuple (ns.map PyData.int))) (hl : ns.length ≤ 4000) (hf : ∃ ks : List Int, ks.length < 64 ∧ ∀ k ∈ ns, k ∈ ks) :
    EvN K (tCB (rSortedSet w) (tCons (tCB (rSetI K w) (tCons te tNil)) tNil)) ρ cs (.lst ((sd ns).map PyData.int)) cs1 := fun G σ H ok Q q =>
  h G σ H ok _ fun v G1 H1 f1 ok1 h1 => by
    have hsq : ∃ p, v = .ref p ∧ (SqL K H1 p (ns.map V.int) ∨ SqT K H1 p (ns.map V.int)) := by
      rcases hz with hz | hz
      · obtain ⟨p, vs, rfl, hp, dv⟩ := hz.list h1 ok1.ex ok1.ce
        rw [dv.ints] at hp
        exact ⟨p, rfl, .inl (.inl (.inl hp))⟩
      · obtain ⟨p, vs, rfl, hp, dv⟩ := hz.tuple h1
        rw [dv.ints] at hp
        exact ⟨p, rfl, .inr (.inl (.inl (ok1.ex _ _ hp)))⟩
    obtain ⟨p, rfl, hq⟩ := hsq
    refine ⟨p, ns, rfl, hq, hl, fun a n ha hfew => ?_⟩
    obtain ⟨ks, hk1, hk2⟩ := hf
    refine ⟨a, _, n, rfl, upd_same, Nat.lt_of_le_of_lt (hfew ks hk2) hk1, fun out b hs hm hlen hb => ?_⟩
    have e : out = sd ns := sd_of hs fun z => by
      rw [hm z]
      exact decide_eq_true_iff
    subst e
    have hba : b ≠ a := fun z => by
      rw [z, upd_same] at hb
      cases hb
    have hb1 : H1 b = none := by
      rw [upd_ne hba] at hb
      exact hb
    have g2 : Gr G1 H1 G1 (upd H1 a (SetO w a (fun j => decide (j ∈ ns)) n)) := ⟨.refl _, .new ha, ok1.ex.trans (.new ha), fun _ _ _ => .inl rfl⟩
    have ok2 := ok1.gr g2
    obtain ⟨f3, ok3⟩ := ok2.newL (ds := (sd ns).map PyData.int) hb (DtAll.of_ints _)
    exact q b G1 _ (f1.fresh hb1) ((f1.trans g2.fr).trans f3) ok3
end

/-! ### len(set(t)), a tuple of tuples of ints -/
section
variable {P : Program} {w : World} {A : Around} {E : Value → Shared → Prop} {s : Shared}
theorem call_setT {l : Addr} {T : String} {items : Array Value} {od : Option Addr} {n : Nat} {sl : Array (Option Value)} (ks : List (Addr × List Int)) {Q : Value → Shared → Prop} (hh : A.handled = none)
    (hl : s.heap.get? l = some { cls := .type T, dict := od, data := .seq items n, slots := sl }) (hT : T = "list" ∨ T = "tuple") (hit : items.toList = ks.map fun p => Value.ref p.1) (hk : ∀ p ∈ ks, IsT P w s.heap p.2 p.1) (hfew : ks.length < 64) (hu : A.units + 4 < cLine)
    (h : ∀ (h' : Heap) (tk : Nat) L es ep t, SetTR P w h' s.heap.objs.size L es ep t → Got ks ks.length L → (∀ b o, s.heap.get? b = some o → h'.get? b = some o) → Q (.ref s.heap.objs.size) { s with heap := h', toks := tk }) :
    wpAny (model P w) A (call (.type "set") [.ref l]) Q E s := by
  have hisz : items.size = ks.length := by
    have q := congrArg List.length hit
    rw [Array.length_toList, List.length_map] at q
    exact q
  have hlS : l < s.heap.objs.size := Heap.lt_size hl
  have hz1 : (s.heap.push (oSet w)).objs.size = s.heap.objs.size + 1 := Heap.size_push ..
  have hneI : l ≠ (s.heap.push (oSet w)).objs.size := by
    rw [hz1]
    exact Nat.ne_of_lt (Nat.lt_succ_of_lt hlS)
  have hSf : s.heap.objs.size ∉ [(s.heap.push (oSet w)).objs.size, l] := by
    rw [hz1]
    simp only [List.mem_cons, List.not_mem_nil, or_false, not_or]
    exact ⟨Nat.ne_of_lt (Nat.lt_succ_self _), Nat.ne_of_gt hlS⟩
  have hval : ∀ (i : Nat) (v : Value), items[i]? = some v → ∃ p, ks[i]? = some p ∧ v = .ref p.1 := fun i v hv => by
    have q : items.toList[i]? = some v := by
      rw [Array.getElem?_toList]
      exact hv
    rw [hit, List.getElem?_map] at q
    cases hq : ks[i]? with
    | none =>
      rw [hq] at q
      cases q
    | some p =>
      rw [hq] at q
      exact ⟨p, rfl, (Option.some.inj q).symm⟩
  have hS : ((s.heap.push (oSet w)).push (oIt T l)).get? s.heap.objs.size = some (oSet w) := Heap.get?_push_of_some _ (Heap.get?_push_size _ rfl)
  have hl2 : ((s.heap.push (oSet w)).push (oIt T l)).get? l = _ := Heap.get?_push_of_some _ (Heap.get?_push_of_some _ hl)
  have hw0 : ∀ b ∈ [(s.heap.push (oSet w)).objs.size], s.heap.get? b = none := fun b hb => noneOf (by
    rw [List.mem_singleton.mp hb, hz1]
    exact Nat.le_succ _)
  refine call_setG (fun h' => ∃ L es ep t, SetTR P w h' s.heap.objs.size L es ep t ∧ Got ks ks.length L) hh hl hT (fun A' R hA hAu hR => ?_) fun h' tk ⟨L, es, ep, t, h1, h2⟩ hk' => h h' tk L es ep t h1 h2 hk'
  have hA1 : A'.in1.handled = none := by simp [hA]
  have hA2 : A'.in1.units < cLine := by
    show A'.units + 1 < cLine
    omega
  have fin : ∀ (G : Array GenState → Array GenState → Prop), (∀ a b, G a b → b = a) → ∀ s' L es ep t, Moved [s.heap.objs.size, (s.heap.push (oSet w)).objs.size] G { s with heap := (s.heap.push (oSet w)).push (oIt T l) } s' → SetTR P w s'.heap s.heap.objs.size L es ep t → Got ks items.size L → (∀ b o, s.heap.get? b = some o → s'.heap.get? b = some o) → R (.ok (.ret .none)) s' := fun G hG s' L es ep t hm h1 h2 h3 => by
    obtain ⟨h', g2, d', tk', os'⟩ := s'
    have eg : g2 = s.gens := hG _ _ hm.gens
    have ed : d' = s.drawn := hm.drawn
    have eo : os' = s.os := hm.os
    subst eg; subst ed; subst eo
    rw [hisz] at h2
    exact hR h' tk' ⟨L, es, ep, t, h1, h2⟩ h3
  have start : ∃ L es ep t, SetTR P w ((s.heap.push (oSet w)).push (oIt T l)) s.heap.objs.size L es ep t ∧ Got ks 0 L := ⟨[], #[], 0, _, setTR_fresh hS, Got.zero ks⟩
  rcases hT with rfl | rfl
  · refine set_update_tups ((Walks.list hA1 _ l hneI items).toS) s.heap.objs.size hSf ks hisz hfew hval s.heap hk (noneOf (Nat.le_refl _)) hw0 hA2 (items.size - 0) 0 _ rfl (Nat.zero_le _) ⟨⟨_, Heap.get?_push_size _ rfl, rfl, rfl⟩, ⟨_, hl2, rfl, _, rfl⟩⟩ (fun b o e => Heap.get?_push_of_some _ (Heap.get?_push_of_some _ e)) start ?_
    exact fin _ (fun a b h => h)
  · refine set_update_tups ((Walks.tuple hA1 _ l hneI items).toS) s.heap.objs.size hSf ks hisz hfew hval s.heap hk (noneOf (Nat.le_refl _)) hw0 hA2 (items.size - 0) 0 _ rfl (Nat.zero_le _) ⟨⟨_, Heap.get?_push_size _ rfl, rfl, rfl⟩, ⟨_, hl2, rfl, _, rfl⟩⟩ (fun b o e => Heap.get?_push_of_some _ (Heap.get?_push_of_some _ e)) start ?_
    exact fin _ (fun a b h => h)
end
/-- how many different ones -/
def Diff (ks : List (List Int)) (n : Nat) : Prop := ∃ L : List (List Int), L.Nodup ∧ (∀ x, x ∈ L ↔ x ∈ ks) ∧ n = L.length
def tLenSet (K : PySem.W.Frag) (ta : TE) : TE := fun σ H Q => ta σ H fun x H1 => ∃ (l : Addr) (ks : List (Addr × List Int)), x = .ref l ∧ (SqL K H1 l (ks.map fun p => V.ref p.1) ∨ SqT K H1 l (ks.map fun p => V.ref p.1)) ∧ (∀ p ∈ ks, SqT K H1 p.1 (p.2.map V.int)) ∧ ks.length < 64 ∧
  ∀ n, Diff (ks.map (·.2)) n → Q (.int (n : Nat)) H1
theorem pe_lenSet {X : Cx} {a : Expr} {ta : TE} {p p2 q pos : Pos} (hu : X.A.units + 64 < cLine) (hg : Gl X "len") (hm : X.mg "len" = none) (hg2 : Gl X "set") (hm2 : X.mg "set" = none) (ha : PE X a ta) (hc : X.calm = true := by rfl)
    (na : starEach [a] X.env = (false, eval a X.env) :: starEach [] X.env := by rfl) : PE X (.Call (.Name "len" p) [.Call (.Name "set" p2) [a] [] q] [] pos) (tLenSet X.K ta) := ⟨fun pins s σ H Q I h => by
  refine Call_ (ld_blt I hg hm PySem.boot_len ?_)
  refine callWith_builtin1 (args_cons ?_ rfl) rfl rfl
  refine Call_ (ld_blt I hg2 hm2 PyProof.Rows.boot_set ?_)
  refine callWith_type1 (args_cons (thn (ha.run pins s σ H _ I h) fun v s1 ⟨x, H1, I1, r1, q1⟩ => args_nil ?_) na) na rfl
  obtain ⟨l, ks, rfl, hq, hk, hf, q1⟩ := q1
  cases r1
  obtain ⟨T, its, od, n, sl, hT, rv, ho⟩ := isSeq I1 hq
  refine call_setT (P := X.prog) (w := X.w) ks (I1.ok.hd hc) ho hT (by simpa using refs_of_vals rv) (fun p hp => I1.isT (hk p hp)) hf (by omega) fun h' tk L es ep t R g kp => ?_
  refine args_nil ?_
  have I2 : L2.Inv X pins σ H1 { s1 with heap := h', toks := tk } := I1.kept kp
  obtain ⟨o, ho2, hex, hd⟩ := R.ob
  have R2 : SetTR X.prog X.w (Shared.heap { s1 with heap := h', toks := tk }) s1.heap.objs.size L es ep t := R
  have hn : es.size = L.length := R2.size
  refine PySem.call_len_set (s := { s1 with heap := h', toks := tk }) ho2 hex hd R2.fits (by have := R.few; rw [hn]; omega) ⟨.int (L.length : Nat), H1, I2.tok _, ⟨_, by rw [hn]⟩, q1 _ ⟨L.map (·.2), R.nd, fun x => ⟨fun hx => ?_, fun hx => ?_⟩, by simp⟩⟩
  · obtain ⟨y, hy, e⟩ := List.mem_map.mp hx
    exact List.mem_map.mpr ⟨y, List.mem_of_mem_take (g.sub y hy), e⟩
  · obtain ⟨y, hy, e⟩ := List.mem_map.mp hx
    rw [← e]
    exact g.all y (by rw [List.take_length]; exact hy)⟩
section
variable {K : PySem.W.Frag} {ρ : List Sl} {cs cs1 cs2 : Cs} {te : TE} {z : Sl}
def ncount : List (List Int) → List (List Int)
  | [] => []
  | x :: r => if x ∈ ncount r then ncount r else x :: ncount r
theorem mem_ncount {z : List Int} : ∀ {l : List (List Int)}, z ∈ ncount l ↔ z ∈ l
  | [] => Iff.rfl
  | x :: r => by
    unfold ncount
    split
    · rename_i h
      rw [mem_ncount, List.mem_cons]
      exact ⟨.inr, fun q => q.elim (fun e => by rw [e]; exact mem_ncount.mp h) id⟩
    · rw [List.mem_cons, List.mem_cons, mem_ncount]
theorem nodup_ncount : ∀ (l : List (List Int)), (ncount l).Nodup
  | [] => .nil
  | x :: r => by
    unfold ncount
    split
    · exact nodup_ncount r
    · rename_i h
      exact List.nodup_cons.mpr ⟨h, nodup_ncount r⟩
theorem nodup_leT : ∀ {l ks : List (List Int)}, l.Nodup → (∀ x ∈ l, x ∈ ks) → l.length ≤ ks.length
  | [], _, _, _ => Nat.zero_le _
  | x :: l, ks, hn, hs => by
    have hx : x ∈ ks := hs x List.mem_cons_self
    have q := nodup_leT (l := l) (ks := ks.erase x) (List.nodup_cons.mp hn).2 fun y hy => by
      have hne : y ≠ x := fun z => (List.nodup_cons.mp hn).1 (by rw [← z]; exact hy)
      exact (List.mem_erase_of_ne hne).mpr (hs y (List.mem_cons_of_mem _ hy))
    have hp : 0 < ks.length := List.length_pos_of_mem hx
    rw [List.length_erase_of_mem hx] at q
    rw [List.length_cons]
    omega
theorem Diff.eq {ks : List (List Int)} {n : Nat} (h : Diff ks n) : n = (ncount ks).length := by
  obtain ⟨L, h1, h2, rfl⟩ := h
  exact Nat.le_antisymm (nodup_leT h1 fun x hx => mem_ncount.mpr ((h2 x).mp hx)) (nodup_leT (nodup_ncount ks) fun x hx => (h2 x).mpr (mem_ncount.mp hx))
theorem dt_tups {G : Hp} : ∀ {nss : List (List Int)} {vs : List V}, DtAll G (nss.map fun ns => PyData.tuple (ns.map PyData.int)) vs → ∃ ks : List (Addr × List Int), vs = ks.map (fun p => V.ref p.1) ∧ ks.map (·.2) = nss ∧ ∀ p ∈ ks, G p.1 = some (.tup (p.2.map V.int))
  | [], vs, h => by
    cases h
    exact ⟨[], rfl, rfl, fun _ h => nomatch h⟩
  | ns :: nss, vs, h => by
    obtain ⟨v, r, rfl, ⟨p, xs, rfl, hp, dx⟩, h3⟩ := h
    obtain ⟨ks, rfl, h5, h6⟩ := dt_tups h3
    rw [dx.ints] at hp
    refine ⟨(p, ns) :: ks, rfl, by simp [h5], fun q hq => ?_⟩
    rcases List.mem_cons.mp hq with e | e
    · subst e
      exact hp
    · exact h6 q e
theorem ev_lenSet {nss : List (List Int)} (h : Ev K te ρ cs (.dat (.tuple (nss.map fun ns => PyData.tuple (ns.map PyData.int)))) cs1) (hl : nss.length < 64) : Ev K (tLenSet K te) ρ cs (.dat (.int ((ncount nss).length : Int))) cs1 := fun G σ H ok Q q =>
  h G σ H ok _ fun v G1 H1 f1 ok1 h1 => by
    obtain ⟨p, vs, rfl, hp, dv⟩ := h1
    obtain ⟨ks, rfl, h5, h6⟩ := dt_tups dv
    refine ⟨p, ks, rfl, .inr (.inl (.inl (ok1.ex _ _ hp))), fun x hx => .inl (.inl (ok1.ex _ _ (h6 x hx))), ?_, fun n hn => ?_⟩
    · have e := congrArg List.length h5
      rw [List.length_map] at e
      omega
    · rw [h5] at hn
      rw [hn.eq]
      exact q _ G1 H1 f1 ok1 rfl
end
end LW

set_option Elab.async false
set_option linter.all false
set_option maxRecDepth 100000
namespace LW
open PySem PySem.Spec PyProof.Rows L2

/-! ### == and != of all kinds -/
def rEqM (K : PySem.W.Frag) : R2 := fun x y H Q => rEq x y H Q ∨ rEqD K x y H Q
def rNeM (K : PySem.W.Frag) : R2 := fun x y H Q => rNe x y H Q ∨ rNeD K x y H Q
theorem op_eqM {X : Cx} (hu : X.A.units + 65 < cLine) : OpR X (compareOp .Eq) (rEqM X.K) := OpR_or op_eq (op_eqD (X := X) (by omega))
theorem op_neM {X : Cx} (hu : X.A.units + 65 < cLine) : OpR X (compareOp .NotEq) (rNeM X.K) := OpR_or op_ne (op_neD (X := X) (by omega))
section
variable {K : PySem.W.Frag} {cs : Cs} {z1 z2 : Sl} {i j : Int} {a b : Str} {d e : PyData}
theorem dec_int (i j : Int) : decide (V.int i = V.int j) = decide (i = j) := by
  by_cases h : i = j
  · rw [decide_eq_true h, h, decide_eq_true rfl]
  · rw [decide_eq_false h, decide_eq_false fun z => h (V.int.inj z)]
theorem dec_str (i j : Str) : decide (V.str i = V.str j) = decide (i = j) := by
  by_cases h : i = j
  · rw [decide_eq_true h, h, decide_eq_true rfl]
  · rw [decide_eq_false h, decide_eq_false fun z => h (V.str.inj z)]
theorem opd_eqI (h1 : Rds cs z1 (.int i)) (h2 : Rds cs z2 (.int j)) : OpD K (rEqM K) z1 z2 cs (.dat (.bool (decide (i = j)))) := fun x y G H hx hy ex ok Q q => by
  rw [h1.int hx, h2.int hy]
  refine .inl ⟨rfl, ?_⟩
  rw [dec_int]
  exact q _ G H (.refl ex) rfl
theorem opd_neI (h1 : Rds cs z1 (.int i)) (h2 : Rds cs z2 (.int j)) : OpD K (rNeM K) z1 z2 cs (.dat (.bool (!decide (i = j)))) := fun x y G H hx hy ex ok Q q => by
  rw [h1.int hx, h2.int hy]
  refine .inl ⟨rfl, ?_⟩
  rw [dec_int]
  exact q _ G H (.refl ex) rfl
theorem opd_eqS (h1 : Rds cs z1 (.str a)) (h2 : Rds cs z2 (.str b)) : OpD K (rEqM K) z1 z2 cs (.dat (.bool (decide (a = b)))) := fun x y G H hx hy ex ok Q q => by
  rw [h1.str hx, h2.str hy]
  refine .inl ⟨rfl, ?_⟩
  rw [dec_str]
  exact q _ G H (.refl ex) rfl
theorem opd_neS (h1 : Rds cs z1 (.str a)) (h2 : Rds cs z2 (.str b)) : OpD K (rNeM K) z1 z2 cs (.dat (.bool (!decide (a = b)))) := fun x y G H hx hy ex ok Q q => by
  rw [h1.str hx, h2.str hy]
  refine .inl ⟨rfl, ?_⟩
  rw [dec_str]
  exact q _ G H (.refl ex) rfl
theorem opd_eqM (h1 : Rds cs z1 d) (h2 : Rds cs z2 e) (s1 : SeqAt.shaped d = true) (s2 : SeqAt.shaped e = true) : OpD K (rEqM K) z1 z2 cs (.dat (.bool (PyData.eqv d e))) := fun x y G H hx hy ex ok Q q => .inr (opd_eq h1 h2 s1 s2 x y G H hx hy ex ok Q q)
theorem opd_neM (h1 : Rds cs z1 d) (h2 : Rds cs z2 e) (s1 : SeqAt.shaped d = true) (s2 : SeqAt.shaped e = true) : OpD K (rNeM K) z1 z2 cs (.dat (.bool (!PyData.eqv d e))) := fun x y G H hx hy ex ok Q q => .inr (opd_ne h1 h2 s1 s2 x y G H hx hy ex ok Q q)
end
/-! ### isinstance -/
def tyN : PyData → String
  | .none => "NoneType"
  | .bool _ => "bool"
  | .int _ => "int"
  | .str _ => "str"
  | .list _ => "list"
  | .tuple _ => "tuple"
  | .dict _ => "dict"
def isD (d : PyData) (T : String) : Bool := (kitB (tyN d) T).getD false
section
variable {K : PySem.W.Frag} {ρ : List Sl} {cs cs1 : Cs} {z : Sl} {d : PyData}
theorem Dt.ty {G : Hp} : ∀ {d : PyData} {v : V}, Dt G d v → TyX K G v (.type (tyN d))
  | .none, v, h => by cases h; exact .base .non
  | .bool _, v, h => by cases h; exact .base (.bl _)
  | .int _, v, h => by cases h; exact .base (.int _)
  | .str _, v, h => by cases h; exact .base (.str _)
  | .list _, v, ⟨_, _, e, h, _⟩ => by cases e; exact .base (.lst h)
  | .tuple _, v, ⟨_, _, e, h, _⟩ => by cases e; exact .base (.tup h)
  | .dict _, v, h => h.elim
theorem cd_isi {T : String} {b : Bool} (h : Rds cs z d) (hb : kitB (tyN d) T = some b) : CallD K (rIsi K) [z, .raw (.ty T)] cs (.dat (.bool b)) := fun vs G H hv ex ok Q q => by
  obtain ⟨v, w, rfl, h1, h2⟩ := hv.two
  cases h2
  exact ⟨v, .ty T, _, _, b, rfl, .ty T, (h.dt h1 ex ok).ty, kit_ty hb, q _ G H (.refl ex) rfl⟩
def isIntB : PyData → Bool
  | .int _ => true
  | .bool _ => true
  | _ => false
def isBoolB : PyData → Bool
  | .bool _ => true
  | _ => false
def isTupB : PyData → Bool
  | .tuple _ => true
  | _ => false
def isLstB : PyData → Bool
  | .list _ => true
  | _ => false
def isStrB : PyData → Bool
  | .str _ => true
  | _ => false
theorem kitB_int (d : PyData) : kitB (tyN d) "int" = some (isIntB d) := by cases d <;> (simp only [tyN, isIntB, isBoolB, isTupB, isLstB, isStrB]; decide +kernel)
theorem kitB_bool (d : PyData) : kitB (tyN d) "bool" = some (isBoolB d) := by cases d <;> (simp only [tyN, isIntB, isBoolB, isTupB, isLstB, isStrB]; decide +kernel)
theorem kitB_tuple (d : PyData) : kitB (tyN d) "tuple" = some (isTupB d) := by cases d <;> (simp only [tyN, isIntB, isBoolB, isTupB, isLstB, isStrB]; decide +kernel)
theorem kitB_list (d : PyData) : kitB (tyN d) "list" = some (isLstB d) := by cases d <;> (simp only [tyN, isIntB, isBoolB, isTupB, isLstB, isStrB]; decide +kernel)
theorem kitB_str (d : PyData) : kitB (tyN d) "str" = some (isStrB d) := by cases d <;> (simp only [tyN, isIntB, isBoolB, isTupB, isLstB, isStrB]; decide +kernel)
theorem ev_andF {ta tb : TE} (h1 : Ev K ta ρ cs (.dat (.bool false)) cs1) : Ev K (tAndV ta tb) ρ cs (.dat (.bool false)) cs1 := fun G σ H ok Q q => h1 G σ H ok _ fun v G1 H1 f1 ok1 e1 => ⟨false, e1, q _ G1 H1 f1 ok1 rfl⟩
theorem ev_andT {ta tb : TE} {b : Bool} (h1 : Ev K ta ρ cs (.dat (.bool true)) cs) (h2 : Ev K tb ρ cs (.dat (.bool b)) cs) : Ev K (tAndV ta tb) ρ cs (.dat (.bool b)) cs := (ev_andV h1 fun _ => h2).is (by simp)
theorem ev_isi {te : TE} {T : String} {b : Bool} (h : Ev K te ρ cs (.dat d) cs) (hb : kitB (tyN d) T = some b) : Ev K (tCB (rIsi K) (tCons te (tCons (tC (.ty T)) tNil))) ρ cs (.dat (.bool b)) cs := ev_cb (ea_cons h (ea_cons ev_raw ea_nil)) (cd_isi rds_dat hb)
theorem ev_ty {T : String} : Ev K (tC (.ty T)) ρ cs (.raw (.ty T)) cs := ev_raw
/-- a <= b <= c, ints -/
theorem ev_chainLe {ta tb tc : TE} {i j k : Int} (ha : Ev K ta ρ cs (.dat (.int i)) cs) (hb : Ev K tb ρ cs (.dat (.int j)) cs) (hc : Ev K tc ρ cs (.dat (.int k)) cs) :
    Ev K (tChain (rI0 fun i j => .bl (decide (i ≤ j))) (rI0 fun i j => .bl (decide (i ≤ j))) ta tb tc) ρ cs (.dat (.bool (decide (i ≤ j) && decide (j ≤ k)))) cs := fun G σ H ok Q q =>
  ha G σ H ok _ fun x G1 H1 f1 ok1 e1 => hb G1 σ H1 ok1 _ fun y G2 H2 f2 ok2 e2 => by
    cases e1
    cases e2
    refine ⟨i, j, rfl, rfl, decide (i ≤ j), rfl, ?_⟩
    cases hd : decide (i ≤ j) with
    | true =>
      refine iteT (hc G2 σ H2 ok2 _ fun w G3 H3 f3 ok3 e3 => ?_)
      cases e3
      refine ⟨j, k, rfl, rfl, q _ G3 H3 ((f1.trans f2).trans f3) ok3 ?_⟩
      rw [hd]
      rfl
    | false =>
      refine iteF (q _ G2 H2 (f1.trans f2) ok2 ?_)
      rw [hd]
      rfl
end
section
variable {K : PySem.W.Frag} {ρ : List Sl} {cs cs1 cs2 cs3 : Cs} {te ta tb : TE} {u : TS} {z z1 : Sl} {P : Po} {c : Ce}
/-- a, b = e1, [..] -/
theorem run_parN (i j : Nat) (ha : Ev K ta ρ cs z1 cs1) (hb : EvN K tb ρ cs1 c cs2) (h' : ∀ p, Run K u ((ρ.set i z1).set j (.raw (.ref p))) ((p, c) :: cs2) P) : Run K (tSeq (tPar i j (tCons ta (tCons tb tNil))) u) ρ cs P := fun G σ H D ok n r bk ct =>
  ha G σ H ok _ fun v G1 H1 f1 ok1 e1 => hb G1 σ H1 ok1 _ fun p G2 H2 hp f2 ok2 => by
    have f := f1.trans f2
    exact ⟨v, .ref p, rfl, h' p G2 _ H2 D ⟨ok2.ex, (ok2.sl.set i (e1.mono f2.g)).set j rfl, ok2.ce⟩ (n.after f) (r.after f) (bk.after f) (ct.after f)⟩
/-- a new object is handed back as it is -/
theorem run_retC (h : EvN K te ρ cs c cs1) (h' : ∀ p, P.rt (.raw (.ref p)) ((p, c) :: cs1)) : Run K (tRet te) ρ cs P := fun G σ H D ok n r bk ct =>
  h G σ H ok _ fun p G1 H1 hp f1 ok1 => r _ _ _ G1 H1 (h' p) f1 ok1.ex ok1.ce rfl
/-- the same, at the beginning -/
theorem run_parNN (i j : Nat) {c' : Ce} (ha : EvN K ta ρ cs c cs1) (hb : ∀ p, EvN K tb ρ ((p, c) :: cs1) c' ((p, c) :: cs2)) (h' : ∀ p q, Run K u ((ρ.set i (.raw (.ref p))).set j (.raw (.ref q))) ((q, c') :: (p, c) :: cs2) P) : Run K (tSeq (tPar i j (tCons ta (tCons tb tNil))) u) ρ cs P := fun G σ H D ok n r bk ct =>
  ha G σ H ok _ fun p G1 H1 hp f1 ok1 => hb p G1 σ H1 ok1 _ fun q G2 H2 hq f2 ok2 => by
    have f := f1.trans f2
    exact ⟨.ref p, .ref q, rfl, h' p q G2 _ H2 D ⟨ok2.ex, (ok2.sl.set i (v := .ref p) (s := .raw (.ref p)) rfl).set j (v := .ref q) (s := .raw (.ref q)) rfl, ok2.ce⟩ (n.after f) (r.after f) (bk.after f) (ct.after f)⟩
end
/-! ### shapes -/
theorem shp {d : PyData} (h1 : d.canLay0 = true) (h2 : d.depth ≤ 64) : SeqAt.shaped d = true := by
  unfold SeqAt.shaped
  rw [h1, decide_eq_true h2]
  rfl
/-- data of a depth, without texts or dicts but good ones -/
structure Sh (n : Nat) (d : PyData) : Prop where
  lay : d.canLay0 = true
  dep : d.depth ≤ n
structure ShA (n : Nat) (ds : List PyData) : Prop where
  lay : PyData.canLayAll0 ds = true
  dep : PyData.depthAll ds ≤ n
theorem Sh.ok {d : PyData} {n : Nat} (h : Sh n d) (hn : n ≤ 64) : SeqAt.shaped d = true := shp h.lay (Nat.le_trans h.dep hn)
theorem sh_int {n : Nat} {i : Int} : Sh n (.int i) := ⟨by simp [PyData.canLay0], by simp [PyData.depth]⟩
theorem sh_bool {n : Nat} {i : Bool} : Sh n (.bool i) := ⟨by simp [PyData.canLay0], by simp [PyData.depth]⟩
theorem sh_none {n : Nat} : Sh n .none := ⟨by simp [PyData.canLay0], by simp [PyData.depth]⟩
theorem sha_nil {n : Nat} : ShA n [] := ⟨by simp [PyData.canLayAll0], by simp [PyData.depthAll]⟩
theorem sha_cons {n : Nat} {d : PyData} {ds : List PyData} (h : Sh n d) (h' : ShA n ds) : ShA n (d :: ds) := ⟨by simp [PyData.canLayAll0, h.lay, h'.lay], by simp only [PyData.depthAll]; exact Nat.max_le.mpr ⟨h.dep, h'.dep⟩⟩
theorem sh_list {n : Nat} {ds : List PyData} (h : ShA n ds) : Sh (n + 1) (.list ds) := ⟨by simp [PyData.canLay0, h.lay], by simp only [PyData.depth]; exact Nat.succ_le_succ h.dep⟩
theorem sh_tuple {n : Nat} {ds : List PyData} (h : ShA n ds) : Sh (n + 1) (.tuple ds) := ⟨by simp [PyData.canLay0, h.lay], by simp only [PyData.depth]; exact Nat.succ_le_succ h.dep⟩
theorem sha_map {α : Type} {n : Nat} {f : α → PyData} : ∀ {l : List α}, (∀ x ∈ l, Sh n (f x)) → ShA n (l.map f)
  | [], _ => sha_nil
  | x :: l, h => sha_cons (h x List.mem_cons_self) (sha_map fun y hy => h y (List.mem_cons_of_mem _ hy))
theorem sha_ints {n : Nat} (l : List Int) : ShA n (l.map PyData.int) := sha_map fun _ _ => sh_int
/-! ### the rules with the written part named -/
theorem op_addK {X : Cx} (K : PySem.W.Frag) (h : X.K = K := by rfl) : OpR X (binaryOp .Add) (rAddM K) := by
  subst h
  exact op_addM
theorem op_inK {X : Cx} (K : PySem.W.Frag) (hu : X.A.units + 65 < cLine) (h : X.K = K := by rfl) : OpR X (compareOp .In) (rInM K) := by
  subst h
  exact op_inM hu
theorem op_notInK {X : Cx} (K : PySem.W.Frag) (hu : X.A.units + 65 < cLine) (h : X.K = K := by rfl) : OpR X (compareOp .NotIn) (rNotInM K) := by
  subst h
  exact op_notInM hu
theorem op_eqK {X : Cx} (K : PySem.W.Frag) (hu : X.A.units + 65 < cLine) (h : X.K = K := by rfl) : OpR X (compareOp .Eq) (rEqM K) := by
  subst h
  exact op_eqM hu
theorem op_neK {X : Cx} (K : PySem.W.Frag) (hu : X.A.units + 65 < cLine) (h : X.K = K := by rfl) : OpR X (compareOp .NotEq) (rNeM K) := by
  subst h
  exact op_neM hu
theorem ix_K {X : Cx} (K : PySem.W.Frag) (h : X.K = K := by rfl) : IxR X (rIx K) := by
  subst h
  exact ix_seq
theorem sl_K {X : Cx} (K : PySem.W.Frag) (h : X.K = K := by rfl) : SlR X (rSlM K) := by
  subst h
  exact sl_M
theorem len_K {X : Cx} (K : PySem.W.Frag) (h : X.K = K := by rfl) : CallR X (.builtin "len") (rLenM K) := by
  subst h
  exact call_lenM
theorem list_K {X : Cx} (K : PySem.W.Frag) (h : X.K = K := by rfl) : CallR X (.type "list") (rListOf K) := by
  subst h
  exact call_listM
theorem tuple_K {X : Cx} (K : PySem.W.Frag) (h : X.K = K := by rfl) : CallR X (.type "tuple") (rTupleOf K) := by
  subst h
  exact call_tupleM
theorem isi_K {X : Cx} (K : PySem.W.Frag) (h : X.K = K := by rfl) : CallR X (.builtin "isinstance") (rIsi K) := by
  subst h
  exact call_isi
theorem all_K {X : Cx} (K : PySem.W.Frag) (hc : X.calm = true := by rfl) (h : X.K = K := by rfl) : CallR X (.builtin "all") (rAll K) := by
  subst h
  exact cr_all hc
theorem any_K {X : Cx} (K : PySem.W.Frag) (hc : X.calm = true := by rfl) (h : X.K = K := by rfl) : CallR X (.builtin "any") (rAny K) := by
  subst h
  exact cr_any hc
theorem sum_K {X : Cx} (K : PySem.W.Frag) (hc : X.calm = true := by rfl) (h : X.K = K := by rfl) : CallR X (.builtin "sum") (rSum K) := by
  subst h
  exact cr_sum hc
theorem max_K {X : Cx} (K : PySem.W.Frag) (hc : X.calm = true := by rfl) (h : X.K = K := by rfl) : CallR X (.builtin "max") (rMax K) := by
  subst h
  exact cr_max hc
theorem min_K {X : Cx} (K : PySem.W.Frag) (hc : X.calm = true := by rfl) (h : X.K = K := by rfl) : CallR X (.builtin "min") (rMin K) := by
  subst h
  exact cr_min hc
theorem setI_K {X : Cx} (K : PySem.W.Frag) (w : World) (hw : X.w = w := by rfl) (hc : X.calm = true := by rfl) (h : X.K = K := by rfl) : CallR X (.type "set") (rSetI K w) := by
  subst h
  exact (by subst hw; exact cr_setI hc)
theorem sortedSet_K {X : Cx} (w : World) (hw : X.w = w := by rfl) (hc : X.calm = true := by rfl) : CallR X (.builtin "sorted") (rSortedSet w) := by
  subst hw
  exact cr_sortedSet hc
theorem pi_K {X : Cx} {tg e : Expr} {te : TE} (K : PySem.W.Frag) (he : PE X e te) (h : X.K = K := by rfl) : PI X tg e (iM K te) := by
  subst h
  exact pi_M he
theorem pi_enumK {X : Cx} {e : Expr} {ta : TA} {p pos tpos : Pos} {elts : List Expr} {kk : Nat} (K : PySem.W.Frag) (hg : Gl X "enumerate") (hm : X.mg "enumerate" = none) (ha : PA X [e] ta) (hs : starEach [e] X.env = [(false, eval e X.env)] := by rfl) (h : X.K = K := by rfl) :
    PI X (.Tuple elts kk tpos) (.Call (.Name "enumerate" p) [e] [] pos) (iEnumM K ta) := by
  subst h
  exact pi_enumM hg hm ha hs
theorem pi_zipK {X : Cx} {e e' : Expr} {ta : TA} {p pos tpos : Pos} {elts : List Expr} {kk : Nat} (K : PySem.W.Frag) (hz : PI X (.Tuple elts kk tpos) (.Call (.Name "zip" p) [e, e'] [] pos) (iZip X.K ta)) (h : X.K = K := by rfl) :
    PI X (.Tuple elts kk tpos) (.Call (.Name "zip" p) [e, e'] [] pos) (iZip K ta) := by
  subst h
  exact hz
theorem pg_tupK {X : Cx} {ts : List Expr} {t : TGs} {n k : Nat} {pos : Pos} (K : PySem.W.Frag) (hc : X.calm = true) (hg : PGs X ts t) (hn : (assignEach ts X.env).length = n := by rfl) (hst : (assignEach ts X.env).findIdx? (·.1) = none := by rfl) (h : X.K = K := by rfl) : PG X (.Tuple ts k pos) (gTup K n t) := by
  subst h
  exact pg_tup hc hg hn hst
/-- the built-in names that stand as they are -/
structure Bi (mg : Str → Option Value) : Prop where
  len_ : mg "len" = none
  range_ : mg "range" = none
  enumerate_ : mg "enumerate" = none
  isinstance_ : mg "isinstance" = none
  all_ : mg "all" = none
  any_ : mg "any" = none
  sum_ : mg "sum" = none
  sorted_ : mg "sorted" = none
  set_ : mg "set" = none
  tuple_ : mg "tuple" = none
  list_ : mg "list" = none
  int_ : mg "int" = none
  bool_ : mg "bool" = none
  str_ : mg "str" = none
  min_ : mg "min" = none
  max_ : mg "max" = none
  zip_ : mg "zip" = none
  abs_ : mg "abs" = none
end LW

set_option linter.all false
namespace LW
/-- a sign -/
structure Sg where
  w : Nat
  L : List (Nat × Nat)
  r : Nat
structure OkS (s : Sg) : Prop where
  w2 : 2 ≤ s.w
  w5 : s.w ≤ 5
  l1 : 1 ≤ s.L.length
  l7 : s.L.length ≤ 7
  ok : ∀ p ∈ s.L, p.1 < s.w ∧ p.2 < s.w ∧ p.1 ≠ p.2
  nd : s.L.Nodup
  r1 : 1 ≤ s.r
  r3 : s.r ≤ 3
structure OkT (s : Sg) (t : List Nat) : Prop where
  len : t.length = s.w
  ok : ∀ c ∈ t, c = 43 ∨ c = 45 ∨ c = 48
/-- the wires of a lamp -/
def fw (s : Sg) (i : Nat) : Nat := (s.L.getD i (0, 0)).1
def sw (s : Sg) (i : Nat) : Nat := (s.L.getD i (0, 0)).2
/-- the state of a wire -/
def stt (t : List Nat) (w : Nat) : Nat := t.getD w 0
def hi (s : Sg) (t : List Nat) (a : Nat) : Bool := stt t (fw s a) == 43
def lo (s : Sg) (t : List Nat) (a : Nat) : Bool := stt t (sw s a) == 45
def lk (s : Sg) (t : List Nat) (a b : Nat) : Bool := (sw s a == fw s b) && (stt t (sw s a) == 48)
/-- chains of one, two and three lamps -/
def c1 (s : Sg) (t : List Nat) (a : Nat) : Bool := hi s t a && lo s t a
def c2 (s : Sg) (t : List Nat) (a b : Nat) : Bool := hi s t a && (lk s t a b && lo s t b)
def c3 (s : Sg) (t : List Nat) (a b c : Nat) : Bool := hi s t a && (lk s t a b && (lk s t b c && lo s t c))
/-- the lamp glows -/
def Lit (s : Sg) (t : List Nat) (i : Nat) : Prop :=
  (i < s.L.length ∧ c1 s t i = true) ∨
  (2 ≤ s.r ∧ ∃ a b, a < s.L.length ∧ b < s.L.length ∧ c2 s t a b = true ∧ (i = a ∨ i = b)) ∨
  (3 ≤ s.r ∧ ∃ a b c, a < s.L.length ∧ b < s.L.length ∧ c < s.L.length ∧ c3 s t a b c = true ∧ (i = a ∨ i = b ∨ i = c))
def litB (s : Sg) (t : List Nat) (i : Nat) : Bool :=
  c1 s t i ||
  (decide (2 ≤ s.r) && (List.range s.L.length).any fun a => (List.range s.L.length).any fun b => c2 s t a b && (i == a || i == b)) ||
  (decide (3 ≤ s.r) && (List.range s.L.length).any fun a => (List.range s.L.length).any fun b => (List.range s.L.length).any fun c => c3 s t a b c && (i == a || (i == b || i == c)))
theorem litB_iff {s : Sg} {t : List Nat} {i : Nat} (h : i < s.L.length) : litB s t i = true ↔ Lit s t i := by
  unfold litB Lit
  simp only [Bool.or_eq_true, Bool.and_eq_true, List.any_eq_true, List.mem_range, decide_eq_true_eq, beq_iff_eq]
  constructor
  · rintro ((h1 | ⟨h2, a, ha, b, hb, h3, h4⟩) | ⟨h2, a, ha, b, hb, c, hc, h3, h4⟩)
    · exact .inl ⟨h, h1⟩
    · exact .inr (.inl ⟨h2, a, b, ha, hb, h3, h4⟩)
    · exact .inr (.inr ⟨h2, a, b, c, ha, hb, hc, h3, h4⟩)
  · rintro (⟨_, h1⟩ | ⟨h2, a, b, ha, hb, h3, h4⟩ | ⟨h2, a, b, c, ha, hb, hc, h3, h4⟩)
    · exact .inl (.inl h1)
    · exact .inl (.inr ⟨h2, a, ha, b, hb, h3, h4⟩)
    · exact .inr ⟨h2, a, ha, b, hb, c, hc, h3, h4⟩
theorem Lit.lt {s : Sg} {t : List Nat} {i : Nat} (h : Lit s t i) : i < s.L.length := by
  rcases h with ⟨h, _⟩ | ⟨_, a, b, ha, hb, _, h | h⟩ | ⟨_, a, b, c, ha, hb, hc, _, h | h | h⟩
  · exact h
  · omega
  · omega
  · omega
  · omega
  · omega
/-- the lamps that glow -/
def glowM (s : Sg) (t : List Nat) : List Int := ((List.range s.L.length).filter (litB s t)).map fun (i : Nat) => (i : Int)
theorem mem_glowM {s : Sg} {t : List Nat} {x : Int} : x ∈ glowM s t ↔ ∃ i : Nat, x = i ∧ Lit s t i := by
  unfold glowM
  rw [List.mem_map]
  constructor
  · rintro ⟨i, hi, rfl⟩
    rw [List.mem_filter, List.mem_range] at hi
    exact ⟨i, rfl, (litB_iff hi.1).mp hi.2⟩
  · rintro ⟨i, rfl, h⟩
    exact ⟨i, List.mem_filter.mpr ⟨List.mem_range.mpr h.lt, (litB_iff h.lt).mpr h⟩, rfl⟩
theorem glowM_sorted (s : Sg) (t : List Nat) : (glowM s t).Pairwise (· < ·) := by
  unfold glowM
  rw [List.pairwise_map]
  refine (List.Pairwise.filter _ (List.pairwise_lt_range)).imp fun h => by omega
theorem glowM_len (s : Sg) (t : List Nat) : (glowM s t).length ≤ s.L.length := by
  unfold glowM
  rw [List.length_map]
  refine Nat.le_trans (List.length_filter_le _ _) ?_
  rw [List.length_range]
  exact Nat.le_refl _
theorem glowM_lt {s : Sg} {t : List Nat} {x : Int} (h : x ∈ glowM s t) : 0 ≤ x ∧ x < s.L.length := by
  obtain ⟨i, rfl, h'⟩ := mem_glowM.mp h
  have q := h'.lt
  omega

/-! ### the chains, by a pile -/
/-- the lamps behind a wire -/
def nexts (s : Sg) (e : Nat) : List Nat := (List.range s.L.length).filter fun a => fw s a == e
def starts (s : Sg) (t : List Nat) : List (List Nat) := ((List.range s.L.length).filter (hi s t)).map fun a => [a]
def endW (s : Sg) (c : List Nat) : Nat := sw s (c.getLastD 0)
def exts (s : Sg) (c : List Nat) : List (List Nat) := (nexts s (endW s c)).map fun a => c ++ [a]
def runC (s : Sg) (t : List Nat) : Nat → List (List Nat) → List (List Nat) → List (List Nat)
  | 0, _, F => F
  | n + 1, S, F => match S.getLast? with
    | none => F
    | some c => if stt t (endW s c) = 45 then runC s t n S.dropLast (F ++ [c]) else if stt t (endW s c) = 48 ∧ c.length < s.r then runC s t n (S.dropLast ++ exts s c) F else runC s t n S.dropLast F
def wtC (c : List Nat) : Nat := 8 ^ (3 - c.length)
def wt (S : List (List Nat)) : Nat := (S.map wtC).sum
def chainsM (s : Sg) (t : List Nat) : List (List Nat) := runC s t (wt (starts s t)) (starts s t) []
/-- what a chain comes to -/
def comp (s : Sg) (t : List Nat) : Nat → List Nat → List (List Nat)
  | 0, c => if stt t (endW s c) = 45 then [c] else []
  | k + 1, c => if stt t (endW s c) = 45 then [c] else if stt t (endW s c) = 48 then (exts s c).flatMap (comp s t k) else []
theorem wt_append (S S' : List (List Nat)) : wt (S ++ S') = wt S + wt S' := by unfold wt; rw [List.map_append, List.sum_append]
theorem exts_len {s : Sg} {c d : List Nat} (h : d ∈ exts s c) : d.length = c.length + 1 := by
  unfold exts at h
  obtain ⟨a, _, rfl⟩ := List.mem_map.mp h
  simp
theorem wt_exts {s : Sg} (hs : s.L.length ≤ 7) {c : List Nat} (hc : c.length ≤ 2) : wt (exts s c) < wtC c := by
  have h1 : (exts s c).length ≤ 7 := by
    unfold exts nexts
    rw [List.length_map]
    refine Nat.le_trans (List.length_filter_le _ _) ?_
    rw [List.length_range]
    exact hs
  have h2 : wt (exts s c) = (exts s c).length * 8 ^ (3 - (c.length + 1)) := by
    unfold wt
    have e : (exts s c).map wtC = (exts s c).map fun _ => 8 ^ (3 - (c.length + 1)) := by
      refine List.map_congr_left fun d hd => ?_
      unfold wtC
      rw [exts_len hd]
    rw [e]
    generalize exts s c = l
    induction l with
    | nil => simp
    | cons x l ih => rw [List.map_cons, List.sum_cons, ih, List.length_cons, Nat.succ_mul]; omega
  rw [h2]
  unfold wtC
  have e : 3 - c.length = (3 - (c.length + 1)) + 1 := by omega
  rw [e, Nat.pow_succ]
  have hp : 0 < 8 ^ (3 - (c.length + 1)) := Nat.pow_pos (by decide)
  have q : (exts s c).length * 8 ^ (3 - (c.length + 1)) ≤ 7 * 8 ^ (3 - (c.length + 1)) := Nat.mul_le_mul_right _ h1
  omega
theorem wtC_pos (c : List Nat) : 0 < wtC c := Nat.pow_pos (by decide)
theorem snoc_cases {α : Type} (S : List α) : S = [] ∨ ∃ S' c, S = S' ++ [c] := by
  rcases List.eq_nil_or_concat S with h | ⟨S', c, h⟩
  · exact .inl h
  · exact .inr ⟨S', c, by simpa using h⟩
theorem runC_snoc (s : Sg) (t : List Nat) (n : Nat) (S : List (List Nat)) (c : List Nat) (F : List (List Nat)) :
    runC s t (n + 1) (S ++ [c]) F = if stt t (endW s c) = 45 then runC s t n S (F ++ [c]) else if stt t (endW s c) = 48 ∧ c.length < s.r then runC s t n (S ++ exts s c) F else runC s t n S F := by
  show (match (S ++ [c]).getLast? with
    | none => F
    | some c' => if stt t (endW s c') = 45 then runC s t n (S ++ [c]).dropLast (F ++ [c']) else if stt t (endW s c') = 48 ∧ c'.length < s.r then runC s t n ((S ++ [c]).dropLast ++ exts s c') F else runC s t n (S ++ [c]).dropLast F) = _
  rw [List.getLast?_concat, List.dropLast_concat]
theorem mem_runC {s : Sg} (hs : s.L.length ≤ 7) (hr : s.r ≤ 3) {t : List Nat} {x : List Nat} : ∀ (n : Nat) (S F : List (List Nat)), wt S ≤ n → (∀ c ∈ S, 1 ≤ c.length ∧ c.length ≤ s.r) →
    (x ∈ runC s t n S F ↔ x ∈ F ∨ ∃ c ∈ S, x ∈ comp s t (s.r - c.length) c)
  | 0, S, F, hw, hc => by
    rcases snoc_cases S with rfl | ⟨S', c, rfl⟩
    · exact ⟨.inl, fun h => h.elim id fun ⟨c, h, _⟩ => nomatch h⟩
    · rw [wt_append] at hw
      have q : 0 < wt [c] := by
        show 0 < wtC c + 0
        exact wtC_pos c
      omega
  | n + 1, S, F, hw, hc => by
    rcases snoc_cases S with rfl | ⟨S', c, rfl⟩
    · exact ⟨.inl, fun h => h.elim id fun ⟨c, h, _⟩ => nomatch h⟩
    · have hcc := hc c (by simp)
      have hS' : ∀ d ∈ S', 1 ≤ d.length ∧ d.length ≤ s.r := fun d hd => hc d (by simp [hd])
      have hwt : wt (S' ++ [c]) = wt S' + wtC c := by
        rw [wt_append]
        rfl
      have hpos := wtC_pos c
      rw [runC_snoc]
      have split : (∃ d ∈ S' ++ [c], x ∈ comp s t (s.r - d.length) d) ↔ (∃ d ∈ S', x ∈ comp s t (s.r - d.length) d) ∨ x ∈ comp s t (s.r - c.length) c := by
        constructor
        · rintro ⟨d, hd, h⟩
          rcases List.mem_append.mp hd with z | z
          · exact .inl ⟨d, z, h⟩
          · rw [List.mem_singleton.mp z] at h
            exact .inr h
        · rintro (⟨d, hd, h⟩ | h)
          · exact ⟨d, List.mem_append_left _ hd, h⟩
          · exact ⟨c, by simp, h⟩
      rw [split]
      by_cases h45 : stt t (endW s c) = 45
      · rw [if_pos h45, mem_runC hs hr n S' (F ++ [c]) (by omega) hS']
        have e : comp s t (s.r - c.length) c = [c] := by
          cases s.r - c.length with
          | zero => show (if _ then [c] else []) = _; rw [if_pos h45]
          | succ k => show (if _ then [c] else _) = _; rw [if_pos h45]
        rw [e, List.mem_append, List.mem_singleton]
        constructor
        · rintro ((h | h) | h)
          · exact .inl h
          · exact .inr (.inr h)
          · exact .inr (.inl h)
        · rintro (h | h | h)
          · exact .inl (.inl h)
          · exact .inr h
          · exact .inl (.inr h)
      · rw [if_neg h45]
        by_cases h48 : stt t (endW s c) = 48 ∧ c.length < s.r
        · rw [if_pos h48]
          have hl3 : c.length ≤ 2 := by omega
          have hwe := wt_exts (s := s) hs hl3
          rw [mem_runC hs hr n (S' ++ exts s c) F (by rw [wt_append]; omega) fun d hd => ?_]
          · have e : s.r - c.length = (s.r - (c.length + 1)) + 1 := by omega
            have e2 : comp s t (s.r - c.length) c = (exts s c).flatMap (comp s t (s.r - (c.length + 1))) := by
              rw [e]
              show (if _ then [c] else if _ then _ else _) = _
              rw [if_neg h45, if_pos h48.1]
            rw [e2, List.mem_flatMap]
            constructor
            · rintro (h | ⟨d, hd, h⟩)
              · exact .inl h
              · rcases List.mem_append.mp hd with z | z
                · exact .inr (.inl ⟨d, z, h⟩)
                · rw [exts_len z] at h
                  exact .inr (.inr ⟨d, z, h⟩)
            · rintro (h | ⟨d, hd, h⟩ | ⟨d, hd, h⟩)
              · exact .inl h
              · exact .inr ⟨d, List.mem_append_left _ hd, h⟩
              · exact .inr ⟨d, List.mem_append_right _ hd, by rw [exts_len hd]; exact h⟩
          · rcases List.mem_append.mp hd with z | z
            · exact hS' d z
            · rw [exts_len z]
              omega
        · rw [if_neg h48, mem_runC hs hr n S' F (by omega) hS']
          have e : comp s t (s.r - c.length) c = [] := by
            cases hk : s.r - c.length with
            | zero => show (if _ then [c] else []) = _; rw [if_neg h45]
            | succ k =>
              show (if _ then [c] else if _ then _ else _) = _
              rw [if_neg h45, if_neg fun z => h48 ⟨z, by omega⟩]
          rw [e]
          simp
theorem runC_small {s : Sg} (hs : s.L.length ≤ 7) (hr : s.r ≤ 3) {t : List Nat} : ∀ (n : Nat) (S F : List (List Nat)), (∀ c ∈ S, 1 ≤ c.length ∧ c.length ≤ s.r) → (∀ c ∈ F, c.length ≤ s.r) →
    (runC s t n S F).length ≤ F.length + wt S ∧ ∀ c ∈ runC s t n S F, c.length ≤ s.r
  | 0, S, F, hc, hF => ⟨Nat.le_add_right _ _, hF⟩
  | n + 1, S, F, hc, hF => by
    rcases snoc_cases S with rfl | ⟨S', c, rfl⟩
    · exact ⟨Nat.le_add_right _ _, hF⟩
    · have hcc := hc c (by simp)
      have hS' : ∀ d ∈ S', 1 ≤ d.length ∧ d.length ≤ s.r := fun d hd => hc d (by simp [hd])
      have hwt : wt (S' ++ [c]) = wt S' + wtC c := by
        rw [wt_append]
        rfl
      have hpos := wtC_pos c
      rw [runC_snoc]
      split
      · obtain ⟨q1, q2⟩ := runC_small hs hr n S' (F ++ [c]) hS' fun d hd => by
          rcases List.mem_append.mp hd with z | z
          · exact hF d z
          · rw [List.mem_singleton.mp z]
            exact hcc.2
        rw [List.length_append, List.length_singleton] at q1
        exact ⟨by omega, q2⟩
      · split
        · rename_i h48
          have hwe := wt_exts (s := s) hs (c := c) (by omega)
          obtain ⟨q1, q2⟩ := runC_small hs hr n (S' ++ exts s c) F (fun d hd => by
            rcases List.mem_append.mp hd with z | z
            · exact hS' d z
            · rw [exts_len z]
              omega) hF
          rw [wt_append] at q1
          exact ⟨by omega, q2⟩
        · obtain ⟨q1, q2⟩ := runC_small hs hr n S' F hS' hF
          exact ⟨by omega, q2⟩
theorem wt_starts {s : Sg} (hs : s.L.length ≤ 7) (t : List Nat) : wt (starts s t) ≤ 448 := by
  have h1 : (starts s t).length ≤ 7 := by
    unfold starts
    rw [List.length_map]
    refine Nat.le_trans (List.length_filter_le _ _) ?_
    rw [List.length_range]
    exact hs
  have h2 : ∀ c ∈ starts s t, wtC c = 64 := fun c hc => by
    unfold starts at hc
    obtain ⟨a, _, rfl⟩ := List.mem_map.mp hc
    rfl
  have h3 : ∀ l : List (List Nat), (∀ c ∈ l, wtC c = 64) → wt l = l.length * 64 := by
    intro l
    induction l with
    | nil => intro _; rfl
    | cons c l ih =>
      intro h
      show wtC c + wt l = _
      rw [h c List.mem_cons_self, ih fun d hd => h d (List.mem_cons_of_mem _ hd), List.length_cons]
      omega
  rw [h3 _ h2]
  omega
theorem chains_small {s : Sg} (hs : s.L.length ≤ 7) (h1 : 1 ≤ s.r) (hr : s.r ≤ 3) (t : List Nat) : (chainsM s t).flatten.length ≤ 1344 := by
  obtain ⟨q1, q2⟩ := runC_small hs hr (t := t) (wt (starts s t)) (starts s t) [] (fun c hc => by
    unfold starts at hc
    obtain ⟨a, ha, rfl⟩ := List.mem_map.mp hc
    exact ⟨Nat.le_refl _, h1⟩) (fun c hc => nomatch hc)
  have h3 : ∀ l : List (List Nat), (∀ c ∈ l, c.length ≤ s.r) → l.flatten.length ≤ l.length * 3 := by
    intro l
    induction l with
    | nil => intro _; exact Nat.le_refl _
    | cons c l ih =>
      intro h
      rw [List.flatten_cons, List.length_append, List.length_cons]
      have q := ih fun d hd => h d (List.mem_cons_of_mem _ hd)
      have q' := h c List.mem_cons_self
      omega
  have q3 := h3 _ q2
  have q4 := wt_starts hs t
  rw [List.length_nil] at q1
  have q5 : (chainsM s t).length ≤ 0 + wt (starts s t) := q1
  have q6 : (chainsM s t).flatten.length ≤ (chainsM s t).length * 3 := q3
  omega
theorem mem_chainsM {s : Sg} (hs : s.L.length ≤ 7) (h1 : 1 ≤ s.r) (hr : s.r ≤ 3) {t : List Nat} {x : List Nat} : x ∈ chainsM s t ↔ ∃ a, a < s.L.length ∧ hi s t a = true ∧ x ∈ comp s t (s.r - 1) [a] := by
  unfold chainsM
  rw [mem_runC hs hr _ _ _ (Nat.le_refl _) fun c hc => ?_]
  · unfold starts
    constructor
    · rintro (h | ⟨c, hc, h⟩)
      · cases h
      · obtain ⟨a, ha, rfl⟩ := List.mem_map.mp hc
        rw [List.mem_filter, List.mem_range] at ha
        exact ⟨a, ha.1, ha.2, h⟩
    · rintro ⟨a, h1, h2, h3⟩
      exact .inr ⟨[a], List.mem_map.mpr ⟨a, List.mem_filter.mpr ⟨List.mem_range.mpr h1, h2⟩, rfl⟩, h3⟩
  · unfold starts at hc
    obtain ⟨a, ha, rfl⟩ := List.mem_map.mp hc
    exact ⟨Nat.le_refl _, h1⟩
/-- one lamp, then the rest -/
theorem endW_snoc (s : Sg) (c : List Nat) (a : Nat) : endW s (c ++ [a]) = sw s a := by
  unfold endW
  rw [List.getLastD_concat]
theorem mem_comp0 {s : Sg} {t : List Nat} {c : List Nat} {a : Nat} {x : List Nat} : x ∈ comp s t 0 (c ++ [a]) ↔ lo s t a = true ∧ x = c ++ [a] := by
  show x ∈ (if stt t (endW s (c ++ [a])) = 45 then [c ++ [a]] else []) ↔ _
  rw [endW_snoc]
  unfold lo
  by_cases h : stt t (sw s a) = 45
  · rw [if_pos h, beq_iff_eq.mpr h]
    simp
  · rw [if_neg h, beq_eq_false_iff_ne.mpr h]
    simp
theorem mem_compS {s : Sg} {t : List Nat} {k : Nat} {c : List Nat} {a : Nat} {x : List Nat} : x ∈ comp s t (k + 1) (c ++ [a]) ↔ (lo s t a = true ∧ x = c ++ [a]) ∨ ∃ b, b < s.L.length ∧ lk s t a b = true ∧ x ∈ comp s t k (c ++ [a] ++ [b]) := by
  show x ∈ (if stt t (endW s (c ++ [a])) = 45 then [c ++ [a]] else if stt t (endW s (c ++ [a])) = 48 then (exts s (c ++ [a])).flatMap (comp s t k) else []) ↔ _
  have hx : ∀ d, d ∈ exts s (c ++ [a]) ↔ ∃ b, b < s.L.length ∧ fw s b = sw s a ∧ d = c ++ [a] ++ [b] := fun d => by
    unfold exts nexts
    rw [endW_snoc, List.mem_map]
    constructor
    · rintro ⟨b, hb, rfl⟩
      rw [List.mem_filter, List.mem_range, beq_iff_eq] at hb
      exact ⟨b, hb.1, hb.2, rfl⟩
    · rintro ⟨b, h1, h2, rfl⟩
      exact ⟨b, List.mem_filter.mpr ⟨List.mem_range.mpr h1, beq_iff_eq.mpr h2⟩, rfl⟩
  rw [endW_snoc]
  unfold lo lk
  by_cases h : stt t (sw s a) = 45
  · rw [if_pos h, h]
    simp
  · rw [if_neg h]
    by_cases h2 : stt t (sw s a) = 48
    · rw [if_pos h2, List.mem_flatMap, h2]
      constructor
      · rintro ⟨d, hd, h⟩
        obtain ⟨b, h3, h4, rfl⟩ := (hx d).mp hd
        exact .inr ⟨b, h3, by simp [h4], h⟩
      · rintro (⟨h, _⟩ | ⟨b, h3, h4, h⟩)
        · simp at h
        · exact ⟨_, (hx _).mpr ⟨b, h3, by simp at h4; exact h4.symm, rfl⟩, h⟩
    · rw [if_neg h2, beq_eq_false_iff_ne.mpr h, beq_eq_false_iff_ne.mpr h2]
      simp
theorem mem_flat_chains {s : Sg} (ok : OkS s) {t : List Nat} {i : Nat} : i ∈ (chainsM s t).flatten ↔ Lit s t i := by
  rw [List.mem_flatten]
  have h := fun x => mem_chainsM (x := x) (t := t) ok.l7 ok.r1 ok.r3
  unfold Lit c1 c2 c3
  have hr : s.r = 1 ∨ s.r = 2 ∨ s.r = 3 := by
    have q1 := ok.r1
    have q2 := ok.r3
    omega
  constructor
  · rintro ⟨x, hx, hi'⟩
    obtain ⟨a, ha, hh, hc⟩ := (h x).mp hx
    rcases hr with e | e | e
    · rw [e] at hc
      obtain ⟨hl, rfl⟩ := mem_comp0 (c := []).mp hc
      simp at hi'
      subst hi'
      exact .inl ⟨ha, by simp [hh, hl]⟩
    · rw [e] at hc
      rcases mem_compS (k := 0) (c := []).mp hc with ⟨hl, rfl⟩ | ⟨b, hb, hlk, hc⟩
      · simp at hi'
        subst hi'
        exact .inl ⟨ha, by simp [hh, hl]⟩
      · obtain ⟨hl, rfl⟩ := mem_comp0.mp hc
        refine .inr (.inl ⟨by omega, a, b, ha, hb, by simp [hh, hl, hlk], by simpa using hi'⟩)
    · rw [e] at hc
      rcases mem_compS (k := 1) (c := []).mp hc with ⟨hl, rfl⟩ | ⟨b, hb, hlk, hc⟩
      · simp at hi'
        subst hi'
        exact .inl ⟨ha, by simp [hh, hl]⟩
      · rcases mem_compS (k := 0).mp hc with ⟨hl, rfl⟩ | ⟨c, hcl, hlk2, hc⟩
        · exact .inr (.inl ⟨by omega, a, b, ha, hb, by simp [hh, hl, hlk], by simpa using hi'⟩)
        · obtain ⟨hl, rfl⟩ := mem_comp0.mp hc
          exact .inr (.inr ⟨by omega, a, b, c, ha, hb, hcl, by simp [hh, hl, hlk, hlk2], by simpa using hi'⟩)
  · rintro (⟨ha, hc⟩ | ⟨h2, a, b, ha, hb, hc, hi'⟩ | ⟨h3, a, b, c, ha, hb, hcl, hc, hi'⟩)
    · simp at hc
      refine ⟨[i], (h [i]).mpr ⟨i, ha, hc.1, ?_⟩, by simp⟩
      rcases hr with e | e | e
      · rw [e]
        exact mem_comp0 (c := []).mpr ⟨hc.2, rfl⟩
      · rw [e]
        exact mem_compS (k := 0) (c := []).mpr (.inl ⟨hc.2, rfl⟩)
      · rw [e]
        exact mem_compS (k := 1) (c := []).mpr (.inl ⟨hc.2, rfl⟩)
    · simp at hc
      refine ⟨[a, b], (h [a, b]).mpr ⟨a, ha, hc.1, ?_⟩, by simpa using hi'⟩
      rcases hr with e | e | e
      · omega
      · rw [e]
        exact mem_compS (k := 0) (c := []).mpr (.inr ⟨b, hb, hc.2.1, mem_comp0.mpr ⟨hc.2.2, rfl⟩⟩)
      · rw [e]
        exact mem_compS (k := 1) (c := []).mpr (.inr ⟨b, hb, hc.2.1, mem_compS.mpr (.inl ⟨hc.2.2, rfl⟩)⟩)
    · simp at hc
      refine ⟨[a, b, c], (h [a, b, c]).mpr ⟨a, ha, hc.1, ?_⟩, by simpa using hi'⟩
      rcases hr with e | e | e
      · omega
      · omega
      · rw [e]
        exact mem_compS (k := 1) (c := []).mpr (.inr ⟨b, hb, hc.2.1, mem_compS.mpr (.inr ⟨c, hcl, hc.2.2.1, mem_comp0.mpr ⟨hc.2.2.2, rfl⟩⟩)⟩)
end LW

set_option linter.all false
namespace LW
/-! ### the draws -/
abbrev Tw := Nat × Nat
def bigN : Nat := 10 ^ 60 * 10 ^ 60
def drawM (ns : List Int) (tw : Tw) (m : Nat) : Nat × Tw :=
  if 0 < tw.2 then (tw.2 % m, (tw.1, tw.2 / m))
  else if ns = [] then (tw.1 % m, (tw.1 + 1, 0))
  else if tw.1 < ns.length ∧ 10 ^ 18 ≤ ns.getD tw.1 0 then ((ns.getD tw.1 0).toNat % m, (tw.1 + 1, (ns.getD tw.1 0).toNat / m % bigN))
  else (((ns.getD (tw.1 % ns.length) 0 * 1103515245 + 7919 * (tw.1 : Int) + 12345) % 2147483647).toNat ^ 5 % 2147483647 % 999983 % m, (tw.1 + 1, 0))
theorem drawM_lt (ns : List Int) (tw : Tw) {m : Nat} (h : 0 < m) : (drawM ns tw m).1 < m := by
  unfold drawM
  split
  · exact Nat.mod_lt _ h
  · split
    · exact Nat.mod_lt _ h
    · split
      · exact Nat.mod_lt _ h
      · exact Nat.mod_lt _ h
/-- all pairs of different wires -/
def pairsM (w : Nat) : List (Nat × Nat) := ((List.range (w * w)).filter fun a => a / w != a % w).map fun a => (a / w, a % w)
def popM (ns : List Int) : Nat → List (Nat × Nat) → List (Nat × Nat) → Tw → List (Nat × Nat) × Tw
  | 0, _, ls, tw => (ls, tw)
  | k + 1, ps, ls, tw => if ps = [] then popM ns k ps ls tw else popM ns k (ps.eraseIdx (drawM ns tw ps.length).1) (ls ++ [ps.getD (drawM ns tw ps.length).1 (0, 0)]) (drawM ns tw ps.length).2
def wiresM (ns : List Int) (tw : Tw) : Nat := ([2, 3, 3, 4, 4, 5] : List Nat).getD (drawM ns tw 6).1 0
def signM (ns : List Int) (tw : Tw) (most : Nat) : Sg × Tw :=
  let w := wiresM ns tw
  let t1 := (drawM ns tw 6).2
  let q := popM ns (1 + (drawM ns t1 most).1) (pairsM w) [] (drawM ns t1 most).2
  (⟨w, q.1, 1 + (drawM ns q.2 3).1⟩, (drawM ns q.2 3).2)
theorem wiresM_ok (ns : List Int) (tw : Tw) : 2 ≤ wiresM ns tw ∧ wiresM ns tw ≤ 5 := by
  have h := drawM_lt ns tw (m := 6) (by decide)
  unfold wiresM
  generalize (drawM ns tw 6).1 = i at h
  match i, h with
  | 0, _ => decide
  | 1, _ => decide
  | 2, _ => decide
  | 3, _ => decide
  | 4, _ => decide
  | 5, _ => decide
theorem pairsM_ok {w : Nat} (hw : 0 < w) : ∀ p ∈ pairsM w, p.1 < w ∧ p.2 < w ∧ p.1 ≠ p.2 := fun p hp => by
  unfold pairsM at hp
  obtain ⟨a, ha, rfl⟩ := List.mem_map.mp hp
  rw [List.mem_filter, List.mem_range] at ha
  exact ⟨Nat.div_lt_of_lt_mul ha.1, Nat.mod_lt _ hw, by simpa using ha.2⟩
theorem pairsM_nd {w : Nat} (h2 : 2 ≤ w) (h5 : w ≤ 5) : (pairsM w).Nodup := by
  have h : w = 2 ∨ w = 3 ∨ w = 4 ∨ w = 5 := by omega
  rcases h with rfl | rfl | rfl | rfl <;> decide
theorem pairsM_ne {w : Nat} (h2 : 2 ≤ w) (h5 : w ≤ 5) : pairsM w ≠ [] := by
  have h : w = 2 ∨ w = 3 ∨ w = 4 ∨ w = 5 := by omega
  rcases h with rfl | rfl | rfl | rfl <;> decide
theorem pairsM_len {w : Nat} (h5 : w ≤ 5) : (pairsM w).length ≤ 25 := by
  unfold pairsM
  rw [List.length_map]
  refine Nat.le_trans (List.length_filter_le _ _) ?_
  rw [List.length_range]
  exact Nat.mul_le_mul h5 h5
theorem erase_perm {α : Type} : ∀ {l : List α} {i : Nat} (h : i < l.length), (l[i] :: l.eraseIdx i).Perm l
  | x :: l, 0, _ => List.Perm.refl _
  | x :: l, i + 1, h => (List.Perm.swap x _ (l.eraseIdx i)).trans ((erase_perm (l := l) (i := i) (Nat.lt_of_succ_lt_succ h)).cons x)
theorem popM_ok (ns : List Int) {A : Nat × Nat → Prop} : ∀ (k : Nat) (ps ls : List (Nat × Nat)) (tw : Tw), (∀ p ∈ ps, A p) → (∀ p ∈ ls, A p) → (ls ++ ps).Nodup →
    (∀ p ∈ (popM ns k ps ls tw).1, A p) ∧ (popM ns k ps ls tw).1.Nodup ∧ (popM ns k ps ls tw).1.length ≤ ls.length + k ∧ ls.length ≤ (popM ns k ps ls tw).1.length ∧ (0 < k → ps ≠ [] → ls.length + 1 ≤ (popM ns k ps ls tw).1.length)
  | 0, ps, ls, tw, h1, h2, h3 => ⟨h2, (List.nodup_append.mp h3).1, Nat.le_refl _, Nat.le_refl _, fun h => absurd h (Nat.lt_irrefl _)⟩
  | k + 1, ps, ls, tw, h1, h2, h3 => by
    by_cases hp : ps = []
    · have e : popM ns (k + 1) ps ls tw = popM ns k ps ls tw := by
        show (if ps = [] then _ else _) = _
        rw [if_pos hp]
      rw [e]
      obtain ⟨g1, g2, g3, g4, g5⟩ := popM_ok ns k ps ls tw h1 h2 h3
      exact ⟨g1, g2, by omega, g4, fun _ z => absurd hp z⟩
    · have e : popM ns (k + 1) ps ls tw = popM ns k (ps.eraseIdx (drawM ns tw ps.length).1) (ls ++ [ps.getD (drawM ns tw ps.length).1 (0, 0)]) (drawM ns tw ps.length).2 := by
        show (if ps = [] then _ else _) = _
        rw [if_neg hp]
      rw [e]
      have hlt := drawM_lt ns tw (m := ps.length) (List.length_pos_iff.mpr hp)
      generalize (drawM ns tw ps.length).1 = i at hlt
      generalize (drawM ns tw ps.length).2 = tw'
      have hg : ps.getD i (0, 0) = ps[i] := by
        rw [List.getD_eq_getElem?_getD, List.getElem?_eq_getElem hlt]
        rfl
      rw [hg]
      have sub : ∀ p ∈ ps.eraseIdx i, p ∈ ps := fun p hp => (List.eraseIdx_sublist ps i).subset hp
      have perm : (ls ++ [ps[i]] ++ ps.eraseIdx i).Perm (ls ++ ps) := by
        rw [List.append_assoc]
        refine List.Perm.append_left ls ?_
        rw [List.singleton_append]
        exact erase_perm hlt
      have h4 : ∀ p ∈ ls ++ [ps[i]], A p := fun p hp => by
        rcases List.mem_append.mp hp with z | z
        · exact h2 p z
        · rw [List.mem_singleton.mp z]
          exact h1 _ (List.getElem_mem hlt)
      obtain ⟨g1, g2, g3, g4, g5⟩ := popM_ok ns k (ps.eraseIdx i) (ls ++ [ps[i]]) tw' (fun p hp => h1 p (sub p hp)) h4 (perm.nodup_iff.mpr h3)
      rw [List.length_append, List.length_singleton] at g3 g4
      exact ⟨g1, g2, by omega, by omega, fun _ _ => by omega⟩
theorem signM_ok (ns : List Int) (tw : Tw) {most : Nat} (h1 : 1 ≤ most) (h7 : most ≤ 7) : OkS (signM ns tw most).1 ∧ (signM ns tw most).1.L.length ≤ most := by
  obtain ⟨w2, w5⟩ := wiresM_ok ns tw
  have hd := drawM_lt ns (drawM ns tw 6).2 (m := most) h1
  obtain ⟨g1, g2, g3, g4, g5⟩ := popM_ok ns (A := fun p => p.1 < wiresM ns tw ∧ p.2 < wiresM ns tw ∧ p.1 ≠ p.2) (1 + (drawM ns (drawM ns tw 6).2 most).1) (pairsM (wiresM ns tw)) [] (drawM ns (drawM ns tw 6).2 most).2 (pairsM_ok (by omega)) (fun p hp => nomatch hp) (by rw [List.nil_append]; exact pairsM_nd w2 w5)
  have g6 := g5 (by omega) (pairsM_ne w2 w5)
  rw [List.length_nil] at g3 g6
  have hd3 := drawM_lt ns (popM ns (1 + (drawM ns (drawM ns tw 6).2 most).1) (pairsM (wiresM ns tw)) [] (drawM ns (drawM ns tw 6).2 most).2).2 (m := 3) (by decide)
  refine ⟨⟨w2, w5, ?_, ?_, g1, g2, Nat.le_add_right _ _, ?_⟩, ?_⟩
  · show 1 ≤ List.length _
    exact g6
  · refine Nat.le_trans g3 ?_
    omega
  · show 1 + _ ≤ 3
    omega
  · refine Nat.le_trans g3 ?_
    omega
/-- a turn -/
def turnM (ns : List Int) : Nat → Tw → List Nat × Tw
  | 0, tw => ([], tw)
  | k + 1, tw => ((([43, 45, 48] : List Nat).getD (drawM ns tw 3).1 0) :: (turnM ns k (drawM ns tw 3).2).1, (turnM ns k (drawM ns tw 3).2).2)
theorem turnM_len (ns : List Int) : ∀ (k : Nat) (tw : Tw), (turnM ns k tw).1.length = k
  | 0, _ => rfl
  | k + 1, tw => by
    show (turnM ns k _).1.length + 1 = _
    rw [turnM_len ns k]
theorem sign3 {i : Nat} (h : i < 3) : ([43, 45, 48] : List Nat).getD i 0 = 43 ∨ ([43, 45, 48] : List Nat).getD i 0 = 45 ∨ ([43, 45, 48] : List Nat).getD i 0 = 48 := by
  match i, h with
  | 0, _ => exact .inl rfl
  | 1, _ => exact .inr (.inl rfl)
  | 2, _ => exact .inr (.inr rfl)
theorem turnM_ok (ns : List Int) : ∀ (k : Nat) (tw : Tw), ∀ c ∈ (turnM ns k tw).1, c = 43 ∨ c = 45 ∨ c = 48
  | 0, _, c, h => nomatch h
  | k + 1, tw, c, h => by
    rcases List.mem_cons.mp h with e | e
    · rw [e]
      exact sign3 (drawM_lt ns tw (by decide))
    · exact turnM_ok ns k _ c e
theorem turnM_okT (ns : List Int) (s : Sg) (tw : Tw) : OkT s (turnM ns s.w tw).1 := ⟨turnM_len ns _ _, turnM_ok ns _ _⟩
theorem turnM_snoc (ns : List Int) : ∀ (k : Nat) (tw : Tw), turnM ns (k + 1) tw = ((turnM ns k tw).1 ++ [([43, 45, 48] : List Nat).getD (drawM ns (turnM ns k tw).2 3).1 0], (drawM ns (turnM ns k tw).2 3).2)
  | 0, tw => rfl
  | k + 1, tw => by
    have ih := turnM_snoc ns k (drawM ns tw 3).2
    show (_ :: (turnM ns (k + 1) (drawM ns tw 3).2).1, (turnM ns (k + 1) (drawM ns tw 3).2).2) = _
    rw [ih]
    rfl

/-! ### the law's own way to the lamps that glow -/
def firstM (s : Sg) (t : List Nat) : List Nat := (List.range s.L.length).filter (hi s t)
def lastM (s : Sg) (t : List Nat) : List Nat := (List.range s.L.length).filter (lo s t)
def restM (s : Sg) (t : List Nat) (b : Nat) : List Nat := (lastM s t).filter fun a => fw s a == sw s b
def stepM (s : Sg) (t : List Nat) (a b : Nat) : List Nat :=
  if (sw s a == fw s b) && (stt t (fw s b) == 48) then
    (if b ∈ lastM s t then [a, b] else []) ++ (if 2 < s.r ∧ stt t (sw s b) = 48 then restM s t b ++ (if restM s t b ≠ [] then [a, b] else []) else [])
  else []
def lawF (s : Sg) (t : List Nat) : List Nat :=
  (firstM s t).filter (fun a => decide (a ∈ lastM s t)) ++ (if 1 < s.r then (firstM s t).flatMap fun a => (List.range s.L.length).flatMap (stepM s t a) else [])
theorem mem_first {s : Sg} {t : List Nat} {a : Nat} : a ∈ firstM s t ↔ a < s.L.length ∧ hi s t a = true := by
  unfold firstM
  rw [List.mem_filter, List.mem_range]
theorem mem_last {s : Sg} {t : List Nat} {a : Nat} : a ∈ lastM s t ↔ a < s.L.length ∧ lo s t a = true := by
  unfold lastM
  rw [List.mem_filter, List.mem_range]
theorem mem_rest {s : Sg} {t : List Nat} {a b : Nat} : a ∈ restM s t b ↔ a < s.L.length ∧ lo s t a = true ∧ fw s a = sw s b := by
  unfold restM
  rw [List.mem_filter, mem_last, beq_iff_eq, and_assoc]
theorem lk_iff {s : Sg} {t : List Nat} {a b : Nat} : lk s t a b = true ↔ sw s a = fw s b ∧ stt t (sw s a) = 48 := by
  unfold lk
  rw [Bool.and_eq_true, beq_iff_eq, beq_iff_eq]
theorem mem_step {s : Sg} {t : List Nat} {a b x : Nat} (hb : b < s.L.length) : x ∈ stepM s t a b ↔ lk s t a b = true ∧ ((lo s t b = true ∧ (x = a ∨ x = b)) ∨ (3 ≤ s.r ∧ ∃ c, c < s.L.length ∧ lk s t b c = true ∧ lo s t c = true ∧ (x = a ∨ x = b ∨ x = c))) := by
  unfold stepM
  by_cases h : sw s a = fw s b ∧ stt t (fw s b) = 48
  · rw [if_pos (by rw [Bool.and_eq_true, beq_iff_eq, beq_iff_eq]; exact h)]
    have hl : lk s t a b = true := lk_iff.mpr ⟨h.1, by rw [h.1]; exact h.2⟩
    rw [hl, List.mem_append]
    simp only [true_and]
    have e1 : (x ∈ if b ∈ lastM s t then [a, b] else []) ↔ lo s t b = true ∧ (x = a ∨ x = b) := by
      by_cases hm : b ∈ lastM s t
      · rw [if_pos hm]
        simp [(mem_last.mp hm).2]
      · rw [if_neg hm]
        have q : ¬ lo s t b = true := fun z => hm (mem_last.mpr ⟨hb, z⟩)
        simp [q]
    rw [e1]
    refine or_congr Iff.rfl ?_
    by_cases h2 : 2 < s.r ∧ stt t (sw s b) = 48
    · rw [if_pos h2, List.mem_append]
      constructor
      · rintro (hx | hx)
        · obtain ⟨q1, q2, q3⟩ := mem_rest.mp hx
          exact ⟨h2.1, x, q1, lk_iff.mpr ⟨q3.symm, h2.2⟩, q2, .inr (.inr rfl)⟩
        · by_cases hr : restM s t b ≠ []
          · rw [if_pos hr] at hx
            obtain ⟨c, hc⟩ := List.exists_mem_of_ne_nil _ hr
            obtain ⟨q1, q2, q3⟩ := mem_rest.mp hc
            refine ⟨h2.1, c, q1, lk_iff.mpr ⟨q3.symm, h2.2⟩, q2, ?_⟩
            simp at hx
            rcases hx with z | z
            · exact .inl z
            · exact .inr (.inl z)
          · rw [if_neg hr] at hx
            cases hx
      · rintro ⟨_, c, q1, q2, q3, hx⟩
        have hm : c ∈ restM s t b := mem_rest.mpr ⟨q1, q3, (lk_iff.mp q2).1.symm⟩
        have hne : restM s t b ≠ [] := List.ne_nil_of_mem hm
        rw [if_pos hne]
        rcases hx with z | z | z
        · exact .inr (by simp [z])
        · exact .inr (by simp [z])
        · rw [z]
          exact .inl hm
    · rw [if_neg h2]
      constructor
      · intro z
        cases z
      · rintro ⟨q0, c, q1, q2, _⟩
        exact absurd ⟨q0, (lk_iff.mp q2).2⟩ h2
  · rw [if_neg (by rw [Bool.and_eq_true, beq_iff_eq, beq_iff_eq]; exact h)]
    constructor
    · intro z
      cases z
    · rintro ⟨hl, _⟩
      have q := lk_iff.mp hl
      exact absurd ⟨q.1, by rw [← q.1]; exact q.2⟩ h
theorem mem_lawF {s : Sg} {t : List Nat} {x : Nat} : x ∈ lawF s t ↔ Lit s t x := by
  unfold lawF Lit c1 c2 c3
  rw [List.mem_append, List.mem_filter]
  have e1 : (x ∈ firstM s t ∧ decide (x ∈ lastM s t) = true) ↔ x < s.L.length ∧ (hi s t x && lo s t x) = true := by
    rw [mem_first, decide_eq_true_iff, mem_last, Bool.and_eq_true]
    exact ⟨fun ⟨⟨q1, q2⟩, _, q3⟩ => ⟨q1, q2, q3⟩, fun ⟨q1, q2, q3⟩ => ⟨⟨q1, q2⟩, q1, q3⟩⟩
  rw [e1]
  refine or_congr Iff.rfl ?_
  by_cases hr : 1 < s.r
  · rw [if_pos hr, List.mem_flatMap]
    simp only [List.mem_flatMap, List.mem_range, Bool.and_eq_true]
    constructor
    · rintro ⟨a, ha, b, hb, hx⟩
      obtain ⟨ha1, ha2⟩ := mem_first.mp ha
      obtain ⟨hl, q | ⟨q0, c, q1, q2, q3, q4⟩⟩ := (mem_step hb).mp hx
      · exact .inl ⟨hr, a, b, ha1, hb, ⟨ha2, hl, q.1⟩, q.2⟩
      · exact .inr ⟨q0, a, b, c, ha1, hb, q1, ⟨ha2, hl, q2, q3⟩, q4⟩
    · rintro (⟨_, a, b, ha, hb, ⟨q1, q2, q3⟩, q4⟩ | ⟨q0, a, b, c, ha, hb, hc, ⟨q1, q2, q3, q4⟩, q5⟩)
      · exact ⟨a, mem_first.mpr ⟨ha, q1⟩, b, hb, (mem_step hb).mpr ⟨q2, .inl ⟨q3, q4⟩⟩⟩
      · exact ⟨a, mem_first.mpr ⟨ha, q1⟩, b, hb, (mem_step hb).mpr ⟨q2, .inr ⟨q0, c, hc, q3, q4, q5⟩⟩⟩
  · rw [if_neg hr]
    constructor
    · intro z
      cases z
    · rintro (⟨q, _⟩ | ⟨q, _⟩)
      · omega
      · omega
/-! ### what k01 asks -/
theorem lit_mono {s s' : Sg} {t : List Nat} {i : Nat} (hL : s'.L = s.L) (hr : s.r ≤ s'.r) (h : Lit s t i) : Lit s' t i := by
  have e1 : ∀ a, fw s' a = fw s a := fun a => by unfold fw; rw [hL]
  have e2 : ∀ a, sw s' a = sw s a := fun a => by unfold sw; rw [hL]
  have h1 : ∀ a, hi s' t a = hi s t a := fun a => by unfold hi; rw [e1]
  have h2 : ∀ a, lo s' t a = lo s t a := fun a => by unfold lo; rw [e2]
  have h3 : ∀ a b, lk s' t a b = lk s t a b := fun a b => by unfold lk; rw [e1, e2]
  unfold Lit c1 c2 c3 at h ⊢
  simp only [h1, h2, h3, hL]
  rcases h with h | ⟨q, h⟩ | ⟨q, h⟩
  · exact .inl h
  · exact .inr (.inl ⟨by omega, h⟩)
  · exact .inr (.inr ⟨by omega, h⟩)
theorem glow_all {s : Sg} {t : List Nat} (c : Nat) (hc : c ≠ 43 ∨ c ≠ 45) (h2 : c ≠ 43 ∨ c = 43) (ht : ∀ w, stt t w = c ∨ stt t w = 0) : (c = 43 → glowM s t = []) ∧ (c ≠ 43 → glowM s t = []) := by
  have key : ∀ i, ¬ Lit s t i := fun i h => by
    unfold Lit c1 c2 c3 hi lo lk at h
    simp only [Bool.and_eq_true, beq_iff_eq] at h
    rcases h with ⟨_, h1, h2⟩ | ⟨_, a, b, _, _, ⟨h1, ⟨_, h3⟩, h2⟩, _⟩ | ⟨_, a, b, c', _, _, _, ⟨h1, ⟨_, h3⟩, _, h2⟩, _⟩
    · rcases ht (fw s i) with z | z <;> rcases ht (sw s i) with y | y <;> omega
    · rcases ht (fw s a) with z | z <;> rcases ht (sw s b) with y | y <;> omega
    · rcases ht (fw s a) with z | z <;> rcases ht (sw s c') with y | y <;> omega
  have q : glowM s t = [] := by
    refine List.eq_nil_iff_forall_not_mem.mpr fun x hx => ?_
    obtain ⟨i, _, h⟩ := mem_glowM.mp hx
    exact key i h
  exact ⟨fun _ => q, fun _ => q⟩
end LW

set_option Elab.async false
set_option linter.all false
set_option maxRecDepth 100000
namespace LW
open PySem PySem.Spec PyProof.Rows L2
def eI (n : Nat) : PyData := .int (n : Int)
def encL (p : Nat × Nat) : PyData := .tuple [eI p.1, eI p.2]
def encS (s : Sg) : PyData := .tuple [eI s.w, .tuple (s.L.map encL), eI s.r]
def tS (t : List Nat) : Str := ⟨t.toArray⟩
def encT (t : List Nat) : PyData := .str (tS t)
def encP (p : List Int) : PyData := .tuple (p.map PyData.int)
theorem tS_len (t : List Nat) : (tS t).length = t.length := by
  show t.toArray.size = _
  exact List.size_toArray
theorem tS_list (t : List Nat) : (tS t).cps.toList = t := rfl
theorem tS_inj {a b : List Nat} : tS a = tS b ↔ a = b := by
  constructor
  · intro h
    have q := congrArg (fun x : Str => x.cps.toList) h
    exact q
  · intro h
    rw [h]
theorem tS_append (a b : List Nat) : tS a ++ tS b = tS (a ++ b) := by
  show Str.mk _ = _
  unfold tS
  first | (congr 1; simp) | (simp)
theorem sgn_eq (c d : Nat) : decide ((⟨#[c]⟩ : Str) = ⟨#[d]⟩) = decide (c = d) := by
  by_cases h : c = d
  · rw [h, decide_eq_true rfl, decide_eq_true rfl]
  · rw [decide_eq_false h, decide_eq_false fun z => ?_]
    have q := congrArg (fun x : Str => x.cps.toList) z
    simp at q
    exact h q
theorem atI_get {α : Type} {xs : List α} {i : Nat} {x : α} (h : xs[i]? = some x) : atI xs (i : Int) = some x := atI_nat h
theorem stt_at {t : List Nat} {w : Nat} (h : w < t.length) : atI (tS t).cps.toList (w : Int) = some (stt t w) := by
  rw [tS_list]
  refine atI_get ?_
  unfold stt
  rw [List.getD_eq_getElem?_getD, List.getElem?_eq_getElem h]
  rfl
theorem lamp_at {s : Sg} {i : Nat} (h : i < s.L.length) : (s.L.map encL)[i]? = some (encL (s.L.getD i (0, 0))) := by
  rw [List.getElem?_map, List.getD_eq_getElem?_getD, List.getElem?_eq_getElem h]
  rfl
theorem OkS.lamp {s : Sg} (ok : OkS s) {i : Nat} (h : i < s.L.length) : fw s i < s.w ∧ sw s i < s.w := by
  have q := ok.ok (s.L.getD i (0, 0)) (by
    rw [List.getD_eq_getElem?_getD, List.getElem?_eq_getElem h]
    exact List.getElem_mem h)
  exact ⟨q.1, q.2.1⟩
theorem sh_S (s : Sg) : Sh 4 (encS s) := sh_tuple (sha_cons sh_int (sha_cons (sh_tuple (sha_map fun p _ => sh_tuple (n := 1) (sha_cons sh_int (sha_cons sh_int sha_nil)))) (sha_cons sh_int sha_nil)))
theorem sh_P (p : List Int) : Sh 1 (encP p) := sh_tuple (sha_ints p)
theorem eqv_ints : ∀ (a b : List Int), PyData.eqvAll (a.map PyData.int) (b.map PyData.int) = decide (a = b)
  | [], [] => by simp [PyData.eqvAll]
  | [], y :: b => by simp [PyData.eqvAll]
  | x :: a, [] => by simp [PyData.eqvAll]
  | x :: a, y :: b => by
    simp only [List.map_cons, PyData.eqvAll, PyData.eqv, eqv_ints a b]
    by_cases h1 : x = y
    · subst h1
      simp
    · simp [h1]
theorem eqv_list (a b : List Int) : PyData.eqv (.list (a.map PyData.int)) (.list (b.map PyData.int)) = decide (a = b) := by
  simp only [PyData.eqv, eqv_ints]
theorem eqv_tup (a b : List Int) : PyData.eqv (.tuple (a.map PyData.int)) (.tuple (b.map PyData.int)) = decide (a = b) := by
  simp only [PyData.eqv, eqv_ints]
/-- sorted distinct numbers of the chains -/
def castN (l : List Nat) : List Int := l.map fun (i : Nat) => (i : Int)
theorem mem_castN {l : List Nat} {x : Int} : x ∈ castN l ↔ ∃ i : Nat, x = i ∧ i ∈ l := by
  unfold castN
  rw [List.mem_map]
  exact ⟨fun ⟨i, h, e⟩ => ⟨i, e.symm, h⟩, fun ⟨i, e, h⟩ => ⟨i, h, e.symm⟩⟩
theorem sd_chains {s : Sg} (ok : OkS s) (t : List Nat) : sd (castN (chainsM s t).flatten) = glowM s t := by
  refine (sd_of (glowM_sorted s t) fun z => ?_).symm
  rw [mem_glowM, mem_castN]
  exact exists_congr fun i => and_congr Iff.rfl (mem_flat_chains ok).symm
theorem sd_lawF (s : Sg) (t : List Nat) : sd (castN (lawF s t)) = glowM s t := by
  refine (sd_of (glowM_sorted s t) fun z => ?_).symm
  rw [mem_glowM, mem_castN]
  exact exists_congr fun i => and_congr Iff.rfl mem_lawF.symm
end LW

set_option Elab.async false
set_option linter.all false
set_option maxRecDepth 100000
namespace LW
open PySem PySem.Spec PyProof.Rows L2
/-! ### the script -/
section
variable {K : PySem.W.Frag} {ρ : List Sl} {cs cs1 cs2 cs3 : Cs} {te ta tb : TE} {tr : TA} {z z1 z2 : Sl} {p : Addr} {ns : List Int} {i n : Int} {k : Nat}
/-- the script: a cell, or an object of the module -/
def Scr (K : PySem.W.Frag) (a : Addr) (ns : List Int) (sc : Cs) : Prop := sc = [(a, .scr ns)] ∨ (sc = [] ∧ ∀ H : Hp, SqL K H a (ns.map V.int))
def ScrIn (K : PySem.W.Frag) (cs : Cs) (a : Addr) (ns : List Int) : Prop := (a, Ce.scr ns) ∈ cs ∨ ∀ H : Hp, SqL K H a (ns.map V.int)
theorem Scr.inn {a : Addr} {sc : Cs} (h : Scr K a ns sc) (k : Nat) (hd : cs.drop k = sc) : ScrIn K cs a ns := by
  rcases h with h | ⟨_, h⟩
  · refine .inl (List.mem_of_mem_drop (i := k) ?_)
    rw [hd, h]
    exact List.mem_singleton.mpr rfl
  · exact .inr h
theorem Scr.nd {a : Addr} {sc : Cs} (h : Scr K a ns sc) : (sc.map (·.1)).Nodup := by
  rcases h with h | ⟨h, _⟩
  · rw [h]
    simp
  · rw [h]
    exact .nil
theorem sc_at {sc : Cs} (k : Nat) (hd : cs.drop (k + 1) = sc) : ∀ x ∈ sc, ∃ j, j ≠ k ∧ cs[j]? = some x := fun x hx => by
  rw [← hd] at hx
  obtain ⟨i, hi⟩ := List.mem_iff_getElem?.mp hx
  rw [List.getElem?_drop] at hi
  exact ⟨k + 1 + i, by omega, hi⟩
theorem ScrIn.sq {a : Addr} {G H : Hp} (h : ScrIn K cs a ns) (ok : CsOk K G H cs) : SqL K H a (ns.map V.int) := by
  rcases h with h | h
  · exact .inl (ok.is _ h).2.2
  · exact h H
theorem dpInts {H : Hp} : ∀ ns : List Int, DpAll K H (ns.map V.int) (ns.map PyData.int)
  | [] => .nil
  | n :: ns => .cons (.int n) (dpInts ns)
theorem opd_eqScr (hk : ScrIn K cs p ns) : OpD K (rEqM K) (.raw (.ref p)) (.dat (.list [])) cs (.dat (.bool (decide (ns = [])))) := fun x y G H hx hy ex ok Q q => by
  cases hx
  have hy' : Dt H (.list []) y := Dt.mono ex _ _ hy
  refine .inr ⟨.list (ns.map PyData.int), .list [], .lst (hk.sq ok) (dpInts ns), Dt.dp _ _ hy', Sh.ok (n := 1) (sh_list (sha_ints ns)) (by decide), Sh.ok (n := 1) (sh_list sha_nil) (by decide), ?_⟩
  rw [show PyData.eqv (.list (ns.map PyData.int)) (.list []) = decide (ns = []) from eqv_list ns []]
  exact q _ G H (.refl ex) rfl
theorem cd_lenScr (hk : ScrIn K cs p ns) : CallD K (rLenM K) [.raw (.ref p)] cs (.dat (.int (ns.length : Int))) := fun vs G H hv ex ok Q q => by
  obtain ⟨v, rfl, h1⟩ := hv.one
  cases h1
  refine .inl ⟨p, ns.map V.int, rfl, .inl (hk.sq ok), ?_⟩
  rw [List.length_map]
  exact q _ G H (.refl ex) rfl
theorem opd_ixScr {j : Nat} (hk : ScrIn K cs p ns) (hj : j < ns.length) : OpD K (rIx K) (.raw (.ref p)) (.dat (.int (j : Int))) cs (.dat (.int (ns.getD j 0))) := fun x y G H hx hy ex ok Q q => by
  cases hx
  cases hy
  refine .inl ⟨p, ns.map V.int, (j : Int), .int (ns.getD j 0), rfl, rfl, hk.sq ok, atI_nat ?_, q _ G H (.refl ex) rfl⟩
  rw [List.getElem?_map, List.getD_eq_getElem?_getD, List.getElem?_eq_getElem hj]
  rfl
theorem get_K {X : Cx} (K : PySem.W.Frag) (h : X.K = K := by rfl) : PGet X (rGetL K) := by
  subst h
  exact get_list
def rJoin (K : PySem.W.Frag) : V → List V → Hp → VK → Prop := fun x xs H Q => ∃ a p, ∃ ys : List Str, x = .str a ∧ xs = [.ref p] ∧ (SqL K H p (ys.map V.str) ∨ SqT K H p (ys.map V.str)) ∧
      (ys.map (·.length)).sum + ys.length * a.length ≤ 16777216 ∧ Q (.str (Txt.join a ys)) H
theorem join_K {X : Cx} {o e : Expr} {to te : TE} {apos pos : Pos} (K : PySem.W.Frag) (ho : PE X o to) (he : PE X e te) (hs : starEach [e] X.env = [(false, eval e X.env)] := by rfl) (hbase : attributeBase o "join" X.env (eval o X.env) = eval o X.env := by rfl) (hline : (apos.endLine == pos.line) = true := by rfl) (h : X.K = K := by rfl) :
    PE X (.Call (.Attribute o "join" apos) [e] [] pos) (tM1 (rJoin K) to te) := by
  subst h
  exact pe_join ho he hs hbase hline
theorem ev_join {a : Str} {ys : List Str} (h1 : Ev K ta ρ cs (.dat (.str a)) cs1) (h2 : Ev K tb ρ cs1 z cs2) (hz : Rds cs2 z (.list (ys.map PyData.str))) (hl : (ys.map (·.length)).sum + ys.length * a.length ≤ 100000) : Ev K (tM1 (rJoin K) ta tb) ρ cs (.dat (.str (Txt.join a ys))) cs2 := fun G σ H ok Q q =>
  h1 G σ H ok _ fun v G1 H1 f1 ok1 e1 => by
    cases e1
    refine ⟨⟨a, rfl⟩, h2 G1 σ H1 ok1 _ fun y G2 H2 f2 ok2 e2 => ?_⟩
    obtain ⟨p, vs, rfl, hp, dv⟩ := hz.list e2 ok2.ex ok2.ce
    have e := dv.strs
    subst e
    exact ⟨a, p, ys, rfl, rfl, .inl (.inl (.inl hp)), by omega, q _ G2 H2 (f1.trans f2) ok2 rfl⟩
end
end LW

set_option Elab.async false
set_option linter.all false
set_option maxRecDepth 100000
namespace LW
open PySem PySem.Spec PyProof.Rows L2
section
variable {K : PySem.W.Frag} {ρ : List Sl} {cs cs1 cs2 cs3 : Cs} {te ta tb : TE} {tr : TA} {z z1 z2 : Sl}
theorem opd_notB {a b : Bool} : OpD K rNotB (.dat (.bool a)) (.dat (.bool b)) cs (.dat (.bool (!decide (a = b)))) := fun x y G H hx hy ex ok Q q => by
  cases hx
  cases hy
  exact ⟨a, b, rfl, rfl, q _ G H (.refl ex) rfl⟩
theorem opd_isB {a b : Bool} : OpD K rIsB (.dat (.bool a)) (.dat (.bool b)) cs (.dat (.bool (decide (a = b)))) := fun x y G H hx hy ex ok Q q => by
  cases hx
  cases hy
  exact ⟨a, b, rfl, rfl, q _ G H (.refl ex) rfl⟩
theorem mul_char (c n : Nat) : Txt.mul ⟨#[c]⟩ (n : Int) = tS (List.replicate n c) := by
  have key : ∀ (m : Nat) (acc : Array Nat), (List.replicate m #[c]).foldl (· ++ ·) acc = acc ++ (List.replicate m c).toArray := fun m => by
    induction m with
    | zero => intro acc; simp
    | succ m ih =>
      intro acc
      rw [List.replicate_succ, List.foldl_cons, ih, List.replicate_succ]
      apply Array.ext'
      simp
  unfold Txt.mul
  match n with
  | 0 => rfl
  | 1 => rfl
  | n + 2 =>
    rw [if_neg (by omega), if_neg ?_]
    · unfold tS
      congr 1
      rw [key, show ((↑(n + 2) : Int)).toNat = n + 2 from by omega]
      simp
    · have e : ((↑(n + 2) : Int) == 1) = false := by
        rw [beq_eq_false_iff_ne]
        omega
      rw [e]
      exact Bool.false_ne_true
theorem cut_hd (t : List Nat) {w : Nat} (h : w ≤ t.length) : cutS (tS t) none (some (w : Int)) = tS (t.take w) := by
  unfold cutS
  rw [HT.sIx_none, HT.sIx_nat, tS_len, tS_list, List.drop_zero, Nat.sub_zero, Nat.min_eq_left h]
  rfl
theorem cut_tl (t : List Nat) {w : Nat} (h : w ≤ t.length) : cutS (tS t) (some (w : Int)) none = tS (t.drop w) := by
  unfold cutS
  rw [HT.sIx_none, HT.sIx_nat, tS_len, tS_list, Nat.min_eq_left h, List.take_of_length_le]
  · rfl
  · rw [List.length_drop]
    exact Nat.le_refl _
end
section
variable {P : Program} {w : World} {K : PySem.W.Frag} {mg : Str → Option Value} {base : Heap} {x : Str} {st : Stmt} {ps N : List Str} {k : Nat} {f : Addr} {fd : FuncData}
theorem fn_cal {R : List Sl → Cs → Sl → Cs → Prop} (F : Fun K x x st f fd) (S : FnScope N ps (defScope st)) (hlen : ∀ args cs z cs', R args cs z cs' → args.length = ps.length)
    (hbody : ∀ (cdv : Value) (A : Around) (outer : List Env) (s : Shared) (H : Hp) (E : XK) (f : Addr), Room k (A.deeper (envOfC x (defScope st) s.heap.objs.size f cdv)) →
      ∃ t, PSs (cxOf CX0 P w K mg base N x (defScope st) f cdv A outer s H E).nox (defBody st) t ∧
        ∀ args cs z cs', R args cs z cs' → Run K t (startR N args) cs { nx := fun _ c => z = .dat .none ∧ List.Sublist cs' c, rt := fun y c => y = z ∧ List.Sublist cs' c }) :
    FnOk P w K mg base CX0 (k + 1) f fd ps (SpG K R) := by
  refine F.ok S (fun vs H Q E h => ?_) (fun cdv A outer s H vs Q E hr h => ?_)
  · obtain ⟨G, args, cs, z, cs', _, h1, _, h2, _⟩ := h
    rw [h1.len]
    exact hlen _ _ _ _ h2
  · obtain ⟨t, ht, hrun⟩ := hbody cdv A outer s H E f hr
    refine ⟨t, ht, ?_⟩
    obtain ⟨G, args, cs, z, cs', ex, h1, h2, hR, q⟩ := h
    refine hrun args cs z cs' hR G _ H _ ⟨ex, .start h1, h2⟩ (fun ρ' c' G' σ' H' ⟨e, sb⟩ f' ok' => ?_) (fun z' v c' G' H' ⟨e, sb⟩ f' ex' ok' hv => ?_) (fun _ _ _ _ _ h => h.elim) (fun _ _ _ _ _ h => h.elim)
    · subst e
      exact q _ G' H' (f'.sub sb) ok'.ex (ok'.ce.sub sb) rfl
    · subst e
      exact q _ G' H' (f'.sub sb) ex' (ok'.sub sb) hv
theorem def_mk {h : Heap} (X : K.In h) (G : h.Ns mainGlobals mg) {f : Addr} {oc : Value} {od an : Option Addr} {osl : Array (Option Value)} {kV doc pm cdv ct : Value} (a : PySem.W.nsIn K mainGlobals x = some (some (.ref f))) (l : K.lookup f = some ⟨oc, od, .func (PySem.W.fnOf x x (defArgs st) (defBody st) (defScope st) .none kV doc pm an cdv ct), osl⟩)
    (c : PySem.W.codeIn K cdv x = true) (k : PySem.W.keepIn K (.ref f) = true)
    (hb : ∀ (kV doc pm : Value) (an : Option Addr) (cdv ct : Value) (us : List Value), us.length = ps.length → bindArgs (PySem.W.fnOf x x (defArgs st) (defBody st) (defScope st) .none kV doc pm an cdv ct) ⟨us, []⟩ = pure (ps.zip us)) : Def K mg x st ps :=
  have F := fun_mk (st := st) l c k
  ⟨f, _, PySem.W.mg_of X G a, F, F.binds hb⟩
/-- the law's promise -/
def rLaw (K : PySem.W.Frag) : List Sl → Cs → Sl → Cs → Prop := fun args cs z cs' => ∃ (a : Addr) (ns : List Int), args = [.raw (.ref a)] ∧ ns.length ≤ 63 ∧ Scr K a ns cs ∧ cs' = [] ∧ z = .dat (.bool true)
theorem law_sp {H : Hp} {a : Addr} {ns : List Int} (hl : ns.length ≤ 63) (h : SqL K H a (ns.map V.int)) : SpG K (rLaw K) [.ref a] H (fun v _ => v = .bl true) fun _ _ _ => False := by
  rcases h with h | h
  · refine ⟨fun _ => none, [.raw (.ref a)], [(a, .scr ns)], .dat (.bool true), [], (fun _ _ z => nomatch z), ⟨rfl, trivial⟩, ⟨by simp, fun x hx => ?_⟩, ⟨a, ns, rfl, hl, .inl rfl, rfl, rfl⟩, fun v G' H' _ _ _ hv => hv⟩
    rw [List.mem_singleton.mp hx]
    refine ⟨rfl, ?_, h⟩
    rcases h with h | ⟨o, h⟩
    · exact ⟨_, h⟩
    · exact ⟨_, h⟩
  · exact ⟨fun _ => none, [.raw (.ref a)], [], .dat (.bool true), [], (fun _ _ z => nomatch z), ⟨rfl, trivial⟩, .nil, ⟨a, ns, rfl, hl, .inr ⟨rfl, fun _ => .inr h⟩, rfl, rfl⟩, fun v G' H' _ _ _ hv => hv⟩
end
end LW

set_option Elab.async false
set_option linter.all false
set_option maxRecDepth 100000
set_option maxHeartbeats 4000000
namespace LW
open PySem PySem.W PySem.Calls PySem.SeqAt PyProof.Rows L2
/-! ### sorting, tuples among them the empty one (which stands first) -/
section
variable {prog : Program} {w : World} {A : Around} {E : Value → Shared → Prop} {s : Shared}
theorem call_tuple_lt {Q : Value → Shared → Prop} {l b : Addr} {items items2 : Array Value} {e r : Nat → Bool} (hl : s.heap.IsTuple l items) (hb : s.heap.IsTuple b items2)
    (he : ∀ j (h1 : j < items.size) (h2 : j < items2.size), EqAt A.in1 s items[j] items2[j] (e j)) (hr : ∀ j (h1 : j < items.size) (h2 : j < items2.size), e j = false → RcLt A.in1 s items[j] items2[j] (r j))
    (h : Q (.bool (firstLt e r (decide (items.size < items2.size)) (List.range (min items.size items2.size)))) s) : wpAny (model prog w) A (call (.builtin "tuple.__lt__") [.ref l, .ref b]) Q E s := by
  obtain ⟨⟨cls, dd, data, sl⟩, ho, hc, n, hd⟩ := id hl
  obtain ⟨⟨cls2, dd2, data2, sl2⟩, ho2, hc2, n2, hd2⟩ := id hb
  simp only at hc hd hc2 hd2
  subst hc hd hc2 hd2
  exact call_meets F.slot_tuple_lt ⟨_, ho, rfl⟩ F.entry_tuple_lt (F.args_tuple_lt_2 _ _) (tuple_ltAt l b items items2 n n2 dd dd2 sl sl2 e r) ⟨ho, ho2, he, hr, h⟩
theorem oneLt_tuples {xs ys : List PyData} {a b : Value} {as bs : List Addr} {Q : Bool → Shared → Prop} (ra : Reads s.heap a (.tuple xs) as) (rb : Reads s.heap b (.tuple ys) bs) (hal : alikeAll xs ys = true)
    (hu : A.units + min (PyData.tuple xs).depth (PyData.tuple ys).depth < cLine) (hq : Q (dataLt (.tuple xs) (.tuple ys)) s) : wpAny (model prog w) A (oneLt' true a b) Q E s := by
  cases ra with
  | @tuple l o vs n _ as₁ h1 h2 h3 h4 =>
    cases rb with
    | @tuple l' o' vs' n' _ bs₁ k1 k2 k3 k4 =>
      have n1 : vs.size = xs.length := by simpa using ReadsAll.length _ _ _ h4
      have n2 : vs'.size = ys.length := by simpa using ReadsAll.length _ _ _ k4
      rw [dataLt_tuple, ← firstLt_toks xs ys hal, ← n1, ← n2] at hq
      rw [oneLt'_eq]
      simp only [if_true]
      refine wpAny_bind (wpAny_cRoomFor (room_here hu) ?_)
      refine wpAny_bind (wpAny_callSpecialIfBound?_slot (T := "tuple") ⟨_, h1, h2⟩ F.slot_tuple_lt (call_tuple_lt (e := pairEq xs ys) (r := fun j => dataLt (xs.getD j .none) (ys.getD j .none)) ⟨_, h1, h2, _, h3⟩ ⟨_, k1, k2, _, k3⟩ (fun j j1 j2 => ?_) (fun j j1 j2 hj => ?_) ?_))
      · have := eqAt_alikeAll xs ys A.in1 s vs.toList vs'.toList _ _ h4 k4 hal (room_in hu) j (by simpa using j1) (by simpa using j2)
        simpa using this
      · have := rcLt_alikeAll xs ys A.in1 s vs.toList vs'.toList _ _ h4 k4 hal (room_in hu) j (by simpa using j1) (by simpa using j2) hj
        simpa using this
      · exact wpAny_truthy_bool hq
/-- tuples, the first of them empty -/
def Sortable0 (ds : List PyData) : Prop := (∃ r, ds = .tuple [] :: r) ∧ ∀ d ∈ ds, ∃ xs, d = .tuple xs
theorem first_any {M : Model} : ∀ {vs : List Value} {ds : List PyData} {Q : List (Option Value) → Shared → Prop}, EachIs (fun v d => ∃ as, Reads s.heap v d as) vs ds → (∀ d ∈ ds, ∃ xs, d = .tuple xs) →
    (∀ os : List (Option Value), (ds.head? = some (.tuple []) → os.head? = some none) → os.length = vs.length → Q os s) → wpAny M A (vs.mapM firstOfTuple') Q E s
  | _, _, Q, .nil, _, h => by
    rw [List.mapM_nil]
    exact wpAny_pure (h [] (fun z => nomatch z) rfl)
  | _, _, Q, .cons (a := v) (b := d) ⟨as, r⟩ t, ht, h => by
    obtain ⟨xs, rfl⟩ := ht d List.mem_cons_self
    rw [List.mapM_cons]
    cases r with
    | @tuple a o ys n _ _ ho hc hd hr =>
      refine wpAny_bind ?_
      rw [kas_first_eq]
      refine wpAny_bind (Looks.here (show Looks M s.heap (typeOf (.ref a)) o.cls from (Looks.ld ho).andThen .now) ?_)
      rw [hc, if_neg (by first | decide | simp)]
      refine wpAny_bind (listItems_at ho hd (wpAny_pure ?_))
      refine wpAny_bind (first_any t (fun d hd => ht d (List.mem_cons_of_mem _ hd)) fun os h1 h2 => wpAny_pure (h _ (fun z => ?_) (by rw [List.length_cons, List.length_cons, h2])))
      have e : xs = [] := by
        have z' : PyData.tuple xs = .tuple [] := Option.some.inj z
        exact PyData.tuple.inj z'
      subst e
      have hl : ys.size = 0 := by simpa using ReadsAll.length _ _ _ hr
      have e0 : ys[0]? = none := by
        rw [Array.getElem?_eq_none (by omega)]
      rw [e0]
      rfl
theorem kind0 {M : Model} {vs : List Value} {ds : List PyData} {Q : SortKind → Shared → Prop} (e : EachIs (fun v d => ∃ as, Reads s.heap v d as) vs ds) (hk : Sortable0 ds) (h : Q oneType' s) : wpAny M A (keyKind' vs.toArray) Q E s := by
  obtain ⟨⟨r, rfl⟩, ht⟩ := hk
  have hT : ∀ v ∈ vs, Looks M s.heap (typeOf v) (.type "tuple") := fun v hv => by
    obtain ⟨d, hd, as, rd⟩ := e.left v hv
    obtain ⟨xs, rfl⟩ := ht d hd
    exact looks_reads rd
  have hne : 0 < vs.length := by
    rw [e.length]
    simp
  obtain ⟨v₁, rest, rfl⟩ : ∃ v₁ rest, vs = v₁ :: rest := by
    match vs, hne with
    | v₁ :: rest, _ => exact ⟨v₁, rest, rfl⟩
  rw [keyKind'_eq, List.mapM_toArray, map_eq_pure_bind]
  refine wpAny_bind (wpAny_bind (first_any e ht fun os h1 h2 => wpAny_pure ?_))
  have h1 := h1 rfl
  obtain ⟨o1, orest, rfl⟩ : ∃ o1 orest, os = o1 :: orest := by
    match os, h1 with
    | o1 :: orest, _ => exact ⟨o1, orest, rfl⟩
  have e1 : o1 = none := Option.some.inj h1
  subst e1
  rw [if_neg (by simp), if_neg (by simp)]
  rw [oneTypeOnly'_eq, List.mapM_toArray, map_eq_pure_bind]
  refine wpAny_bind (wpAny_bind (wpAny_bind (kas_mapM (r := Value.type "tuple") _ (fun v hv Q' hq => (hT v hv).here hq) (wpAny_pure ?_))))
  have hall : ((List.map (fun _ => Value.type "tuple") (v₁ :: rest)).toArray.all fun x => x == Value.type "tuple") = true := by
    simp only [List.all_toArray, List.all_map, List.all_eq_true]
    intro _ _
    exact beq_self_eq_true _
  have h0 : (List.map (fun _ => Value.type "tuple") (v₁ :: rest)).toArray[0]? = some (Value.type "tuple") := by simp
  rw [h0]
  simp only [hall, if_true]
  exact wpAny_pure (wpAny_pure h)
theorem sorts0 {vs : List Value} {ds : List PyData} (e : EachIs (fun v d => ∃ as, Reads s.heap v d as) vs ds) (hal : AllAlike ds) (hk : Sortable0 ds) (hu : ∀ d, d ∈ ds → A.units + d.depth < cLine) : SortsAt prog w A s (dataKind s.heap ds) vs := by
  have room : ∀ {d d' : PyData}, d ∈ ds → A.units + min d.depth d'.depth < cLine := fun {d d'} hd => Nat.lt_of_le_of_lt (Nat.add_le_add_left (Nat.min_le_left _ _) _) (hu d hd)
  refine ⟨fun v hv => ?_, oneType', ?_, fun h2 E Q hq => kind0 e hk hq⟩
  · obtain ⟨d, hd, as, r⟩ := e.left v hv
    exact ⟨_, dataKind_some hal hd r⟩
  · intro E x y a b Q ha hb hq
    obtain ⟨d, as, hd, ra, rfl⟩ := dataKind_inv ha
    obtain ⟨d', as', hd', rb, rfl⟩ := dataKind_inv hb
    rw [keyLt'_oneType]
    obtain ⟨xs, rfl⟩ := hk.2 d hd
    obtain ⟨ys, rfl⟩ := hk.2 d' hd'
    have hdd := hal _ hd _ hd'
    exact oneLt_tuples ra rb (by simpa [alike] using hdd) (room hd) hq
def SortOk (ds : List PyData) : Prop := AllAlike ds ∧ (Sortable ds ∨ Sortable0 ds) ∧ ∀ d ∈ ds, d.depth ≤ 8
theorem sortsA {vs : List Value} {ds : List PyData} (e : EachIs (fun v d => ∃ as, Reads s.heap v d as) vs ds) (hk : SortOk ds) (hu : A.units + 8 < cLine) : SortsAt prog w A s (dataKind s.heap ds) vs := by
  have hu' : ∀ d, d ∈ ds → A.units + d.depth < cLine := fun d hd => Nat.lt_of_le_of_lt (Nat.add_le_add_left (hk.2.2 d hd) _) hu
  rcases hk.2.1 with h | h
  · exact SortsAt.data e hk.1 h hu'
  · exact sorts0 e hk.1 h hu'
end
end LW

set_option Elab.async false
set_option linter.all false
set_option maxRecDepth 100000
set_option maxHeartbeats 4000000
namespace LW
open PySem PySem.W PySem.Calls PySem.SeqAt PyProof.Rows L2
def srtP (vs : List V) (ds : List PyData) : List V := ((vs.zip ds).mergeSort (dataLe false fun p => p.2)).map (·.1)
def sortD (ds : List PyData) : List PyData := ds.mergeSort (dataLe false id)
theorem DpAll.len {K : PySem.W.Frag} {H : Hp} : ∀ {vs : List V} {ds : List PyData}, DpAll K H vs ds → vs.length = ds.length
  | _, _, .nil => rfl
  | _, _, .cons _ t => by rw [List.length_cons, List.length_cons, DpAll.len t]
section
variable {X : Cx} {pins : List (Addr × Obj)} {σ : L2.St} {H : Hp} {s : Shared}
theorem each_zip (I : L2.Inv X pins σ H s) : ∀ {vs : List V} {ds : List PyData} {us : List Value}, DpAll X.K H vs ds → Vals vs us → EachIs (fun v (b : V × PyData) => RelV b.1 v ∧ ∃ as, Reads s.heap v b.2 as) us (vs.zip ds)
  | [], _, _, d, r => by
    cases d
    cases r
    exact .nil
  | v :: vs, _, _, d, r => by
    cases d with
    | @cons _ _ d ds h t =>
      cases r with
      | cons r1 r2 => exact .cons ⟨r1, Dp.reads I d v _ h r1⟩ (each_zip I t r2)
theorem each_split {h : Heap} : ∀ {us : List Value} {bs : List (V × PyData)}, EachIs (fun v (b : V × PyData) => RelV b.1 v ∧ ∃ as, Reads h v b.2 as) us bs → EachIs (fun v (b : V × PyData) => RelV b.1 v) us bs ∧ EachIs (fun v (b : V × PyData) => ∃ as, Reads h v b.2 as) us bs
  | _, _, .nil => ⟨.nil, .nil⟩
  | _, _, .cons h t => ⟨.cons h.1 (each_split t).1, .cons h.2 (each_split t).2⟩
theorem vals_each : ∀ {us : List Value} {bs : List (V × PyData)}, EachIs (fun v (b : V × PyData) => RelV b.1 v) us bs → Vals (bs.map (·.1)) us
  | _, _, .nil => .nil
  | _, _, .cons h t => .cons h (vals_each t)
theorem each_snd {h : Heap} : ∀ {us : List Value} {bs : List (V × PyData)}, EachIs (fun v (b : V × PyData) => ∃ as, Reads h v b.2 as) us bs → EachIs (fun v d => ∃ as, Reads h v d as) us (bs.map (·.2))
  | _, _, .nil => .nil
  | _, _, .cons h t => .cons h (each_snd t)
theorem each_keep {h h' : Heap} (hk : ∀ b o, h.get? b = some o → h'.get? b = some o) : ∀ {us : List Value} {bs : List (V × PyData)}, EachIs (fun v (b : V × PyData) => ∃ as, Reads h v b.2 as) us bs → EachIs (fun v (b : V × PyData) => ∃ as, Reads h' v b.2 as) us bs
  | _, _, .nil => .nil
  | _, _, .cons ⟨as, h⟩ t => .cons ⟨as, Reads.keeps hk h⟩ (each_keep hk t)
theorem zip_snd {vs : List V} {ds : List PyData} (h : vs.length = ds.length) : (vs.zip ds).map (·.2) = ds := by
  rw [show (fun p : V × PyData => p.2) = Prod.snd from rfl, List.map_snd_zip (by omega)]
/-- the sorted values -/
theorem vals_sorted {h : Heap} {vs : List V} {ds : List PyData} {us : List Value} (hl : vs.length = ds.length) (e : EachIs (fun v (b : V × PyData) => RelV b.1 v) us (vs.zip ds)) (er : EachIs (fun v (b : V × PyData) => ∃ as, Reads h v b.2 as) us (vs.zip ds)) (hal : AllAlike ds) : Vals (srtP vs ds) (sortVals (dataKind h ds) false us us) := by
  have q := sortVals_data (h' := h) (R := fun v (b : V × PyData) => RelV b.1 v) (enc := fun b : V × PyData => b.2) false e er (by rw [zip_snd hl]; exact hal)
  rw [zip_snd hl] at q
  exact vals_each q
theorem srtP_len {vs : List V} {ds : List PyData} (hl : vs.length = ds.length) : (srtP vs ds).length = vs.length := by
  unfold srtP
  rw [List.length_map, List.length_mergeSort, List.length_zip]
  omega
end
/-- sorted of a list of alike data -/
def rSortA (K : PySem.W.Frag) : List V → Hp → VK → Prop := fun xs H Q => ∃ (a : Addr) (vs : List V) (ds : List PyData), xs = [V.ref a] ∧ SqL K H a vs ∧ DpAll K H vs ds ∧ SortOk ds ∧ ∀ p, H p = none → Q (.ref p) (upd H p (.lst (srtP vs ds)))
theorem cr_sortA {X : Cx} (hu : X.A.units + 65 < cLine) : CallR X (.builtin "sorted") (rSortA X.K) := fun pins s σ H xs us Q I r h => by
  obtain ⟨a, vs, ds, rfl, hs, hd, hk, q⟩ := h
  obtain ⟨its, rv, hl, hz⟩ := I.list hs
  obtain ⟨u, rfl, ru⟩ := vals1 r
  obtain rfl : u = Value.ref a := ru
  have hlen := DpAll.len hd
  obtain ⟨e1, e2⟩ := each_split (each_zip I hd rv)
  have e3 := each_keep (h' := sortingHeap (copyHeap s.heap its) (s.heap.objs.size + 1) its) (fun b o e => sorting_copy_old e) e2
  have e4 := each_snd e3
  rw [zip_snd hlen] at e4
  refine sorted_vals (κ := dataKind (sortingHeap (copyHeap s.heap its) (s.heap.objs.size + 1) its) ds) hl.isList (sortsA (s := { s with heap := sortingHeap (copyHeap s.heap its) (s.heap.objs.size + 1) its }) e4 hk ?_) (by rw [← rv.length]; exact hz) ?_
  · show X.A.in1.in1.units + 8 < cLine
    have q1 : X.A.in1.in1.units ≤ X.A.units + 2 := by first | exact Nat.le_refl _ | (simp [Around.in1]; done) | (simp [Around.in1]; omega)
    omega
  · have hv := vals_sorted hlen e1 e3 hk.1
    obtain ⟨n, hn⟩ := sortedAll_at s.heap its (sortVals (dataKind (sortingHeap (copyHeap s.heap its) (s.heap.objs.size + 1) its) ds) false its its).toArray
    refine ⟨.ref (s.heap.objs.size + 1), upd H (s.heap.objs.size + 1) (.lst (srtP vs ds)), I.laid (t' := s.toks) (fun b o e => sortedAll_old e) (Nat.le_succ _) ⟨?_, _, n, hv, hn⟩, rfl, q _ (I.hok.fresh (Nat.le_succ _))⟩
    rw [srtP_len hlen]
    exact hz
/-! ### sorted of a dict's keys -/
def keyD : L2.Key → PyData
  | .inl i => .int i
  | .inr x => .str x
def keysD (kvs : List (List L2.Key × V)) : List PyData := kvs.map fun p => .tuple (p.1.map keyD)
theorem dp_key {K : PySem.W.Frag} {H : Hp} (k : L2.Key) : Dp K H (kV k) (keyD k) := by
  cases k with
  | inl i => exact .int i
  | inr x => exact .str x
theorem dp_keys {K : PySem.W.Frag} {H : Hp} : ∀ ks : List L2.Key, DpAll K H (ks.map kV) (ks.map keyD)
  | [] => .nil
  | k :: ks => .cons (dp_key k) (dp_keys ks)
theorem dp_isKeys {K : PySem.W.Frag} {H : Hp} {kvs : List (List L2.Key × V)} {bs : List Addr} (h : IsKeys H kvs bs) : DpAll K H (bs.map V.ref) (keysD kvs) := by
  unfold IsKeys at h
  induction h with
  | nil => exact .nil
  | cons h t ih => exact .cons (.tup (.inl (.inl h)) (dp_keys _)) ih
def rSortK (K : PySem.W.Frag) : List V → Hp → VK → Prop := fun xs H Q => ∃ (a : Addr) (kvs : List (List L2.Key × V)), xs = [V.ref a] ∧ Rd H a (.dT kvs) ∧ SortOk (keysD kvs) ∧ ∀ p bs, H p = none → IsKeys H kvs bs → Q (.ref p) (upd H p (.lst (srtP (bs.map V.ref) (keysD kvs))))
theorem cr_sortK {X : Cx} (hc : X.calm = true) (hu : X.A.units + 65 < cLine) : CallR X (.builtin "sorted") (rSortK X.K) := fun pins s σ H xs us Q I r h => by
  obtain ⟨d, kvs, rfl, hd, hk, q⟩ := h
  obtain ⟨u, rfl, rx⟩ := r.one
  cases rx
  obtain ⟨z, hs, ks, pr, o, es, ep, ho, hx, hdt, he, hn⟩ := (show ObjOk X.prog X.w H s.heap d (.dT kvs) from hd.ok I.hok)
  have l1 : es.size = ks.length := size_of_entries he
  have l2 : kvs.length = ks.length := Paired.length pr
  refine Calls.call_function_entry PyProof.Rows.kind_sorted PyProof.Rows.plain_sorted PyProof.Rows.entry_sorted (PyProof.Rows.args_sorted1 _) ?_
  unfold Builtin.«sorted»
  refine wpAny_bind (m := checkCount "sorted" 1 1 _) (wpAny_pure ?_)
  refine wpAny_bind (PySem.W.kdu_collect (A := X.A.in1) (kdl_raw hs hx hdt) (I.ok.hd hc) ho (by omega) fun h' tk acc hkp it => ?_)
  have ea : acc.toList = ks.map fun x => Value.ref x.2.1 := by
    have hl : acc.toList.length = ks.length := by rw [Array.length_toList, it.1]; exact l1
    apply List.ext_getElem?
    intro j
    rw [List.getElem?_map]
    cases hj : acc.toList[j]? with
    | none =>
      have h1 := List.getElem?_eq_none_iff.mp hj
      rw [List.getElem?_eq_none (by omega)]
      all_goals rfl
    | some v =>
      obtain ⟨en, hen, hv⟩ := it.2 j v (by rw [← Array.getElem?_toList]; exact hj)
      have qe := entry_at he j
      rw [hen] at qe
      cases hb : ks[j]? with
      | none =>
        rw [hb] at qe
        exact nomatch (show some en = none from qe)
      | some b =>
        rw [hb] at qe
        have e2 : en = entryOfKey (tupleKind (mixKind X.prog X.w)) b := Option.some.inj qe
        rw [hv, e2]
        all_goals rfl
  have eb : acc.toList = (ks.map fun x => x.2.1).map Value.ref := by rw [ea, List.map_map]; all_goals rfl
  have isk := isKeys_of pr
  generalize (ks.map fun x => x.2.1) = bs at eb isk
  have lb : bs.length = kvs.length := (Paired.length isk).symm
  have rv : Vals (bs.map V.ref) acc.toList := by rw [eb]; exact vals_refs _
  have I1 : L2.Inv X pins σ H { s with heap := h', toks := tk } := I.kept hkp
  have hal : acc.toList.length = kvs.length := by rw [eb, List.length_map, lb]
  refine wpAny_bind (wpAny_newList ?_ (by rw [hal]; exact z))
  have hoL : (h'.push (seqObj "list" acc.toList.toArray 0)).get? h'.objs.size = some (seqObj "list" acc.toList.toArray 0) := Heap.get?_push_size _ rfl
  show wpAny _ _ _ _ _ { s with heap := h'.push (seqObj "list" acc.toList.toArray 0), toks := tk }
  have hd' := dp_isKeys (K := X.K) isk
  have hlen := DpAll.len hd'
  obtain ⟨e1, e2⟩ := each_split (each_zip I1 hd' rv)
  have old : ∀ b o, h'.get? b = some o → (sortingHeap (h'.push (seqObj "list" acc.toList.toArray 0)) h'.objs.size acc.toList).get? b = some o := fun b o e => sortingHeap_old (Nat.ne_of_lt (Heap.lt_size e)) (Heap.get?_push_of_some _ e)
  have e3 := each_keep (h' := sortingHeap (h'.push (seqObj "list" acc.toList.toArray 0)) h'.objs.size acc.toList) old e2
  have e4 := each_snd e3
  rw [zip_snd hlen] at e4
  refine wpAny_bind (wpAny_holding (wpAny_call_entry PyProof.Rows.slot_list_sort ⟨_, hoL, rfl⟩ PyProof.Rows.entry_list_sort
    (list_sort_vals (κ := dataKind (sortingHeap (h'.push (seqObj "list" acc.toList.toArray 0)) h'.objs.size acc.toList) (keysD kvs)) (s := { s with heap := h'.push (seqObj "list" acc.toList.toArray 0), toks := tk }) hoL (sortsA (s := { s with heap := sortingHeap (h'.push (seqObj "list" acc.toList.toArray 0)) h'.objs.size acc.toList, toks := tk }) e4 hk ?_) (by rw [hal]; exact z) ⟨_, rfl, ?_⟩) (PyProof.Rows.args_list_sort _)))
  · show X.A.in1.in1.units + 8 < cLine
    have q1 : X.A.in1.in1.units ≤ X.A.units + 2 := by first | exact Nat.le_refl _ | (simp [Around.in1]; done) | (simp [Around.in1]; omega)
    omega
  · have hv := vals_sorted hlen e1 e3 hk.1
    obtain ⟨n, hn⟩ := PyProof.Rows.sortedHeap_at (vs := acc.toList) (out := (sortVals (dataKind (sortingHeap (h'.push (seqObj "list" acc.toList.toArray 0)) h'.objs.size acc.toList) (keysD kvs)) false acc.toList acc.toList).toArray) hoL
    refine wpAny_pure ⟨_, rfl, .ref h'.objs.size, upd H h'.objs.size (.lst (srtP (bs.map V.ref) (keysD kvs))), I1.laid (t' := tk) (fun b u e => ?_) (Nat.le_refl _) ⟨?_, _, n, hv, hn⟩, rfl, q _ bs (I1.hok.fresh (Nat.le_refl _)) isk⟩
    · have hb : b < h'.objs.size := Heap.lt_size e
      rw [PyProof.Rows.sortedHeap_old (Nat.ne_of_lt hb) (by rw [size_push']; exact Nat.lt_succ_of_lt hb)]
      exact Heap.get?_push_of_some _ e
    · rw [srtP_len hlen, List.length_map, lb]
      exact z
end LW

set_option Elab.async false
set_option linter.all false
set_option maxRecDepth 100000
set_option maxHeartbeats 4000000
namespace LW
open PySem PySem.Spec PyProof.Rows L2
/-! ### dicts whose keys are tuples of whole numbers -/
abbrev KD := List (List Int × PyData)
def lookD (kvs : KD) (k : List Int) : Option PyData := (kvs.find? fun p => decide (p.1 = k)).map (·.2)
def putD (kvs : KD) (k : List Int) (d : PyData) : KD := if (kvs.any fun p => decide (p.1 = k)) = true then kvs.map (fun p => if p.1 = k then (p.1, d) else p) else kvs ++ [(k, d)]
/-- what a dict's cell means, item by item -/
def DR (G : Hp) : KD → List (List L2.Key × V) → Prop
  | [], ws => ws = []
  | p :: r, ws => ∃ v ws', ws = (kInt p.1, v) :: ws' ∧ Dt G p.2 v ∧ DR G r ws'
theorem dr_iff {G : Hp} : ∀ {kvs : KD} {ws : List (List L2.Key × V)}, (ws.map (·.1) = kvs.map (fun p => kInt p.1) ∧ DtAll G (kvs.map (·.2)) (ws.map (·.2))) ↔ DR G kvs ws
  | [], ws => by
    constructor
    · rintro ⟨h, _⟩
      exact List.map_eq_nil_iff.mp h
    · intro h
      have h : ws = [] := h
      subst h
      exact ⟨rfl, rfl⟩
  | p :: r, ws => by
    constructor
    · rintro ⟨h, h2⟩
      cases ws with
      | nil => cases h
      | cons w ws =>
        rw [List.map_cons, List.map_cons] at h
        obtain ⟨e1, e2⟩ := List.cons.inj h
        obtain ⟨v, r', e3, h3, h4⟩ := h2
        rw [List.map_cons] at e3
        obtain ⟨e4, e5⟩ := List.cons.inj e3
        subst e5
        have ev : w.2 = v := e4
        subst ev
        refine ⟨w.2, ws, ?_, h3, dr_iff.mp ⟨e2, h4⟩⟩
        have e1' : w.1 = kInt p.1 := e1
        rw [← e1']
    · rintro ⟨v, ws', rfl, h1, h2⟩
      obtain ⟨g1, g2⟩ := dr_iff.mpr h2
      exact ⟨by rw [List.map_cons, List.map_cons, g1], v, _, rfl, h1, g2⟩
theorem kInt_inj {a b : List Int} : kInt a = kInt b ↔ a = b := by
  constructor
  · intro h
    unfold kInt at h
    exact (List.map_inj_right (fun x y e => Sum.inl.inj e)).mp h
  · intro h
    rw [h]
theorem kInt_vals (k : List Int) : (kInt k).map kV = k.map V.int := by
  unfold kInt
  rw [List.map_map]
  rfl
theorem kInt_data (k : List Int) : PyData.tuple ((kInt k).map keyD) = encP k := by
  unfold kInt encP
  rw [List.map_map]
  rfl
theorem DR.len {G : Hp} : ∀ {kvs : KD} {ws : List (List L2.Key × V)}, DR G kvs ws → kvs.length = ws.length
  | [], ws, h => by
    have h : ws = [] := h
    subst h
    rfl
  | p :: r, ws, h => by
    obtain ⟨v, ws', rfl, h1, h2⟩ := h
    rw [List.length_cons, List.length_cons, h2.len]
theorem DR.get {G : Hp} {k : List Int} : ∀ {kvs : KD} {ws : List (List L2.Key × V)}, DR G kvs ws → (lookD kvs k = none ∧ valV ws (kInt k) = none) ∨ ∃ d v, lookD kvs k = some d ∧ valV ws (kInt k) = some v ∧ Dt G d v
  | [], ws, h => by
    have h : ws = [] := h
    subst h
    exact .inl ⟨rfl, rfl⟩
  | p :: r, ws, h => by
    obtain ⟨v, ws', rfl, h1, h2⟩ := h
    unfold lookD valV
    rw [List.find?_cons, List.find?_cons]
    by_cases e : p.1 = k
    · rw [decide_eq_true e, decide_eq_true (kInt_inj.mpr e)]
      exact .inr ⟨_, _, rfl, rfl, h1⟩
    · rw [decide_eq_false e, decide_eq_false (fun z => e (kInt_inj.mp z))]
      exact DR.get h2
theorem DR.any {G : Hp} {k : List Int} : ∀ {kvs : KD} {ws : List (List L2.Key × V)}, DR G kvs ws → (ws.any fun p => decide (p.1 = kInt k)) = (kvs.any fun p => decide (p.1 = k))
  | [], ws, h => by
    have h : ws = [] := h
    subst h
    rfl
  | p :: r, ws, h => by
    obtain ⟨v, ws', rfl, h1, h2⟩ := h
    rw [List.any_cons, List.any_cons, DR.any h2]
    congr 1
    exact decide_eq_decide.mpr kInt_inj
theorem DR.repl {G : Hp} {k : List Int} {d : PyData} {x : V} (hx : Dt G d x) : ∀ {kvs : KD} {ws : List (List L2.Key × V)}, DR G kvs ws → DR G (kvs.map fun p => if p.1 = k then (p.1, d) else p) (ws.map fun p => if p.1 = kInt k then (p.1, x) else p)
  | [], ws, h => by
    have h : ws = [] := h
    subst h
    rfl
  | p :: r, ws, h => by
    obtain ⟨v, ws', rfl, h1, h2⟩ := h
    rw [List.map_cons, List.map_cons]
    by_cases e : p.1 = k
    · rw [if_pos e, if_pos (kInt_inj.mpr e)]
      exact ⟨x, _, rfl, hx, h2.repl hx⟩
    · rw [if_neg e, if_neg (fun z => e (kInt_inj.mp z))]
      exact ⟨v, _, rfl, h1, h2.repl hx⟩
theorem DR.snoc {G : Hp} {k : List Int} {d : PyData} {x : V} (hx : Dt G d x) : ∀ {kvs : KD} {ws : List (List L2.Key × V)}, DR G kvs ws → DR G (kvs ++ [(k, d)]) (ws ++ [(kInt k, x)])
  | [], ws, h => by
    have h : ws = [] := h
    subst h
    exact ⟨x, [], rfl, hx, rfl⟩
  | p :: r, ws, h => by
    obtain ⟨v, ws', rfl, h1, h2⟩ := h
    exact ⟨v, _, rfl, h1, h2.snoc hx⟩
theorem DR.put {G : Hp} {k : List Int} {d : PyData} {x : V} {kvs : KD} {ws : List (List L2.Key × V)} (h : DR G kvs ws) (hx : Dt G d x) : DR G (putD kvs k d) (putK ws (kInt k) x) := by
  unfold putD putK
  rw [h.any]
  split
  · exact h.repl hx
  · exact h.snoc hx
theorem DR.keys {G : Hp} : ∀ {kvs : KD} {ws : List (List L2.Key × V)}, DR G kvs ws → keysD ws = kvs.map fun p => encP p.1
  | [], ws, h => by
    have h : ws = [] := h
    subst h
    rfl
  | p :: r, ws, h => by
    obtain ⟨v, ws', rfl, h1, h2⟩ := h
    show PyData.tuple ((kInt p.1).map keyD) :: keysD ws' = _
    rw [h2.keys, kInt_data]
    rfl
theorem lookD_some {kvs : KD} {k : List Int} : (lookD kvs k).isSome = (kvs.any fun p => decide (p.1 = k)) := by
  unfold lookD
  rw [Option.isSome_map, Bool.eq_iff_iff, List.find?_isSome, List.any_eq_true]
section
variable {K : PySem.W.Frag} {ρ : List Sl} {cs cs1 cs2 cs3 : Cs} {te td ty tv : TE} {z : Sl} {p : Addr} {kvs : KD} {k : List Int} {d : PyData} {u : TS} {P : Po} {j : Nat}
theorem CsOk.dic {G H : Hp} (ok : CsOk K G H cs) (hk : cs[j]? = some (p, .dic kvs)) : ∃ ws, H p = some (.dT ws) ∧ DR G kvs ws := by
  obtain ⟨_, _, ws, h1, h2, h3⟩ := ok.is _ (List.mem_of_getElem? hk)
  exact ⟨ws, h1, dr_iff.mp ⟨h2, h3⟩⟩
theorem dt_key {G : Hp} {v : V} (h : Dt G (encP k) v) : ∃ b, v = .ref b ∧ G b = some (.tup ((kInt k).map kV)) := by
  obtain ⟨b, xs, e, h1, h2⟩ := h
  rw [kInt_vals, ← h2.ints]
  exact ⟨b, e, h1⟩
theorem evn_dnew : EvN K tDNewT ρ cs (.dic []) cs := fun G σ H ok Q q => fun p hp => by
  obtain ⟨f, ok1⟩ := ok.newC (o := .dT []) (c := .dic []) hp (fun H' h => ⟨[], h, rfl, rfl⟩)
  exact q p G _ hp f ok1
/-- d[k] = e, as the last statement of its block, or before others -/
theorem run_dput1 (j : Nat) (hv : Ev K tv ρ cs (.dat d) cs1) (ho : Ev K td ρ cs1 (.raw (.ref p)) cs1) (hi : Ev K ty ρ cs1 (.dat (encP k)) cs2) (hk : cs2[j]? = some (p, .dic kvs)) (hl : kvs.length < 100000) (h' : P.nx ρ (cs2.set j (p, .dic (putD kvs k d)))) : Run K (sDPut td ty tv) ρ cs P := fun G σ H D ok n r bk ct =>
  hv G σ H ok _ fun v G1 H1 f1 ok1 e1 => ho G1 σ H1 ok1 _ fun x G2 H2 f2 ok2 e2 => hi G2 σ H2 ok2 _ fun y G3 H3 f3 ok3 e3 => by
    cases e2
    obtain ⟨ws, hw, dr⟩ := ok3.ce.dic hk
    obtain ⟨b, rfl, hb⟩ := dt_key e3
    have e1' : Dt G3 d v := Dt.mono (f2.g.trans f3.g) _ _ e1
    have hlw := dr.len
    have dr' := dr_iff.mpr (dr.put (k := k) e1')
    obtain ⟨f4, ok4⟩ := ok3.put (o := .dT (putK ws (kInt k) v)) (c' := .dic (putD kvs k d)) hk ⟨_, upd_same, dr'.1, dr'.2⟩
    exact ⟨p, _, rfl, .t hw (ok3.ex _ _ hb) (by rw [← hlw, sizeLine_eq]; omega), n _ _ G3 σ _ h' (((f1.trans f2).trans f3).trans f4) ok4⟩
theorem run_dput (j : Nat) (hv : Ev K tv ρ cs (.dat d) cs1) (ho : Ev K td ρ cs1 (.raw (.ref p)) cs1) (hi : Ev K ty ρ cs1 (.dat (encP k)) cs2) (hk : cs2[j]? = some (p, .dic kvs)) (hl : kvs.length < 100000) (h' : Run K u ρ (cs2.set j (p, .dic (putD kvs k d))) P) : Run K (tSeq (sDPut td ty tv) u) ρ cs P :=
  run_seq (fun ρ' c => ρ' = ρ ∧ c = cs2.set j (p, .dic (putD kvs k d))) (run_dput1 j hv ho hi hk hl ⟨rfl, rfl⟩) (fun ρ' c ⟨e1, e2⟩ => by rw [e1, e2]; exact h')
theorem ev_din (j : Nat) (hi : Ev K ty ρ cs (.dat (encP k)) cs1) (ho : Ev K td ρ cs1 (.raw (.ref p)) cs2) (hk : cs2[j]? = some (p, .dic kvs)) : Ev K (tDIn ty td) ρ cs (.dat (.bool (lookD kvs k).isSome)) cs2 := fun G σ H ok Q q =>
  hi G σ H ok _ fun y G1 H1 f1 ok1 e1 => ho G1 σ H1 ok1 _ fun x G2 H2 f2 ok2 e2 => by
    cases e2
    obtain ⟨ws, hw, dr⟩ := ok2.ce.dic hk
    obtain ⟨b, rfl, hb⟩ := dt_key e1
    refine ⟨p, valV ws (kInt k), rfl, .t hw (ok2.ex _ _ (f2.g _ _ hb)), ?_⟩
    have e : (valV ws (kInt k)).isSome = (lookD kvs k).isSome := by
      rcases dr.get (k := k) with ⟨h1, h2⟩ | ⟨d, v, h1, h2, _⟩
      · rw [h1, h2]; rfl
      · rw [h1, h2]; rfl
    rw [e]
    exact q _ G2 H2 (f1.trans f2) ok2 rfl
theorem ev_dnotin (j : Nat) (hi : Ev K ty ρ cs (.dat (encP k)) cs1) (ho : Ev K td ρ cs1 (.raw (.ref p)) cs2) (hk : cs2[j]? = some (p, .dic kvs)) : Ev K (tDNotIn ty td) ρ cs (.dat (.bool (!(lookD kvs k).isSome))) cs2 := fun G σ H ok Q q =>
  hi G σ H ok _ fun y G1 H1 f1 ok1 e1 => ho G1 σ H1 ok1 _ fun x G2 H2 f2 ok2 e2 => by
    cases e2
    obtain ⟨ws, hw, dr⟩ := ok2.ce.dic hk
    obtain ⟨b, rfl, hb⟩ := dt_key e1
    refine ⟨p, valV ws (kInt k), rfl, .t hw (ok2.ex _ _ (f2.g _ _ hb)), ?_⟩
    have e : (valV ws (kInt k)).isSome = (lookD kvs k).isSome := by
      rcases dr.get (k := k) with ⟨h1, h2⟩ | ⟨d, v, h1, h2, _⟩
      · rw [h1, h2]; rfl
      · rw [h1, h2]; rfl
    rw [e]
    exact q _ G2 H2 (f1.trans f2) ok2 rfl
theorem ev_dget (j : Nat) (ho : Ev K td ρ cs (.raw (.ref p)) cs1) (hi : Ev K ty ρ cs1 (.dat (encP k)) cs2) (hk : cs2[j]? = some (p, .dic kvs)) (hd : lookD kvs k = some d) : Ev K (tDGet td ty) ρ cs (.dat d) cs2 := fun G σ H ok Q q =>
  ho G σ H ok _ fun x G1 H1 f1 ok1 e1 => hi G1 σ H1 ok1 _ fun y G2 H2 f2 ok2 e2 => by
    cases e1
    obtain ⟨ws, hw, dr⟩ := ok2.ce.dic hk
    obtain ⟨b, rfl, hb⟩ := dt_key e2
    rcases dr.get (k := k) with ⟨h1, h2⟩ | ⟨d', v, h1, h2, h3⟩
    · rw [hd] at h1
      cases h1
    · rw [hd] at h1
      cases h1
      have g := DGet.t hw (ok2.ex _ _ hb)
      rw [h2] at g
      exact ⟨p, v, rfl, g, q _ G2 H2 (f1.trans f2) ok2 h3⟩
/-- d.get(k) -/
theorem ev_dget1 (j : Nat) (ho : Ev K td ρ cs (.raw (.ref p)) cs) (hk0 : cs[j]? = some (p, .dic kvs)) (hi : Ev K ty ρ cs (.dat (encP k)) cs) : Ev K (tDGet1 td ty) ρ cs (.dat ((lookD kvs k).getD .none)) cs := fun G σ H ok Q q =>
  ho G σ H ok _ fun x G1 H1 f1 ok1 e1 => by
    cases e1
    obtain ⟨ws0, hw0, _⟩ := ok1.ce.dic hk0
    refine ⟨p, rfl, .inr ⟨ws0, .inl hw0⟩, hi G1 σ H1 ok1 _ fun y G2 H2 f2 ok2 e2 => ?_⟩
    obtain ⟨ws, hw, dr⟩ := ok2.ce.dic hk0
    obtain ⟨b, rfl, hb⟩ := dt_key e2
    refine ⟨valV ws (kInt k), DGet.t hw (ok2.ex _ _ hb), ?_⟩
    rcases dr.get (k := k) with ⟨h1, h2⟩ | ⟨d', v, h1, h2, h3⟩
    · rw [h1] at q
      rw [h2]
      exact q _ G2 H2 (f1.trans f2) ok2 rfl
    · rw [h1] at q
      rw [h2]
      exact q _ G2 H2 (f1.trans f2) ok2 h3
end
/-! ### a display of one pair -/
def tDisp1 (tk tv : TE) : TE := fun σ H Q => ∀ p, H p = none → tk σ (upd H p (.dT [])) fun x H1 => tv σ H1 fun y H2 => H2 p = some (.dT []) ∧ ∃ (b : Addr) (ks : List L2.Key), x = .ref b ∧ H2 b = some (.tup (ks.map kV)) ∧ Q (.ref p) (upd H2 p (.dT [(ks, y)]))
theorem pe_disp1 {X : Cx} {k v : Expr} {pos : Pos} {tk tv : TE} (hu : X.A.units + 65 < cLine) (hk : PE X k tk) (hv : PE X v tv) : PE X (.Dict [some k] [v] pos) (tDisp1 tk tv) := ⟨fun pins s σ H Q I q => by
  have hn := I.hok.fresh (Nat.le_refl s.heap.objs.size)
  have I1 := I.laid (a := s.heap.objs.size) (o := .dT []) (h' := s.heap.push { cls := .type "dict", data := .dict #[] }) (t' := s.toks) (fun _ _ q => Heap.get?_push_of_some _ q) (Nat.le_refl _) (dt_empty s.heap I.big)
  have hp := pps_cons (pos := pos) hk hv pps_nil
  rw [arm_eval_Dict, zip_pairTrees [some k] [v] X.env pos rfl rfl, dictDisplay_pairs (pairTrees [some k] [v] X.env pos) (by intro z; cases z) (by show (1 : Nat) < 17; decide)]
  refine wpAny_bind (wpAny_standAt (wpAny_bind ?_))
  unfold subDict
  refine wpAny_bind (wpAny_alloc ?_)
  refine wpAny_bind (wpAny_holding ?_)
  rw [if_pos (show (pairTrees [some k] [v] X.env pos).length ≤ 15 by show (1 : Nat) ≤ 15; decide)]
  refine wpAny_bind (thn (hp.run pins _ σ _ (fun ps H2 => match ps with
    | [(x, y)] => H2 s.heap.objs.size = some (.dT []) ∧ ∃ (b : Addr) (ks : List L2.Key), x = .ref b ∧ H2 b = some (.tup (ks.map kV)) ∧ Q (.ref s.heap.objs.size) (upd H2 s.heap.objs.size (.dT [(ks, y)]))
    | _ => False) I1 (q _ hn)) fun ws s2 ⟨ps, H2, I2, rel, q2⟩ => ?_)
  match ps, q2, rel with
  | [(x, y)], ⟨e, b, ks, ex, hb, q2⟩, rel =>
    subst ex
    cases rel with
    | @cons _ c _ _ h t =>
      cases t
      obtain ⟨c1, c2⟩ := c
      cases (show c1 = Value.ref b from h.1)
      obtain ⟨z, hd, xs, rk, dd⟩ := dt_of I2.hok e
      cases rk
      refine wpAny_holding ?_
      refine wpAny_bind ?_
      show wpAny _ _ (forIn [(Value.ref b, c2)] PUnit.unit fun (x : Value × Value) (_ : PUnit) => (do dictSet s.heap.objs.size x.1 x.2; pure (ForInStep.yield PUnit.unit) : Sem (ForInStep PUnit))) _ _ _
      rw [List.forIn_cons]
      refine wpAny_bind (wpAny_bind (wpAny_dictSet_heap (hsz := Nat.zero_le _) (show X.A.units < cLine by omega) (key_of I2.hok hb) dd fun h' dd' hs => wpAny_pure ?_))
      show wpAny _ _ (forIn ([] : List (Value × Value)) PUnit.unit fun (x : Value × Value) (_ : PUnit) => (do dictSet s.heap.objs.size x.1 x.2; pure (ForInStep.yield PUnit.unit) : Sem (ForInStep PUnit))) _ _ _
      rw [List.forIn_nil]
      refine wpAny_pure (wpAny_pure (wpAny_pure (wpAny_pure ⟨.ref s.heap.objs.size, _, ?_, rfl, q2⟩)))
      obtain ⟨o, es, ep, ho, h2, h3, h4, _, h5⟩ := dd'
      refine d_write I2 (by rw [e]; exact True.intro) hs ⟨o, ho⟩ ⟨by show (1 : Nat) ≤ sizeLine; rw [sizeLine_eq]; decide, hd, _, (KT.put .nil ks hb h.2).keeps fun c ys ec => ?_, o, es, ep, ho, h2, h3, h4, h5⟩
      rw [upd_ne (ne_of ec e (fun z => nomatch z))]
      exact ec⟩
theorem evn_disp1 {K : PySem.W.Frag} {ρ : List Sl} {cs cs1 cs2 : Cs} {tk tv : TE} {k : List Int} {d : PyData} (hk : Ev K tk ρ cs (.dat (encP k)) cs1) (hv : Ev K tv ρ cs1 (.dat d) cs2) : EvN K (tDisp1 tk tv) ρ cs (.dic [(k, d)]) cs2 := fun G σ H ok Q q => fun p hp => by
  obtain ⟨f0, ok0⟩ := ok.newC (o := .dT []) (c := .dic []) hp (fun H' h => ⟨[], h, rfl, rfl⟩)
  refine (hk.frame (x := (p, .dic []))) G σ _ ok0 _ fun x G1 H1 f1 ok1 e1 => (hv.frame (x := (p, .dic []))) G1 σ H1 ok1 _ fun y G2 H2 f2 ok2 e2 => ?_
  obtain ⟨ws, hw, dr⟩ := ok2.ce.dic (j := 0) rfl
  have e : ws = [] := dr
  subst e
  obtain ⟨b, rfl, hb⟩ := dt_key e1
  obtain ⟨f3, ok3⟩ := ok2.put (k := 0) (o := .dT [(kInt k, y)]) (c' := .dic [(k, d)]) rfl ⟨_, upd_same, rfl, y, [], rfl, e2, rfl⟩
  exact ⟨hw, b, kInt k, rfl, ok2.ex _ _ (f2.g _ _ hb), q p G2 _ hp (((f0.trans f1).trans f2).trans f3) ok3⟩
end LW

set_option Elab.async false
set_option linter.all false
set_option maxRecDepth 100000
set_option maxHeartbeats 4000000
namespace LW
open PySem PySem.Spec PyProof.Rows L2
/-! ### locks -/
mutual
theorem Dt.drop {G G' : Hp} {p : Addr} {o : Obj} {u : HO} (hp : G p = some (.frz o u)) (e : ∀ a x, a ≠ p → G a = some x → G' a = some x) : ∀ (d : PyData) (v : V), Dt G d v → Dt G' d v
  | .none, v, h => h
  | .bool b, v, h => h
  | .int i, v, h => h
  | .str x, v, h => h
  | .list ds, v, h => by
    obtain ⟨a, xs, h1, h2, h3⟩ := h
    have ha : a ≠ p := fun z => by
      rw [z, hp] at h2
      cases h2
    exact ⟨a, xs, h1, e _ _ ha h2, DtAll.drop' hp e ds xs h3⟩
  | .tuple ds, v, h => by
    obtain ⟨a, xs, h1, h2, h3⟩ := h
    have ha : a ≠ p := fun z => by
      rw [z, hp] at h2
      cases h2
    exact ⟨a, xs, h1, e _ _ ha h2, DtAll.drop' hp e ds xs h3⟩
  | .dict _, _, h => h
theorem DtAll.drop' {G G' : Hp} {p : Addr} {o : Obj} {u : HO} (hp : G p = some (.frz o u)) (e : ∀ a x, a ≠ p → G a = some x → G' a = some x) : ∀ (ds : List PyData) (vs : List V), DtAll G ds vs → DtAll G' ds vs
  | [], vs, h => h
  | d :: ds, vs, h => by
    obtain ⟨v, r, h1, h2, h3⟩ := h
    exact ⟨v, r, h1, Dt.drop hp e d v h2, DtAll.drop' hp e ds r h3⟩
end
theorem SlVs.drop {G G' : Hp} {p : Addr} {o : Obj} {u : HO} (hp : G p = some (.frz o u)) (e : ∀ a x, a ≠ p → G a = some x → G' a = some x) : ∀ {vs : List V} {ss : List Sl}, (∀ ks, Sl.fd ks ∉ ss) → (∀ ks, Sl.fl ks ∉ ss) → SlVs G vs ss → SlVs G' vs ss
  | [], [], _, _, h => h
  | v :: vs, s :: ss, h1, h2, h => by
    refine ⟨?_, SlVs.drop hp e (fun ks z => h1 ks (List.mem_cons_of_mem _ z)) (fun ks z => h2 ks (List.mem_cons_of_mem _ z)) h.2⟩
    cases s with
    | un => trivial
    | dat d => exact Dt.drop hp e d v h.1
    | raw w => exact h.1
    | fd ks => exact absurd List.mem_cons_self (h1 ks)
    | fl ks => exact absurd List.mem_cons_self (h2 ks)
    | rdd w d d' =>
      obtain ⟨a, x, y, q1, q2, q3, q4⟩ := h.1
      have ha : a ≠ p := fun z => by
        rw [z, hp] at q2
        cases q2
      exact ⟨a, x, y, q1, e _ _ ha q2, Dt.drop hp e d x q3, Dt.drop hp e d' y q4⟩
  | [], _ :: _, _, _, h => h
  | _ :: _, [], _, _, h => h
theorem CellIs.drop {K : PySem.W.Frag} {G G' H H' : Hp} {a p : Addr} {o : Obj} {u : HO} (hp : G p = some (.frz o u)) (e : ∀ a x, a ≠ p → G a = some x → G' a = some x) (h : H' a = H a) : ∀ {c : Ce}, CellIs K G H a c → CellIs K G' H' a c
  | .lst ds, ⟨vs, h1, h2⟩ => ⟨vs, h.trans h1, DtAll.drop' hp e _ _ h2⟩
  | .dic kvs, ⟨ws, h1, h2, h3⟩ => ⟨ws, h.trans h1, h2, DtAll.drop' hp e _ _ h3⟩
  | .scr ns, q => CellIs.mono (K := K) (G := G') (c := .scr ns) (.refl _) h q
  | .raw o, q => ⟨h.trans q.1, q.2⟩
  | .ins C dx fs, ⟨ws, h1, h2, h3, h4, h5⟩ => ⟨ws, h.trans h1, h2, SlVs.drop hp e h4 h5 h3, h4, h5⟩
section
variable {K : PySem.W.Frag} {ρ : List Sl} {cs cs1 cs2 : Cs} {t : TE} {p : Addr} {ds : List PyData} {i j : Nat} {z : Sl} {c : Ce}
/-- an expression while the thing at p is locked -/
theorem evn_lock {u : HO} {zl : Sl} {ce : Ce} (i j : Nat) (hi : ρ[i]? = some (.raw (.ref p))) (hk : cs[j]? = some (p, ce)) (hm : ∀ u', u' = u → True)
    (hc : ∀ G H, CellIs K G H p ce → ∃ u, H p = some u ∧ Mut (some u) ∧ ∀ od G' H', Ex G G' → (H' p = some u → CellIs K G' H' p ce) ∧ (G' p = some (.frz od u) → SlV G' (.ref p) zl))
    (h : EvN K t (ρ.set i zl) (cs.eraseIdx j) (.lst ds) (cs.eraseIdx j)) : EvN K (tLockE t) ρ cs (.lst ds) cs := fun G σ H ok Q q => by
  obtain ⟨g1, _, g3⟩ := ok.ce.is _ (List.mem_of_getElem? hk)
  have g1 : G p = none := g1
  obtain ⟨u, hu, mu, hcell⟩ := hc G H g3
  refine ⟨p, u, hu, mu, fun od => ?_⟩
  have sb : List.Sublist (cs.eraseIdx j) cs := List.eraseIdx_sublist _ _
  have pm : p ∈ cs.map (·.1) := List.mem_map.mpr ⟨_, List.mem_of_getElem? hk, rfl⟩
  have other : ∀ x ∈ cs.eraseIdx j, x.1 ≠ p := fun x hx => by
    obtain ⟨l, hl⟩ := List.mem_iff_getElem?.mp hx
    rw [List.getElem?_eraseIdx] at hl
    split at hl
    · exact addr_ne ok.ce.nd hk hl (by omega)
    · exact addr_ne ok.ce.nd hk hl (by omega)
  have ex1 : Ex G (upd G p (.frz od u)) := .new g1
  obtain ⟨v0, hv0, e0⟩ := ok.sl.get hi (fun z => nomatch z)
  have ev0 : v0 = .ref p := e0
  subst ev0
  have eσ : σ.set i (some (.ref p)) = σ := by
    refine List.ext_getElem? fun l => ?_
    rw [List.getElem?_set]
    by_cases hl : i = l
    · subst hl
      rw [if_pos rfl, hv0, if_pos (List.getElem?_eq_some_iff.mp hv0).1]
    · rw [if_neg hl]
  have sl1 := (ok.sl.mono ex1).set i (v := .ref p) (s := zl) ((hcell od (upd G p (.frz od u)) H ex1).2 upd_same)
  rw [eσ] at sl1
  have ok1 : Ok K (upd G p (.frz od u)) σ (upd H p (.frz od u)) (ρ.set i zl) (cs.eraseIdx j) := by
    refine ⟨fun a o ha => ?_, sl1, (sb.map _).nodup ok.ce.nd, fun x hx => ?_⟩
    · by_cases hp : a = p
      · subst hp
        rw [upd_same] at ha ⊢
        exact ha
      · rw [upd_ne hp] at ha ⊢
        exact ok.ex _ _ ha
    · obtain ⟨x1, ⟨o, x2⟩, x3⟩ := ok.ce.is x (sb.subset hx)
      have hne := other x hx
      exact ⟨(upd_ne hne).trans x1, ⟨o, (upd_ne hne).trans x2⟩, x3.mono ex1 (upd_ne hne)⟩
  refine h _ σ _ ok1 _ fun r G2 H2 hr f2 ok2 => ?_
  have gp : G2 p = some (.frz od u) := f2.g _ _ upd_same
  have hp2 : H2 p = some (.frz od u) := ok2.ex _ _ gp
  refine ⟨hp2, ?_⟩
  have hrp : r ≠ p := fun z => by
    rw [z, upd_same] at hr
    cases hr
  have hr0 : H r = none := by
    rw [upd_ne hrp] at hr
    exact hr
  -- back
  let G3 : Hp := fun a => if a = p then none else G2 a
  have g3p : G3 p = none := if_pos rfl
  have g3n : ∀ a, a ≠ p → G3 a = G2 a := fun a ha => if_neg ha
  have ex3 : Ex G G3 := fun a o ha => by
    have hne : a ≠ p := fun z => by
      rw [z, g1] at ha
      cases ha
    rw [g3n a hne]
    exact f2.g _ _ (ex1 _ _ ha)
  have dr : ∀ a x, a ≠ p → G2 a = some x → G3 a = some x := fun a x ha hx => by
    rw [g3n a ha]
    exact hx
  refine q r G3 (upd H2 p u) hr0 ⟨ex3, fun a o ha hn => ?_, fun a o ha => ?_, fun a ha => ?_⟩ ⟨fun a o ha => ?_, ok.sl.mono ex3, ?_, fun x hx => ?_⟩
  · have hne : a ≠ p := fun z => hn (by rw [z]; exact pm)
    have hn' : a ∉ (cs.eraseIdx j).map (·.1) := fun z => hn ((sb.map _).subset z)
    obtain ⟨k1, k2⟩ := f2.keep a o (by rw [upd_ne hne]; exact ha) hn'
    refine ⟨by rw [upd_ne hne]; exact k1, ?_⟩
    rcases k2 with k2 | k2
    · refine .inl ?_
      rw [g3n a hne, k2, upd_ne hne]
    · exact .inr k2
  · by_cases hne : a = p
    · subst hne
      exact ⟨u, upd_same⟩
    · obtain ⟨o', ho'⟩ := f2.grow a o (by rw [upd_ne hne]; exact ha)
      exact ⟨o', by rw [upd_ne hne]; exact ho'⟩
  · rw [List.map_cons] at ha
    rcases List.mem_cons.mp ha with z | z
    · exact .inr (by rw [z]; exact hr0)
    · exact .inl z
  · by_cases hne : a = p
    · subst hne
      rw [g3p] at ha
      cases ha
    · rw [g3n a hne] at ha
      rw [upd_ne hne]
      exact ok2.ex _ _ ha
  · rw [List.map_cons]
    refine List.nodup_cons.mpr ⟨fun z => ?_, ok.ce.nd⟩
    obtain ⟨y, hy, ey⟩ := List.mem_map.mp z
    obtain ⟨_, ⟨o, h2⟩, _⟩ := ok.ce.is y hy
    have ey : y.1 = r := ey
    rw [ey, hr0] at h2
    cases h2
  · rcases List.mem_cons.mp hx with y | y
    · subst y
      obtain ⟨x1, ⟨o, x2⟩, x3⟩ := ok2.ce.is (r, .lst ds) List.mem_cons_self
      have x1 : G2 r = none := x1
      exact ⟨by show G3 r = none; rw [g3n r hrp]; exact x1, ⟨o, by show upd H2 p u r = some o; rw [upd_ne hrp]; exact x2⟩, x3.drop gp dr (upd_ne hrp)⟩
    · by_cases hxp : x.1 = p
      · have ex : x = (p, ce) := by
          obtain ⟨i1, e1⟩ := List.mem_iff_getElem?.mp y
          have e3 : (cs.map (·.1))[i1]? = some p := by rw [List.getElem?_map, e1, ← hxp]; rfl
          have e4 : (cs.map (·.1))[j]? = some p := by rw [List.getElem?_map, hk]; rfl
          have e5 := nd_ix ok.ce.nd e3 e4
          rw [e5, hk] at e1
          exact (Option.some.inj e1).symm
        subst ex
        exact ⟨g3p, ⟨u, upd_same⟩, (hcell od G3 _ ex3).1 upd_same⟩
      · have hm' : x ∈ cs.eraseIdx j := by
          obtain ⟨i1, e1⟩ := List.mem_iff_getElem?.mp y
          have hij : i1 ≠ j := fun z => by
            rw [z, hk] at e1
            exact hxp (by rw [← Option.some.inj e1])
          rw [List.mem_iff_getElem?]
          by_cases hlt : i1 < j
          · exact ⟨i1, by rw [List.getElem?_eraseIdx, if_pos hlt]; exact e1⟩
          · exact ⟨i1 - 1, by rw [List.getElem?_eraseIdx, if_neg (by omega), show i1 - 1 + 1 = i1 by omega]; exact e1⟩
        obtain ⟨x1, ⟨o, x2⟩, x3⟩ := ok2.ce.is x (List.mem_cons_of_mem _ hm')
        exact ⟨by rw [g3n _ hxp]; exact x1, ⟨o, by rw [upd_ne hxp]; exact x2⟩, x3.drop gp dr (upd_ne hxp)⟩
theorem evn_lockD {kvs : KD} (i j : Nat) (hi : ρ[i]? = some (.raw (.ref p))) (hk : cs[j]? = some (p, .dic kvs)) (h : EvN K t (ρ.set i (.fd (kvs.map (·.1)))) (cs.eraseIdx j) (.lst ds) (cs.eraseIdx j)) : EvN K (tLockE t) ρ cs (.lst ds) cs :=
  evn_lock (u := .dT []) (zl := .fd (kvs.map (·.1))) i j hi hk (fun _ _ => trivial) (fun G H ⟨ws, h1, h2, h3⟩ => ⟨.dT ws, h1, trivial, fun od G' H' ex => ⟨fun q => ⟨ws, q, h2, h3.mono ex⟩, fun q => ⟨p, od, ws, rfl, q, by rw [h2, List.map_map]; rfl⟩⟩⟩) h
theorem evn_lockL {es : List PyData} (i j : Nat) (hi : ρ[i]? = some (.raw (.ref p))) (hk : cs[j]? = some (p, .lst es)) (h : EvN K t (ρ.set i (.fl es)) (cs.eraseIdx j) (.lst ds) (cs.eraseIdx j)) : EvN K (tLockE t) ρ cs (.lst ds) cs :=
  evn_lock (u := .dT []) (zl := .fl es) i j hi hk (fun _ _ => trivial) (fun G H ⟨vs, h1, h2⟩ => ⟨.lst vs, h1, trivial, fun od G' H' ex => ⟨fun q => ⟨vs, q, h2.mono ex⟩, fun q => ⟨p, od, vs, rfl, q, h2.mono ex⟩⟩⟩) h
end
/-! ### what is walked, locked -/
section
variable {K : PySem.W.Frag} {ρ : List Sl} {cs cs1 cs2 : Cs} {te td : TE} {p : Addr} {ds : List PyData} {ks : List (List Int)}
theorem ei_fl (h : Ev K te ρ cs (.fl ds) cs1) : EvI K (iM K te) ρ cs ds cs1 := EvI.l fun G σ H ok R q =>
  h G σ H ok _ fun v G1 H1 f1 ok1 e1 => by
    obtain ⟨p, o, vs, rfl, hp, dv⟩ := e1
    refine ⟨p, rfl, ⟨vs, .inl (.inr ⟨o, ok1.ex _ _ hp⟩)⟩, q _ G1 H1 f1 ok1 ⟨fun i H ex hi => ⟨vs, .inl (.inr ⟨o, ex _ _ hp⟩), by rw [← dv.len]; exact hi⟩, fun i H ex hi => ?_, fun i H x H' ex y d hd G2 e2 e3 => ?_⟩⟩
    · have h : i < vs.length := by rw [← dv.len]; exact hi
      exact ⟨vs, vs[i], .inl (.inr ⟨o, ex _ _ hp⟩), List.getElem?_eq_getElem h⟩
    · obtain ⟨rfl, h⟩ := y
      obtain ⟨v, hv, dv⟩ := dv.get hd
      have e : some v = some x := hv.symm.trans (h vs (.inl (.inr ⟨o, ex _ _ hp⟩)))
      cases e
      exact ⟨G2, .refl e3, Dt.mono e2 _ _ dv⟩
theorem ei_fd (h : Ev K td ρ cs (.fd ks) cs1) : EvI K (iKeys td) ρ cs (ks.map encP) cs1 := fun G σ H ok R q =>
  h G σ H ok _ fun v G1 H1 f1 ok1 e1 => by
    obtain ⟨p, o, ws, rfl, hp, hw⟩ := e1
    have hlen : ws.length = ks.length := by
      have e := congrArg List.length hw
      rw [List.length_map, List.length_map] at e
      exact e
    refine ⟨p, o, rfl, .inr ⟨ws, ok1.ex _ _ hp, q _ G1 H1 f1 ok1 ⟨fun i H ex hi => ⟨ex _ _ hp, by rw [List.length_map] at hi; omega⟩, fun i H ex hi => ⟨ex _ _ hp, by rw [List.length_map] at hi; omega⟩, fun i H x H' ex y d hd G2 e2 e3 => ?_⟩⟩⟩
    obtain ⟨rfl, k, w, b, h1, rfl, h2⟩ := y
    rw [List.getElem?_map] at hd
    obtain ⟨k0, hk0, rfl⟩ := Option.map_eq_some_iff.mp hd
    have e : (ws.map (·.1))[i]? = some k := by rw [List.getElem?_map, h1]; rfl
    rw [hw, List.getElem?_map, hk0] at e
    have e : kInt k0 = k := Option.some.inj e
    subst e
    have g := Gr.see e3 h2
    refine ⟨_, g, b, (kInt k0).map kV, rfl, upd_same, ?_⟩
    rw [kInt_vals]
    exact DtAll.of_ints k0
end
/-! ### sorted -/
def rSortM (K : PySem.W.Frag) : List V → Hp → VK → Prop := fun xs H Q => rSortA K xs H Q ∨ rSortK K xs H Q
theorem sort_K {X : Cx} (K : PySem.W.Frag) (hu : X.A.units + 65 < cLine) (hc : X.calm = true := by rfl) (h : X.K = K := by rfl) : CallR X (.builtin "sorted") (rSortM K) := by
  subst h
  exact CallR_or (cr_sortA hu) (cr_sortK hc hu)
theorem dt_sorted {G : Hp} {ds : List PyData} {vs : List V} (h : DtAll G ds vs) : DtAll G (sortD ds) (srtP vs ds) := by
  have e : sortD ds = ((vs.zip ds).mergeSort (PySem.W.dataLe false fun p => p.2)).map (·.2) := by
    unfold sortD
    have e1 : ds = (vs.zip ds).map (·.2) := (zip_snd h.len.symm).symm
    conv => lhs; rw [e1]
    exact (List.map_mergeSort (f := fun x : V × PyData => x.2) (r := PySem.W.dataLe false fun p : V × PyData => p.2) (s := PySem.W.dataLe false id) (fun a _ b _ => rfl)).symm
  rw [e]
  unfold srtP
  have all : ∀ q ∈ vs.zip ds, Dt G q.2 q.1 := fun q hq => by
    obtain ⟨i, hi⟩ := List.mem_iff_getElem?.mp hq
    rw [List.getElem?_zip_eq_some] at hi
    obtain ⟨d, hd, dd⟩ := h.got hi.1
    rw [hi.2] at hd
    cases hd
    exact dd
  have all2 : ∀ q ∈ (vs.zip ds).mergeSort (PySem.W.dataLe false fun p => p.2), Dt G q.2 q.1 := fun q hq => all q (List.mem_mergeSort.mp hq)
  generalize (vs.zip ds).mergeSort (PySem.W.dataLe false fun p => p.2) = l at all2
  induction l with
  | nil => rfl
  | cons x l ih => exact ⟨x.1, _, rfl, all2 x List.mem_cons_self, ih fun q hq => all2 q (List.mem_cons_of_mem _ hq)⟩
section
variable {K : PySem.W.Frag} {ρ : List Sl} {cs cs1 cs2 : Cs} {te td : TE} {tr : TA} {z : Sl} {p : Addr} {ds : List PyData} {kvs : KD} {j : Nat}
theorem evn_sort (h : Ev K te ρ cs z cs1) (hz : Rds cs1 z (.list ds)) (ok : SortOk ds) : EvN K (tCB (rSortM K) (tCons te tNil)) ρ cs (.lst (sortD ds)) cs1 := fun G σ H okx Q q =>
  (ea_cons h ea_nil) G σ H okx _ fun vs G1 H1 f1 ok1 e1 => by
    obtain ⟨v, rfl, hv⟩ := e1.one
    obtain ⟨a, xs, rfl, hp, dv⟩ := hz.list hv ok1.ex ok1.ce
    refine .inl ⟨a, xs, ds, rfl, .inl (.inl hp), DtAll.dp ds xs (dv.mono ok1.ex), ok, fun r hr => ?_⟩
    obtain ⟨f2, ok2⟩ := ok1.newL hr (dt_sorted dv)
    exact q r G1 _ (f1.fresh hr) (f1.trans f2) ok2
theorem see_all {H : Hp} : ∀ {kvs : KD} {ws : List (List L2.Key × V)} {bs : List Addr} {G G0 : Hp}, DR G0 kvs ws → IsKeys H ws bs → Ex G H → ∃ G', Gr G H G' H ∧ DtAll G' (kvs.map fun p => encP p.1) (bs.map V.ref)
  | [], ws, bs, G, G0, dr, h, e => by
    have h0 : ws = [] := dr
    subst h0
    cases h
    exact ⟨G, .refl e, rfl⟩
  | p :: r, ws, bs, G, G0, dr, h, e => by
    obtain ⟨v, ws', rfl, h1, h2⟩ := dr
    cases h with
    | @cons _ b _ bs h t =>
      have g := Gr.see e h
      obtain ⟨G', g', d'⟩ := see_all h2 t g.gh
      refine ⟨G', g.trans g', .ref b, bs.map V.ref, rfl, ⟨b, (kInt p.1).map kV, rfl, g'.g _ _ upd_same, ?_⟩, d'⟩
      rw [kInt_vals]
      exact DtAll.of_ints p.1
theorem evn_sortK (j : Nat) (h : Ev K te ρ cs (.raw (.ref p)) cs1) (hk : cs1[j]? = some (p, .dic kvs)) (ok : SortOk (kvs.map fun q => encP q.1)) : EvN K (tCB (rSortM K) (tCons te tNil)) ρ cs (.lst (sortD (kvs.map fun q => encP q.1))) cs1 := fun G σ H okx Q q =>
  (ea_cons h ea_nil) G σ H okx _ fun vs G1 H1 f1 ok1 e1 => by
    obtain ⟨v, rfl, hv⟩ := e1.one
    cases hv
    obtain ⟨ws, hw, dr⟩ := ok1.ce.dic hk
    refine .inr ⟨p, ws, rfl, .inl hw, by rw [dr.keys]; exact ok, fun r bs hr isk => ?_⟩
    obtain ⟨G2, g2, d2⟩ := see_all dr isk ok1.ex
    have ok2 := ok1.gr g2
    rw [dr.keys]
    obtain ⟨f3, ok3⟩ := ok2.newL hr (dt_sorted d2)
    exact q r G2 _ (f1.fresh hr) ((f1.trans (g2.fr (cs := cs1))).trans f3) ok3
/-- xs[::-1] -/
theorem rev_K {X : Cx} {e : Expr} {te : TE} {k : Nat} {p1 p2 p3 pos : Pos} (K : PySem.W.Frag) (he : PE X e te) (h : X.K = K := by rfl) : PE X (.Subscript e (.Slice none none (some (.UnaryOp .USub (.Constant (.int 1) k p1) p2)) p3) pos) (tRevL K te) := by
  subst h
  exact pe_revL he
theorem evn_rev (h : Ev K te ρ cs z cs1) (hz : Rds cs1 z (.list ds)) : EvN K (tRevL K te) ρ cs (.lst ds.reverse) cs1 := fun G σ H okx Q q =>
  h G σ H okx _ fun v G1 H1 f1 ok1 e1 => by
    obtain ⟨a, xs, rfl, hp, dv⟩ := hz.list e1 ok1.ex ok1.ce
    refine ⟨a, xs, rfl, .inl (.inl hp), fun r hr => ?_⟩
    obtain ⟨f2, ok2⟩ := ok1.newL hr dv.reverse
    exact q r G1 _ (f1.fresh hr) (f1.trans f2) ok2
end
end LW

set_option Elab.async false
set_option linter.all false
set_option maxRecDepth 100000
set_option maxHeartbeats 4000000
namespace LW
open PySem PySem.Spec PyProof.Rows L2
section
variable {K : PySem.W.Frag} {ρ : List Sl} {cs cs1 cs2 : Cs} {te : TE} {items : List PyData} {wi wi1 : TI} {g g1 : TG} {vs vs1 : List Nat}
theorem EvI.frame {x : Addr × Ce} (h : EvI K wi ρ cs items cs1) : EvI K wi ρ (x :: cs) items (x :: cs1) := fun G σ H ok R q =>
  h G σ H (ok.sub (List.sublist_cons_self _ _)) R fun J G1 H1 f1 ok1 it => by
    obtain ⟨f2, ok2⟩ := frame1 ok.ce f1 ok1.ce
    exact q J G1 H1 f2 ⟨ok1.ex, ok1.sl, ok2⟩ it
/-- [e for x in xs for y in ys] -/
theorem evn_lc2 {α β : Type} {xs : List α} {enc : α → PyData} (ys : α → List β) {encB : β → PyData} (f : α → β → PyData) (hi : EvI K wi ρ cs (xs.map enc) cs1) (hl : (xs.flatMap fun x => (ys x).map (f x)).length ≤ 100000)
    (hs : ∀ x ∈ xs, ∃ as, Tg g (enc x) as ∧ (∀ a ∈ as.map (·.1), a ∈ vs) ∧ EvI K wi1 (setsR (wipeR ρ vs) as) cs1 ((ys x).map encB) cs1 ∧ ∀ y ∈ ys x, ∃ bs, Tg g1 (encB y) bs ∧ (∀ a ∈ bs.map (·.1), a ∈ vs1) ∧ Ev K te (setsR (wipeR (setsR (wipeR ρ vs) as) vs1) bs) cs1 (.dat (f x y)) cs1) :
    EvN K (tLc2 wi g tYes wi1 g1 tYes te vs vs1) ρ cs (.lst (xs.flatMap fun x => (ys x).map (f x))) cs1 := fun G σ H ok Q q =>
  hi G σ H ok _ fun J G1 H1 f1 ok1 it => by
    intro D hD
    generalize hT : (xs.flatMap fun x => (ys x).map (f x)) = total at hl q
    let W : Nat → Nat → Hp → Prop := fun i m Hx => i + m = xs.length ∧ ∃ Gx, Fr G1 H1 cs1 Gx Hx ((D, .lst ((xs.take i).flatMap fun x => (ys x).map (f x))) :: cs1) ∧ Ok K Gx σ Hx ρ ((D, .lst ((xs.take i).flatMap fun x => (ys x).map (f x))) :: cs1)
    have hW0 : W 0 xs.length (upd H1 D (.lst [])) := by
      obtain ⟨f2, ok2⟩ := ok1.newL (ds := []) (vs := []) hD rfl
      exact ⟨by omega, G1, f2, ok2⟩
    refine ⟨W, ⟨xs.length, hW0⟩, ?_⟩
    rintro i m Hx ⟨em, Gx, fx, okx⟩
    have itx := it.mono fx.g
    by_cases hlt : i < xs.length
    · have hx : xs[i]? = some xs[i] := List.getElem?_eq_getElem hlt
      generalize hxi : xs[i] = x at hx
      have hxm : x ∈ xs := List.mem_of_getElem? hx
      obtain ⟨as, tg, has, hi1, hin⟩ := hs x hxm
      have hnext : (xs.take (i + 1)).flatMap (fun x => (ys x).map (f x)) = (xs.take i).flatMap (fun x => (ys x).map (f x)) ++ (ys x).map (f x) := by
        rw [List.take_add_one, hx, List.flatMap_append]
        simp
      have hsub : ((xs.take (i + 1)).flatMap fun x => (ys x).map (f x)).length ≤ 100000 := by
        refine Nat.le_trans ?_ hl
        rw [← hT]
        conv => rhs; rw [← List.take_append_drop (i + 1) xs]
        rw [List.flatMap_append, List.length_append]
        exact Nat.le_add_right _ _
      refine .inr ⟨itx.go i Hx okx.ex (by rw [List.length_map]; exact hlt), fun H' => W (i + 1) (m - 1) H', fun H' h => ⟨m - 1, by omega, h⟩, fun v H' y => ?_⟩
      obtain ⟨G3, g3, dx⟩ := itx.yld i Hx v H' okx.ex y (enc x) (by rw [List.getElem?_map, hx]; rfl) Gx (.refl _) okx.ex
      have ok3 := okx.gr g3
      have f3 := fx.trans (g3.fr (cs := (D, .lst ((xs.take i).flatMap fun x => (ys x).map (f x))) :: cs1))
      refine tg G3 v H' (wipe σ vs) dx ok3.ex _ fun ws hws => ⟨by rw [wipe_sets has, wipe_wipe], ?_⟩
      generalize hacc : ((xs.take i).flatMap fun x => (ys x).map (f x)) = acc at *
      have ok4 : Ok K G3 (sets (wipe σ vs) (as.map (·.1)) ws) H' (setsR (wipeR ρ vs) as) ((D, .lst acc) :: cs1) := ⟨ok3.ex, (ok3.sl.wipe vs).sets hws, ok3.ce⟩
      simp only [tYes, if_true]
      refine (EvI.frame (x := (D, .lst acc)) hi1) G3 _ H' ok4 _ fun J1 G5 H5 f5 ok5 it1 => ?_
      let W1 : Nat → Nat → Hp → Prop := fun j k Hy => j + k = (ys x).length ∧ ∃ Gy, Fr G5 H5 ((D, .lst acc) :: cs1) Gy Hy ((D, .lst (acc ++ ((ys x).take j).map (f x))) :: cs1) ∧ Ok K Gy (sets (wipe σ vs) (as.map (·.1)) ws) Hy (setsR (wipeR ρ vs) as) ((D, .lst (acc ++ ((ys x).take j).map (f x))) :: cs1)
      refine ⟨W1, ⟨(ys x).length, by omega, G5, by simpa using (Fr.refl (G := G5) (H := H5) (cs := (D, .lst acc) :: cs1)), by simpa using ok5⟩, ?_⟩
      rintro j k Hy ⟨ek, Gy, fy, oky⟩
      have ity := it1.mono fy.g
      by_cases hlj : j < (ys x).length
      · have hy : (ys x)[j]? = some (ys x)[j] := List.getElem?_eq_getElem hlj
        generalize (ys x)[j] = yy at hy
        obtain ⟨bs, tg1, hbs, he⟩ := hin yy (List.mem_of_getElem? hy)
        refine .inr ⟨ity.go j Hy oky.ex (by rw [List.length_map]; exact hlj), fun H' => W1 (j + 1) (k - 1) H', fun H' h => ⟨k - 1, by omega, h⟩, fun v1 H6 y1 => ?_⟩
        obtain ⟨G6, g6, dx6⟩ := ity.yld j Hy v1 H6 oky.ex y1 (encB yy) (by rw [List.getElem?_map, hy]; rfl) Gy (.refl _) oky.ex
        have ok6 := oky.gr g6
        have f6 := fy.trans (g6.fr (cs := (D, .lst (acc ++ ((ys x).take j).map (f x))) :: cs1))
        refine tg1 G6 v1 H6 _ dx6 ok6.ex _ ?_
        intro ws1 hws1
        refine ⟨by rw [wipe_sets hbs, wipe_wipe], ?_⟩
        have ok7 : Ok K G6 (sets (wipe (sets (wipe σ vs) (as.map (·.1)) ws) vs1) (bs.map (·.1)) ws1) H6 (setsR (wipeR (setsR (wipeR ρ vs) as) vs1) bs) ((D, .lst (acc ++ ((ys x).take j).map (f x))) :: cs1) := ⟨ok6.ex, (ok6.sl.wipe vs1).sets hws1, ok6.ce⟩
        refine (Ev.frame (x := (D, .lst (acc ++ ((ys x).take j).map (f x)))) he) G6 _ H6 ok7 _ fun y8 G8 H8 f8 ok8 e8 => ?_
        obtain ⟨vs8, hv8, dv8⟩ := ok8.ce.lst (k := 0) rfl
        have hlen8 : (acc ++ ((ys x).take j).map (f x)).length < 100000 := by
          have h9 : ((acc ++ (ys x).map (f x))).length ≤ 100000 := by rw [← hnext]; exact hsub
          rw [List.length_append, List.length_map] at h9 ⊢
          rw [List.length_take]
          omega
        refine ⟨vs8, hv8, by rw [← dv8.len]; exact Nat.lt_of_lt_of_le hlen8 (by decide), ?_⟩
        obtain ⟨f9, ok9⟩ := ok8.put (k := 0) (o := .lst (vs8 ++ [y8])) (c' := .lst (acc ++ ((ys x).take j).map (f x) ++ [f x yy])) rfl ⟨_, upd_same, dv8.append (.one e8)⟩
        have en : acc ++ ((ys x).take (j + 1)).map (f x) = acc ++ ((ys x).take j).map (f x) ++ [f x yy] := by
          rw [List.take_add_one, hy, List.map_append, List.append_assoc]
          rfl
        refine ⟨by omega, G8, ?_, ?_⟩
        · rw [en]
          exact (f6.trans f8).trans f9
        · rw [en]
          exact ⟨ok9.ex, ok6.sl.mono f8.g, ok9.ce⟩
      · have ej : j = (ys x).length := by omega
        subst ej
        rw [List.take_length] at fy oky
        refine .inl ⟨ity.stop _ Hy oky.ex (by rw [List.length_map]; exact Nat.le_refl _), by omega, Gy, ?_, ?_⟩
        · rw [hnext]
          exact (f3.trans f5).trans fy
        · rw [hnext]
          exact ⟨oky.ex, ok3.sl.mono (f5.g.trans fy.g), oky.ce⟩
    · have ei : i = xs.length := by omega
      subst ei
      rw [List.take_length] at fx okx
      rw [hT] at fx okx
      exact .inl ⟨itx.stop _ Hx okx.ex (by rw [List.length_map]; exact Nat.le_refl _), q D Gx Hx (f1.fresh hD) (f1.trans fx) okx⟩
end
end LW

set_option linter.all false
namespace LW
/-! ### turns -/
def turnsM : Nat → List (List Nat)
  | 0 => [[]]
  | n + 1 => (turnsM n).flatMap fun t => [t ++ [43], t ++ [45], t ++ [48]]
theorem mem_turnsM : ∀ (n : Nat) (t : List Nat), t ∈ turnsM n ↔ t.length = n ∧ ∀ c ∈ t, c = 43 ∨ c = 45 ∨ c = 48
  | 0, t => by
    show t ∈ [[]] ↔ _
    rw [List.mem_singleton]
    constructor
    · rintro rfl
      exact ⟨rfl, fun c hc => nomatch hc⟩
    · rintro ⟨h, _⟩
      exact List.length_eq_zero_iff.mp h
  | n + 1, t => by
    show t ∈ (turnsM n).flatMap _ ↔ _
    rw [List.mem_flatMap]
    constructor
    · rintro ⟨u, hu, h⟩
      obtain ⟨h1, h2⟩ := (mem_turnsM n u).mp hu
      have key : ∀ q, (q = 43 ∨ q = 45 ∨ q = 48) → (u ++ [q]).length = n + 1 ∧ ∀ c ∈ u ++ [q], c = 43 ∨ c = 45 ∨ c = 48 := fun q hq => by
        refine ⟨by rw [List.length_append, h1]; rfl, fun c hc => ?_⟩
        rcases List.mem_append.mp hc with z | z
        · exact h2 c z
        · rw [List.mem_singleton.mp z]
          exact hq
      simp only [List.mem_cons, List.not_mem_nil, or_false] at h
      rcases h with rfl | rfl | rfl
      · exact key 43 (.inl rfl)
      · exact key 45 (.inr (.inl rfl))
      · exact key 48 (.inr (.inr rfl))
    · rintro ⟨h1, h2⟩
      rcases snoc_cases t with rfl | ⟨u, q, rfl⟩
      · simp at h1
      · refine ⟨u, (mem_turnsM n u).mpr ⟨by simpa using h1, fun c hc => h2 c (List.mem_append_left _ hc)⟩, ?_⟩
        rcases h2 q (by simp) with rfl | rfl | rfl <;> simp
theorem turnsM_len : ∀ n, (turnsM n).length = 3 ^ n
  | 0 => rfl
  | n + 1 => by
    have key : ∀ l : List (List Nat), (l.flatMap fun t => [t ++ [43], t ++ [45], t ++ [48]]).length = l.length * 3 := fun l => by
      induction l with
      | nil => rfl
      | cons x l ih =>
        rw [List.flatMap_cons, List.length_append, ih]
        show 3 + l.length * 3 = (l.length + 1) * 3
        omega
    show ((turnsM n).flatMap _).length = _
    rw [key, turnsM_len n, Nat.pow_succ]
theorem turns_okT {s : Sg} {t : List Nat} : t ∈ turnsM s.w ↔ OkT s t := by
  rw [mem_turnsM]
  exact ⟨fun h => ⟨h.1, h.2⟩, fun h => ⟨h.len, h.ok⟩⟩
theorem turnsM_small {w : Nat} (h : w ≤ 5) : (turnsM w).length ≤ 243 := by
  rw [turnsM_len]
  exact Nat.pow_le_pow_right (by decide) h
/-! ### the pictures that glow -/
abbrev GL := List (List Int × List Nat)
def addG (s : Sg) (acc : GL) (t : List Nat) : GL := if glowM s t ≠ [] ∧ glowM s t ∉ acc.map (·.1) then acc ++ [(glowM s t, t)] else acc
def glowsM (s : Sg) : GL := (turnsM s.w).foldl (addG s) []
def keysG (g : GL) : List (List Int) := g.map (·.1)
structure GlOk (s : Sg) (ts : List (List Nat)) (g : GL) : Prop where
  nd : (keysG g).Nodup
  is : ∀ p ∈ g, p.1 = glowM s p.2 ∧ p.1 ≠ [] ∧ p.2 ∈ ts
  all : ∀ t ∈ ts, glowM s t ≠ [] → glowM s t ∈ keysG g
  len : g.length ≤ ts.length
theorem addG_ok {s : Sg} {ts : List (List Nat)} {g : GL} (h : GlOk s ts g) (t : List Nat) : GlOk s (ts ++ [t]) (addG s g t) := by
  unfold addG
  by_cases c : glowM s t ≠ [] ∧ glowM s t ∉ g.map (·.1)
  · rw [if_pos c]
    refine ⟨?_, fun p hp => ?_, fun u hu hne => ?_, ?_⟩
    · unfold keysG
      rw [List.map_append]
      refine List.nodup_append.mpr ⟨h.nd, by simp, fun a ha b hb => ?_⟩
      simp at hb
      subst hb
      exact fun e => c.2 (by rw [← e]; exact ha)
    · rcases List.mem_append.mp hp with z | z
      · obtain ⟨h1, h2, h3⟩ := h.is p z
        exact ⟨h1, h2, List.mem_append_left _ h3⟩
      · rw [List.mem_singleton.mp z]
        exact ⟨rfl, c.1, by simp⟩
    · unfold keysG
      rw [List.map_append, List.mem_append]
      rcases List.mem_append.mp hu with z | z
      · exact .inl (h.all u z hne)
      · rw [List.mem_singleton.mp z]
        exact .inr (by simp)
    · rw [List.length_append, List.length_append]
      have := h.len
      simp
      omega
  · rw [if_neg c]
    refine ⟨h.nd, fun p hp => ?_, fun u hu hne => ?_, ?_⟩
    · obtain ⟨h1, h2, h3⟩ := h.is p hp
      exact ⟨h1, h2, List.mem_append_left _ h3⟩
    · rcases List.mem_append.mp hu with z | z
      · exact h.all u z hne
      · rw [List.mem_singleton.mp z] at hne ⊢
        exact Classical.byContradiction fun y => c ⟨hne, y⟩
    · rw [List.length_append]
      have := h.len
      omega
theorem glows_fold {s : Sg} : ∀ (us ts : List (List Nat)) (g : GL), GlOk s ts g → GlOk s (ts ++ us) (us.foldl (addG s) g)
  | [], ts, g, h => by
    rw [List.append_nil]
    exact h
  | t :: us, ts, g, h => by
    rw [List.foldl_cons, show ts ++ t :: us = ts ++ [t] ++ us by simp]
    exact glows_fold us (ts ++ [t]) _ (addG_ok h t)
theorem glowsM_ok (s : Sg) : GlOk s (turnsM s.w) (glowsM s) := by
  have h := glows_fold (s := s) (turnsM s.w) [] [] ⟨List.nodup_nil, fun p hp => (nomatch hp), fun t ht => (nomatch ht), Nat.le_refl _⟩
  exact h
/-! ### pictures -/
def withinM (a b : List Int) : Bool := a.all fun x => decide (x ∈ b)
theorem withinM_iff {a b : List Int} : withinM a b = true ↔ ∀ x ∈ a, x ∈ b := by
  unfold withinM
  rw [List.all_eq_true]
  exact ⟨fun h x hx => of_decide_eq_true (h x hx), fun h x hx => decide_eq_true (h x hx)⟩
def joinM (a b : List Int) : List Int := sd (a ++ b)
theorem mem_joinM {a b : List Int} {x : Int} : x ∈ joinM a b ↔ x ∈ a ∨ x ∈ b := by
  unfold joinM
  rw [mem_sd, List.mem_append]
def cleanM (ks : List (List Int)) (p : List Int) : List (List Int) := ks.filter fun k => withinM k p
def largestM (ks : List (List Int)) (p : List Int) : List (List Int) := (cleanM ks p).filter fun one => !((cleanM ks p).any fun two => decide (one ≠ two) && withinM one two)
/-- a picture: sorted -/
abbrev Srt (p : List Int) : Prop := p.Pairwise (· < ·)
/-! ### covers -/
/-- X is the union of k parts -/
def Rch (P : List (List Int)) (k : Nat) (X : List Int) : Prop := ∃ l : List (List Int), l.length = k ∧ (∀ q ∈ l, q ∈ P) ∧ X = sd l.flatten
theorem rch_zero {P : List (List Int)} {X : List Int} : Rch P 0 X ↔ X = [] := by
  constructor
  · rintro ⟨l, h, _, rfl⟩
    rw [List.length_eq_zero_iff.mp h]
    rfl
  · rintro rfl
    exact ⟨[], rfl, fun q hq => (nomatch hq), rfl⟩
theorem Rch.srt {P : List (List Int)} {k : Nat} {X : List Int} (h : Rch P k X) : Srt X := by
  obtain ⟨l, _, _, rfl⟩ := h
  exact sd_sorted _
theorem Rch.step {P : List (List Int)} {k : Nat} {X q : List Int} (h : Rch P k X) (hq : q ∈ P) : Rch P (k + 1) (joinM X q) := by
  obtain ⟨l, h1, h2, rfl⟩ := h
  refine ⟨l ++ [q], by rw [List.length_append, h1]; rfl, fun r hr => ?_, ?_⟩
  · rcases List.mem_append.mp hr with z | z
    · exact h2 r z
    · rw [List.mem_singleton.mp z]
      exact hq
  · unfold joinM
    refine sd_congr fun z => ?_
    rw [List.flatten_append, List.mem_append, List.mem_append, mem_sd]
    simp
theorem Rch.back {P : List (List Int)} {k : Nat} {X : List Int} (h : Rch P (k + 1) X) : ∃ Y q, Rch P k Y ∧ q ∈ P ∧ X = joinM Y q := by
  obtain ⟨l, h1, h2, rfl⟩ := h
  rcases snoc_cases l with rfl | ⟨m, q, rfl⟩
  · simp at h1
  · refine ⟨sd m.flatten, q, ⟨m, by simpa using h1, fun r hr => h2 r (List.mem_append_left _ hr), rfl⟩, h2 q (by simp), ?_⟩
    unfold joinM
    refine sd_congr fun z => ?_
    rw [List.flatten_append, List.mem_append, List.mem_append, mem_sd]
    simp
/-- the least number -/
def Rank (P : List (List Int)) (k : Nat) (X : List Int) : Prop := Rch P k X ∧ ∀ j, j < k → ¬ Rch P j X
theorem Rank.uniq {P : List (List Int)} {k j : Nat} {X : List Int} (h : Rank P k X) (h' : Rank P j X) : k = j := by
  rcases Nat.lt_trichotomy k j with z | z | z
  · exact absurd h.1 (h'.2 k z)
  · exact z
  · exact absurd h'.1 (h.2 j z)
theorem rank_of {P : List (List Int)} {X : List Int} : ∀ {k : Nat}, Rch P k X → ∃ j, j ≤ k ∧ Rank P j X := fun {k} h => by
  induction k using Nat.strongRecOn with
  | ind k ih =>
    by_cases q : ∃ j, j < k ∧ Rch P j X
    · obtain ⟨j, hj, hr⟩ := q
      obtain ⟨i, hi, hR⟩ := ih j hj hr
      exact ⟨i, by omega, hR⟩
    · exact ⟨k, Nat.le_refl _, h, fun j hj hr => q ⟨j, hj, hr⟩⟩
theorem Rank.back {P : List (List Int)} {k : Nat} {X : List Int} (h : Rank P (k + 1) X) : ∃ Y q, Rank P k Y ∧ q ∈ P ∧ X = joinM Y q := by
  obtain ⟨Y, q, h1, h2, rfl⟩ := h.1.back
  refine ⟨Y, q, ⟨h1, fun j hj hr => ?_⟩, h2, rfl⟩
  exact h.2 (j + 1) (by omega) (hr.step h2)
/-! ### searching by levels -/
abbrev Src := List (List Int × Option (List Int × List Int))
def keysS (src : Src) : List (List Int) := src.map (·.1)
def stepB (st : Src × List (List Int)) (sp : List Int × List Int) : Src × List (List Int) :=
  if joinM sp.1 sp.2 ∈ keysS st.1 then st else (st.1 ++ [(joinM sp.1 sp.2, some sp)], st.2 ++ [joinM sp.1 sp.2])
def pairsB (level parts : List (List Int)) : List (List Int × List Int) := level.flatMap fun s => parts.map fun q => (s, q)
def roundB (parts : List (List Int)) (src : Src) (level : List (List Int)) : Src × List (List Int) := (pairsB level parts).foldl stepB (src, [])
def bfsB (parts : List (List Int)) (p : List Int) : Nat → Src → List (List Int) → Src
  | 0, src, _ => src
  | n + 1, src, level => if level ≠ [] ∧ p ∉ keysS src then bfsB parts p n (roundB parts src level).1 (roundB parts src level).2 else src
theorem mem_pairsB {level parts : List (List Int)} {sp : List Int × List Int} : sp ∈ pairsB level parts ↔ sp.1 ∈ level ∧ sp.2 ∈ parts := by
  unfold pairsB
  rw [List.mem_flatMap]
  constructor
  · rintro ⟨s, hs, h⟩
    obtain ⟨q, hq, rfl⟩ := List.mem_map.mp h
    exact ⟨hs, hq⟩
  · rintro ⟨h1, h2⟩
    exact ⟨sp.1, h1, List.mem_map.mpr ⟨sp.2, h2, rfl⟩⟩
/-- behind some pairs of a round -/
structure StepOk (P : List (List Int)) (k : Nat) (src0 : Src) (done : List (List Int × List Int)) (st : Src × List (List Int)) : Prop where
  old : ∀ x ∈ src0, x ∈ st.1
  keys : ∀ X, X ∈ keysS st.1 ↔ X ∈ keysS src0 ∨ X ∈ st.2
  later : ∀ X, X ∈ st.2 ↔ X ∉ keysS src0 ∧ ∃ sp ∈ done, X = joinM sp.1 sp.2
  new : ∀ x ∈ st.1, x ∈ src0 ∨ ∃ sp ∈ done, x = (joinM sp.1 sp.2, some sp)
  nd : (keysS st.1).Nodup
  len : st.1.length = src0.length + st.2.length
theorem stepB_ok {P : List (List Int)} {k : Nat} {src0 : Src} {done : List (List Int × List Int)} {st : Src × List (List Int)} (h : StepOk P k src0 done st) (sp : List Int × List Int) : StepOk P k src0 (done ++ [sp]) (stepB st sp) := by
  unfold stepB
  by_cases c : joinM sp.1 sp.2 ∈ keysS st.1
  · rw [if_pos c]
    refine ⟨h.old, h.keys, fun X => ?_, fun x hx => ?_, h.nd, h.len⟩
    · rw [h.later X]
      constructor
      · rintro ⟨h1, r, hr, h2⟩
        exact ⟨h1, r, List.mem_append_left _ hr, h2⟩
      · rintro ⟨h1, r, hr, h2⟩
        rcases List.mem_append.mp hr with z | z
        · exact ⟨h1, r, z, h2⟩
        · rw [List.mem_singleton.mp z] at h2
          subst h2
          rcases (h.keys _).mp c with y | y
          · exact absurd y h1
          · exact (h.later _).mp y
    · rcases h.new x hx with z | ⟨r, hr, z⟩
      · exact .inl z
      · exact .inr ⟨r, List.mem_append_left _ hr, z⟩
  · rw [if_neg c]
    have hc : joinM sp.1 sp.2 ∉ keysS src0 := fun z => c ((h.keys _).mpr (.inl z))
    refine ⟨fun x hx => List.mem_append_left _ (h.old x hx), fun X => ?_, fun X => ?_, fun x hx => ?_, ?_, ?_⟩
    · show X ∈ (st.1 ++ [(joinM sp.1 sp.2, some sp)]).map (·.1) ↔ _
      rw [List.map_append, List.mem_append, List.mem_append, ← or_assoc]
      refine or_congr (h.keys X) ?_
      simp
    · rw [List.mem_append, h.later X, List.mem_singleton]
      constructor
      · rintro (⟨h1, r, hr, h2⟩ | rfl)
        · exact ⟨h1, r, List.mem_append_left _ hr, h2⟩
        · exact ⟨hc, sp, by simp, rfl⟩
      · rintro ⟨h1, r, hr, h2⟩
        rcases List.mem_append.mp hr with z | z
        · exact .inl ⟨h1, r, z, h2⟩
        · rw [List.mem_singleton.mp z] at h2
          exact .inr h2
    · rcases List.mem_append.mp hx with z | z
      · rcases h.new x z with y | ⟨r, hr, y⟩
        · exact .inl y
        · exact .inr ⟨r, List.mem_append_left _ hr, y⟩
      · exact .inr ⟨sp, by simp, List.mem_singleton.mp z⟩
    · show ((st.1 ++ [(joinM sp.1 sp.2, some sp)]).map (·.1)).Nodup
      rw [List.map_append]
      refine List.nodup_append.mpr ⟨h.nd, by simp, fun a ha b hb => ?_⟩
      simp at hb
      subst hb
      exact fun e => c (by rw [← e]; exact ha)
    · rw [List.length_append, List.length_append, h.len]
      simp
      omega
theorem stepB_fold {P : List (List Int)} {k : Nat} {src0 : Src} : ∀ (us done : List (List Int × List Int)) (st : Src × List (List Int)), StepOk P k src0 done st → StepOk P k src0 (done ++ us) (us.foldl stepB st)
  | [], done, st, h => by
    rw [List.append_nil]
    exact h
  | u :: us, done, st, h => by
    rw [List.foldl_cons, show done ++ u :: us = done ++ [u] ++ us by simp]
    exact stepB_fold us (done ++ [u]) _ (stepB_ok h u)
/-- before the round k -/
structure LevOk (P : List (List Int)) (k : Nat) (src : Src) (level : List (List Int)) : Prop where
  keys : ∀ X, X ∈ keysS src ↔ ∃ j, j ≤ k ∧ Rch P j X
  lev : ∀ X, X ∈ level ↔ Rank P k X
  back : ∀ x ∈ src, x.1 = [] ∨ ∃ Y q j, x = (joinM Y q, some (Y, q)) ∧ q ∈ P ∧ Rank P j Y ∧ Rank P (j + 1) x.1
  nd : (keysS src).Nodup
theorem lev0 (P : List (List Int)) : LevOk P 0 [([], none)] [[]] := by
  refine ⟨fun X => ?_, fun X => ?_, fun x hx => .inl ?_, by simp [keysS]⟩
  · show X ∈ [[]] ↔ _
    rw [List.mem_singleton]
    constructor
    · rintro rfl
      exact ⟨0, Nat.le_refl _, rch_zero.mpr rfl⟩
    · rintro ⟨j, hj, h⟩
      have e : j = 0 := by omega
      subst e
      exact rch_zero.mp h
  · rw [List.mem_singleton]
    constructor
    · rintro rfl
      exact ⟨rch_zero.mpr rfl, fun j hj => by omega⟩
    · intro h
      exact rch_zero.mp h.1
  · rw [List.mem_singleton.mp hx]
theorem levS {P : List (List Int)} {k : Nat} {src : Src} {level : List (List Int)} (h : LevOk P k src level) : LevOk P (k + 1) (roundB P src level).1 (roundB P src level).2 := by
  have s := stepB_fold (P := P) (k := k) (src0 := src) (pairsB level P) [] (src, []) ⟨fun x hx => hx, fun X => ⟨.inl, fun z => z.elim id fun y => (nomatch y)⟩, fun X => ⟨fun z => (nomatch z), fun ⟨_, _, z, _⟩ => (nomatch z)⟩, fun x hx => .inl hx, h.nd, rfl⟩
  rw [List.nil_append] at s
  have s : StepOk P k src (pairsB level P) (roundB P src level) := s
  have hlater : ∀ X, X ∈ (roundB P src level).2 ↔ Rank P (k + 1) X := fun X => by
    rw [s.later X]
    constructor
    · rintro ⟨h1, sp, hsp, rfl⟩
      obtain ⟨a, b⟩ := mem_pairsB.mp hsp
      have ra := (h.lev _).mp a
      refine ⟨ra.1.step b, fun j hj hr => h1 ((h.keys _).mpr ⟨j, by omega, hr⟩)⟩
    · intro hR
      refine ⟨fun z => ?_, ?_⟩
      · obtain ⟨j, hj, hr⟩ := (h.keys _).mp z
        exact hR.2 j (by omega) hr
      · obtain ⟨Y, q, h1, h2, rfl⟩ := hR.back
        exact ⟨(Y, q), mem_pairsB.mpr ⟨(h.lev Y).mpr h1, h2⟩, rfl⟩
  refine ⟨fun X => ?_, hlater, fun x hx => ?_, s.nd⟩
  · rw [s.keys X, h.keys X, hlater X]
    constructor
    · rintro (⟨j, hj, hr⟩ | hR)
      · exact ⟨j, by omega, hr⟩
      · exact ⟨k + 1, Nat.le_refl _, hR.1⟩
    · rintro ⟨j, hj, hr⟩
      obtain ⟨i, hi, hR⟩ := rank_of hr
      by_cases e : i = k + 1
      · subst e
        exact .inr hR
      · exact .inl ⟨i, by omega, hR.1⟩
  · rcases s.new x hx with z | ⟨sp, hsp, rfl⟩
    · exact h.back x z
    · obtain ⟨a, b⟩ := mem_pairsB.mp hsp
      by_cases hin : joinM sp.1 sp.2 ∈ (roundB P src level).2
      · exact .inr ⟨sp.1, sp.2, k, rfl, b, (h.lev _).mp a, (hlater _).mp hin⟩
      · -- an old key
        rcases (s.keys (joinM sp.1 sp.2)).mp (List.mem_map.mpr ⟨_, hx, rfl⟩) with z | z
        · obtain ⟨y, hy, ey⟩ := List.mem_map.mp z
          have hy' := s.old y hy
          have e : y = (joinM sp.1 sp.2, some sp) := by
            obtain ⟨i1, e1⟩ := List.mem_iff_getElem?.mp hy'
            obtain ⟨i2, e2⟩ := List.mem_iff_getElem?.mp hx
            have e3 : (keysS (roundB P src level).1)[i1]? = some (joinM sp.1 sp.2) := by
              unfold keysS
              rw [List.getElem?_map, e1, ← ey]
              rfl
            have e4 : (keysS (roundB P src level).1)[i2]? = some (joinM sp.1 sp.2) := by
              unfold keysS
              rw [List.getElem?_map, e2]
              rfl
            have h1 := (List.getElem?_eq_some_iff.mp e3).1
            have e5 : i1 = i2 := (List.getElem?_inj h1 s.nd).mp (e3.trans e4.symm)
            rw [e5, e2] at e1
            exact (Option.some.inj e1).symm
          rw [← e]
          exact h.back y hy
        · exact absurd z hin
end LW

set_option linter.all false
namespace LW
theorem srt_nd {l : List Int} (h : Srt l) : l.Nodup := h.imp fun {a b} z => by omega
theorem srt_lt {Y X : List Int} (hy : Srt Y) (hx : Srt X) (hs : ∀ z ∈ Y, z ∈ X) (hne : Y ≠ X) : Y.length < X.length := by
  have h1 : ∃ z, z ∈ X ∧ z ∉ Y := Classical.byContradiction fun c => hne (sorted_same hy hx fun z => ⟨hs z, fun hz => Classical.byContradiction fun y => c ⟨z, hz, y⟩⟩)
  obtain ⟨z, hz, hn⟩ := h1
  have h2 : (z :: Y).Nodup := List.nodup_cons.mpr ⟨hn, srt_nd hy⟩
  have h3 := nodup_le h2 (ks := X) fun x hx' => by
    rcases List.mem_cons.mp hx' with e | e
    · rw [e]
      exact hz
    · exact hs x e
  rw [List.length_cons] at h3
  omega
theorem Rank.le {P : List (List Int)} : ∀ {k : Nat} {X : List Int}, Rank P k X → k ≤ X.length
  | 0, X, h => Nat.zero_le _
  | k + 1, X, h => by
    obtain ⟨Y, q, h1, h2, rfl⟩ := h.back
    have h3 := Rank.le h1
    have h4 := srt_lt h1.1.srt h.1.srt (fun z hz => mem_joinM.mpr (.inl hz)) fun e => by
      rw [← e] at h
      have := h.uniq h1
      omega
    omega
theorem LevOk.stop {P : List (List Int)} {k : Nat} {src : Src} {level : List (List Int)} (h : LevOk P k src level) {p : List Int} (hs : (∀ X, ¬ Rank P k X) ∨ p.length + 1 ≤ k) : p ∈ keysS src ∨ ∀ j, ¬ Rch P j p := by
  by_cases c : ∃ j, Rch P j p
  · obtain ⟨j, hj⟩ := c
    obtain ⟨i, _, hR⟩ := rank_of hj
    refine .inl ((h.keys p).mpr ⟨i, ?_, hR.1⟩)
    rcases hs with hs | hs
    · refine Classical.byContradiction fun z => ?_
      -- ranks leave no gap
      have gap : ∀ (d : Nat) (X : List Int), Rank P (k + d) X → False := fun d => by
        induction d with
        | zero => exact fun X hX => hs X hX
        | succ d ih =>
          intro X hX
          obtain ⟨Y, q, h1, _⟩ := Rank.back (k := k + d) hX
          exact ih Y h1
      exact gap (i - k) p (by rw [show k + (i - k) = i by omega]; exact hR)
    · have := hR.le
      omega
  · exact .inr fun j hj => c ⟨j, hj⟩
theorem bfs_ok {P : List (List Int)} {p : List Int} : ∀ (n k : Nat) (src : Src) (level : List (List Int)), LevOk P k src level → p.length + 1 ≤ n + k → (∃ k' level', LevOk P k' (bfsB P p n src level) level') ∧ (p ∈ keysS (bfsB P p n src level) ∨ ∀ j, ¬ Rch P j p)
  | 0, k, src, level, h, hn => ⟨⟨k, level, h⟩, h.stop (.inr (by omega))⟩
  | n + 1, k, src, level, h, hn => by
    have eB : bfsB P p (n + 1) src level = if level ≠ [] ∧ p ∉ keysS src then bfsB P p n (roundB P src level).1 (roundB P src level).2 else src := rfl
    rw [eB]
    by_cases c : level ≠ [] ∧ p ∉ keysS src
    · rw [if_pos c]
      exact bfs_ok n (k + 1) _ _ (levS h) (by omega)
    · rw [if_neg c]
      refine ⟨⟨k, level, h⟩, ?_⟩
      by_cases hp : p ∈ keysS src
      · exact .inl hp
      · have hl : level = [] := Classical.byContradiction fun z => c ⟨z, hp⟩
        refine h.stop (.inl fun X hX => ?_)
        have := (h.lev X).mpr hX
        rw [hl] at this
        cases this
def srcM (P : List (List Int)) (p : List Int) : Src := bfsB P p (p.length + 1) [([], none)] [[]]
theorem srcM_ok (P : List (List Int)) (p : List Int) : (∃ k level, LevOk P k (srcM P p) level) ∧ (p ∈ keysS (srcM P p) ∨ ∀ j, ¬ Rch P j p) := bfs_ok _ 0 _ _ (lev0 P) (Nat.le_refl _)
/-! ### the way back -/
def lookS (src : Src) (X : List Int) : Option (Option (List Int × List Int)) := (src.find? fun x => decide (x.1 = X)).map (·.2)
theorem lookS_of {src : Src} (nd : (keysS src).Nodup) {x : List Int × Option (List Int × List Int)} (h : x ∈ src) : lookS src x.1 = some x.2 := by
  unfold lookS
  induction src with
  | nil => cases h
  | cons y r ih =>
    have nd' : (y.1 :: keysS r).Nodup := nd
    obtain ⟨n1, n2⟩ := List.nodup_cons.mp nd'
    rw [List.find?_cons]
    by_cases e : y.1 = x.1
    · rw [decide_eq_true e]
      rcases List.mem_cons.mp h with z | z
      · rw [z]
        rfl
      · exact absurd (by rw [e]; exact List.mem_map.mpr ⟨x, z, rfl⟩) n1
    · rw [decide_eq_false e]
      rcases List.mem_cons.mp h with z | z
      · exact absurd (by rw [z]) e
      · exact ih n2 z
def pathB (src : Src) : Nat → List Int → List (List Int)
  | 0, _ => []
  | n + 1, X => if X = [] then [] else match lookS src X with
    | some (some (Y, q)) => q :: pathB src n Y
    | _ => []
theorem LevOk.step {P : List (List Int)} {k j : Nat} {src : Src} {level : List (List Int)} {X : List Int} (h : LevOk P k src level) (hX : X ∈ keysS src) (hne : X ≠ []) (hR : Rank P j X) : ∃ Y q i, j = i + 1 ∧ lookS src X = some (some (Y, q)) ∧ q ∈ P ∧ Rank P i Y ∧ Y ∈ keysS src ∧ X = joinM Y q := by
  obtain ⟨x, hx, e⟩ := List.mem_map.mp hX
  have e : x.1 = X := e
  rcases h.back x hx with z | ⟨Y, q, i, e1, h2, h3, h4⟩
  · exact absurd (e.symm.trans z) hne
  · rw [e] at h4
    have ej := hR.uniq h4
    have hl := lookS_of h.nd hx
    rw [e] at hl
    have e2 : x.2 = some (Y, q) := by rw [e1]
    rw [e2] at hl
    have e3 : X = joinM Y q := by rw [← e, e1]
    obtain ⟨l, hl1⟩ := (h.keys X).mp hX
    refine ⟨Y, q, i, ej, hl, h2, h3, (h.keys Y).mpr ⟨i, ?_, h3.1⟩, e3⟩
    have : j ≤ l := Classical.byContradiction fun z => hR.2 l (by omega) hl1.2
    omega
theorem path_ok {P : List (List Int)} {k : Nat} {src : Src} {level : List (List Int)} (h : LevOk P k src level) : ∀ (j n : Nat) (X : List Int), j ≤ n → X ∈ keysS src → Rank P j X → (pathB src (n + 1) X).length = j ∧ (∀ q ∈ pathB src (n + 1) X, q ∈ P) ∧ ∀ z, z ∈ X ↔ ∃ q ∈ pathB src (n + 1) X, z ∈ q
  | 0, n, X, hn, hX, hR => by
    have e : X = [] := rch_zero.mp hR.1
    subst e
    have e2 : pathB src (n + 1) [] = [] := by
      show (if _ then _ else _) = _
      rw [if_pos rfl]
    rw [e2]
    exact ⟨rfl, fun q hq => (nomatch hq), fun z => ⟨fun y => (nomatch y), fun ⟨_, y, _⟩ => (nomatch y)⟩⟩
  | j + 1, n, X, hn, hX, hR => by
    have hne : X ≠ [] := fun e => hR.2 0 (by omega) (rch_zero.mpr e)
    obtain ⟨Y, q, i, ei, hl, hq, hRi, hY, e3⟩ := h.step hX hne hR
    have ei : j = i := by omega
    subst ei
    obtain ⟨m, rfl⟩ : ∃ m, n = m + 1 := ⟨n - 1, by omega⟩
    have e2 : pathB src (m + 1 + 1) X = q :: pathB src (m + 1) Y := by
      show (if _ then _ else _) = _
      rw [if_neg hne, hl]
    rw [e2]
    obtain ⟨g1, g2, g3⟩ := path_ok h j m Y (by omega) hY hRi
    refine ⟨by rw [List.length_cons, g1], fun r hr => ?_, fun z => ?_⟩
    · rcases List.mem_cons.mp hr with y | y
      · rw [y]
        exact hq
      · exact g2 r y
    · rw [e3, mem_joinM, g3 z]
      constructor
      · rintro (⟨r, hr, hz⟩ | hz)
        · exact ⟨r, List.mem_cons_of_mem _ hr, hz⟩
        · exact ⟨q, List.mem_cons_self, hz⟩
      · rintro ⟨r, hr, hz⟩
        rcases List.mem_cons.mp hr with y | y
        · rw [y] at hz
          exact .inr hz
        · exact .inl ⟨r, y, hz⟩
/-- what cover hands back -/
def coverM (ks : List (List Int)) (p : List Int) : Option (List (List Int)) := if p ∈ keysS (srcM (largestM ks p) p) then some (pathB (srcM (largestM ks p) p) (p.length + 1) p).reverse else none
/-! ### largest parts do -/
theorem clean_mem {ks : List (List Int)} {p q : List Int} : q ∈ cleanM ks p ↔ q ∈ ks ∧ ∀ z ∈ q, z ∈ p := by
  unfold cleanM
  rw [List.mem_filter, withinM_iff]
theorem largest_sub {ks : List (List Int)} {p q : List Int} (h : q ∈ largestM ks p) : q ∈ cleanM ks p := (List.mem_filter.mp h).1
theorem above {ks : List (List Int)} {p : List Int} (hs : ∀ k ∈ ks, Srt k) : ∀ (n : Nat) (q : List Int), q ∈ cleanM ks p → p.length - q.length ≤ n → ∃ r ∈ largestM ks p, ∀ z ∈ q, z ∈ r
  | n, q, hq, hn => by
    by_cases c : ∃ r ∈ cleanM ks p, q ≠ r ∧ ∀ z ∈ q, z ∈ r
    · obtain ⟨r, hr, hne, hsub⟩ := c
      have h1 := srt_lt (hs q (clean_mem.mp hq).1) (hs r (clean_mem.mp hr).1) hsub hne
      have h2 := nodup_le (srt_nd (hs r (clean_mem.mp hr).1)) (clean_mem.mp hr).2
      cases n with
      | zero => omega
      | succ n =>
        obtain ⟨t, ht, hsub2⟩ := above hs n r hr (by omega)
        exact ⟨t, ht, fun z hz => hsub2 z (hsub z hz)⟩
    · refine ⟨q, List.mem_filter.mpr ⟨hq, ?_⟩, fun z hz => hz⟩
      rw [Bool.not_eq_true', List.any_eq_false]
      intro r hr z
      rw [Bool.and_eq_true, decide_eq_true_iff, withinM_iff] at z
      exact c ⟨r, hr, z.1, z.2⟩
theorem rch_mono {P P' : List (List Int)} (h : ∀ q ∈ P, q ∈ P') {k : Nat} {X : List Int} (hr : Rch P k X) : Rch P' k X := by
  obtain ⟨l, h1, h2, h3⟩ := hr
  exact ⟨l, h1, fun q hq => h q (h2 q hq), h3⟩
theorem rch_largest {ks : List (List Int)} {p : List Int} (hs : ∀ k ∈ ks, Srt k) (hp : Srt p) {k : Nat} : Rch (largestM ks p) k p ↔ Rch (cleanM ks p) k p := by
  constructor
  · exact rch_mono fun q hq => largest_sub hq
  · rintro ⟨l, h1, h2, h3⟩
    have up : ∀ l : List (List Int), (∀ q ∈ l, q ∈ cleanM ks p) → ∃ m : List (List Int), m.length = l.length ∧ (∀ q ∈ m, q ∈ largestM ks p) ∧ ∀ z, z ∈ l.flatten → z ∈ m.flatten := fun l => by
      induction l with
      | nil => exact fun _ => ⟨[], rfl, fun q hq => (nomatch hq), fun z hz => hz⟩
      | cons q l ih =>
        intro h
        obtain ⟨m, m1, m2, m3⟩ := ih fun r hr => h r (List.mem_cons_of_mem _ hr)
        obtain ⟨r, hr, hsub⟩ := above hs _ q (h q List.mem_cons_self) (Nat.le_refl _)
        refine ⟨r :: m, by rw [List.length_cons, List.length_cons, m1], fun x hx => ?_, fun z hz => ?_⟩
        · rcases List.mem_cons.mp hx with y | y
          · rw [y]
            exact hr
          · exact m2 x y
        · rw [List.flatten_cons, List.mem_append] at hz ⊢
          rcases hz with y | y
          · exact .inl (hsub z y)
          · exact .inr (m3 z y)
    obtain ⟨m, m1, m2, m3⟩ := up l h2
    refine ⟨m, m1.trans h1, m2, ?_⟩
    refine sd_of hp fun z => ⟨fun hz => m3 z ?_, fun hz => ?_⟩
    · rw [h3, mem_sd] at hz
      exact hz
    · obtain ⟨q, hq, hzq⟩ := List.mem_flatten.mp hz
      exact (clean_mem.mp (largest_sub (m2 q hq))).2 z hzq
/-- the least number of clean glows -/
theorem cover_ok {ks : List (List Int)} {p : List Int} (hs : ∀ k ∈ ks, Srt k) (hp : Srt p) : match coverM ks p with
    | none => ∀ k, ¬ Rch (cleanM ks p) k p
    | some l => Rank (cleanM ks p) l.length p ∧ (∀ q ∈ l, q ∈ cleanM ks p) ∧ ∀ z, z ∈ p ↔ ∃ q ∈ l, z ∈ q := by
  obtain ⟨⟨k, level, h⟩, h2⟩ := srcM_ok (largestM ks p) p
  unfold coverM
  by_cases c : p ∈ keysS (srcM (largestM ks p) p)
  · rw [if_pos c]
    obtain ⟨j, _, hj⟩ := (h.keys p).mp c
    obtain ⟨i, _, hR⟩ := rank_of hj
    obtain ⟨g1, g2, g3⟩ := path_ok h i p.length p hR.le c hR
    refine ⟨?_, fun q hq => largest_sub (g2 q (List.mem_reverse.mp hq)), fun z => ?_⟩
    · show Rank _ (List.length (List.reverse _)) p
      rw [List.length_reverse, g1]
      exact ⟨(rch_largest hs hp).mp hR.1, fun j hj hr => hR.2 j hj ((rch_largest hs hp).mpr hr)⟩
    · rw [g3 z]
      exact ⟨fun ⟨q, hq, hz⟩ => ⟨q, List.mem_reverse.mpr hq, hz⟩, fun ⟨q, hq, hz⟩ => ⟨q, List.mem_reverse.mp hq, hz⟩⟩
  · rw [if_neg c]
    intro k hk
    rcases h2 with z | z
    · exact c z
    · exact z k ((rch_largest hs hp).mpr hk)
end LW

set_option linter.all false
namespace LW
/-! ### the law's own count -/
abbrev DV := List (List Int × Nat)
def lookN (r : DV) (X : List Int) : Option Nat := (r.find? fun x => decide (x.1 = X)).map (·.2)
def putN (r : DV) (X : List Int) (n : Nat) : DV := if (r.any fun x => decide (x.1 = X)) = true then r.map (fun x => if x.1 = X then (x.1, n) else x) else r ++ [(X, n)]
def keysN (r : DV) : List (List Int) := r.map (·.1)
theorem lookN_cons (y : List Int × Nat) (r : DV) (X : List Int) : lookN (y :: r) X = if y.1 = X then some y.2 else lookN r X := by
  unfold lookN
  rw [List.find?_cons]
  by_cases e : y.1 = X
  · rw [decide_eq_true e, if_pos e]
    rfl
  · rw [decide_eq_false e, if_neg e]
theorem lookN_mem {r : DV} {X : List Int} : (∃ n, lookN r X = some n) ↔ X ∈ keysN r := by
  induction r with
  | nil => exact ⟨fun ⟨n, h⟩ => (nomatch h), fun h => (nomatch h)⟩
  | cons y r ih =>
    rw [lookN_cons]
    show _ ↔ X ∈ y.1 :: keysN r
    rw [List.mem_cons]
    by_cases e : y.1 = X
    · rw [if_pos e]
      exact ⟨fun _ => .inl e.symm, fun _ => ⟨_, rfl⟩⟩
    · rw [if_neg e, ih]
      exact ⟨.inr, fun h => h.elim (fun z => absurd z.symm e) id⟩
theorem putN_look (r : DV) (X Z : List Int) (n : Nat) : lookN (putN r X n) Z = if X = Z then some n else lookN r Z := by
  unfold putN
  by_cases c : (r.any fun x => decide (x.1 = X)) = true
  · rw [if_pos c]
    induction r with
    | nil => cases c
    | cons y r ih =>
      rw [List.map_cons, lookN_cons, lookN_cons]
      by_cases e : y.1 = X
      · rw [if_pos e]
        show (if y.1 = Z then some n else _) = _
        by_cases ez : X = Z
        · rw [if_pos (e.trans ez), if_pos ez]
        · rw [if_neg (fun z => ez (e.symm.trans z)), if_neg ez, if_neg (fun z => ez (e.symm.trans z))]
          by_cases c2 : (r.any fun x => decide (x.1 = X)) = true
          · rw [ih c2, if_neg ez]
          · -- nothing else to change
            have same : ∀ l : DV, (l.any fun x => decide (x.1 = X)) ≠ true → l.map (fun x => if x.1 = X then (x.1, n) else x) = l := fun l h => by
              induction l with
              | nil => rfl
              | cons w l ihl =>
                rw [List.any_cons] at h
                have h1 : ¬ w.1 = X := fun z => h (by rw [decide_eq_true z]; rfl)
                have h2 : (l.any fun x => decide (x.1 = X)) ≠ true := fun z => h (by rw [z]; simp)
                rw [List.map_cons, if_neg h1, ihl h2]
            rw [same r c2]
      · rw [if_neg e]
        rw [List.any_cons, decide_eq_false e, Bool.false_or] at c
        rw [ih c]
        by_cases ez : y.1 = Z
        · rw [if_pos ez, if_neg (fun z => e (ez.trans z.symm)), if_pos ez]
        · rw [if_neg ez]
          by_cases eX : X = Z
          · rw [if_pos eX, if_pos eX]
          · rw [if_neg eX, if_neg eX, if_neg ez]
  · rw [if_neg c]
    induction r with
    | nil => exact lookN_cons _ _ _
    | cons y r ih =>
      rw [List.any_cons] at c
      have h1 : ¬ y.1 = X := fun z => c (by rw [decide_eq_true z]; rfl)
      have h2 : ¬ (r.any fun x => decide (x.1 = X)) = true := fun z => c (by rw [z]; simp)
      rw [List.cons_append, lookN_cons, lookN_cons, ih h2]
      by_cases ez : y.1 = Z
      · rw [if_pos ez, if_pos ez, if_neg (fun z => h1 (ez.trans z.symm))]
      · rw [if_neg ez, if_neg ez]
theorem putN_keys (r : DV) (X : List Int) (n : Nat) : keysN (putN r X n) = if X ∈ keysN r then keysN r else keysN r ++ [X] := by
  have hany : (r.any fun x => decide (x.1 = X)) = true ↔ X ∈ keysN r := by
    rw [List.any_eq_true]
    unfold keysN
    rw [List.mem_map]
    exact ⟨fun ⟨x, h1, h2⟩ => ⟨x, h1, of_decide_eq_true h2⟩, fun ⟨x, h1, h2⟩ => ⟨x, h1, decide_eq_true h2⟩⟩
  unfold putN
  by_cases c : X ∈ keysN r
  · rw [if_pos (hany.mpr c), if_pos c]
    unfold keysN
    rw [List.map_map]
    refine List.map_congr_left fun x _ => ?_
    show (if x.1 = X then (x.1, n) else x).1 = x.1
    split <;> rfl
  · rw [if_neg (fun z => c (hany.mp z)), if_neg c]
    unfold keysN
    rw [List.map_append]
    rfl
def stepD (c : List Int) (r : DV) (seen : List Int) : DV :=
  if joinM seen c ∉ keysN r ∨ (lookN r seen).getD 0 + 1 < (lookN r (joinM seen c)).getD 0 then putN r (joinM seen c) ((lookN r seen).getD 0 + 1) else r
def Val (r0 : DV) (c : List Int) (done : List (List Int)) (X : List Int) (n : Nat) : Prop := lookN r0 X = some n ∨ ∃ Y ∈ done, joinM Y c = X ∧ ∃ m, lookN r0 Y = some m ∧ n = m + 1
structure PassOk (r0 : DV) (c : List Int) (done : List (List Int)) (r : DV) : Prop where
  snd : ∀ X n, lookN r X = some n → Val r0 c done X n
  cmp : ∀ X n, Val r0 c done X n → ∃ m, m ≤ n ∧ lookN r X = some m
  off : ∀ X, ¬ (∀ z ∈ c, z ∈ X) → lookN r X = lookN r0 X
  nd : (keysN r).Nodup
theorem join_self {Y c : List Int} (hy : Srt Y) (h : ∀ z ∈ c, z ∈ Y) : joinM Y c = Y := by
  refine (sd_of hy fun z => ?_).symm
  rw [List.mem_append]
  exact ⟨.inl, fun q => q.elim id (h z)⟩
theorem pass_step {r0 : DV} {c : List Int} {done : List (List Int)} {r : DV} {Y : List Int} (h : PassOk r0 c done r) (hs : Srt Y) {m : Nat} (hm : lookN r0 Y = some m) : PassOk r0 c (done ++ [Y]) (stepD c r Y) := by
  have vmono : ∀ {X n}, Val r0 c done X n → Val r0 c (done ++ [Y]) X n := fun {X n} q => by
    rcases q with q | ⟨Z, hZ, q⟩
    · exact .inl q
    · exact .inr ⟨Z, List.mem_append_left _ hZ, q⟩
  have vsplit : ∀ {X n}, Val r0 c (done ++ [Y]) X n → Val r0 c done X n ∨ (joinM Y c = X ∧ n = m + 1) := fun {X n} q => by
    rcases q with q | ⟨Z, hZ, q1, k, q2, q3⟩
    · exact .inl (.inl q)
    · rcases List.mem_append.mp hZ with z | z
      · exact .inl (.inr ⟨Z, z, q1, k, q2, q3⟩)
      · rw [List.mem_singleton.mp z] at q1 q2
        rw [hm] at q2
        cases q2
        exact .inr ⟨q1, q3⟩
  have vnew : Val r0 c (done ++ [Y]) (joinM Y c) (m + 1) := .inr ⟨Y, by simp, rfl, m, hm, rfl⟩
  obtain ⟨k, hk, lk⟩ := h.cmp Y m (.inl hm)
  unfold stepD
  by_cases hc : ∀ z ∈ c, z ∈ Y
  · -- nothing new
    have e := join_self hs hc
    rw [e, lk]
    rw [if_neg (by
      rintro (z | z)
      · exact z (lookN_mem.mp ⟨k, lk⟩)
      · simp at z
        omega)]
    refine ⟨fun X n q => vmono (h.snd X n q), fun X n q => ?_, h.off, h.nd⟩
    rcases vsplit q with q | ⟨q1, q2⟩
    · exact h.cmp X n q
    · rw [e] at q1
      subst q1
      exact ⟨k, by omega, lk⟩
  · have lY : lookN r Y = some m := (h.off Y hc).trans hm
    rw [lY]
    show PassOk r0 c (done ++ [Y]) (if joinM Y c ∉ keysN r ∨ m + 1 < (lookN r (joinM Y c)).getD 0 then putN r (joinM Y c) (m + 1) else r)
    have hin : ∀ z ∈ c, z ∈ joinM Y c := fun z hz => mem_joinM.mpr (.inr hz)
    by_cases cc : joinM Y c ∉ keysN r ∨ m + 1 < (lookN r (joinM Y c)).getD 0
    · rw [if_pos cc]
      refine ⟨fun X n q => ?_, fun X n q => ?_, fun X hX => ?_, ?_⟩
      · rw [putN_look] at q
        by_cases e : joinM Y c = X
        · rw [if_pos e] at q
          cases q
          rw [← e]
          exact vnew
        · rw [if_neg e] at q
          exact vmono (h.snd X n q)
      · rw [putN_look]
        by_cases e : joinM Y c = X
        · rw [if_pos e]
          refine ⟨m + 1, ?_, rfl⟩
          rcases vsplit q with q | ⟨_, q2⟩
          · obtain ⟨i, hi, li⟩ := h.cmp X n q
            rw [← e] at li
            rcases cc with z | z
            · exact absurd (lookN_mem.mp ⟨i, li⟩) z
            · rw [li] at z
              have z : m + 1 < i := z
              omega
          · omega
        · rw [if_neg e]
          rcases vsplit q with q | ⟨q1, _⟩
          · exact h.cmp X n q
          · exact absurd q1 e
      · rw [putN_look, if_neg (fun e => hX (by rw [← e]; exact hin))]
        exact h.off X hX
      · rw [putN_keys]
        split
        · exact h.nd
        · rename_i hn
          refine List.nodup_append.mpr ⟨h.nd, by simp, fun a ha b hb => ?_⟩
          simp at hb
          subst hb
          exact fun e => hn (by rw [← e]; exact ha)
    · rw [if_neg cc]
      refine ⟨fun X n q => vmono (h.snd X n q), fun X n q => ?_, h.off, h.nd⟩
      rcases vsplit q with q | ⟨q1, q2⟩
      · exact h.cmp X n q
      · subst q1
        have hin2 : joinM Y c ∈ keysN r := Classical.byContradiction fun z => cc (.inl z)
        obtain ⟨i, li⟩ := lookN_mem.mpr hin2
        refine ⟨i, ?_, li⟩
        have z : ¬ m + 1 < i := fun z => cc (.inr (by rw [li]; exact z))
        omega
theorem pass_fold {r0 : DV} {c : List Int} : ∀ (us done : List (List Int)) (r : DV), (∀ Y ∈ us, Srt Y ∧ ∃ m, lookN r0 Y = some m) → PassOk r0 c done r → PassOk r0 c (done ++ us) (us.foldl (stepD c) r)
  | [], done, r, _, h => by
    rw [List.append_nil]
    exact h
  | u :: us, done, r, hu, h => by
    rw [List.foldl_cons, show done ++ u :: us = done ++ [u] ++ us by simp]
    obtain ⟨h1, m, h2⟩ := hu u List.mem_cons_self
    exact pass_fold us (done ++ [u]) _ (fun Y hY => hu Y (List.mem_cons_of_mem _ hY)) (pass_step h h1 h2)
/-- the count is right for the parts so far -/
structure DpOk (P : List (List Int)) (r : DV) : Prop where
  is : ∀ X k, lookN r X = some k ↔ Rank P k X
  nd : (keysN r).Nodup
theorem DpOk.keys {P : List (List Int)} {r : DV} (h : DpOk P r) {X : List Int} (hX : X ∈ keysN r) : ∃ k, Rank P k X := by
  obtain ⟨n, hn⟩ := lookN_mem.mpr hX
  exact ⟨n, (h.is X n).mp hn⟩
theorem dp0 : DpOk [] [([], 0)] := by
  refine ⟨fun X k => ?_, by simp [keysN]⟩
  rw [lookN_cons]
  constructor
  · intro h
    by_cases e : [] = X
    · rw [if_pos e] at h
      cases h
      exact ⟨rch_zero.mpr e.symm, fun j hj => by omega⟩
    · rw [if_neg e] at h
      cases h
  · rintro ⟨⟨l, h1, h2, h3⟩, h4⟩
    have hl : l = [] := by
      cases l with
      | nil => rfl
      | cons x l => exact absurd (h2 x List.mem_cons_self) (by simp)
    subst hl
    have e1 : X = [] := h3
    have e2 : k = 0 := h1.symm
    subst e1
    subst e2
    rfl
theorem dpS {P : List (List Int)} {r : DV} {c : List Int} {order : List (List Int)} (h : DpOk P r) (ho : ∀ X, X ∈ order ↔ X ∈ keysN r) : DpOk (P ++ [c]) (order.foldl (stepD c) r) := by
  have hp := pass_fold (r0 := r) (c := c) order [] r (fun Y hY => by
    obtain ⟨k, hk⟩ := h.keys ((ho Y).mp hY)
    exact ⟨hk.1.srt, k, (h.is Y k).mpr hk⟩) ⟨fun X n q => .inl q, fun X n q => (by
      rcases q with q | ⟨Y, z, _⟩
      · exact ⟨n, Nat.le_refl _, q⟩
      · cases z), fun X _ => rfl, h.nd⟩
  rw [List.nil_append] at hp
  have A : ∀ X n, Val r c order X n → Rch (P ++ [c]) n X := fun X n q => by
    rcases q with q | ⟨Y, hY, q1, m, q2, q3⟩
    · exact rch_mono (fun q hq => List.mem_append_left _ hq) ((h.is X n).mp q).1
    · subst q3
      rw [← q1]
      exact (rch_mono (fun q hq => List.mem_append_left _ hq) ((h.is Y m).mp q2).1).step (by simp)
  have B : ∀ X n, Rch (P ++ [c]) n X → ∃ m, m ≤ n ∧ Val r c order X m := fun X n q => by
    obtain ⟨l, h1, h2, h3⟩ := q
    by_cases hc : c ∈ l
    · have hl' : ∀ q ∈ l.filter (fun q => decide (q ≠ c)), q ∈ P := fun q hq => by
        obtain ⟨q1, q2⟩ := List.mem_filter.mp hq
        rcases List.mem_append.mp (h2 q q1) with z | z
        · exact z
        · exact absurd (List.mem_singleton.mp z) (of_decide_eq_true q2)
      have hlen : (l.filter fun q => decide (q ≠ c)).length < l.length := by
        have : (l.filter fun q => decide (q ≠ c)).length ≠ l.length := fun e => by
          have e2 := List.length_filter_eq_length_iff.mp e
          have := e2 c hc
          simp at this
        have := List.length_filter_le (fun q => decide (q ≠ c)) l
        omega
      obtain ⟨m, hm, hR⟩ := rank_of (P := P) (X := sd (l.filter fun q => decide (q ≠ c)).flatten) ⟨_, rfl, hl', rfl⟩
      refine ⟨m + 1, by omega, .inr ⟨sd (l.filter fun q => decide (q ≠ c)).flatten, (ho _).mpr (lookN_mem.mp ⟨m, (h.is _ m).mpr hR⟩), ?_, m, (h.is _ m).mpr hR, rfl⟩⟩
      rw [h3]
      unfold joinM
      refine sd_congr fun z => ?_
      rw [List.mem_append, mem_sd, List.mem_flatten, List.mem_flatten]
      constructor
      · rintro (⟨q, hq, hz⟩ | hz)
        · exact ⟨q, (List.mem_filter.mp hq).1, hz⟩
        · exact ⟨c, hc, hz⟩
      · rintro ⟨q, hq, hz⟩
        by_cases e : q = c
        · rw [e] at hz
          exact .inr hz
        · exact .inl ⟨q, List.mem_filter.mpr ⟨hq, decide_eq_true e⟩, hz⟩
    · have hl' : ∀ q ∈ l, q ∈ P := fun q hq => by
        rcases List.mem_append.mp (h2 q hq) with z | z
        · exact z
        · exact absurd (by rw [← List.mem_singleton.mp z]; exact hq) hc
      obtain ⟨m, hm, hR⟩ := rank_of (P := P) (k := n) (X := X) ⟨l, h1, hl', h3⟩
      exact ⟨m, hm, .inl ((h.is X m).mpr hR)⟩
  refine ⟨fun X k => ⟨fun q => ?_, fun q => ?_⟩, hp.nd⟩
  · refine ⟨A X k (hp.snd X k q), fun j hj hr => ?_⟩
    obtain ⟨m, hm, hv⟩ := B X j hr
    obtain ⟨i, hi, li⟩ := hp.cmp X m hv
    rw [q] at li
    cases li
    omega
  · obtain ⟨m, hm, hv⟩ := B X k q.1
    obtain ⟨i, hi, li⟩ := hp.cmp X m hv
    have hr := A X i (hp.snd X i li)
    have : ¬ i < k := fun z => q.2 i z hr
    rw [show k = i by omega]
    exact li
theorem rch_congr {P P' : List (List Int)} (h : ∀ q, q ∈ P ↔ q ∈ P') {k : Nat} {X : List Int} : Rch P k X ↔ Rch P' k X := ⟨rch_mono fun q hq => (h q).mp hq, rch_mono fun q hq => (h q).mpr hq⟩
theorem rank_congr {P P' : List (List Int)} (h : ∀ q, q ∈ P ↔ q ∈ P') {k : Nat} {X : List Int} : Rank P k X ↔ Rank P' k X := by
  unfold Rank
  rw [rch_congr h]
  exact and_congr Iff.rfl (forall_congr' fun j => forall_congr' fun _ => not_congr (rch_congr h))
end LW

set_option Elab.async false
set_option linter.all false
set_option maxRecDepth 100000
namespace LW
open PySem PySem.Spec PyProof.Rows L2
section
variable {K : PySem.W.Frag} {ρ : List Sl} {cs cs1 cs2 : Cs} {te ta tb : TE} {p : Addr} {ds : List PyData} {z : Sl} {c : Ce} {u : TS} {P : Po}
/-- a local list that is data from this reading on -/
theorem ev_frz (k : Nat) (h : Ev K te ρ cs (.raw (.ref p)) cs1) (hk : cs1[k]? = some (p, .lst ds)) : Ev K te ρ cs (.dat (.list ds)) (cs1.eraseIdx k) := fun G σ H ok Q q =>
  h G σ H ok _ fun v G1 H1 f1 ok1 e1 => by
    cases e1
    obtain ⟨G2, f2, ok2, hd⟩ := ok1.frz hk
    exact q _ G2 H1 (f1.trans f2) ok2 hd
theorem run_parNE (i j : Nat) (ha : EvN K ta ρ cs c cs1) (hb : ∀ p, Ev K tb ρ ((p, c) :: cs1) z ((p, c) :: cs2)) (h' : ∀ p, Run K u ((ρ.set i (.raw (.ref p))).set j z) ((p, c) :: cs2) P) : Run K (tSeq (tPar i j (tCons ta (tCons tb tNil))) u) ρ cs P := fun G σ H D ok n r bk ct =>
  ha G σ H ok _ fun p G1 H1 hp f1 ok1 => hb p G1 σ H1 ok1 _ fun v G2 H2 f2 ok2 e2 => by
    have f := f1.trans f2
    exact ⟨.ref p, v, rfl, h' p G2 _ H2 D ⟨ok2.ex, (ok2.sl.set i (v := .ref p) (s := .raw (.ref p)) rfl).set j e2, ok2.ce⟩ (n.after f) (r.after f) (bk.after f) (ct.after f)⟩
end
/-! ### how many pictures there are -/
def subsM : List Int → List (List Int)
  | [] => [[]]
  | x :: r => subsM r ++ (subsM r).map (x :: ·)
theorem mem_subsM : ∀ {l p : List Int}, l.Pairwise (· < ·) → p.Pairwise (· < ·) → (∀ x ∈ p, x ∈ l) → p ∈ subsM l
  | [], p, _, _, h => by
    cases p with
    | nil => exact List.mem_singleton.mpr rfl
    | cons x r => exact absurd (h x List.mem_cons_self) (by simp)
  | x :: r, p, hl, hp, h => by
    obtain ⟨h1, h2⟩ := List.pairwise_cons.mp hl
    show p ∈ subsM r ++ (subsM r).map (x :: ·)
    rw [List.mem_append]
    cases p with
    | nil => exact .inl (mem_subsM h2 List.Pairwise.nil fun y hy => (nomatch hy))
    | cons y q =>
      obtain ⟨g1, g2⟩ := List.pairwise_cons.mp hp
      have hy := h y List.mem_cons_self
      rcases List.mem_cons.mp hy with e | e
      · subst e
        refine .inr (List.mem_map.mpr ⟨q, mem_subsM h2 g2 fun z hz => ?_, rfl⟩)
        have hz1 := g1 z hz
        rcases List.mem_cons.mp (h z (List.mem_cons_of_mem _ hz)) with e | e
        · omega
        · exact e
      · refine .inl (mem_subsM h2 hp fun z hz => ?_)
        have hxy := h1 y e
        have hyz : y ≤ z := by
          rcases List.mem_cons.mp hz with e | e
          · omega
          · have := g1 z e
            omega
        rcases List.mem_cons.mp (h z hz) with e | e
        · omega
        · exact e
theorem subs_len : ∀ l : List Int, (subsM l).length = 2 ^ l.length
  | [] => rfl
  | x :: r => by
    show (subsM r ++ (subsM r).map (x :: ·)).length = 2 ^ (r.length + 1)
    rw [List.length_append, List.length_map, subs_len r, Nat.pow_succ]
    omega
structure Pic (p : List Int) : Prop where
  srt : Srt p
  lt : ∀ x ∈ p, 0 ≤ x ∧ x < 7
theorem Pic.subs {p : List Int} (h : Pic p) : p ∈ subsM [0, 1, 2, 3, 4, 5, 6] := mem_subsM (by decide) h.srt fun x hx => by
  obtain ⟨h1, h2⟩ := h.lt x hx
  have : x = 0 ∨ x = 1 ∨ x = 2 ∨ x = 3 ∨ x = 4 ∨ x = 5 ∨ x = 6 := by omega
  rcases this with rfl | rfl | rfl | rfl | rfl | rfl | rfl <;> simp
theorem pics_few {l : List (List Int)} (nd : l.Nodup) (h : ∀ p ∈ l, Pic p) : l.length ≤ 128 := by
  have q := nodup_leT nd (ks := subsM [0, 1, 2, 3, 4, 5, 6]) fun p hp => (h p hp).subs
  rw [subs_len] at q
  exact q
theorem Pic.len {p : List Int} (h : Pic p) : p.length ≤ 7 := by
  have q := nodup_le (srt_nd h.srt) (ks := castN (List.range 7)) fun x hx => by
    obtain ⟨h1, h2⟩ := h.lt x hx
    exact mem_castN.mpr ⟨x.toNat, by omega, List.mem_range.mpr (by omega)⟩
  rw [castN, List.length_map, List.length_range] at q
  exact q
theorem pic_nil : Pic [] := ⟨List.Pairwise.nil, fun x hx => (nomatch hx)⟩
theorem join_pic {a b : List Int} (ha : Pic a) (hb : Pic b) : Pic (joinM a b) := ⟨sd_sorted _, fun x hx => by
  rcases mem_joinM.mp hx with z | z
  · exact ha.lt x z
  · exact hb.lt x z⟩
/-! ### the table of the search, as a dict -/
def encB (src : Src) : KD := src.map fun x => (x.1, match x.2 with
  | none => PyData.none
  | some (Y, q) => .tuple [encP Y, encP q])
theorem encB_keys (g : Src) : (encB g).map (·.1) = keysS g := by
  unfold encB keysS
  rw [List.map_map]
  rfl
theorem encB_in (g : Src) (p : List Int) : (lookD (encB g) p).isSome = decide (p ∈ keysS g) := by
  rw [lookD_some, Bool.eq_iff_iff, List.any_eq_true, decide_eq_true_iff, ← encB_keys]
  exact ⟨fun ⟨x, h1, h2⟩ => List.mem_map.mpr ⟨x, h1, of_decide_eq_true h2⟩, fun h => by
    obtain ⟨x, h1, h2⟩ := List.mem_map.mp h
    exact ⟨x, h1, decide_eq_true h2⟩⟩
theorem encB_put {g : Src} {p Y q : List Int} (h : p ∉ keysS g) : putD (encB g) p (.tuple [encP Y, encP q]) = encB (g ++ [(p, some (Y, q))]) := by
  unfold putD
  have e : ((encB g).any fun x => decide (x.1 = p)) = false := by
    rw [← lookD_some, encB_in]
    exact decide_eq_false h
  rw [e, if_neg (by decide)]
  unfold encB
  rw [List.map_append]
  rfl
theorem encB_len (g : Src) : (encB g).length = g.length := by
  unfold encB
  rw [List.length_map]
theorem encB_look (g : Src) (X : List Int) {Y q : List Int} (h : lookS g X = some (some (Y, q))) : lookD (encB g) X = some (.tuple [encP Y, encP q]) := by
  unfold lookS at h
  unfold lookD encB
  rw [List.find?_map]
  obtain ⟨x, h1, h2⟩ := Option.map_eq_some_iff.mp h
  have e : (List.find? ((fun p : List Int × PyData => decide (p.1 = X)) ∘ fun x : List Int × Option (List Int × List Int) => (x.1, match x.2 with
    | none => PyData.none
    | some (Y, q) => .tuple [encP Y, encP q])) g) = some x := h1
  rw [e]
  have h2 : x.2 = some (Y, q) := h2
  simp [h2]
/-- keys of the search -/
structure SrP (src : Src) : Prop where
  nd : (keysS src).Nodup
  pic : ∀ X ∈ keysS src, Pic X
theorem SrP.len {src : Src} (h : SrP src) : src.length ≤ 128 := by
  have q := pics_few h.nd h.pic
  unfold keysS at q
  rw [List.length_map] at q
  exact q
theorem stepB_pic {st : Src × List (List Int)} {sp : List Int × List Int} (h : SrP st.1) (h2 : st.2.length ≤ st.1.length) (a : Pic sp.1) (b : Pic sp.2) : SrP (stepB st sp).1 ∧ (stepB st sp).2.length ≤ (stepB st sp).1.length := by
  unfold stepB
  by_cases c : joinM sp.1 sp.2 ∈ keysS st.1
  · rw [if_pos c]
    exact ⟨h, h2⟩
  · rw [if_neg c]
    refine ⟨⟨?_, fun X hX => ?_⟩, ?_⟩
    · show ((st.1 ++ [(joinM sp.1 sp.2, some sp)]).map (·.1)).Nodup
      rw [List.map_append]
      refine List.nodup_append.mpr ⟨h.nd, by simp, fun x hx y hy => ?_⟩
      simp at hy
      subst hy
      exact fun e => c (by rw [← e]; exact hx)
    · have hX : X ∈ (st.1 ++ [(joinM sp.1 sp.2, some sp)]).map (·.1) := hX
      rw [List.map_append, List.mem_append] at hX
      rcases hX with z | z
      · exact h.pic X z
      · simp at z
        rw [z]
        exact join_pic a b
    · rw [List.length_append, List.length_append]
      simp
      omega
end LW

set_option Elab.async false
set_option linter.all false
set_option maxRecDepth 100000
namespace LW
open PySem PySem.Spec PyProof.Rows L2
theorem isiT_K {X : Cx} (K : PySem.W.Frag) (h : X.K = K := by rfl) : CallR X (.builtin "isinstance") (rIsiT K) := by
  subst h
  exact call_isiT
section
variable {K : PySem.W.Frag} {ρ : List Sl} {cs cs1 cs2 : Cs} {te ta tb : TE} {d : PyData} {z : Sl}
/-- isinstance(x, (T1, T2)) -/
theorem ev_isi2 {T1 T2 : String} {b1 b2 : Bool} (h : Ev K te ρ cs (.dat d) cs) (h1 : kitB (tyN d) T1 = some b1) (h2 : kitB (tyN d) T2 = some b2) :
    Ev K (tCB (rIsiT K) (tCons te (tCons (tTup (tCons (tC (.ty T1)) (tCons (tC (.ty T2)) tNil))) tNil))) ρ cs (.dat (.bool (b1 || b2))) cs := fun G σ H ok Q q =>
  h G σ H ok _ fun v G1 H1 f1 ok1 e1 => by
    refine ⟨by show (2 : Nat) ≤ sizeLine; rw [sizeLine_eq]; decide, fun p hp => ?_⟩
    have g2 : Gr G1 H1 G1 (upd H1 p (.tup [.ty T1, .ty T2])) := ⟨.refl _, .new hp, ok1.ex.trans (.new hp), fun _ _ _ => .inl rfl⟩
    have ok2 := ok1.gr g2
    refine ⟨v, p, [.ty T1, .ty T2], _, [.type T1, .type T2], b1 || b2, rfl, upd_same, .cons (.ty T1) (.cons (.ty T2) .nil), (Dt.mono ok2.ex _ _ e1).ty, ?_, q _ G1 _ (f1.trans (g2.fr (cs := cs))) ok2 rfl⟩
    refine kitAny_cons (kit_ty h1) (fun e => ?_) (fun e => by rw [e]; rfl)
    rw [e, Bool.false_or]
    refine kitAny_cons (kit_ty h2) (fun e2 => ?_) (fun e2 => e2)
    rw [e2]
    exact kitAny_nil
theorem opd_isN : OpD K (fun x y H Q => y = .non ∧ Q (.bl (decide (x = .non))) H) (.dat d) (.dat .none) cs (.dat (.bool (match d with | .none => true | _ => false))) := fun x y G H hx hy ex ok Q q => by
  cases hy
  refine ⟨rfl, q _ G H (.refl ex) ?_⟩
  cases d with
  | none => cases hx; rfl
  | bool b => cases hx; rfl
  | int b => cases hx; rfl
  | str b => cases hx; rfl
  | list b => obtain ⟨a, xs, rfl, _⟩ := hx; rfl
  | tuple b => obtain ⟨a, xs, rfl, _⟩ := hx; rfl
  | dict b => exact hx.elim
end
end LW

set_option Elab.async false
set_option linter.all false
set_option maxRecDepth 100000
namespace LW
open PySem PySem.Spec PyProof.Rows L2
/-- xs.extend(tuple) -/
def rExtendT : V → List V → Hp → VK → Prop := fun x vs H Q => ∃ l b xs zs, x = .ref l ∧ vs = [.ref b] ∧ H l = some (.lst xs) ∧ H b = some (.tup zs) ∧ xs.length + zs.length ≤ sizeLine ∧ Q .non (upd H l (.lst (xs ++ zs)))
set_option maxRecDepth 8000 in
theorem extend_tup (l : Addr) (items : Array Value) (n : Nat) (b : Addr) (items2 : Array Value) (n2 : Nat) (dd : Option Addr) (sl : Array (Option Value)) (hs0 : ¬(!items.isEmpty && Builtin.List.listTooLong (items.size + items2.size)) = true) (hs1 : items.size ≤ sizeLine) (hs2 : items.size + items2.size ≤ sizeLine + 1) :
    Meets (Builtin.«list.extend» ⟨[.ref l, .ref b], []⟩) (fun _ R s => s.heap.get? l = some { cls := .type "list", dict := none, data := .seq items n, slots := #[] } ∧ s.heap.get? b = some { cls := .type "tuple", dict := dd, data := .seq items2 n2, slots := sl } ∧ R (.ok (.ret Value.none)) { s with heap := s.heap.update l (Obj.mapSeq fun x => x ++ items2), toks := s.toks }) :=
  .of_wp fun prog w A R s h => by
    obtain ⟨hp, g, d, tk, os⟩ := s
    obtain ⟨hl, hb, h⟩ := h
    have f1 := PySem.AutoSeq1.idx_int
    have f2 := PySem.AutoSeq1.sub_tuple_tuple
    have f3 := PySem.AutoSeq1.sub_list_list
    have f4 := PySem.AutoSeq1.sub_tuple_list
    have f5 := PySem.AutoSeq1.sub_list_tuple
    have hz' : (items ++ items2).size ≤ sizeLine + 1 := by rw [Array.size_append]; exact hs2
    wp_walk using (wpAny_updateSeq hl rfl (hz := hs1) (_hz' := hz')), wpAny_loadPart' hl, wpAny_loadPart' hb
    exact ⟨_, rfl, h⟩
theorem mt_extendT {X : Cx} : MtM X "list.extend" rExtendT := by
  intro pins s σ H x vs v us Q I rx rv h
  obtain ⟨l, b, xs, zs, rfl, rfl, hH, hB, hz, q⟩ := h
  cases rx
  obtain ⟨u, rfl, ru⟩ := rv.one
  cases ru
  obtain ⟨z, its, n, r, hl, e⟩ := I.lstM hH
  obtain ⟨_, its2, r2, o2, e2, c2, n2, d2⟩ := (show ObjOk X.prog X.w H s.heap b (.tup zs) from I.hok b _ hB)
  have hl2 := r2.length
  have hsz : its.toArray.size + its2.toArray.size ≤ sizeLine := by rw [List.size_toArray, List.size_toArray]; omega
  have hlong : ¬ (!its.toArray.isEmpty && Builtin.List.listTooLong (its.toArray.size + its2.toArray.size)) = true := by
    rw [notLongL hsz, Bool.and_false]
    exact Bool.false_ne_true
  obtain ⟨oc, od, dt, sl⟩ := o2
  simp only at c2 d2
  subst c2 d2
  refine call_meets F.slot_list_extend ⟨_, e, rfl⟩ F.entry_list_extend (F.args_list_extend_2 _ _)
    (extend_tup l its.toArray n b its2.toArray n2 od sl hlong (by rw [List.size_toArray]; omega) (by omega)) ⟨e, e2, ?_⟩
  refine ⟨.non, _, I.lset (its' := its ++ its2) hH e (by simp) (r.append r2) ?_, rfl, q⟩
  rw [List.length_append]
  omega
section
variable {K : PySem.W.Frag} {ρ : List Sl} {cs : Cs} {P : Po}
theorem run_cont (h : P.ct ρ cs) : Run K tCont ρ cs P := fun G σ H D ok n r bk ct => ct ρ cs G σ H h .refl ok
theorem run_contS {u : TS} (h : P.ct ρ cs) : Run K (tSeq tCont u) ρ cs P := fun G σ H D ok n r bk ct => ct ρ cs G σ H h .refl ok
end
end LW

set_option Elab.async false
set_option linter.all false
set_option maxRecDepth 100000
namespace LW
open PySem PySem.Spec PyProof.Rows L2
structure PicOf (s : Sg) (p : List Int) : Prop where
  srt : Srt p
  lt : ∀ x ∈ p, 0 ≤ x ∧ x < s.L.length
theorem PicOf.pic {s : Sg} {p : List Int} (ok : OkS s) (h : PicOf s p) : Pic p := ⟨h.srt, fun x hx => by
  have q := h.lt x hx
  have q2 := ok.l7
  omega⟩
def shownM (s : Sg) (row : List (List Nat)) : List Int := row.foldl (fun a t => joinM a (glowM s t)) []
def turnFor (g : GL) (k : List Int) : List Nat := ((g.find? fun x => decide (x.1 = k)).map (·.2)).getD []
def fewestM (s : Sg) (p : List Int) : Option (List (List Nat)) := (coverM (keysG (glowsM s)) p).map fun l => l.map (turnFor (glowsM s))
def encF (o : Option (List (List Nat))) : PyData := match o with
  | none => .none
  | some l => .list (l.map encT)
def partM (ns : List Int) : Nat → Tw → List Int × Tw
  | 0, tw => ([], tw)
  | n + 1, tw => (if 0 < (drawM ns (partM ns n tw).2 3).1 then (partM ns n tw).1 ++ [(n : Int)] else (partM ns n tw).1, (drawM ns (partM ns n tw).2 3).2)
theorem partM_ok (ns : List Int) : ∀ (n : Nat) (tw : Tw), Srt (partM ns n tw).1 ∧ ∀ x ∈ (partM ns n tw).1, 0 ≤ x ∧ x < n
  | 0, tw => ⟨List.Pairwise.nil, fun x hx => (nomatch hx)⟩
  | n + 1, tw => by
    obtain ⟨h1, h2⟩ := partM_ok ns n tw
    have en : (partM ns (n + 1) tw).1 = if 0 < (drawM ns (partM ns n tw).2 3).1 then (partM ns n tw).1 ++ [(n : Int)] else (partM ns n tw).1 := rfl
    rw [en]
    split
    · refine ⟨List.pairwise_append.mpr ⟨h1, List.pairwise_singleton _ _, fun a ha b hb => ?_⟩, fun x hx => ?_⟩
      · rw [List.mem_singleton.mp hb]
        exact (h2 a ha).2
      · rcases List.mem_append.mp hx with z | z
        · have := h2 x z
          omega
        · rw [List.mem_singleton.mp z]
          omega
    · exact ⟨h1, fun x hx => by have := h2 x hx; omega⟩
def sortP (ps : List (List Int)) : List (List Int) := ps.mergeSort (PySem.W.dataLe false encP)
theorem sortD_P (ps : List (List Int)) : sortD (ps.map encP) = (sortP ps).map encP := by
  unfold sortD sortP
  exact (List.map_mergeSort (f := encP) (r := PySem.W.dataLe false encP) (s := PySem.W.dataLe false id) (fun a _ b _ => rfl)).symm
theorem mem_sortP {ps : List (List Int)} {x : List Int} : x ∈ sortP ps ↔ x ∈ ps := List.mem_mergeSort
theorem sortP_len (ps : List (List Int)) : (sortP ps).length = ps.length := List.length_mergeSort _
theorem alike_ints : ∀ a b : List Int, PySem.W.alikeAll (a.map PyData.int) (b.map PyData.int) = true
  | [], [] => by simp [PySem.W.alikeAll]
  | [], y :: b => by simp [PySem.W.alikeAll]
  | x :: a, [] => by simp [PySem.W.alikeAll]
  | x :: a, y :: b => by
    rw [List.map_cons, List.map_cons]
    simp [PySem.W.alikeAll, PySem.W.alike, alike_ints a b]
theorem alike_P (a b : List Int) : PySem.W.alike (encP a) (encP b) = true := by
  unfold encP
  simp [PySem.W.alike, alike_ints a b]
theorem sortOk_P {ps : List (List Int)} (h : (∀ p ∈ ps, p ≠ []) ∨ ∃ r, ps = [] :: r) : SortOk (ps.map encP) := by
  refine ⟨fun d hd d' hd' => ?_, ?_, fun d hd => ?_⟩
  · obtain ⟨a, _, rfl⟩ := List.mem_map.mp hd
    obtain ⟨b, _, rfl⟩ := List.mem_map.mp hd'
    exact alike_P a b
  · rcases h with h | ⟨r, rfl⟩
    · refine .inl (.inl fun d hd => ?_)
      obtain ⟨a, ha, rfl⟩ := List.mem_map.mp hd
      cases a with
      | nil => exact absurd rfl (h [] ha)
      | cons x a => exact ⟨_, _, rfl⟩
    · refine .inr ⟨⟨r.map encP, rfl⟩, fun d hd => ?_⟩
      obtain ⟨a, _, rfl⟩ := List.mem_map.mp hd
      exact ⟨_, rfl⟩
  · obtain ⟨a, _, rfl⟩ := List.mem_map.mp hd
    exact Nat.le_trans (sh_P a).dep (by decide)
def encK (ks : List (List Int)) : KD := ks.map fun k => (k, .bool true)
theorem encK_put (ks : List (List Int)) (p : List Int) : putD (encK ks) p (.bool true) = if p ∈ ks then encK ks else encK (ks ++ [p]) := by
  have hany : ((encK ks).any fun x => decide (x.1 = p)) = decide (p ∈ ks) := by
    rw [Bool.eq_iff_iff, List.any_eq_true, decide_eq_true_iff]
    constructor
    · rintro ⟨x, h1, h2⟩
      obtain ⟨k, hk, rfl⟩ := List.mem_map.mp h1
      have e : k = p := of_decide_eq_true h2
      rw [← e]
      exact hk
    · intro h
      exact ⟨(p, .bool true), List.mem_map.mpr ⟨p, h, rfl⟩, decide_eq_true rfl⟩
  unfold putD
  rw [hany]
  by_cases c : p ∈ ks
  · rw [decide_eq_true c, if_pos rfl, if_pos c]
    unfold encK
    rw [List.map_map]
    refine List.map_congr_left fun k _ => ?_
    show (if k = p then (k, PyData.bool true) else (k, .bool true)) = _
    split <;> rfl
  · rw [decide_eq_false c, if_neg (by decide), if_neg c]
    unfold encK
    rw [List.map_append]
    rfl
def lglowsM (s : Sg) : List (List Int) := sortP (keysG (glowsM s))
open Classical in
noncomputable def needO (gs : List (List Int)) (p : List Int) : Option Nat := if h : ∃ k, Rank (cleanM gs p) k p then some h.choose else none
theorem needO_iff {gs : List (List Int)} {p : List Int} {k : Nat} : needO gs p = some k ↔ Rank (cleanM gs p) k p := by
  unfold needO
  by_cases h : ∃ k, Rank (cleanM gs p) k p
  · rw [dif_pos h]
    constructor
    · intro e
      cases e
      exact h.choose_spec
    · intro hk
      exact congrArg some (h.choose_spec.uniq hk)
  · rw [dif_neg h]
    exact ⟨fun e => (nomatch e), fun hk => absurd ⟨k, hk⟩ h⟩
def encNO (o : Option Nat) : PyData := match o with
  | none => .none
  | some k => eI k

/-! ### rows and what they show -/
theorem mem_shown_from {s : Sg} {x : Int} : ∀ {row : List (List Nat)} {a : List Int}, x ∈ row.foldl (fun a t => joinM a (glowM s t)) a ↔ x ∈ a ∨ ∃ t ∈ row, x ∈ glowM s t
  | [], a => by simp
  | t :: r, a => by
    rw [List.foldl_cons, mem_shown_from, mem_joinM]
    constructor
    · rintro ((h | h) | ⟨u, hu, h⟩)
      · exact .inl h
      · exact .inr ⟨t, List.mem_cons_self, h⟩
      · exact .inr ⟨u, List.mem_cons_of_mem _ hu, h⟩
    · rintro (h | ⟨u, hu, h⟩)
      · exact .inl (.inl h)
      · rcases List.mem_cons.mp hu with e | e
        · subst e
          exact .inl (.inr h)
        · exact .inr ⟨u, e, h⟩
theorem mem_shown {s : Sg} {x : Int} {row : List (List Nat)} : x ∈ shownM s row ↔ ∃ t ∈ row, x ∈ glowM s t := by
  unfold shownM
  rw [mem_shown_from]
  simp
theorem shown_srt_from {s : Sg} : ∀ (row : List (List Nat)) {a : List Int}, Srt a → Srt (row.foldl (fun a t => joinM a (glowM s t)) a)
  | [], a, h => h
  | t :: r, a, h => shown_srt_from r (a := joinM a (glowM s t)) (sd_sorted _)
theorem shown_srt (s : Sg) (row : List (List Nat)) : Srt (shownM s row) := shown_srt_from row List.Pairwise.nil
theorem shown_sd (s : Sg) (row : List (List Nat)) : shownM s row = sd (row.map (glowM s)).flatten := sd_of (shown_srt s row) fun z => by
  rw [mem_shown, List.mem_flatten]
  constructor
  · rintro ⟨t, ht, h⟩
    exact ⟨_, List.mem_map.mpr ⟨t, ht, rfl⟩, h⟩
  · rintro ⟨l, hl, h⟩
    obtain ⟨t, ht, rfl⟩ := List.mem_map.mp hl
    exact ⟨t, ht, h⟩
theorem shown_iff {s : Sg} {row : List (List Nat)} {p : List Int} (hp : Srt p) : shownM s row = p ↔ (∀ t ∈ row, ∀ x ∈ glowM s t, x ∈ p) ∧ ∀ x ∈ p, ∃ t ∈ row, x ∈ glowM s t := by
  constructor
  · intro h
    subst h
    exact ⟨fun t ht x hx => mem_shown.mpr ⟨t, ht, hx⟩, fun x hx => mem_shown.mp hx⟩
  · rintro ⟨h1, h2⟩
    refine sorted_same (shown_srt s row) hp fun z => ?_
    rw [mem_shown]
    exact ⟨fun ⟨t, ht, hz⟩ => h1 t ht z hz, h2 z⟩
theorem shown_snoc {s : Sg} {row : List (List Nat)} {t : List Nat} {p : List Int} (h : shownM s row = p) : decide (shownM s (row ++ [t]) = p) = withinM (glowM s t) p := by
  rw [Bool.eq_iff_iff, decide_eq_true_iff, withinM_iff]
  have hp : Srt p := by
    rw [← h]
    exact shown_srt s row
  rw [shown_iff hp]
  obtain ⟨h1, h2⟩ := (shown_iff hp).mp h
  constructor
  · intro q
    exact q.1 t (List.mem_append_right _ (List.mem_singleton.mpr rfl))
  · intro q
    refine ⟨fun u hu x hx => ?_, fun x hx => ?_⟩
    · rcases List.mem_append.mp hu with z | z
      · exact h1 u z x hx
      · rw [List.mem_singleton.mp z] at hx
        exact q x hx
    · obtain ⟨u, hu, hz⟩ := h2 x hx
      exact ⟨u, List.mem_append_left _ hu, hz⟩
/-- a row that shows a picture covers it by clean glows -/
theorem rch_of_row {s : Sg} {row : List (List Nat)} {p : List Int} (hr : ∀ t ∈ row, OkT s t) (h : shownM s row = p) : ∃ k, k ≤ row.length ∧ Rch (cleanM (keysG (glowsM s)) p) k p := by
  have hg := glowsM_ok s
  refine ⟨((row.map (glowM s)).filter fun q => !q.isEmpty).length, ?_, _, rfl, fun q hq => ?_, ?_⟩
  · exact Nat.le_trans (List.length_filter_le _ _) (by rw [List.length_map]; exact Nat.le_refl _)
  · obtain ⟨h1, h2⟩ := List.mem_filter.mp hq
    obtain ⟨t, ht, rfl⟩ := List.mem_map.mp h1
    refine clean_mem.mpr ⟨hg.all t (turns_okT.mpr (hr t ht)) fun e => ?_, fun z hz => ?_⟩
    · rw [e] at h2
      cases h2
    · rw [← h]
      exact mem_shown.mpr ⟨t, ht, hz⟩
  · rw [← h, shown_sd]
    refine sd_congr fun z => ?_
    rw [List.mem_flatten, List.mem_flatten]
    constructor
    · rintro ⟨l, hl, hz⟩
      refine ⟨l, List.mem_filter.mpr ⟨hl, ?_⟩, hz⟩
      cases l with
      | nil => cases hz
      | cons => rfl
    · rintro ⟨l, hl, hz⟩
      exact ⟨l, (List.mem_filter.mp hl).1, hz⟩
theorem turnFor_mem {g : GL} {k : List Int} (h : k ∈ keysG g) : (k, turnFor g k) ∈ g := by
  unfold turnFor
  induction g with
  | nil => cases h
  | cons y r ih =>
    rw [List.find?_cons]
    by_cases e : y.1 = k
    · rw [decide_eq_true e]
      exact (by rw [← e]; exact List.mem_cons_self)
    · rw [decide_eq_false e]
      have h' : k ∈ keysG r := by
        rcases List.mem_cons.mp (show k ∈ y.1 :: keysG r from h) with z | z
        · exact absurd z.symm e
        · exact z
      exact List.mem_cons_of_mem _ (ih h')
theorem turnFor_ok {s : Sg} {k : List Int} (h : k ∈ keysG (glowsM s)) : OkT s (turnFor (glowsM s) k) ∧ glowM s (turnFor (glowsM s) k) = k := by
  obtain ⟨h1, _, h3⟩ := (glowsM_ok s).is _ (turnFor_mem h)
  exact ⟨turns_okT.mp h3, h1.symm⟩
theorem keys_srt (s : Sg) : ∀ k ∈ keysG (glowsM s), Srt k := fun k hk => by
  obtain ⟨x, hx, e⟩ := List.mem_map.mp hk
  have e : x.1 = k := e
  rw [← e, ((glowsM_ok s).is x hx).1]
  exact glowM_sorted s _
theorem needO_none {gs : List (List Int)} {p : List Int} (h : ∀ k, ¬ Rch (cleanM gs p) k p) : needO gs p = none := by
  cases e : needO gs p with
  | none => rfl
  | some k => exact absurd (needO_iff.mp e).1 (h k)
theorem needO_congr {gs gs' : List (List Int)} (h : ∀ q, q ∈ gs ↔ q ∈ gs') (p : List Int) : needO gs p = needO gs' p := by
  apply Option.ext
  intro k
  rw [needO_iff, needO_iff]
  exact rank_congr fun q => by rw [clean_mem, clean_mem, h q]
theorem needO_law (s : Sg) (p : List Int) : needO (lglowsM s) p = needO (keysG (glowsM s)) p := needO_congr (fun _ => mem_sortP) p
/-- the number of parts of the cover is the need -/
theorem cover_need {ks : List (List Int)} {p : List Int} (hs : ∀ k ∈ ks, Srt k) (hp : Srt p) : (coverM ks p).map List.length = needO ks p := by
  have h := cover_ok hs hp
  cases hC : coverM ks p with
  | none =>
    rw [hC] at h
    exact (needO_none h).symm
  | some l =>
    rw [hC] at h
    exact (needO_iff.mpr h.1).symm
structure FewOk (s : Sg) (p : List Int) (told : List (List Nat)) : Prop where
  okT : ∀ t ∈ told, OkT s t
  cl : ∀ t ∈ told, ∀ x ∈ glowM s t, x ∈ p
  ne : ∀ t ∈ told, glowM s t ≠ []
  sh : shownM s told = p
  few : ∀ row : List (List Nat), (∀ t ∈ row, OkT s t) → shownM s row = p → told.length ≤ row.length
  need : needO (keysG (glowsM s)) p = some told.length
  le : told.length ≤ p.length
theorem fewest_ok {s : Sg} {p : List Int} (hp : Srt p) : match fewestM s p with
    | none => needO (keysG (glowsM s)) p = none ∧ ∀ row : List (List Nat), (∀ t ∈ row, OkT s t) → shownM s row ≠ p
    | some told => FewOk s p told := by
  have h := cover_ok (keys_srt s) hp
  unfold fewestM
  cases hC : coverM (keysG (glowsM s)) p with
  | none =>
    rw [hC] at h
    refine ⟨needO_none h, fun row hr e => ?_⟩
    obtain ⟨k, _, hk⟩ := rch_of_row hr e
    exact h k hk
  | some l =>
    rw [hC] at h
    obtain ⟨h1, h2, h3⟩ := h
    have hk : ∀ q ∈ l, q ∈ keysG (glowsM s) := fun q hq => (clean_mem.mp (h2 q hq)).1
    have hcl : ∀ t ∈ l.map (turnFor (glowsM s)), ∃ q ∈ l, glowM s t = q ∧ OkT s t := fun t ht => by
      obtain ⟨q, hq, rfl⟩ := List.mem_map.mp ht
      exact ⟨q, hq, (turnFor_ok (hk q hq)).2, (turnFor_ok (hk q hq)).1⟩
    refine ⟨fun t ht => ?_, fun t ht x hx => ?_, fun t ht e => ?_, ?_, fun row hr e => ?_, ?_, ?_⟩
    · obtain ⟨q, hq, _, h5⟩ := hcl t ht
      exact h5
    · obtain ⟨q, hq, h4, _⟩ := hcl t ht
      rw [h4] at hx
      exact (clean_mem.mp (h2 q hq)).2 x hx
    · obtain ⟨q, hq, h4, _⟩ := hcl t ht
      obtain ⟨x, hx, ex⟩ := List.mem_map.mp (hk q hq)
      have ex : x.1 = q := ex
      exact ((glowsM_ok s).is x hx).2.1 (by rw [ex, ← h4, e])
    · refine (shown_iff hp).mpr ⟨fun t ht x hx => ?_, fun x hx => ?_⟩
      · obtain ⟨q, hq, h4, _⟩ := hcl t ht
        rw [h4] at hx
        exact (clean_mem.mp (h2 q hq)).2 x hx
      · obtain ⟨q, hq, hxq⟩ := (h3 x).mp hx
        exact ⟨_, List.mem_map.mpr ⟨q, hq, rfl⟩, by rw [(turnFor_ok (hk q hq)).2]; exact hxq⟩
    · obtain ⟨k, hk1, hk2⟩ := rch_of_row hr e
      rw [List.length_map]
      refine Nat.le_of_not_lt fun z => h1.2 k (by omega) hk2
    · rw [List.length_map]
      exact needO_iff.mpr h1
    · rw [List.length_map]
      exact h1.le
theorem few_tail {s : Sg} {p : List Int} {told : List (List Nat)} (h : FewOk s p told) (hne : told ≠ []) : shownM s (told.drop 1) ≠ p := fun e => by
  have q := h.few _ (fun t ht => h.okT t (List.mem_of_mem_drop ht)) e
  rw [List.length_drop] at q
  have : told.length ≠ 0 := fun z => hne (List.length_eq_zero_iff.mp z)
  omega
theorem few_nil {s : Sg} : fewestM s [] = some [] := by
  have h := fewest_ok (s := s) (p := []) List.Pairwise.nil
  cases hC : fewestM s [] with
  | none =>
    rw [hC] at h
    exact absurd rfl (h.2 [] fun t ht => (nomatch ht))
  | some told =>
    rw [hC] at h
    rw [List.length_eq_zero_iff.mp (Nat.le_zero.mp h.le)]
end LW

set_option Elab.async false
set_option linter.all false
set_option maxRecDepth 100000
namespace LW
open PySem PySem.Spec PyProof.Rows L2
section
variable {K : PySem.W.Frag} {ρ : List Sl} {cs cs1 cs2 : Cs} {te ta tb tx : TE} {z : Sl} {d : PyData} {ds es : List PyData} {p : Addr} {i k : Nat} {c0 : List PyData}
theorem ev_extendT (k : Nat) (ho : Ev K ta ρ cs (.raw (.ref p)) cs) (h0 : cs[k]? = some (p, .lst c0)) (hx : Ev K tx ρ cs z cs1) (hz : Rds cs1 z (.tuple es)) (hk : cs1[k]? = some (p, .lst ds)) (hl : ds.length + es.length ≤ 100000) :
    Ev K (tBM K "list" rExtendT ta (tCons tx tNil)) ρ cs (.dat .none) (cs1.set k (p, .lst (ds ++ es))) := fun G σ H ok Q q =>
  ho G σ H ok _ fun v G1 H1 f1 ok1 e1 => by
    cases e1
    obtain ⟨v0, hv0, _⟩ := ok1.ce.lst h0
    refine ⟨.inl ⟨rfl, v0, .inl (.inl hv0)⟩, hx G1 σ H1 ok1 _ fun y G2 H2 f2 ok2 e2 => ?_⟩
    obtain ⟨vs, hv, dv⟩ := ok2.ce.lst hk
    obtain ⟨b, ws, rfl, hb, db⟩ := hz.tuple e2
    refine ⟨p, b, vs, ws, rfl, rfl, hv, ok2.ex _ _ hb, by rw [← dv.len, ← db.len]; exact Nat.le_trans hl (by decide), ?_⟩
    obtain ⟨f3, ok3⟩ := ok2.put (o := .lst (vs ++ ws)) (c' := .lst (ds ++ es)) hk ⟨_, upd_same, dv.append db⟩
    exact q _ G2 _ ((f1.trans f2).trans f3) ok3 rfl
theorem cutL_tl {α : Type} (xs : List α) (w : Nat) : cutL xs (some (w : Int)) none = xs.drop w := by
  unfold cutL
  rw [HT.sIx_none, HT.sIx_nat]
  by_cases h : w ≤ xs.length
  · rw [Nat.min_eq_left h, List.take_of_length_le]
    rw [List.length_drop]
    exact Nat.le_refl _
  · rw [Nat.min_eq_right (by omega), List.drop_of_length_le (by omega), List.drop_of_length_le (by omega)]
    simp
theorem cutL_hd {α : Type} (xs : List α) (w : Nat) : cutL xs none (some (w : Int)) = xs.take w := by
  unfold cutL
  rw [HT.sIx_none, HT.sIx_nat, List.drop_zero, Nat.sub_zero]
  by_cases h : w ≤ xs.length
  · rw [Nat.min_eq_left h]
  · rw [Nat.min_eq_right (by omega), List.take_length, List.take_of_length_le (by omega)]
theorem eqv_bool (a b : Bool) : PyData.eqv (.bool a) (.bool b) = decide (a = b) := by
  cases a <;> cases b <;> simp [PyData.eqv]
theorem sh_T {n : Nat} (t : List Nat) (h : ∀ c ∈ t, c = 43 ∨ c = 45 ∨ c = 48) : Sh n (encT t) := by
  refine ⟨?_, by simp [encT, PyData.depth]⟩
  unfold encT
  simp only [PyData.canLay0, PyData.strOk]
  show (t.toArray).all (· < 0x110000) = true
  rw [Array.all_eq_true]
  intro i hi
  have := h _ (List.getElem_mem (l := t) (by simpa using hi))
  simp
  omega
end
end LW

set_option Elab.async false
set_option linter.all false
set_option maxRecDepth 100000
namespace LW
open PySem PySem.Spec PyProof.Rows L2
/-! ### all pictures of some lamps -/
theorem snocRec {α : Type} {P : List α → Prop} (nil : P []) (append_singleton : ∀ xs x, P xs → P (xs ++ [x])) (l : List α) : P l := by
  have h : ∀ l : List α, P l.reverse := fun l => by
    induction l with
    | nil => exact nil
    | cons x l ih =>
      rw [List.reverse_cons]
      exact append_singleton _ _ ih
  rw [← List.reverse_reverse l]
  exact h _
def powF (xs : List Int) : List (List Int) := xs.foldl (fun F x => F ++ F.map (· ++ [x])) [[]]
theorem powF_snoc (xs : List Int) (x : Int) : powF (xs ++ [x]) = powF xs ++ (powF xs).map (· ++ [x]) := by
  unfold powF
  rw [List.foldl_append]
  rfl
theorem powF_len (xs : List Int) : (powF xs).length = 2 ^ xs.length := by
  induction xs using snocRec with
  | nil => rfl
  | append_singleton xs x ih => rw [powF_snoc, List.length_append, List.length_map, ih, List.length_append, List.length_singleton, Nat.pow_succ]; omega
theorem mem_powF {xs p : List Int} : p ∈ powF xs ↔ p.Sublist xs := by
  induction xs using snocRec generalizing p with
  | nil =>
    show p ∈ [[]] ↔ _
    rw [List.mem_singleton, List.sublist_nil]
  | append_singleton xs x ih =>
    rw [powF_snoc, List.mem_append, List.mem_map, List.sublist_append_iff]
    constructor
    · rintro (h | ⟨q, hq, rfl⟩)
      · exact ⟨p, [], by simp, ih.mp h, List.nil_sublist _⟩
      · exact ⟨q, [x], rfl, ih.mp hq, List.Sublist.refl _⟩
    · rintro ⟨a, b, rfl, ha, hb⟩
      rcases List.sublist_cons_iff.mp hb with h | ⟨r, e, h⟩
      · rw [List.sublist_nil.mp h, List.append_nil]
        exact .inl (ih.mpr ha)
      · rw [List.sublist_nil.mp h] at e
        subst e
        exact .inr ⟨a, ih.mpr ha, rfl⟩
theorem powF_nd {xs : List Int} (h : xs.Nodup) : (powF xs).Nodup := by
  induction xs using snocRec with
  | nil => exact (by simp [powF] : ([[]] : List (List Int)).Nodup)
  | append_singleton xs x ih =>
    have hn := List.nodup_append.mp h
    have ih := ih hn.1
    rw [powF_snoc]
    refine List.nodup_append.mpr ⟨ih, ?_, fun a ha b hb e => ?_⟩
    · refine (List.pairwise_map (R := (· ≠ ·))).mpr (ih.imp fun {a b} hne e => hne ?_)
      exact List.append_cancel_right e
    · obtain ⟨q, _, rfl⟩ := List.mem_map.mp hb
      subst e
      have hx : x ∈ xs := (mem_powF.mp ha).subset (List.mem_append_right _ (List.mem_singleton.mpr rfl))
      exact hn.2.2 x hx x (List.mem_singleton.mpr rfl) rfl
theorem srt_sub : ∀ {xs p : List Int}, Srt xs → Srt p → (∀ x ∈ p, x ∈ xs) → p.Sublist xs
  | [], p, _, _, h => by
    cases p with
    | nil => exact List.Sublist.refl _
    | cons x r => exact absurd (h x List.mem_cons_self) (by simp)
  | x :: r, p, hl, hp, h => by
    obtain ⟨h1, h2⟩ := List.pairwise_cons.mp hl
    cases p with
    | nil => exact List.nil_sublist _
    | cons y q =>
      obtain ⟨g1, g2⟩ := List.pairwise_cons.mp hp
      rcases List.mem_cons.mp (h y List.mem_cons_self) with e | e
      · subst e
        refine List.Sublist.cons₂ _ (srt_sub h2 g2 fun z hz => ?_)
        have hz1 := g1 z hz
        rcases List.mem_cons.mp (h z (List.mem_cons_of_mem _ hz)) with e | e
        · omega
        · exact e
      · refine List.Sublist.cons _ (srt_sub h2 hp fun z hz => ?_)
        have hxy := h1 y e
        have hyz : y ≤ z := by
          rcases List.mem_cons.mp hz with e | e
          · omega
          · have := g1 z e
            omega
        rcases List.mem_cons.mp (h z hz) with e | e
        · omega
        · exact e
theorem mem_powS {xs p : List Int} (hx : Srt xs) : p ∈ powF xs ↔ Srt p ∧ ∀ x ∈ p, x ∈ xs := by
  rw [mem_powF]
  exact ⟨fun h => ⟨List.Pairwise.sublist h hx, fun x hp => h.subset hp⟩, fun h => srt_sub hx h.1 h.2⟩
def encLP (p : List Int) : PyData := .tuple [.int (p.length : Int), encP p]
def sortLP (ps : List (List Int)) : List (List Int) := ps.mergeSort (PySem.W.dataLe false encLP)
theorem sortD_LP (ps : List (List Int)) : sortD (ps.map encLP) = (sortLP ps).map encLP := by
  unfold sortD sortLP
  exact (List.map_mergeSort (f := encLP) (r := PySem.W.dataLe false encLP) (s := PySem.W.dataLe false id) (fun a _ b _ => rfl)).symm
theorem mem_sortLP {ps : List (List Int)} {x : List Int} : x ∈ sortLP ps ↔ x ∈ ps := List.mem_mergeSort
theorem sortLP_len (ps : List (List Int)) : (sortLP ps).length = ps.length := List.length_mergeSort _
theorem sortLP_nd {ps : List (List Int)} (h : ps.Nodup) : (sortLP ps).Nodup := (List.mergeSort_perm ps _).nodup_iff.mpr h
theorem alike_LP (a b : List Int) : PySem.W.alike (encLP a) (encLP b) = true := by
  unfold encLP
  simp [PySem.W.alike, PySem.W.alikeAll, alike_P a b]
theorem sortOk_LP (ps : List (List Int)) : SortOk (ps.map encLP) := by
  refine ⟨fun d hd d' hd' => ?_, .inl (.inl fun d hd => ?_), fun d hd => ?_⟩
  · obtain ⟨a, _, rfl⟩ := List.mem_map.mp hd
    obtain ⟨b, _, rfl⟩ := List.mem_map.mp hd'
    exact alike_LP a b
  · obtain ⟨a, ha, rfl⟩ := List.mem_map.mp hd
    exact ⟨_, _, rfl⟩
  · obtain ⟨a, _, rfl⟩ := List.mem_map.mp hd
    exact Nat.le_trans (sh_tuple (n := 1) (sha_cons sh_int (sha_cons (sh_P a) sha_nil))).dep (by decide)
def picsM (xs : List Int) : List (List Int) := sortLP (powF xs)
theorem picsM_len (xs : List Int) : (picsM xs).length = 2 ^ xs.length := by
  unfold picsM
  rw [sortLP_len, powF_len]
theorem mem_picsM {xs p : List Int} (hx : Srt xs) : p ∈ picsM xs ↔ Srt p ∧ ∀ x ∈ p, x ∈ xs := by
  unfold picsM
  rw [mem_sortLP, mem_powS hx]
theorem picsM_nd {xs : List Int} (hx : Srt xs) : (picsM xs).Nodup := sortLP_nd (powF_nd (srt_nd hx))
/-- the numbers below n -/
def rgM (n : Nat) : List Int := castN (List.range n)
theorem rgM_len (n : Nat) : (rgM n).length = n := by
  unfold rgM castN
  rw [List.length_map, List.length_range]
theorem mem_rgM {n : Nat} {x : Int} : x ∈ rgM n ↔ 0 ≤ x ∧ x < n := by
  unfold rgM
  rw [mem_castN]
  constructor
  · rintro ⟨i, rfl, h⟩
    have := List.mem_range.mp h
    omega
  · rintro ⟨h1, h2⟩
    exact ⟨x.toNat, by omega, List.mem_range.mpr (by omega)⟩
theorem rgM_srt (n : Nat) : Srt (rgM n) := by
  unfold rgM castN
  refine List.pairwise_map.mpr (List.pairwise_lt_range.imp fun {a b} h => ?_)
  omega
theorem rgM_data (n : Nat) : (rgM n).map PyData.int = rangeD 0 n := by
  unfold rgM castN rangeD
  rw [List.map_map]
  refine List.map_congr_left fun i _ => ?_
  show PyData.int (i : Int) = .int (0 + (i : Int))
  rw [Int.zero_add]
theorem mem_pics {s : Sg} {p : List Int} : p ∈ picsM (rgM s.L.length) ↔ PicOf s p := by
  rw [mem_picsM (rgM_srt _)]
  exact ⟨fun h => ⟨h.1, fun x hx => mem_rgM.mp (h.2 x hx)⟩, fun h => ⟨h.srt, fun x hx => mem_rgM.mpr (h.lt x hx)⟩⟩
/-! ### needs -/
noncomputable def needsM (s : Sg) : List (List Int × Option Nat) := (picsM (rgM s.L.length)).map fun p => (p, needO (keysG (glowsM s)) p)
theorem needsM_len (s : Sg) : (needsM s).length = 2 ^ s.L.length := by
  unfold needsM
  rw [List.length_map, picsM_len, rgM_len]
theorem needsM_small {s : Sg} (ok : OkS s) : (needsM s).length ≤ 128 := by
  rw [needsM_len]
  exact Nat.pow_le_pow_right (by decide) ok.l7
theorem mem_needs {s : Sg} {x : List Int × Option Nat} : x ∈ needsM s ↔ PicOf s x.1 ∧ x.2 = needO (keysG (glowsM s)) x.1 := by
  unfold needsM
  rw [List.mem_map]
  constructor
  · rintro ⟨p, hp, rfl⟩
    exact ⟨mem_pics.mp hp, rfl⟩
  · rintro ⟨h1, h2⟩
    exact ⟨x.1, mem_pics.mpr h1, by rw [← h2]⟩
theorem need_le {ks : List (List Int)} {p : List Int} {k : Nat} (h : needO ks p = some k) : k ≤ p.length := (needO_iff.mp h).le
theorem need_zero {ks : List (List Int)} {p : List Int} : needO ks p = some 0 ↔ p = [] := by
  rw [needO_iff]
  constructor
  · intro h
    exact rch_zero.mp h.1
  · intro h
    exact ⟨rch_zero.mpr h, fun j hj => absurd hj (Nat.not_lt_zero _)⟩
def encNP (x : List Int × Option Nat) : PyData := .tuple [encP x.1, encNO x.2]
def nonesM (l : List (List Int × Option Nat)) : List (List Int) := (l.filter fun x => x.2.isNone).map (·.1)
def hdO (l : List (List Int)) : PyData := match l.head? with
  | none => .none
  | some p => encP p
def hardM (l : List (List Int × Option Nat)) : Nat × List Int := l.foldl (fun b x => match x.2 with
  | none => b
  | some k => if b.1 < k then (k, x.1) else b) (0, [])
def leO (o : Option Nat) (m : Nat) : Bool := match o with
  | none => false
  | some k => decide (k ≤ m)
def uptoM (l : List (List Int × Option Nat)) (m : Nat) : List (List Int × Option Nat) := l.filter fun x => leO x.2 m
structure HardOk (l : List (List Int × Option Nat)) (b : Nat × List Int) : Prop where
  le : ∀ x ∈ l, ∀ k, x.2 = some k → k ≤ b.1
  is : b = (0, []) ∨ (0 < b.1 ∧ ∃ l2 l3, l = l2 ++ (b.2, some b.1) :: l3 ∧ ∀ x ∈ l2, x.2 ≠ some b.1)
theorem hardM_ok (l : List (List Int × Option Nat)) : HardOk l (hardM l) := by
  induction l using snocRec with
  | nil => exact ⟨fun x hx => (nomatch hx), .inl rfl⟩
  | append_singleton l y ih =>
    have e : hardM (l ++ [y]) = match y.2 with
      | none => hardM l
      | some k => if (hardM l).1 < k then (k, y.1) else hardM l := by
      unfold hardM
      rw [List.foldl_append]
      rfl
    rw [e]
    obtain ⟨h1, h2⟩ := ih
    generalize hardM l = b at h1 h2
    have keep : (∀ k, y.2 = some k → k ≤ b.1) → HardOk (l ++ [y]) b := fun hy => by
      refine ⟨fun x hx k hk => ?_, ?_⟩
      · rcases List.mem_append.mp hx with z | z
        · exact h1 x z k hk
        · rw [List.mem_singleton.mp z] at hk
          exact hy k hk
      · rcases h2 with h2 | ⟨h2, l2, l3, h3, h4⟩
        · exact .inl h2
        · exact .inr ⟨h2, l2, l3 ++ [y], by rw [h3]; simp, h4⟩
    cases hy : y.2 with
    | none => exact keep fun k hk => by rw [hy] at hk; cases hk
    | some k =>
      show HardOk (l ++ [y]) (if b.1 < k then (k, y.1) else b)
      by_cases c : b.1 < k
      · rw [if_pos c]
        refine ⟨fun x hx j hj => ?_, .inr ⟨by show 0 < k; omega, l, [], ?_, fun x hx z => ?_⟩⟩
        · rcases List.mem_append.mp hx with z | z
          · have := h1 x z j hj
            show j ≤ k
            omega
          · rw [List.mem_singleton.mp z, hy] at hj
            cases hj
            exact Nat.le_refl _
        · show l ++ [y] = l ++ [(y.1, some k)]
          rw [← hy]
        · have := h1 x hx k z
          omega
      · rw [if_neg c]
        exact keep fun j hj => by
          rw [hy] at hj
          cases hj
          omega
/-- the greatest need and the first picture that has it -/
theorem hard_first {l : List (List Int × Option Nat)} {m : Nat} (hz : ∀ x ∈ l, x.2 = some 0 ↔ x.1 = []) (h0 : ([], some 0) ∈ l) (hm : ∃ x ∈ l, x.2 = some m) (hle : ∀ x ∈ l, ∀ k, x.2 = some k → k ≤ m) : hardM l = (m, ((l.filter fun x => decide (x.2 = some m)).map (·.1)).headD []) := by
  obtain ⟨h1, h2⟩ := hardM_ok l
  obtain ⟨x, hx, ex⟩ := hm
  have e1 : (hardM l).1 = m := by
    refine Nat.le_antisymm ?_ (h1 x hx m ex)
    rcases h2 with h2 | ⟨_, l2, l3, h3, _⟩
    · rw [h2]
      exact Nat.zero_le _
    · generalize hardM l = b at h3
      subst h3
      exact hle (b.2, some b.1) (by simp) _ rfl
  refine Prod.ext e1 ?_
  show (hardM l).2 = _
  rcases h2 with h2 | ⟨h2, l2, l3, h3, h4⟩
  · rw [h2] at e1 ⊢
    have e1 : 0 = m := e1
    subst e1
    show [] = _
    cases hf : l.filter fun x => decide (x.2 = some 0) with
    | nil => rfl
    | cons y r =>
      have hy : y ∈ l.filter fun x => decide (x.2 = some 0) := by rw [hf]; exact List.mem_cons_self
      obtain ⟨g1, g2⟩ := List.mem_filter.mp hy
      show [] = y.1
      exact ((hz y g1).mp (of_decide_eq_true g2)).symm
  · rw [e1] at h3 h4
    generalize (hardM l).2 = q at h3
    rw [h3, List.filter_append, List.filter_eq_nil_iff.mpr fun x hx z => h4 x hx (of_decide_eq_true z), List.nil_append, List.filter_cons]
    simp
theorem hard_mem {l : List (List Int × Option Nat)} (h0 : ([], some 0) ∈ l) : ∃ x ∈ l, x.2 = some (hardM l).1 := by
  rcases (hardM_ok l).is with h | ⟨_, l2, l3, h3, _⟩
  · rw [h]
    exact ⟨_, h0, rfl⟩
  · generalize hardM l = b at h3
    subst h3
    exact ⟨(b.2, some b.1), by simp, rfl⟩
theorem needs_nil (s : Sg) : ([], some 0) ∈ needsM s := mem_needs.mpr ⟨⟨List.Pairwise.nil, fun x hx => (nomatch hx)⟩, (need_zero.mpr rfl).symm⟩
theorem needs_hard (s : Sg) : hardM (needsM s) = ((hardM (needsM s)).1, (((needsM s).filter fun x => decide (x.2 = some (hardM (needsM s)).1)).map (·.1)).headD []) ∧ ((needsM s).filter fun x => decide (x.2 = some (hardM (needsM s)).1)).map (·.1) ≠ [] := by
  have hm := hard_mem (needs_nil s)
  refine ⟨hard_first (fun x hx => ?_) (needs_nil s) hm fun x hx k hk => (hardM_ok _).le x hx k hk, fun e => ?_⟩
  · rw [(mem_needs.mp hx).2]
    exact need_zero
  · obtain ⟨x, hx, ex⟩ := hm
    have h1 : x ∈ (needsM s).filter fun x => decide (x.2 = some (hardM (needsM s)).1) := List.mem_filter.mpr ⟨hx, decide_eq_true ex⟩
    rw [List.map_eq_nil_iff.mp e] at h1
    cases h1
theorem upto_zero {s : Sg} : (uptoM (needsM s) 0).length = 1 := by
  have e : uptoM (needsM s) 0 = (needsM s).filter fun x => decide (x.1 = []) := by
    unfold uptoM
    refine List.filter_congr fun x hx => ?_
    obtain ⟨h1, h2⟩ := mem_needs.mp hx
    rw [Bool.eq_iff_iff, decide_eq_true_iff]
    constructor
    · intro h
      cases hk : x.2 with
      | none =>
        rw [hk] at h
        cases h
      | some k =>
        rw [hk] at h
        have hk0 : k = 0 := Nat.le_zero.mp (of_decide_eq_true h)
        subst hk0
        exact need_zero.mp (h2.symm.trans hk)
    · intro h
      have := need_zero (ks := keysG (glowsM s)) |>.mpr h
      rw [h2, this]
      rfl
  rw [e]
  unfold needsM
  rw [List.filter_map, List.length_map]
  have e2 : (picsM (rgM s.L.length)).filter ((fun x : List Int × Option Nat => decide (x.1 = [])) ∘ fun p => (p, needO (keysG (glowsM s)) p)) = (picsM (rgM s.L.length)).filter (fun p => p == []) := by
    refine List.filter_congr fun p _ => ?_
    show decide (p = []) = (p == [])
    rw [Bool.eq_iff_iff, decide_eq_true_iff, beq_iff_eq]
  rw [e2, List.filter_beq, List.length_replicate]
  have h1 : List.count [] (picsM (rgM s.L.length)) ≤ 1 := List.nodup_iff_count.mp (picsM_nd (rgM_srt _)) []
  have h2 : 0 < List.count [] (picsM (rgM s.L.length)) := List.count_pos_iff.mpr (mem_pics.mpr ⟨List.Pairwise.nil, fun x hx => (nomatch hx)⟩)
  omega
theorem upto_all {s : Sg} (ok : OkS s) : decide ((uptoM (needsM s) 8).length = (needsM s).length) = (nonesM (needsM s)).isEmpty := by
  have h7 := ok.l7
  have e : uptoM (needsM s) 8 = (needsM s).filter fun x => !x.2.isNone := by
    unfold uptoM
    refine List.filter_congr fun x hx => ?_
    obtain ⟨h1, h2⟩ := mem_needs.mp hx
    cases hk : x.2 with
    | none => rfl
    | some k =>
      have h3 := need_le (h2.symm.trans hk)
      have h4 := (h1.pic ok).len
      show decide (k ≤ 8) = true
      exact decide_eq_true (by omega)
  rw [e]
  unfold nonesM
  rw [List.isEmpty_map, Bool.eq_iff_iff, decide_eq_true_iff, List.isEmpty_iff, List.filter_eq_nil_iff]
  constructor
  · intro h x hx
    have := (List.length_filter_eq_length_iff.mp h) x hx
    cases hk : x.2 with
    | none => rw [hk] at this; cases this
    | some k => exact fun z => nomatch z
  · intro h
    refine List.length_filter_eq_length_iff.mpr fun x hx => ?_
    have := h x hx
    cases hk : x.2 with
    | none => rw [hk] at this; exact absurd rfl this
    | some k => rfl
/-! ### data -/
section
variable {K : PySem.W.Frag} {ρ : List Sl} {cs cs1 cs2 : Cs} {te ta tb : TE} {z : Sl} {d : PyData} {ds es : List PyData}
theorem ev_tupRg1 {n : Nat} (h : Ev K ta ρ cs (.dat (.int (n : Int))) cs1) (hn : n ≤ 1000) : Ev K (tTupRg (tRg1 ta)) ρ cs (.dat (encP (rgM n))) cs1 := fun G σ H ok Q q =>
  h G σ H ok _ fun v G1 H1 f1 ok1 e1 => by
    refine ⟨(n : Int), e1, .of_le (by omega) (by omega) (by omega) (by omega), fun p hp => ?_⟩
    have g := Gr.new ok1.ex (o := .tup (rgV 0 (n : Int))) hp
    refine q _ _ _ (f1.trans g.fr) (ok1.gr g) ⟨p, _, rfl, upd_same, ?_⟩
    have e : rgV 0 (n : Int) = (rgM n).map V.int := by
      unfold rgV rgM castN
      rw [List.map_map, show ((n : Int) - 0).toNat = n from by omega]
      refine List.map_congr_left fun i _ => ?_
      show V.int (0 + (i : Int)) = V.int (i : Int)
      rw [Int.zero_add]
    rw [e]
    exact DtAll.of_ints _
theorem cd_max {ns : List Int} {m : Int} (h : Rds cs z (.list (ns.map PyData.int))) (hm : m ∈ ns) (hle : ∀ y ∈ ns, y ≤ m) : CallD K (rMax K) [z] cs (.dat (.int m)) := fun vs G H hv ex ok Q q => by
  obtain ⟨v, rfl, h1⟩ := hv.one
  obtain ⟨p, ws, rfl, hp, dp⟩ := h.list h1 ex ok
  refine ⟨p, ns, rfl, .inl (.inl (by rw [← dp.ints]; exact hp)), List.length_pos_of_mem hm, fun m' h1 h2 => ?_⟩
  have e : m' = m := Int.le_antisymm (hle m' h1) (h2 m hm)
  subst e
  exact q _ G H (.refl ex) rfl
def isNoneB : PyData → Bool
  | .none => true
  | _ => false
theorem opd_notN : OpD K (fun x y H Q => y = .non ∧ Q (.bl (!decide (x = .non))) H) (.dat d) (.dat .none) cs (.dat (.bool (!isNoneB d))) := fun x y G H hx hy ex ok Q q => by
  cases hy
  refine ⟨rfl, q _ G H (.refl ex) ?_⟩
  cases d with
  | none => cases hx; rfl
  | bool b => cases hx; rfl
  | int b => cases hx; rfl
  | str b => cases hx; rfl
  | list b => obtain ⟨a, xs, rfl, _⟩ := hx; rfl
  | tuple b => obtain ⟨a, xs, rfl, _⟩ := hx; rfl
  | dict b => exact hx.elim
theorem sh_NO {n : Nat} (o : Option Nat) : Sh n (encNO o) := by
  cases o with
  | none => exact sh_none
  | some k => exact sh_int
theorem eqv_NO (a b : Option Nat) : PyData.eqv (encNO a) (encNO b) = decide (a = b) := by
  cases a with
  | none => cases b <;> simp [encNO, eI, PyData.eqv]
  | some a =>
    cases b with
    | none => simp [encNO, eI, PyData.eqv]
    | some b =>
      simp only [encNO, eI, PyData.eqv]
      rw [Bool.eq_iff_iff, beq_iff_eq, decide_eq_true_iff]
      constructor
      · intro h
        rw [Int.ofNat_inj.mp h]
      · intro h
        rw [Option.some.inj h]
end
end LW

set_option Elab.async false
set_option linter.all false
set_option maxRecDepth 100000
namespace LW
open PySem PySem.Spec PyProof.Rows L2
/-! ### the order of pictures -/
theorem lt_P (a b : List Int) : PySem.W.dataLt (encP a) (encP b) = decide (a < b) := by
  unfold encP
  rw [PySem.W.dataLt_tuple]
  exact PySem.W.dataLt_ints a b
theorem lt_LP (a b : List Int) : PySem.W.dataLt (encLP a) (encLP b) = decide (a.length < b.length ∨ (a.length = b.length ∧ a < b)) := by
  unfold encLP
  rw [PySem.W.dataLt_pair (by simp [PySem.W.alike]) (alike_P a b), lt_P, PySem.W.dataLt_int]
  have e1 : PyData.eqv (.int (a.length : Int)) (.int (b.length : Int)) = decide (a.length = b.length) := by
    simp only [PyData.eqv]
    rw [Bool.eq_iff_iff, beq_iff_eq, decide_eq_true_iff]
    omega
  have e2 : PyData.eqv (encP a) (encP b) = decide (a = b) := eqv_tup a b
  rw [e1, e2]
  by_cases h : a.length = b.length
  · rw [if_pos (decide_eq_true h)]
    by_cases h2 : a = b
    · rw [if_pos (decide_eq_true h2)]
      subst h2
      exact (decide_eq_false fun z => by
        rcases z with z | z
        · exact absurd z (Nat.lt_irrefl _)
        · exact List.lt_irrefl a z.2).symm
    · rw [if_neg (by rw [decide_eq_false h2]; decide)]
      exact decide_eq_decide.mpr ⟨fun z => .inr ⟨h, z⟩, fun z => by
        rcases z with z | z
        · omega
        · exact z.2⟩
  · rw [if_neg (by rw [decide_eq_false h]; decide)]
    exact decide_eq_decide.mpr ⟨fun z => .inl (by omega), fun z => by
      rcases z with z | z
      · omega
      · exact absurd z.1 h⟩
def LeP (a b : List Int) : Prop := a.length < b.length ∨ (a.length = b.length ∧ a ≤ b)
theorem le_LP (a b : List Int) : PySem.W.dataLe false encLP a b = true ↔ LeP a b := by
  have e : PySem.W.dataLe false encLP a b = !PySem.W.dataLt (encLP b) (encLP a) := rfl
  rw [e, lt_LP]
  unfold LeP
  by_cases h : b.length < a.length ∨ (b.length = a.length ∧ b < a)
  · rw [decide_eq_true h]
    refine ⟨fun z => (nomatch z), fun z => ?_⟩
    exfalso
    rcases h with h | h <;> rcases z with z | z
    · omega
    · omega
    · omega
    · exact absurd h.2 (List.not_lt.mpr z.2)
  · rw [decide_eq_false h]
    refine ⟨fun _ => ?_, fun _ => rfl⟩
    by_cases h1 : a.length < b.length
    · exact .inl h1
    · refine .inr ⟨?_, ?_⟩
      · have : ¬ b.length < a.length := fun z => h (.inl z)
        omega
      · have h2 : ¬ b.length < a.length := fun z => h (.inl z)
        exact List.not_lt.mp fun z => h (.inr ⟨by omega, z⟩)
theorem LeP.trans {a b c : List Int} (h : LeP a b) (h' : LeP b c) : LeP a c := by
  rcases h with h | h <;> rcases h' with h' | h'
  · exact .inl (by omega)
  · exact .inl (by omega)
  · exact .inl (by omega)
  · exact .inr ⟨h.1.trans h'.1, List.le_trans h.2 h'.2⟩
theorem LeP.antisymm {a b : List Int} (h : LeP a b) (h' : LeP b a) : a = b := by
  rcases h with h | h <;> rcases h' with h' | h'
  · omega
  · omega
  · omega
  · exact List.le_antisymm h.2 h'.2
theorem LeP.total (a b : List Int) : LeP a b ∨ LeP b a := by
  rcases Nat.lt_trichotomy a.length b.length with h | h | h
  · exact .inl (.inl h)
  · rcases List.le_total a b with z | z
    · exact .inl (.inr ⟨h, z⟩)
    · exact .inr (.inr ⟨h.symm, z⟩)
  · exact .inr (.inl h)
theorem sortLP_pw (ps : List (List Int)) : (sortLP ps).Pairwise LeP := by
  unfold sortLP
  refine (List.pairwise_mergeSort (le := PySem.W.dataLe false encLP) (fun a b c h1 h2 => ?_) (fun a b => ?_) ps).imp fun {a b} h => (le_LP a b).mp h
  · exact (le_LP a c).mpr (((le_LP a b).mp h1).trans ((le_LP b c).mp h2))
  · rw [Bool.or_eq_true, le_LP, le_LP]
    exact LeP.total a b
theorem sortLP_uniq {l ps : List (List Int)} (h : l.Pairwise LeP) (hp : l.Perm ps) : l = sortLP ps :=
  List.Perm.eq_of_pairwise (fun a b _ _ h1 h2 => h1.antisymm h2) h (sortLP_pw ps) (hp.trans (List.mergeSort_perm ps _).symm)
theorem filter_sortLP (ps : List (List Int)) (f : List Int → Bool) : (sortLP ps).filter f = sortLP (ps.filter f) :=
  sortLP_uniq ((sortLP_pw ps).filter f) ((List.mergeSort_perm ps _).filter f)
/-- the pictures within a picture, among all -/
theorem pics_within {n : Nat} {p : List Int} (hs : Srt p) (hp : ∀ x ∈ p, 0 ≤ x ∧ x < n) : (picsM (rgM n)).filter (fun q => withinM q p) = picsM p := by
  unfold picsM
  rw [filter_sortLP]
  refine sortLP_uniq (sortLP_pw _) ((List.mergeSort_perm _ _).trans ?_)
  refine (List.perm_ext_iff_of_nodup ((powF_nd (srt_nd (rgM_srt n))).filter _) (powF_nd (srt_nd hs))).mpr fun q => ?_
  rw [List.mem_filter, mem_powS (rgM_srt n), mem_powS hs, withinM_iff]
  exact ⟨fun h => ⟨h.1.1, h.2⟩, fun h => ⟨⟨h.1, fun x hx => mem_rgM.mpr (hp x (h.2 x hx))⟩, h.2⟩⟩
/-! ### lamps that are apart -/
def meetN (a b : List Int) : Nat := (a.filter fun x => decide (x ∈ b)).length
theorem meet_comm {a b : List Int} (ha : a.Nodup) (hb : b.Nodup) : meetN a b = meetN b a := by
  unfold meetN
  refine List.Perm.length_eq ((List.perm_ext_iff_of_nodup (ha.filter _) (hb.filter _)).mpr fun x => ?_)
  rw [List.mem_filter, List.mem_filter, decide_eq_true_iff, decide_eq_true_iff]
  exact And.comm
def okA (cl : List (List Int)) (part : List Int) : Bool := !(cl.any fun one => decide (1 < meetN part one))
def apS (cl : List (List Int)) (best part : List Int) : List Int := if (decide (best.length < part.length) && okA cl part) = true then part else best
def apartM (ks : List (List Int)) (p : List Int) : List Int := (picsM p).foldl (apS (cleanM ks p)) []
/-- the law's own step -/
def lapS (cl : List (List Int)) (p best part : List Int) : List Int := if (decide (best.length < part.length) && withinM part p) = true then (if (cl.filter fun one => decide (1 < meetN one part)).isEmpty = true then part else best) else best
theorem lapS_eq {cl cl' : List (List Int)} {p best part : List Int} (h : ∀ q, q ∈ cl ↔ q ∈ cl') (hc : ∀ q ∈ cl, q.Nodup) (hp : part.Nodup) : lapS cl p best part = if withinM part p = true then apS cl' best part else best := by
  have e : (cl.filter fun one => decide (1 < meetN one part)).isEmpty = okA cl' part := by
    unfold okA
    rw [Bool.eq_iff_iff, List.isEmpty_iff, List.filter_eq_nil_iff, Bool.not_eq_true', List.any_eq_false]
    constructor
    · intro z q hq
      have hq' := (h q).mpr hq
      have := z q hq'
      rw [meet_comm hp (hc q hq')]
      exact this
    · intro z q hq
      have := z q ((h q).mp hq)
      rw [meet_comm hp (hc q hq)] at this
      exact this
  unfold lapS apS
  rw [e]
  cases decide (best.length < part.length) <;> cases withinM part p <;> cases okA cl' part <;> rfl
theorem foldl_if {α β : Type} (g : β → α → β) (f : α → Bool) : ∀ (l : List α) (b : β), l.foldl (fun b x => if f x = true then g b x else b) b = (l.filter f).foldl g b
  | [], b => rfl
  | x :: l, b => by
    rw [List.foldl_cons, List.filter_cons, foldl_if g f l]
    split
    · rfl
    · rfl
theorem foldl_congr' {α β : Type} {g g' : β → α → β} : ∀ {l : List α} {b : β}, (∀ b, ∀ x ∈ l, g b x = g' b x) → l.foldl g b = l.foldl g' b
  | [], b, _ => rfl
  | x :: l, b, h => by
    rw [List.foldl_cons, List.foldl_cons, h b x List.mem_cons_self]
    exact foldl_congr' fun b y hy => h b y (List.mem_cons_of_mem _ hy)
theorem lap_fold {s : Sg} {p : List Int} (hp : PicOf s p) : (picsM (rgM s.L.length)).foldl (lapS (cleanM (lglowsM s) p) p) [] = apartM (keysG (glowsM s)) p := by
  unfold apartM
  rw [← pics_within hp.srt hp.lt, ← foldl_if]
  refine foldl_congr' fun b q hq => lapS_eq (fun k => ?_) (fun k hk => ?_) ?_
  · rw [clean_mem, clean_mem]
    unfold lglowsM
    rw [mem_sortP]
  · exact srt_nd (keys_srt s k (mem_sortP.mp (clean_mem.mp hk).1))
  · exact srt_nd (mem_pics.mp hq).srt
theorem apart_ok {ks : List (List Int)} {p : List Int} (hp : Srt p) : (Srt (apartM ks p) ∧ ∀ x ∈ apartM ks p, x ∈ p) ∧ ∀ one ∈ cleanM ks p, meetN (apartM ks p) one ≤ 1 := by
  unfold apartM
  have key : ∀ (l : List (List Int)) (b : List Int), (∀ q ∈ l, Srt q ∧ ∀ x ∈ q, x ∈ p) → ((Srt b ∧ ∀ x ∈ b, x ∈ p) ∧ ∀ one ∈ cleanM ks p, meetN b one ≤ 1) → ((Srt (l.foldl (apS (cleanM ks p)) b) ∧ ∀ x ∈ l.foldl (apS (cleanM ks p)) b, x ∈ p) ∧ ∀ one ∈ cleanM ks p, meetN (l.foldl (apS (cleanM ks p)) b) one ≤ 1) := fun l => by
    induction l with
    | nil => exact fun b _ h => h
    | cons q l ih =>
      intro b hl hb
      rw [List.foldl_cons]
      refine ih _ (fun r hr => hl r (List.mem_cons_of_mem _ hr)) ?_
      unfold apS
      split
      · rename_i hc
        rw [Bool.and_eq_true] at hc
        refine ⟨hl q List.mem_cons_self, fun one ho => ?_⟩
        have h2 := hc.2
        unfold okA at h2
        rw [Bool.not_eq_true', List.any_eq_false] at h2
        have := h2 one ho
        rw [decide_eq_true_iff] at this
        omega
      · exact hb
  refine key _ _ (fun q hq => (mem_picsM hp).mp hq) ⟨⟨List.Pairwise.nil, fun x hx => (nomatch hx)⟩, fun one _ => Nat.zero_le _⟩
theorem apart_le {g : List Nat → List Int} : ∀ (told : List (List Nat)) (best : List Int), (∀ x ∈ best, ∃ t ∈ told, x ∈ g t) → (∀ t ∈ told, meetN best (g t) ≤ 1) → best.length ≤ told.length
  | [], best, h, _ => by
    cases best with
    | nil => exact Nat.le_refl _
    | cons x r =>
      obtain ⟨t, ht, _⟩ := h x List.mem_cons_self
      cases ht
  | t :: r, best, h, h2 => by
    have h3 := apart_le (g := g) r (best.filter fun x => !decide (x ∈ g t)) (fun x hx => ?_) (fun u hu => ?_)
    · have h4 := h2 t List.mem_cons_self
      unfold meetN at h4
      have h5 : best.length = (best.filter fun x => decide (x ∈ g t)).length + (best.filter fun x => !decide (x ∈ g t)).length := by
        clear h h2 h3 h4
        induction best with
        | nil => rfl
        | cons x b ih =>
          rw [List.filter_cons, List.filter_cons]
          by_cases c : x ∈ g t
          · rw [if_pos (decide_eq_true c), if_neg (by rw [decide_eq_true c]; decide), List.length_cons, List.length_cons]
            omega
          · rw [if_neg (by rw [decide_eq_false c]; decide), if_pos (by rw [decide_eq_false c]; rfl), List.length_cons, List.length_cons]
            omega
      rw [List.length_cons]
      omega
    · obtain ⟨h4, h5⟩ := List.mem_filter.mp hx
      obtain ⟨u, hu, hxu⟩ := h x h4
      rcases List.mem_cons.mp hu with e | e
      · subst e
        rw [decide_eq_true hxu] at h5
        cases h5
      · exact ⟨u, e, hxu⟩
    · refine Nat.le_trans ?_ (h2 u (List.mem_cons_of_mem _ hu))
      unfold meetN
      exact (List.Sublist.filter _ List.filter_sublist).length_le
theorem apart_few {s : Sg} {p : List Int} (hp : Srt p) {told : List (List Nat)} (h : FewOk s p told) : (apartM (keysG (glowsM s)) p).length ≤ told.length := by
  obtain ⟨⟨h1, h2⟩, h3⟩ := apart_ok (ks := keysG (glowsM s)) hp
  refine apart_le (g := glowM s) told _ (fun x hx => ((shown_iff hp).mp h.sh).2 x (h2 x hx)) fun t ht => h3 _ (clean_mem.mpr ⟨?_, h.cl t ht⟩)
  exact (glowsM_ok s).all t (turns_okT.mpr (h.okT t ht)) (h.ne t ht)
section
variable {K : PySem.W.Frag} {ρ : List Sl} {cs cs1 cs2 : Cs} {ta : TE} {tr : TA} {z : Sl} {zs : List Sl} {E : XK} {R : List Sl → Cs → Sl → Cs → Prop} {c : Ce}
/-- f(new object, ..): the new object is dropped afterwards -/
theorem ev_callN1 (ha : EvN K ta ρ cs c cs1) (hr : ∀ p, EvA K tr ρ ((p, c) :: cs1) zs ((p, c) :: cs2)) (hR : ∀ p, R (.raw (.ref p) :: zs) [(p, c)] z [(p, c)]) : Ev K (tCall (SpG K R) [] E (tCons ta tr)) ρ cs z cs2 := fun G σ H ok Q q =>
  ha G σ H ok _ fun p G0 H0 hp f0 ok0 => hr p G0 σ H0 ok0 _ fun vs G1 H1 f1 ok1 h1 => by
    have hs : List.Sublist [(p, c)] ((p, c) :: cs2) := List.Sublist.cons₂ _ (List.nil_sublist _)
    refine ⟨G1, .raw (.ref p) :: zs, [(p, c)], z, [(p, c)], ok1.ex, ⟨rfl, by rw [show vs.append [] = vs from List.append_nil vs]; exact h1⟩, ok1.ce.sub hs, hR p, fun v G2 H2 f2 ex2 ok2 hv => ?_⟩
    obtain ⟨f3, ok3⟩ := sub_back ok1.ce (fun x hx => hs.subset hx) (fun x hx => hx) f2 ok2 (fun x hx => hx)
    have s2 : List.Sublist cs2 ((p, c) :: cs2) := List.sublist_cons_self _ _
    exact q v G2 H2 (((f0.trans f1).trans f3).sub s2) ⟨ex2, ok1.sl.mono f2.g, ok3.sub s2⟩ hv
end
end LW

set_option Elab.async false
set_option linter.all false
set_option maxRecDepth 100000
set_option maxHeartbeats 4000000
namespace LW
open PySem PySem.Spec PyProof.Rows L2
theorem sqL_ne {K : PySem.W.Frag} {H : Hp} {a p : Addr} {xs : List V} {o : HO} (h : SqL K H a xs) (hne : a ≠ p) : SqL K (upd H p o) a xs := by
  rcases h with h | h
  · rcases h with h | ⟨o', h⟩
    · exact .inl (.inl ((upd_ne hne).trans h))
    · exact .inl (.inr ⟨o', (upd_ne hne).trans h⟩)
  · exact .inr h
/-- what list(zip(xs, ys)) has made -/
structure ZR (H0 : Hp) (S : Addr) (xs ys : List V) (H' : Hp) (ts : List Addr) (n : Nat) : Prop where
  is : H' S = some (.lst (ts.map V.ref))
  len : ts.length = n
  old : ∀ a o, a ≠ S → H0 a = some o → H' a = some o
  tup : ∀ (j : Nat) (t : Addr) (x y : V), ts[j]? = some t → xs[j]? = some x → ys[j]? = some y → H0 t = none ∧ t ≠ S ∧ H' t = some (.tup [x, y])
  rest : ∀ a, a ≠ S → a ∉ ts → H' a = H0 a
def ZSt (z TI TO i1 i2 a b S : Addr) (i : Nat) (h : Heap) : Prop := IsPair h TI (.ref i1) (.ref i2) ∧ h.IsListIter i1 a i ∧ h.IsListIter i2 b i ∧ (∃ u v, IsPair h TO u v) ∧
  (IsZip h z TI TO .none ∨ ∃ T f oT, IsZipHeld h z TI TO T f ∧ h.get? T = some oT ∧ T ≠ z ∧ T ≠ i1 ∧ T ≠ i2 ∧ T ≠ S)
theorem ZSt.keep {z TI TO i1 i2 a b S : Addr} {i : Nat} {h h' : Heap} (st : ZSt z TI TO i1 i2 a b S i h) (hS : S ∉ [z, TI, TO, i1, i2]) (k : ∀ c o, c ≠ S → h.get? c = some o → h'.get? c = some o) : ZSt z TI TO i1 i2 a b S i h' := by
  obtain ⟨hTI, h1, h2, ⟨u, v, hTO⟩, hz⟩ := st
  simp only [List.mem_cons, List.not_mem_nil, or_false, not_or] at hS
  obtain ⟨s1, s2, s3, s4, s5⟩ := hS
  refine ⟨k _ _ (Ne.symm s2) hTI, h1.at fun o e => k _ o (Ne.symm s4) e, h2.at fun o e => k _ o (Ne.symm s5) e, ⟨u, v, k _ _ (Ne.symm s3) hTO⟩, ?_⟩
  rcases hz with hz | ⟨T, f, oT, hz, hT, r1, r2, r3, r4⟩
  · exact .inl (k _ _ (Ne.symm s1) hz)
  · exact .inr ⟨T, f, oT, k _ _ (Ne.symm s1) hz, k _ _ r4 hT, r1, r2, r3, r4⟩
section
variable {X : Cx} {pins : List (Addr × Obj)} {σ : L2.St} {A : Around} {a b z TI TO i1 i2 S : Addr} {xs ys : List V} {H0 : Hp} {R : Result → Shared → Prop} {res : Value}
theorem fpOk_ne {H : Hp} {c p : Addr} {o : HO} (h : FpOk X pins H c) (hne : c ≠ p) : FpOk X pins (upd H p o) c := ⟨(upd_ne hne).trans h.1, h.2⟩
theorem zl_loop (hh : A.handled = none) (D : ZipApart z TI TO i1 i2 a b) (hS : S ∉ [z, TI, TO, i1, i2]) (ha : a ≠ S) (hb : b ≠ S) (hn : min xs.length ys.length ≤ 1000) :
    ∀ (k i : Nat) (s : Shared) (H : Hp) (ts : List Addr), min xs.length ys.length - i = k → i ≤ min xs.length ys.length → Inv X pins σ H s → ZSt z TI TO i1 i2 a b S i s.heap → (∀ c ∈ [z, TI, TO, i1, i2], FpOk X pins H c) → SqL X.K H a xs → SqL X.K H b ys → ZR H0 S xs ys H ts i →
      (∀ s' H' ts', Inv X pins σ H' s' → ZR H0 S xs ys H' ts' (min xs.length ys.length) → R (.ok (.ret res)) s') →
      codeAny (model X.prog X.w) A (.builtin "list.extend.loop" ⟨[.ref S, .ref z, res], []⟩) R s := by
  intro k
  induction k with
  | zero =>
    intro i s H ts hk hi I st hf hqx hqy hZ hR
    have hin : i = min xs.length ys.length := by omega
    subst hin
    refine codeAny_builtin F.entry_extend_loop ?_
    rw [Around.under_plainId F.plain_extend_loop _]
    show wpAny _ A.in1 (pyNext (.ref z) >>= _) _ _ s
    obtain ⟨its, rv, p, _⟩ := I.list hqx
    obtain ⟨its2, rv2, p2, _⟩ := I.list hqy
    have l1 := rv.length
    have l2 := rv2.length
    have he : its.toArray[min xs.length ys.length]? = none ∨ its2.toArray[min xs.length ys.length]? = none := by
      rcases Nat.le_total xs.length ys.length with q | q
      · exact .inl (by simp; omega)
      · exact .inr (by simp; omega)
    obtain ⟨hTI, h1, h2, ⟨u, v, hTO⟩, hz⟩ := st
    refine wpAny_bind ?_
    rcases hz with hz | ⟨T, f, oT, hz, hT, r1, r2, r3, r4⟩
    · refine wpAny_pyNext_zip_end hh D hz hTI hTO h1 h2 p.isList p2.isList he fun h' hk => ?_
      exact wpAny_pure (hR _ H ts (I.turnedL (t' := s.toks) (ch := [z, TI, TO, i1, i2]) (fun c o hb q => hk c o (fun q' => hb (by simp [q'])) (fun q' => hb (by simp [q'])) (fun q' => hb (by simp [q'])) (fun q' => hb (by simp [q'])) q) hf) hZ)
    · refine wpAny_pyNext_zip_end_held hh D hz hT hTI h1 h2 p.isList p2.isList he fun h' hk => ?_
      exact wpAny_pure (hR _ H ts (I.turnedL (t' := s.toks) (ch := [z, TI, TO, i1, i2]) (fun c o hb q => hk c o (fun q' => hb (by simp [q'])) (fun q' => hb (by simp [q'])) (fun q' => hb (by simp [q'])) q) hf) hZ)
  | succ k ih =>
    intro i s H ts hk hi I st hf hqx hqy hZ hR
    have hlx : i < xs.length := by omega
    have hly : i < ys.length := by omega
    refine codeAny_builtin F.entry_extend_loop ?_
    rw [Around.under_plainId F.plain_extend_loop _]
    show wpAny _ A.in1 (pyNext (.ref z) >>= _) _ _ s
    obtain ⟨its, rv, p, _⟩ := I.list hqx
    obtain ⟨its2, rv2, p2, _⟩ := I.list hqy
    have hx : xs[i]? = some xs[i] := List.getElem?_eq_getElem hlx
    have hy : ys[i]? = some ys[i] := List.getElem?_eq_getElem hly
    obtain ⟨u, hu, ru⟩ := rv.get hx
    obtain ⟨u2, hu2, ru2⟩ := rv2.get hy
    have hS' := hS
    simp only [List.mem_cons, List.not_mem_nil, or_false, not_or] at hS'
    obtain ⟨s1, s2, s3, s4, s5⟩ := hS'
    have hlt : ∀ c ∈ [z, TI, TO, i1, i2], (∃ o, s.heap.get? c = some o) → c ≠ s.heap.objs.size := fun c _ ⟨o, e⟩ => Nat.ne_of_lt (Heap.lt_size e)
    obtain ⟨zz, vits, vn, rvS, hvl, eS⟩ := I.lstM hZ.is
    have hSlt : S ≠ s.heap.objs.size := Nat.ne_of_lt (Heap.lt_size eS)
    have hfr : H s.heap.objs.size = none := I.hok.fresh (Nat.le_refl _)
    -- what follows once the pair is made
    have after : ∀ h' : Heap, IsPair h' s.heap.objs.size u u2 → (∀ c o, c ≠ z → c ≠ TO → c ≠ i1 → c ≠ i2 → s.heap.get? c = some o → h'.get? c = some o) → ZSt z TI TO i1 i2 a b S (i + 1) h' → (∀ c ∈ [z, TI, TO, i1, i2], c ≠ s.heap.objs.size) →
        wpAny (model X.prog X.w) A.in1 (updateSeq S (·.push (.ref s.heap.objs.size)) >>= fun _ => again (.builtin "list.extend.loop" ⟨[.ref S, .ref z, res], []⟩)) (fun fin s' => match fin with | .done f => R (.ok f) s' | .again c' => c'.quiet = true ∧ codeAny (model X.prog X.w) A c' R s') (fun e s' => R (.error e) s') { s with heap := h' } := fun h' hT hk st' hcz => by
      have new : ObjOk X.prog X.w (upd H s.heap.objs.size (.tup [xs[i], ys[i]])) h' s.heap.objs.size (.tup [xs[i], ys[i]]) :=
        ⟨by show 2 ≤ sizeLine; decide, [u, u2], .cons ru (.cons ru2 .nil), ⟨_, hT, rfl, _, rfl⟩⟩
      have I1 : Inv X pins σ (upd H s.heap.objs.size (.tup [xs[i], ys[i]])) { s with heap := h' } :=
        I.turnedNew (t' := s.toks) (ch := [z, TI, TO, i1, i2]) (fun c o hb q => hk c o (fun q' => hb (by simp [q'])) (fun q' => hb (by simp [q'])) (fun q' => hb (by simp [q'])) (fun q' => hb (by simp [q'])) q) hf (Nat.le_refl _) new
      have hHS : upd H s.heap.objs.size (.tup [xs[i], ys[i]]) S = some (.lst (ts.map V.ref)) := (upd_ne hSlt).trans hZ.is
      have eS' : h'.get? S = some { cls := .type "list", data := .seq vits.toArray vn } := hk S _ s1 s3 s4 s5 eS
      have hzl := hZ.len
      have hvl' : vits.length = i := by
        rw [← hvl, List.length_map]
        exact hzl
      refine wpAny_bind (wpAny_updateSeq eS' rfl (wpAny_pure ⟨plainId_quiet F.plain_extend_loop _, ?_⟩) ?_ ?_)
      · have I2 := I1.lset (t' := s.toks) (its' := vits ++ [.ref s.heap.objs.size]) (f := (·.push (.ref s.heap.objs.size))) (ys := (ts ++ [s.heap.objs.size]).map V.ref) hHS eS' (by simp) (by rw [List.map_append]; exact rvS.append (.cons rfl .nil)) (by
          rw [List.length_map, List.length_append, List.length_singleton, sizeLine_eq]
          omega)
        refine ih (i + 1) _ _ (ts ++ [s.heap.objs.size]) (by omega) (by omega) I2 (st'.keep hS fun c o hc e => ?_) (fun c hc => ?_) (sqL_ne (sqL_ne hqx ?_) ha) (sqL_ne (sqL_ne hqy ?_) hb) ?_ hR
        · exact (Heap.get?_update_other _ _ (fun q : S = c => hc q.symm)).trans e
        · exact fpOk_ne (fpOk_ne (hf c hc) (hcz c hc)) fun q => hS (by rw [← q]; exact hc)
        · exact Nat.ne_of_lt p.lt
        · exact Nat.ne_of_lt p2.lt
        · have hTts : s.heap.objs.size ∉ ts := fun hm => by
            obtain ⟨j, hj⟩ := List.mem_iff_getElem?.mp hm
            have hjl : j < i := by
              rw [← hzl]
              exact (List.getElem?_eq_some_iff.mp hj).1
            have q := (hZ.tup j _ _ _ hj (List.getElem?_eq_getElem (show j < xs.length by omega)) (List.getElem?_eq_getElem (show j < ys.length by omega))).2.2
            rw [hfr] at q
            cases q
          have h0T : H0 s.heap.objs.size = none := by rw [← hZ.rest _ (Ne.symm hSlt) hTts, hfr]
          refine ⟨upd_same, by rw [List.length_append, List.length_singleton, hzl], fun c o hc e => ?_, fun j t x y hj hjx hjy => ?_, fun c hc hm => ?_⟩
          · rw [upd_ne hc, upd_ne (fun q => by rw [q, h0T] at e; cases e)]
            exact hZ.old c o hc e
          · by_cases hji : j < i
            · rw [List.getElem?_append_left (by omega)] at hj
              obtain ⟨q1, q2, q3⟩ := hZ.tup j t x y hj hjx hjy
              refine ⟨q1, q2, ?_⟩
              rw [upd_ne q2, upd_ne (fun q => by rw [q, hfr] at q3; cases q3)]
              exact q3
            · rw [List.getElem?_append_right (by omega)] at hj
              have hji' : j = i := by
                obtain ⟨w1, _⟩ := List.getElem?_eq_some_iff.mp hj
                rw [List.length_singleton] at w1
                omega
              subst hji'
              rw [hzl, Nat.sub_self] at hj
              have hj : s.heap.objs.size = t := Option.some.inj hj
              subst hj
              rw [hx] at hjx
              rw [hy] at hjy
              cases hjx
              cases hjy
              exact ⟨h0T, Ne.symm hSlt, by rw [upd_ne (Ne.symm hSlt), upd_same]⟩
          · rw [List.mem_append, not_or, List.mem_singleton] at hm
            rw [upd_ne hc, upd_ne hm.2]
            exact hZ.rest c hc hm.1
      · rw [List.size_toArray, hvl', sizeLine_eq]
        omega
      · show (vits.toArray.push _).size ≤ sizeLine + 1
        rw [Array.size_push, List.size_toArray, hvl', sizeLine_eq]
        omega
    obtain ⟨hTI, h1, h2, ⟨x0, y0, hTO⟩, hz⟩ := st
    have e1 : ∃ o, s.heap.get? i1 = some o := let ⟨o, e, _⟩ := h1; ⟨o, e⟩
    have e2 : ∃ o, s.heap.get? i2 = some o := let ⟨o, e, _⟩ := h2; ⟨o, e⟩
    have n1 : i1 ≠ s.heap.objs.size := let ⟨o, e⟩ := e1; Nat.ne_of_lt (Heap.lt_size e)
    have n2 : i2 ≠ s.heap.objs.size := let ⟨o, e⟩ := e2; Nat.ne_of_lt (Heap.lt_size e)
    have nT : TI ≠ s.heap.objs.size := Nat.ne_of_lt (Heap.lt_size hTI)
    refine wpAny_bind ?_
    have nO : TO ≠ s.heap.objs.size := Nat.ne_of_lt (Heap.lt_size hTO)
    rcases hz with hz | ⟨T, f, oT, hz, hT, r1, r2, r3, r4⟩
    · have nz : z ≠ s.heap.objs.size := Nat.ne_of_lt (Heap.lt_size hz)
      refine wpAny_pyNext_zip_item D hz hTI hTO h1 h2 p.isList p2.isList (x := u) (y := u2) (by simpa using hu) (by simpa using hu2) fun h' z' TO' h1' h2' hT hsz hk => ?_
      refine after h' hT (fun c o c1 c2 c3 c4 e => hk c o c1 c2 c3 c4 e) ⟨hk _ _ D.TIz D.TITO D.TIi1 D.TIi2 hTI, h1', h2', ⟨_, _, TO'⟩, .inr ⟨s.heap.objs.size, false, _, z', hT, Ne.symm nz, Ne.symm n1, Ne.symm n2, Ne.symm hSlt⟩⟩ fun c hc => ?_
      simp only [List.mem_cons, List.not_mem_nil, or_false] at hc
      rcases hc with q | q | q | q | q <;> rw [q] <;> assumption
    · have nz : z ≠ s.heap.objs.size := Nat.ne_of_lt (Heap.lt_size hz)
      refine wpAny_pyNext_zip_item_held D hz hT hTI h1 h2 p.isList p2.isList (x := u) (y := u2) (by simpa using hu) (by simpa using hu2) fun h' z' h1' h2' hT' hsz hk => ?_
      refine after h' hT' (fun c o c1 c2 c3 c4 e => hk c o c1 c3 c4 e) ⟨hk _ _ D.TIz D.TIi1 D.TIi2 hTI, h1', h2', ⟨_, _, hk _ _ D.TOz D.TOi1 D.TOi2 hTO⟩, .inr ⟨T, true, oT, z', hk _ _ r1 r2 r3 hT, r1, r2, r3, r4⟩⟩ fun c hc => ?_
      simp only [List.mem_cons, List.not_mem_nil, or_false] at hc
      rcases hc with q | q | q | q | q <;> rw [q] <;> assumption
theorem zip_no_len : typeLookup (.type "zip") "__len__" = pure none := am_miss_of_fast (by decide +kernel)
theorem zip_no_hint : typeLookup (.type "zip") "__length_hint__" = pure none := am_miss_of_fast (by decide +kernel)
theorem zl_extend (hh : A.handled = none) (D : ZipApart z TI TO i1 i2 a b) (hS : S ∉ [z, TI, TO, i1, i2]) (ha : a ≠ S) (hb : b ≠ S) (hn : min xs.length ys.length ≤ 1000) {s : Shared} {H : Hp} (I : Inv X pins σ H s) (st : ZSt z TI TO i1 i2 a b S 0 s.heap) (hz : IsZip s.heap z TI TO .none) (hf : ∀ c ∈ [z, TI, TO, i1, i2], FpOk X pins H c) (hqx : SqL X.K H a xs) (hqy : SqL X.K H b ys) (hZ : ZR H0 S xs ys H [] 0)
    (hR : ∀ s' H' ts', Inv X pins σ H' s' → ZR H0 S xs ys H' ts' (min xs.length ys.length) → R (.ok (.ret res)) s') :
    wpAny (model X.prog X.w) A.in1 (Builtin.List.listExtendWith (.ref S) (.ref z) res)
      (fun fin s' => match fin with | .done f => R (.ok f) s' | .again c' => c'.quiet = true ∧ codeAny (model X.prog X.w) A c' R s') (fun e s' => R (.error e) s') s := by
  have hSz : S ≠ z := fun q => hS (by simp [q])
  have hTy : s.TypeIs (.ref z) "zip" := ⟨_, hz, rfl⟩
  unfold Builtin.List.listExtendWith
  refine wpAny_bind (wpAny_typeOf (T := "zip") hTy ?_)
  have h1 : Builtin.List.listSameRef (.ref S) (.ref z) = false := by simp [Builtin.List.listSameRef, hSz]
  have h2 : (Value.type "zip" == Value.type "list") = false := by decide
  have h3 : (Value.type "zip" == Value.type "tuple") = false := by decide
  simp only [h1, h2, h3, Bool.or_false, Bool.false_eq_true, if_false]
  refine wpAny_bind (wpAny_pyIter_zip hz ?_)
  refine wpAny_bind (wpAny_holding ?_)
  unfold Builtin.List.listLengthHint
  refine wpAny_bind (wpAny_specialOf hTy zip_no_len ?_)
  show wpAny _ A.in1 (specialOf (Value.ref z) (Str.ofString "__length_hint__") >>= _) _ _ _
  refine wpAny_bind (wpAny_specialOf hTy zip_no_hint ?_)
  refine wpAny_pure ?_
  show wpAny _ A.in1 (rule "list.extend.makes-room" >>= fun _ => Builtin.List.listTouch (.ref S) >>= fun _ =>
    again (.builtin "list.extend.loop" ⟨[.ref S, .ref z, res], []⟩)) _ _ _
  refine wpAny_bind (wpAny_rule ?_)
  refine wpAny_bind ?_
  show wpAny _ A.in1 (updateSeq S (·.push .none) >>= fun _ => updateSeq S (·.pop)) _ _ _
  obtain ⟨_, vits, vn, rvS, hvl, eS⟩ := I.lstM hZ.is
  have hv0 : vits = [] := List.length_eq_zero_iff.mp (by rw [← hvl]; rfl)
  subst hv0
  refine wpAny_bind (wpAny_updateSeq eS rfl ?_ (by rw [List.size_toArray, sizeLine_eq]; simp) (by show (Array.push _ _).size ≤ _; rw [Array.size_push, List.size_toArray, sizeLine_eq]; simp))
  have eS2 := Heap.get?_update_self (Obj.mapSeq (·.push Value.none)) eS rfl
  refine wpAny_updateSeq eS2 rfl ?_ (by show (Array.push _ _).size ≤ _; rw [Array.size_push, List.size_toArray, sizeLine_eq]; simp) (by show (Array.pop _).size ≤ _; rw [Array.size_pop]; show (Array.push _ _).size - 1 ≤ _; rw [Array.size_push, List.size_toArray, sizeLine_eq]; simp)
  have I1 := I.lset (t' := s.toks) (its' := [.none]) (f := (·.push Value.none)) (ys := [.non]) hZ.is eS (by simp) (.cons rfl .nil) (by decide)
  have I2 := I1.lset (t' := s.toks) (its := [.none]) (its' := []) (f := (·.pop)) (ys := []) upd_same eS2 (by simp) .nil (by decide)
  have oth : ∀ c o, c ≠ S → s.heap.get? c = some o → ((s.heap.update S (Obj.mapSeq (·.push Value.none))).update S (Obj.mapSeq (·.pop))).get? c = some o :=
    fun c o hb e => (Heap.get?_update_other _ _ (Ne.symm hb)).trans ((Heap.get?_update_other _ _ (Ne.symm hb)).trans e)
  refine wpAny_pure ⟨plainId_quiet F.plain_extend_loop _, zl_loop hh D hS ha hb hn _ 0 _ _ [] rfl (Nat.zero_le _) I2 (st.keep hS oth) (fun c hc => ?_) (sqL_ne (sqL_ne hqx ha) ha) (sqL_ne (sqL_ne hqy hb) hb) ⟨upd_same, rfl, fun c o hc e => ?_, fun j t x y hj => ?_, fun c hc hm => ?_⟩ hR⟩
  · exact fpOk_ne (fpOk_ne (hf c hc) fun q => hS (by rw [← q]; exact hc)) fun q => hS (by rw [← q]; exact hc)
  · rw [upd_ne hc, upd_ne hc]
    exact hZ.old c o hc e
  · cases hj
  · rw [upd_ne hc, upd_ne hc]
    exact hZ.rest c hc hm
theorem zl_init (hh : A.handled = none) (D : ZipApart z TI TO i1 i2 a b) (hS : S ∉ [z, TI, TO, i1, i2]) (ha : a ≠ S) (hb : b ≠ S) (hn : min xs.length ys.length ≤ 1000) {s : Shared} {H : Hp} (I : Inv X pins σ H s) (st : ZSt z TI TO i1 i2 a b S 0 s.heap) (hz : IsZip s.heap z TI TO .none) (hf : ∀ c ∈ [z, TI, TO, i1, i2], FpOk X pins H c) (hqx : SqL X.K H a xs) (hqy : SqL X.K H b ys) (hZ : ZR H0 S xs ys H [] 0)
    (hR : ∀ s' H' ts', Inv X pins σ H' s' → ZR H0 S xs ys H' ts' (min xs.length ys.length) → R (.ok (.ret .none)) s') :
    wpAny (model X.prog X.w) A.in1 (Builtin.«list.__init__» ⟨[.ref S, .ref z], []⟩)
      (fun fin s' => match fin with | .done f => R (.ok f) s' | .again c' => c'.quiet = true ∧ codeAny (model X.prog X.w) A c' R s') (fun e s' => R (.error e) s') s := by
  show wpAny _ _ (do let old ← Builtin.List.listItems (.ref S); Builtin.List.listUpdate (.ref S) (fun _ => #[]); letGo old.toList.reverse; Builtin.List.listExtendWith (.ref S) (.ref z) .none) _ _ s
  obtain ⟨_, vits, vn, rvS, hvl, eS⟩ := I.lstM hZ.is
  have hv0 : vits = [] := List.length_eq_zero_iff.mp (by rw [← hvl]; rfl)
  subst hv0
  refine wpAny_bind ?_
  unfold Builtin.List.listItems
  refine wpAny_bind (wpAny_seqItems eS rfl (wpAny_pure ?_))
  show wpAny _ _ (updateSeq S (fun _ => #[]) >>= fun _ => letGo (#[] : Array Value).toList.reverse >>= fun _ => Builtin.List.listExtendWith (.ref S) (.ref z) .none) _ _ s
  refine wpAny_bind (wpAny_updateSeq eS rfl ?_ (by rw [List.size_toArray, sizeLine_eq]; simp) (by show (0 : Nat) ≤ _; exact Nat.zero_le _))
  have I1 := I.lset (t' := s.toks) (its' := []) (f := fun _ => (#[] : Array Value)) (ys := []) hZ.is eS rfl .nil (by decide)
  have oth : ∀ c o, c ≠ S → s.heap.get? c = some o → (s.heap.update S (Obj.mapSeq (fun _ => (#[] : Array Value)))).get? c = some o :=
    fun c o hb e => (Heap.get?_update_other _ _ (Ne.symm hb)).trans e
  refine wpAny_bind (wpAny_letGo ?_)
  refine zl_extend hh D hS ha hb hn I1 (st.keep hS oth) (oth _ _ (fun q => hS (by simp [q])) hz) (fun c hc => fpOk_ne (hf c hc) fun q => hS (by rw [← q]; exact hc)) (sqL_ne hqx ha) (sqL_ne hqy hb) ⟨upd_same, rfl, fun c o hc e => ?_, fun j t x y hj => ?_, fun c hc hm => ?_⟩ hR
  · rw [upd_ne hc]
    exact hZ.old c o hc e
  · cases hj
  · rw [upd_ne hc]
    exact hZ.rest c hc hm
end
/-- list(zip(xs, ys)) -/
def tListZip (K : PySem.W.Frag) (ta : TA) : TE := fun σ H Q => ta σ H fun vs H1 => ∃ a b xs ys, vs = [V.ref a, .ref b] ∧ SqL K H1 a xs ∧ SqL K H1 b ys ∧ min xs.length ys.length ≤ 1000 ∧
  ∀ p H' ts, H1 p = none → ZR H1 p xs ys H' ts (min xs.length ys.length) → Q (.ref p) H'
theorem pe_listZip {X : Cx} {e e2 : Expr} {ta : TA} {p pos p' pos' : Pos} (hc : X.calm = true) (hgl : Gl X "list") (hml : X.mg "list" = none) (hg : Gl X "zip") (hm : X.mg "zip" = none) (ha : PA X [e, e2] ta)
    (hs : starEach [e, e2] X.env = (false, eval e X.env) :: starEach [e2] X.env := by rfl) (hpl : (backTo pos (starEach [e2] X.env)).any (·.1) = false := by rfl)
    (na : starEach [Expr.Call (.Name "zip" p) [e, e2] [] pos] X.env = (false, eval (Expr.Call (.Name "zip" p) [e, e2] [] pos) X.env) :: starEach [] X.env := by rfl) :
    PE X (.Call (.Name "list" p') [.Call (.Name "zip" p) [e, e2] [] pos] [] pos') (tListZip X.K ta) := by
  refine ⟨fun pins s σ H Q I h => ?_⟩
  refine Call_ (ld_blt I hgl hml boot_list (PyProof.Rows.callWith_type1 (args_cons (thn (Q := fun x s2 => ∃ (n : Nat) (h' : Heap) (a b : Addr) (xs ys : List V) (H1 : Hp) (s1 : Shared), x = .ref (s1.heap.objs.size + 4) ∧ s2 = { s1 with heap := h' } ∧ Inv X pins σ H1 s1 ∧ Inv X pins σ H1 s2 ∧ SqL X.K H1 a xs ∧ SqL X.K H1 b ys ∧ min xs.length ys.length ≤ 1000 ∧ a < s1.heap.objs.size ∧ b < s1.heap.objs.size ∧
      IsZip h' (s1.heap.objs.size + 4) (s1.heap.objs.size + 2) (s1.heap.objs.size + 3) .none ∧ ZSt (s1.heap.objs.size + 4) (s1.heap.objs.size + 2) (s1.heap.objs.size + 3) s1.heap.objs.size (s1.heap.objs.size + 1) a b h'.objs.size 0 h' ∧
      ∀ p H' ts, H1 p = none → ZR H1 p xs ys H' ts (min xs.length ys.length) → Q (.ref p) H') ?_ fun x s2 ⟨_, h', a, b, xs, ys, H1, s1, ex, es, I1, I2, hqx, hqy, hn, la, lb, hz, st, q⟩ => args_nil ?_) na) na))
  · refine Call_ (ld_blt I hg hm PyProof.Rows.boot_zip (PyProof.Rows.callWith_type1 (thn (ha.run pos pins s σ H _ I h) fun us s1 ⟨vs, H1, I1, r1, q1⟩ => ?_) hs hpl))
    obtain ⟨a, b, xs, ys, ex, hqx, hqy, hn, q⟩ := q1
    subst ex
    cases r1 with
    | cons r rr =>
      cases rr with
      | cons r' rr =>
        cases rr
        cases r
        cases r'
        obtain ⟨its, rv, p1, _⟩ := I1.list hqx
        obtain ⟨its2, rv2, p2, _⟩ := I1.list hqy
        refine call_zip_2 p1.isList p2.isList fun h' hz hTI hTO h1 h2 hsz hk => ?_
        exact ⟨0, h', a, b, xs, ys, H1, s1, rfl, rfl, I1, I1.kept (t' := s1.toks) hk, hqx, hqy, hn, p1.lt, p2.lt, hz, ⟨hTI, h1, h2, ⟨_, _, hTO⟩, .inl hz⟩, q⟩
  · subst ex es
    have fresh5 : ∀ c, c ∈ [s1.heap.objs.size + 4, s1.heap.objs.size + 2, s1.heap.objs.size + 3, s1.heap.objs.size, s1.heap.objs.size + 1] → s1.heap.objs.size ≤ c := fun c hcm => by
      have e' : c = s1.heap.objs.size + 4 ∨ c = s1.heap.objs.size + 2 ∨ c = s1.heap.objs.size + 3 ∨ c = s1.heap.objs.size ∨ c = s1.heap.objs.size + 1 := by simpa using hcm
      rcases e' with z | z | z | z | z
      · rw [z]; exact Nat.le_add_right _ _
      · rw [z]; exact Nat.le_add_right _ _
      · rw [z]; exact Nat.le_add_right _ _
      · rw [z]; exact Nat.le_refl _
      · rw [z]; exact Nat.le_add_right _ _
    have hlt5 : ∀ c, c ∈ [s1.heap.objs.size + 4, s1.heap.objs.size + 2, s1.heap.objs.size + 3, s1.heap.objs.size, s1.heap.objs.size + 1] → c < h'.objs.size := fun c hcm => by
      have h4 : s1.heap.objs.size + 4 < h'.objs.size := Heap.lt_size hz
      have e' : c = s1.heap.objs.size + 4 ∨ c = s1.heap.objs.size + 2 ∨ c = s1.heap.objs.size + 3 ∨ c = s1.heap.objs.size ∨ c = s1.heap.objs.size + 1 := by simpa using hcm
      omega
    have la' : a < h'.objs.size := Nat.lt_of_lt_of_le la (Nat.le_of_lt (hlt5 s1.heap.objs.size (by simp)))
    have lb' : b < h'.objs.size := Nat.lt_of_lt_of_le lb (Nat.le_of_lt (hlt5 s1.heap.objs.size (by simp)))
    have hnew : H1 h'.objs.size = none := I2.hok.fresh (Nat.le_refl _)
    have hS : h'.objs.size ∉ [s1.heap.objs.size + 4, s1.heap.objs.size + 2, s1.heap.objs.size + 3, s1.heap.objs.size, s1.heap.objs.size + 1] := fun hm => Nat.lt_irrefl _ (hlt5 _ hm)
    have eL : (h'.push { cls := .type "list", data := .seq #[] }).get? h'.objs.size = some { cls := .type "list", data := .seq #[] } := Heap.get?_push_size _ rfl
    have I3 : Inv X pins σ (upd H1 h'.objs.size (.lst [])) { s1 with heap := h'.push { cls := .type "list", data := .seq #[] } } :=
      I2.laid (t' := s1.toks) (fun c o e => Heap.get?_push_of_some _ e) (Nat.le_refl _) (show ObjOk X.prog X.w _ _ _ (.lst []) from ⟨Nat.zero_le _, [], 0, .nil, eL⟩)
    refine callType_codes (Q₁ := fun obj s₁ => obj = .ref h'.objs.size ∧ s₁ = { s1 with heap := h'.push { cls := .type "list", data := .seq #[] } }) PySem.F.called_list (PySem.F.typeCall_list_1 _) PySem.F.entry_list_init
      (code_list_new _ ⟨rfl, rfl⟩) fun obj s₁ h₁ => ?_
    obtain ⟨rfl, rfl⟩ := h₁
    refine ⟨⟨_, eL, rfl⟩, PySem.F.args_list_init_2 _ _, zl_init (A := X.A.in1) (H0 := H1) (I2.ok.hd hc) (PySem.W.ktu_apart s1.heap.objs.size a b la lb) hS (Nat.ne_of_lt la') (Nat.ne_of_lt lb') hn I3 (st.keep hS fun c o _ e => Heap.get?_push_of_some _ e) (Heap.get?_push_of_some _ hz) (fun c hcm => fpOk_ne (I1.fpOk (fresh5 c hcm) (I1.hok.fresh (fresh5 c hcm))) (Nat.ne_of_lt (hlt5 c hcm))) (sqL_ne hqx (Nat.ne_of_lt la')) (sqL_ne hqy (Nat.ne_of_lt lb')) ⟨upd_same, rfl, fun c o hc' e => (upd_ne hc').trans e, fun j t x y hj => (nomatch hj), fun c hc' _ => upd_ne hc'⟩ fun s' H' ts' I' hZ => ?_⟩
    exact ⟨rfl, .ref h'.objs.size, H', I', rfl, q _ H' ts' hnew hZ⟩
section
variable {K : PySem.W.Frag} {ρ : List Sl} {cs cs1 cs2 : Cs} {tr : TA} {ds es : List PyData}
theorem listZip_K {X : Cx} {e e2 : Expr} {ta : TA} {p pos p' pos' : Pos} (K : PySem.W.Frag) (hc : X.calm = true) (hgl : Gl X "list") (hml : X.mg "list" = none) (hg : Gl X "zip") (hm : X.mg "zip" = none) (ha : PA X [e, e2] ta)
    (hs : starEach [e, e2] X.env = (false, eval e X.env) :: starEach [e2] X.env := by rfl) (hpl : (backTo pos (starEach [e2] X.env)).any (·.1) = false := by rfl)
    (na : starEach [Expr.Call (.Name "zip" p) [e, e2] [] pos] X.env = (false, eval (Expr.Call (.Name "zip" p) [e, e2] [] pos) X.env) :: starEach [] X.env := by rfl) (h : X.K = K := by rfl) :
    PE X (.Call (.Name "list" p') [.Call (.Name "zip" p) [e, e2] [] pos] [] pos') (tListZip K ta) := by
  subst h
  exact pe_listZip hc hgl hml hg hm ha hs hpl na
theorem evn_listZip' (h : EvA K tr ρ cs [.dat (.list ds), .dat (.list es)] cs1) (hl : ds.length ≤ 1000) : EvN K (tListZip K tr) ρ cs (.lst (zipD ds es)) cs1 := fun G σ H ok Q q =>
  h G σ H ok _ fun vs G1 H1 f1 ok1 e1 => by
    obtain ⟨v, w, rfl, ⟨a, xs, rfl, ha, da⟩, ⟨b, ys, rfl, hb, db⟩⟩ := e1.two
    have la := da.len
    have lb := db.len
    refine ⟨a, b, xs, ys, rfl, .inl (.inl (ok1.ex _ _ ha)), .inl (.inl (ok1.ex _ _ hb)), by omega, fun p H' ts hp Z => ?_⟩
    classical
    let G' : Hp := fun t => if t ∈ ts then H' t else G1 t
    have htn : ∀ t ∈ ts, H1 t = none ∧ t ≠ p := fun t ht => by
      obtain ⟨j, hj⟩ := List.mem_iff_getElem?.mp ht
      have hjl : j < min xs.length ys.length := by
        rw [← Z.len]
        exact (List.getElem?_eq_some_iff.mp hj).1
      obtain ⟨q1, q2, _⟩ := Z.tup j t _ _ hj (List.getElem?_eq_getElem (show j < xs.length by omega)) (List.getElem?_eq_getElem (show j < ys.length by omega))
      exact ⟨q1, q2⟩
    have exH : ∀ c o, H1 c = some o → H' c = some o := fun c o e => Z.old c o (ne_of_none e hp) e
    have exG : Ex G1 G' := fun c o e => by
      show (if c ∈ ts then H' c else G1 c) = some o
      rw [if_neg fun hm => by
        have := ok1.ex c o e
        rw [(htn c hm).1] at this
        cases this]
      exact e
    have exGH : Ex G' H' := fun c o e => by
      have e : (if c ∈ ts then H' c else G1 c) = some o := e
      split at e
      · exact e
      · exact exH c o (ok1.ex c o e)
    have hpc : p ∉ cs1.map (·.1) := fun z => by
      obtain ⟨c, hc, e⟩ := List.mem_map.mp z
      obtain ⟨_, ⟨o, h2⟩, _⟩ := ok1.ce.is c hc
      have e' : c.1 = p := e
      rw [e', hp] at h2
      cases h2
    have hGp : G' p = none := by
      show (if p ∈ ts then H' p else G1 p) = none
      rw [if_neg fun hm => (htn p hm).2 rfl]
      exact ok1.ex.back hp
    have fr : Fr G1 H1 cs1 G' H' ((p, .lst (zipD ds es)) :: cs1) := by
      refine ⟨exG, fun c o e hn => ⟨exH c o e, .inl ?_⟩, fun c o e => ⟨o, exH c o e⟩, fun c hc => ?_⟩
      · show (if c ∈ ts then H' c else G1 c) = G1 c
        rw [if_neg fun hm => by rw [(htn c hm).1] at e; cases e]
      · rw [List.map_cons] at hc
        rcases List.mem_cons.mp hc with z | z
        · exact .inr (by rw [show c = p from z]; exact hp)
        · exact .inl z
    refine q p G' H' (f1.fresh hp) (f1.trans fr) ⟨exGH, ok1.sl.mono exG, ?_, fun c hc => ?_⟩
    · rw [List.map_cons]
      exact List.nodup_cons.mpr ⟨hpc, ok1.ce.nd⟩
    · rcases List.mem_cons.mp hc with z | z
      · subst z
        refine ⟨hGp, ⟨_, Z.is⟩, _, Z.is, DtAll.iff.mpr ⟨?_, fun i d v h1 h2 => ?_⟩⟩
        · have := Z.len
          unfold zipD
          rw [List.length_zipWith, List.length_map]
          omega
        · unfold zipD at h1
          rw [List.getElem?_zipWith] at h1
          cases hd : ds[i]? with
          | none =>
            rw [hd] at h1
            cases h1
          | some d1 =>
            cases hd2 : es[i]? with
            | none =>
              rw [hd, hd2] at h1
              cases h1
            | some d2 =>
              rw [hd, hd2] at h1
              have h1 := (Option.some.inj h1).symm
              subst h1
              rw [List.getElem?_map] at h2
              obtain ⟨t, ht, rfl⟩ := Option.map_eq_some_iff.mp h2
              obtain ⟨x, hx, dx⟩ := da.get hd
              obtain ⟨y, hy, dy⟩ := db.get hd2
              obtain ⟨_, _, q3⟩ := Z.tup i t x y ht hx hy
              refine ⟨t, _, rfl, ?_, _, _, rfl, Dt.mono exG _ _ dx, _, _, rfl, Dt.mono exG _ _ dy, rfl⟩
              show (if t ∈ ts then H' t else G1 t) = _
              rw [if_pos (List.mem_of_getElem? ht)]
              exact q3
      · obtain ⟨g1, ⟨o, g2⟩, g3⟩ := ok1.ce.is c z
        refine ⟨?_, ⟨o, exH _ _ g2⟩, g3.mono exG ((exH _ _ g2).trans g2.symm)⟩
        show (if c.1 ∈ ts then H' c.1 else G1 c.1) = none
        rw [if_neg fun hm => by rw [(htn _ hm).1] at g2; cases g2]
        exact g1
theorem evn_listZip (h : EvA K tr ρ cs [.dat (.list ds), .dat (.list es)] cs1) (hl : ds.length ≤ 1000) (he : ds.length = es.length) : EvN K (tListZip K tr) ρ cs (.lst (zipD ds es)) cs1 := evn_listZip' h hl
end
end LW

set_option Elab.async false
set_option linter.all false
set_option maxRecDepth 100000
namespace LW
open PySem PySem.Spec PyProof.Rows L2
/-! ### where two signs differ -/
noncomputable def diffsM (s t : Sg) : List (List Int) := (picsM (rgM s.L.length)).filter fun p => !decide (needO (keysG (glowsM s)) p = needO (keysG (glowsM t)) p)
theorem diffs_self (s : Sg) : diffsM s s = [] := by
  unfold diffsM
  refine List.filter_eq_nil_iff.mpr fun p _ => ?_
  rw [decide_eq_true rfl]
  decide
theorem diffs_comm {s t : Sg} (h : s.L.length = t.L.length) : diffsM t s = diffsM s t := by
  unfold diffsM
  rw [h]
  refine List.filter_congr fun p _ => ?_
  congr 1
  exact decide_eq_decide.mpr ⟨Eq.symm, Eq.symm⟩
/-! ### pairs of wires as data -/
theorem eqv_L (p q : Nat × Nat) : PyData.eqv (encL p) (encL q) = decide (p = q) := by
  unfold encL eI
  simp only [PyData.eqv, PyData.eqvAll, Bool.and_true]
  rw [Bool.eq_iff_iff, Bool.and_eq_true, beq_iff_eq, beq_iff_eq, decide_eq_true_iff]
  constructor
  · rintro ⟨h1, h2⟩
    exact Prod.ext (by omega) (by omega)
  · rintro rfl
    exact ⟨rfl, rfl⟩
theorem sh_L' (p : Nat × Nat) : Sh 1 (encL p) := sh_tuple (sha_cons sh_int (sha_cons sh_int sha_nil))
theorem any_L (l : List (Nat × Nat)) (p : Nat × Nat) : ((l.map encL).any fun z => PyData.eqv z (encL p)) = decide (p ∈ l) := by
  rw [List.any_map, Bool.eq_iff_iff, List.any_eq_true, decide_eq_true_iff]
  constructor
  · rintro ⟨x, hx, e⟩
    have e : PyData.eqv (encL x) (encL p) = true := e
    rw [eqv_L, decide_eq_true_iff] at e
    rw [← e]
    exact hx
  · intro h
    refine ⟨p, h, ?_⟩
    show PyData.eqv (encL p) (encL p) = true
    rw [eqv_L, decide_eq_true rfl]
section
variable {K : PySem.W.Frag} {cs : Cs} {z1 z2 : Sl}
theorem opd_ninP {p : Nat × Nat} {l : List (Nat × Nat)} (h1 : Rds cs z1 (encL p)) (h2 : Rds cs z2 (.list (l.map encL))) : OpD K (rNotInM K) z1 z2 cs (.dat (.bool (!decide (p ∈ l)))) := fun x y G H hx hy ex ok Q q => by
  refine .inr (.inr ⟨encL p, l.map encL, (h1.dt hx ex ok).dp, (h2.dt hy ex ok).dp, Sh.ok (sh_L' p) (by decide), Sh.ok (n := 2) (sh_list (sha_map fun c _ => sh_L' c)) (by decide), ?_⟩)
  rw [any_L]
  exact q _ G H (.refl ex) rfl
theorem opd_inP {p : Nat × Nat} {l : List (Nat × Nat)} (h1 : Rds cs z1 (encL p)) (h2 : Rds cs z2 (.list (l.map encL))) : OpD K (rInM K) z1 z2 cs (.dat (.bool (decide (p ∈ l)))) := fun x y G H hx hy ex ok Q q => by
  refine .inr (.inr ⟨encL p, l.map encL, (h1.dt hx ex ok).dp, (h2.dt hy ex ok).dp, Sh.ok (sh_L' p) (by decide), Sh.ok (n := 2) (sh_list (sha_map fun c _ => sh_L' c)) (by decide), ?_⟩)
  rw [any_L]
  exact q _ G H (.refl ex) rfl
end
theorem cutL_neg {α : Type} (xs : List α) {w : Nat} (h0 : 0 < w) (h : w ≤ xs.length) : cutL xs (some (-(w : Int))) none = xs.drop (xs.length - w) := by
  have e : HT.sIx xs.length 0 (some (-(w : Int))) = xs.length - w := by
    show (if (-(w : Int)) < 0 then (-(w : Int) + (xs.length : Int)).toNat else _) = _
    rw [if_pos (by omega)]
    omega
  unfold cutL
  rw [HT.sIx_none, e, List.take_of_length_le]
  rw [List.length_drop]
  exact Nat.le_refl _
section
variable {K : PySem.W.Frag} {ρ : List Sl} {cs cs1 cs2 : Cs} {t : TT} {b : Bool} {ta tb : TE} {c : Ce}
theorem evn_if (h : EvT K t ρ cs b cs1) (h1 : b = true → EvN K ta ρ cs1 c cs2) (h2 : b = false → EvN K tb ρ cs1 c cs2) : EvN K (tIf t ta tb) ρ cs c cs2 := fun G σ H ok Q q => h G σ H ok _ fun G1 H1 f1 ok1 => by
  cases b with
  | true =>
    show ta σ H1 Q
    exact h1 rfl G1 σ H1 ok1 Q fun p G2 H2 hp f2 ok2 => q p G2 H2 (f1.fresh hp) (f1.trans f2) ok2
  | false =>
    show tb σ H1 Q
    exact h2 rfl G1 σ H1 ok1 Q fun p G2 H2 hp f2 ok2 => q p G2 H2 (f1.fresh hp) (f1.trans f2) ok2
end
/-! ### the other sign -/
def addU (made : List (Nat × Nat)) (p : Nat × Nat) : List (Nat × Nat) := if p ∈ made then made else made ++ [p]
def otherL (ns : List Int) (m : Nat) : Nat → List (Nat × Nat) → List (Nat × Nat) → Tw → List (Nat × Nat) × Tw
  | 0, _, made, tw => (made, tw)
  | k + 1, ps, made, tw => if made.length < m then otherL ns m k (ps.eraseIdx (drawM ns tw ps.length).1) (addU made (ps.getD (drawM ns tw ps.length).1 (0, 0))) (drawM ns tw ps.length).2 else (made, tw)
structure OtOk (m : Nat) (ps made : List (Nat × Nat)) : Prop where
  ok1 : ∀ p ∈ ps, p.1 < 5 ∧ p.2 < 5 ∧ p.1 ≠ p.2
  ok2 : ∀ p ∈ made, p.1 < 5 ∧ p.2 < 5 ∧ p.1 ≠ p.2
  nd : made.Nodup
  all : ∀ p ∈ pairsM 5, p ∈ ps ∨ p ∈ made
  le : made.length ≤ m
theorem OtOk.step {m : Nat} {ps made : List (Nat × Nat)} (h : OtOk m ps made) {i : Nat} (hi : i < ps.length) (hm : made.length < m) : OtOk m (ps.eraseIdx i) (addU made (ps.getD i (0, 0))) := by
  have hg : ps.getD i (0, 0) = ps[i] := by
    rw [List.getD_eq_getElem?_getD, List.getElem?_eq_getElem hi]
    rfl
  rw [hg]
  have sub : ∀ p ∈ ps.eraseIdx i, p ∈ ps := fun p hp => (List.eraseIdx_sublist ps i).subset hp
  have hmem : ∀ p, p ∈ addU made ps[i] ↔ p ∈ made ∨ p = ps[i] := fun p => by
    unfold addU
    split
    · rename_i hin
      exact ⟨.inl, fun z => by
        rcases z with z | z
        · exact z
        · rw [z]
          exact hin⟩
    · rw [List.mem_append, List.mem_singleton]
  refine ⟨fun p hp => h.ok1 p (sub p hp), fun p hp => ?_, ?_, fun p hp => ?_, ?_⟩
  · rcases (hmem p).mp hp with z | z
    · exact h.ok2 p z
    · rw [z]
      exact h.ok1 _ (List.getElem_mem hi)
  · unfold addU
    split
    · exact h.nd
    · rename_i hin
      refine List.nodup_append.mpr ⟨h.nd, by simp, fun x hx y hy e => hin ?_⟩
      rw [← List.mem_singleton.mp hy, ← e]
      exact hx
  · rcases h.all p hp with z | z
    · rcases List.mem_cons.mp ((erase_perm hi).mem_iff.mpr z) with y | y
      · exact .inr ((hmem p).mpr (.inr y))
      · exact .inl y
    · exact .inr ((hmem p).mpr (.inl z))
  · unfold addU
    split
    · omega
    · rw [List.length_append, List.length_singleton]
      omega
theorem OtOk.done {m : Nat} {made : List (Nat × Nat)} (h : OtOk m [] made) (hm : m ≤ 7) : m ≤ made.length := by
  have h20 : (pairsM 5).length = 20 := by decide
  have : (pairsM 5).length ≤ made.length := by
    have hs : ∀ p ∈ pairsM 5, p ∈ made := fun p hp => (h.all p hp).resolve_left (by simp)
    have nd : (pairsM 5).Nodup := pairsM_nd (by decide) (by decide)
    clear h h20
    generalize pairsM 5 = l at hs nd
    induction l generalizing made with
    | nil => exact Nat.zero_le _
    | cons x l ih =>
      obtain ⟨n1, n2⟩ := List.nodup_cons.mp nd
      have hx := hs x List.mem_cons_self
      have := ih (made := made.erase x) (fun p hp => by
        have hpx : p ≠ x := fun e => n1 (by rw [← e]; exact hp)
        exact (List.mem_erase_of_ne hpx).mpr (hs p (List.mem_cons_of_mem _ hp))) n2
      rw [List.length_erase_of_mem hx] at this
      have := List.length_pos_of_mem hx
      rw [List.length_cons]
      omega
  omega
theorem otherL_ok (ns : List Int) {m : Nat} (hm : m ≤ 7) : ∀ (k : Nat) (ps made : List (Nat × Nat)) (tw : Tw), ps.length = k → OtOk m ps made → OtOk m [] (otherL ns m k ps made tw).1 ∨ (∃ ps', OtOk m ps' (otherL ns m k ps made tw).1) ∧ (otherL ns m k ps made tw).1.length = m
  | 0, ps, made, tw, hl, h => .inl (by rw [List.length_eq_zero_iff.mp hl] at h; exact h)
  | k + 1, ps, made, tw, hl, h => by
    unfold otherL
    split
    · rename_i hlt
      have hd := drawM_lt ns tw (m := ps.length) (by omega)
      exact otherL_ok ns hm k _ _ _ (by rw [List.length_eraseIdx, if_pos hd]; omega) (h.step hd hlt)
    · rename_i hlt
      refine .inr ⟨⟨ps, h⟩, ?_⟩
      have := h.le
      show made.length = m
      omega
theorem otherL_all (ns : List Int) {m : Nat} (hm : m ≤ 7) {ps made : List (Nat × Nat)} {tw : Tw} (h : OtOk m ps made) : (otherL ns m ps.length ps made tw).1.length = m ∧ (∀ p ∈ (otherL ns m ps.length ps made tw).1, p.1 < 5 ∧ p.2 < 5 ∧ p.1 ≠ p.2) ∧ (otherL ns m ps.length ps made tw).1.Nodup := by
  rcases otherL_ok ns hm ps.length ps made tw rfl h with h | ⟨⟨ps', h⟩, e⟩
  · have := h.done hm
    have := h.le
    exact ⟨by omega, h.ok2, h.nd⟩
  · exact ⟨e, h.ok2, h.nd⟩
def made0 (what : Nat) (s : Sg) : List (Nat × Nat) := if what = 1 then s.L else []
def many0 (what : Nat) (s : Sg) : Nat := s.L.length + if what = 1 then 1 else 0
def otherM (ns : List Int) (tw : Tw) (s : Sg) : Sg × Tw :=
  let what := (drawM ns tw 3).1
  let t1 := (drawM ns tw 3).2
  if what = 0 then (⟨s.w, s.L, 1 + (drawM ns t1 3).1⟩, (drawM ns t1 3).2)
  else let q := otherL ns (many0 what s) 20 (pairsM 5) (made0 what s) t1
    (⟨5, q.1.drop (q.1.length - s.L.length), s.r⟩, q.2)
theorem ot_start {what : Nat} {s : Sg} (ok : OkS s) : OtOk (many0 what s) (pairsM 5) (made0 what s) := by
  refine ⟨pairsM_ok (by decide), fun p hp => ?_, ?_, fun p hp => .inl hp, ?_⟩
  · unfold made0 at hp
    split at hp
    · have h := ok.ok p hp
      have h5 := ok.w5
      exact ⟨by omega, by omega, h.2.2⟩
    · cases hp
  · unfold made0
    split
    · exact ok.nd
    · exact List.nodup_nil
  · unfold made0 many0
    split
    · omega
    · exact Nat.zero_le _
theorem otherM_ok (ns : List Int) (tw : Tw) {s : Sg} (ok : OkS s) (h6 : s.L.length ≤ 6) : OkS (otherM ns tw s).1 ∧ (otherM ns tw s).1.L.length = s.L.length := by
  unfold otherM
  by_cases hw : (drawM ns tw 3).1 = 0
  · rw [if_pos hw]
    have hd := drawM_lt ns (drawM ns tw 3).2 (m := 3) (by decide)
    exact ⟨⟨ok.w2, ok.w5, ok.l1, ok.l7, ok.ok, ok.nd, Nat.le_add_right _ _, by show 1 + _ ≤ 3; omega⟩, rfl⟩
  · rw [if_neg hw]
    generalize (drawM ns tw 3).1 = what
    generalize (drawM ns tw 3).2 = t1
    have h20 : (pairsM 5).length = 20 := by decide
    have hm : many0 what s ≤ 7 := by
      unfold many0
      split <;> omega
    have h := otherL_all ns hm (tw := t1) (ot_start (what := what) ok)
    rw [h20] at h
    generalize otherL ns (many0 what s) 20 (pairsM 5) (made0 what s) t1 = q at h
    obtain ⟨h1, h2, h3⟩ := h
    have hge : s.L.length ≤ q.1.length := by
      rw [h1]
      unfold many0
      omega
    have hl : (q.1.drop (q.1.length - s.L.length)).length = s.L.length := by
      rw [List.length_drop]
      omega
    have hl1 := ok.l1
    have hl7 := ok.l7
    refine ⟨⟨by show 2 ≤ 5; decide, by show 5 ≤ 5; decide, ?_, ?_, fun p hp => ?_, ?_, ok.r1, ok.r3⟩, hl⟩
    · show 1 ≤ (q.1.drop _).length
      omega
    · show (q.1.drop _).length ≤ 7
      omega
    · exact h2 p (List.mem_of_mem_drop hp)
    · exact List.Sublist.nodup (List.drop_sublist _ _) h3
end LW

set_option Elab.async false
set_option linter.all false
set_option maxRecDepth 100000
set_option maxHeartbeats 4000000
namespace LW
open PySem PySem.Spec PyProof.Rows L2
section
variable {prog : Program} {w : World} {A : Around} {E : Value → Shared → Prop} {s : Shared}
theorem adjust_rev (n : Nat) : Builtin.Slice.sliceAdjust none none (-1) (n : Int) = ((n : Int) - 1, -1) := by
  unfold Builtin.Slice.sliceAdjust
  simp
theorem places_rev (n : Nat) : Builtin.Slice.slicePlaces ((n : Int) - 1) (-1) (-1) = n := by
  unfold Builtin.Slice.slicePlaces
  rw [if_neg (by decide)]
  by_cases h : (n : Int) - 1 > -1
  · rw [if_pos h, show (-(-1) : Int) = 1 from by decide, Int.ediv_one]
    omega
  · rw [if_neg h]
    omega
theorem sliceApplied_rev {sl : Addr} {vs : Value} {n : Nat} {Q : Int × Int × Nat → Shared → Prop} (hs : s.heap.IsSliceOf sl .none .none vs) (ps : IsPart vs (some (-1))) (h : Q ((n : Int) - 1, -1, n) s) : wpAny (model prog w) A (Builtin.Slice.sliceApplied (.ref sl) (pure (n : Int))) Q E s := by
  obtain ⟨os, hos, hcs, hds⟩ := id hs
  unfold Builtin.Slice.sliceApplied Builtin.Slice.sliceFields
  refine wpAny_bind (wpAny_bind (wpAny_field hos hds (x := .none) rfl (wpAny_bind (wpAny_field hos hds (x := .none) rfl (wpAny_bind (wpAny_field hos hds (x := vs) rfl (wpAny_pure ?_)))))))
  refine wpAny_bind (HT.slicePart_ ps ?_)
  show wpAny _ _ (if ((-1 : Int) == 0) = true then _ else _) _ _ s
  rw [if_neg (by decide)]
  refine wpAny_bind (HT.slicePart_ .none (wpAny_bind (HT.slicePart_ .none (wpAny_bind (wpAny_pure ?_)))))
  show wpAny _ _ (match Builtin.Slice.sliceAdjust none none (-1) (n : Int) with | (lo, hi) => pure (lo, (-1 : Int), Builtin.Slice.slicePlaces lo hi (-1))) _ _ s
  rw [adjust_rev]
  show wpAny _ _ (pure ((n : Int) - 1, (-1 : Int), Builtin.Slice.slicePlaces ((n : Int) - 1) (-1) (-1))) _ _ s
  rw [places_rev]
  exact wpAny_pure h
theorem pick_rev (xs : Array Value) : ((List.range xs.size).filterMap fun (m : Nat) => xs[(((xs.size : Int) - 1) + (m : Int) * (-1)).toNat]?).toArray = xs.toList.reverse.toArray := by
  have e : ((List.range xs.size).filterMap fun (m : Nat) => xs[(((xs.size : Int) - 1) + (m : Int) * (-1)).toNat]?) = ((List.range xs.size).map fun k => xs.size - 1 - k).filterMap (xs[·]?) := by
    rw [List.filterMap_map]
    have key : ∀ (l : List Nat), (∀ m ∈ l, m < xs.size) → (l.filterMap fun (m : Nat) => xs[(((xs.size : Int) - 1) + (m : Int) * (-1)).toNat]?) = l.filterMap ((xs[·]?) ∘ fun k => xs.size - 1 - k) := fun l => by
      induction l with
      | nil => intro _; rfl
      | cons m l ih =>
        intro hl
        have hm := hl m List.mem_cons_self
        have e1 : (((xs.size : Int) - 1) + (m : Int) * (-1)).toNat = xs.size - 1 - m := by omega
        rw [List.filterMap_cons, List.filterMap_cons, e1, ih fun k hk => hl k (List.mem_cons_of_mem _ hk)]
        rfl
    exact key _ fun m hm => List.mem_range.mp hm
  rw [e, PySem.W.krv_range, List.filterMap_reverse, PySem.W.krv_all]
theorem getItem_tuple_rev {t sl : Addr} {items : Array Value} {vs : Value} {Q : Value → Shared → Prop} (ht : IsTup s.heap t items) (hs : s.heap.IsSliceOf sl .none .none vs) (ps : IsPart vs (some (-1)))
    (h : Q (.ref s.heap.objs.size) { s with heap := s.heap.push { cls := .type "tuple", data := .seq items.toList.reverse.toArray } })
    (hsz : items.size ≤ sizeLine) : wpAny (model prog w) A (getItem (.ref t) (.ref sl)) Q E s := by
  have htake : sizeOk (.seq items.toList.reverse.toArray) := by
    show items.toList.reverse.toArray.size ≤ sizeLine
    rw [List.size_toArray, List.length_reverse, Array.length_toList]
    exact hsz
  obtain ⟨os, hos, hcs, hds⟩ := id hs
  have hTs : s.TypeIs (.ref sl) "slice" := ⟨os, hos, hcs⟩
  unfold getItem
  try with_reducible refine wpAny_holding ?_
  first | refine wpAny_bind (wpAny_pure ?_) | skip
  refine wpAny_bind (wpAny_sequenceKey ht.typeIs (by decide) ?_)
  refine wpAny_bind (wpAny_callSpecial?_slot (name := Str.ofString "__getitem__") ht.typeIs PyProof.Rows.slot_tuple_getitem
    (wpAny_call_entry PyProof.Rows.slot_tuple_getitem ht.typeIs entry_tuple_getitem ?_ (args_tuple_getitem _ _)))
  show wpAny _ _ (Builtin.Tuple.tupleItemsOf (.ref t) >>= _) _ _ s
  refine wpAny_bind (tupleItemsOf_ ht ?_)
  refine wpAny_bind (wpAny_typeOf hTs ?_)
  rw [if_pos (by decide)]
  refine wpAny_bind (sliceApplied_rev hs ps ?_)
  have hno : ¬ ((((items.size : Int) - 1) == 0 && (-1 : Int) == 1 && items.size == items.size) = true) := by
    intro q
    rw [Bool.and_eq_true, Bool.and_eq_true] at q
    exact absurd q.1.2 (by decide)
  show wpAny _ _ (if (((items.size : Int) - 1) == 0 && (-1 : Int) == 1 && items.size == items.size) = true then _ else _) _ _ s
  rw [if_neg hno, pick_rev]
  first
    | exact wpAny_bind (m := Builtin.Tuple.tupleExact _) (wpAny_newObj_type (wpAny_pure ⟨_, rfl, wpAny_pure h⟩) htake)
    | exact wpAny_bind (m := Builtin.Tuple.tupleExact _) (wpAny_newObj_type (wpAny_bind (wpAny_pure (wpAny_pure ⟨_, rfl, wpAny_pure h⟩))) htake)
    | exact wpAny_bind (wpAny_bind (m := Builtin.Tuple.tupleExact _) (wpAny_newObj_type (wpAny_pure (wpAny_pure ⟨_, rfl, wpAny_pure h⟩)) htake))
    | exact wpAny_bind (wpAny_bind (m := Builtin.Tuple.tupleExact _) (wpAny_newObj_type (wpAny_pure ⟨_, rfl, wpAny_pure h⟩) htake))
end
/-- t[::-1] of a tuple -/
def tRevT (K : PySem.W.Frag) (te : TE) : TE := fun σ H Q => te σ H fun x H1 => ∃ a xs, x = .ref a ∧ SqT K H1 a xs ∧ ∀ p, H1 p = none → Q (.ref p) (upd H1 p (.tup xs.reverse))
theorem pe_revT {X : Cx} {e : Expr} {te : TE} {k : Nat} {p1 p2 p3 pos : Pos} (he : PE X e te) : PE X (.Subscript e (.Slice none none (some (.UnaryOp .USub (.Constant (.int 1) k p1) p2)) p3) pos) (tRevT X.K te) := by
  refine ⟨fun pins s σ H Q I h => ?_⟩
  refine Subscript_ (thn (he.run pins s σ H _ I h) fun v s1 ⟨x, H1, I1, r1, q1⟩ => ?_)
  obtain ⟨a, xs, ex, hx, q⟩ := q1
  subst ex
  cases r1
  have hst : PO X (some (.UnaryOp .USub (.Constant (.int 1) k p1) p2)) (tPart (tUn (rU fun i => .int (-i)) (tC (.int 1)))) := po_some (pe_un un_neg pe_int)
  refine wpAny_Slice (thn (po_none.run pins s1 σ H1 (fun o H2 => o = none ∧ H2 = H1) I1 ⟨rfl, rfl⟩) fun vl s2 ⟨l, H2, I2, pl, el, e2⟩ => ?_)
  subst el e2
  refine thn (po_none.run pins s2 σ H2 (fun o H3 => o = none ∧ H3 = H2) I2 ⟨rfl, rfl⟩) fun vu s3 ⟨u, H3, I3, pu, eu, e3⟩ => ?_
  subst eu e3
  refine thn (hst.run pins s3 σ H3 (fun o H4 => o = some (-1) ∧ H4 = H3) I3 ⟨1, rfl, -1, rfl, rfl, rfl⟩) fun vs s4 ⟨o, H4, I4, ps, eo, e4⟩ => ?_
  subst eo e4
  cases pl
  cases pu
  have I5 : Inv X pins σ H4 { s4 with heap := s4.heap.push { cls := .type "slice", data := .fields #[.none, .none, vs] } } := I4.kept (t' := s4.toks) fun b ob q => Heap.get?_push_of_some _ q
  obtain ⟨its, r, ht, hz⟩ := I5.tuple hx
  have hlen := r.length
  show wpAny (model X.prog X.w) X.A (subscriptTail e (.Slice none none (some (.UnaryOp .USub (.Constant (.int 1) k p1) p2)) p3) (.ref a) (.ref s4.heap.objs.size)) (EP X pins σ Q) X.xe { s4 with heap := s4.heap.push { cls := .type "slice", data := .fields #[.none, .none, vs] } }
  refine tail_any (ops := [.ref a, .ref s4.heap.objs.size]) ht.typeIs (PyProof.Rows.slot_tuple_getitem.lookup) ?_ (by with_unfolding_all rfl)
  refine getItem_tuple_rev ht (Heap.IsSliceOf.new _ .none .none vs) ps ?_ (by rw [List.size_toArray]; omega)
  refine ⟨.ref _, _, I5.laid (t' := s4.toks) (o := .tup xs.reverse) (fun b ob q => Heap.get?_push_of_some _ q) (Nat.le_refl _) ?_, rfl, q _ (I5.hok.fresh (Nat.le_refl _))⟩
  exact ⟨by rw [List.length_reverse]; exact hz, _, r.reverse, IsTup.new _ _⟩
theorem revT_K {X : Cx} {e : Expr} {te : TE} {k : Nat} {p1 p2 p3 pos : Pos} (K : PySem.W.Frag) (he : PE X e te) (h : X.K = K := by rfl) : PE X (.Subscript e (.Slice none none (some (.UnaryOp .USub (.Constant (.int 1) k p1) p2)) p3) pos) (tRevT K te) := by
  subst h
  exact pe_revT he
section
variable {K : PySem.W.Frag} {ρ : List Sl} {cs cs1 : Cs} {te : TE} {z : Sl} {ds : List PyData}
theorem ev_revT (h : Ev K te ρ cs z cs1) (hz : Rds cs1 z (.tuple ds)) : Ev K (tRevT K te) ρ cs (.dat (.tuple ds.reverse)) cs1 := fun G σ H okx Q q =>
  h G σ H okx _ fun v G1 H1 f1 ok1 e1 => by
    obtain ⟨a, xs, rfl, hp, dv⟩ := hz.tuple e1
    refine ⟨a, xs, rfl, .inl (.inl (ok1.ex _ _ hp)), fun r hr => ?_⟩
    have g := Gr.new ok1.ex (o := .tup xs.reverse) hr
    exact q _ _ _ (f1.trans g.fr) (ok1.gr g) ⟨r, _, rfl, upd_same, (dv.reverse).mono g.g⟩
end
end LW

set_option Elab.async false
set_option linter.all false
set_option maxRecDepth 100000
namespace LW
open PySem PySem.Spec PyProof.Rows L2
/-! ### keys of pictures, None behind all -/
def keyK (l : List (List Int)) : Nat × List Int := match l.head? with
  | none => (99, [])
  | some p => (p.length, p)
def encKP (k : Nat × List Int) : PyData := .tuple [eI k.1, encP k.2]
def LeK (a b : Nat × List Int) : Prop := a.1 < b.1 ∨ (a.1 = b.1 ∧ a.2 ≤ b.2)
theorem lt_KP (a b : Nat × List Int) : PySem.W.dataLt (encKP a) (encKP b) = decide (a.1 < b.1 ∨ (a.1 = b.1 ∧ a.2 < b.2)) := by
  unfold encKP eI
  rw [PySem.W.dataLt_pair (by simp [PySem.W.alike]) (alike_P a.2 b.2), lt_P, PySem.W.dataLt_int]
  have e1 : PyData.eqv (.int (a.1 : Int)) (.int (b.1 : Int)) = decide (a.1 = b.1) := by
    simp only [PyData.eqv]
    rw [Bool.eq_iff_iff, beq_iff_eq, decide_eq_true_iff]
    omega
  have e2 : PyData.eqv (encP a.2) (encP b.2) = decide (a.2 = b.2) := eqv_tup a.2 b.2
  rw [e1, e2]
  by_cases h : a.1 = b.1
  · rw [if_pos (decide_eq_true h)]
    by_cases h2 : a.2 = b.2
    · rw [if_pos (decide_eq_true h2)]
      exact (decide_eq_false fun z => by
        rcases z with z | z
        · omega
        · rw [h2] at z
          exact List.lt_irrefl _ z.2).symm
    · rw [if_neg (by rw [decide_eq_false h2]; decide)]
      exact decide_eq_decide.mpr ⟨fun z => .inr ⟨h, z⟩, fun z => by
        rcases z with z | z
        · omega
        · exact z.2⟩
  · rw [if_neg (by rw [decide_eq_false h]; decide)]
    exact decide_eq_decide.mpr ⟨fun z => .inl (by omega), fun z => by
      rcases z with z | z
      · omega
      · exact absurd z.1 h⟩
theorem le_KP (a b : Nat × List Int) : PySem.W.dataLe false encKP a b = true ↔ LeK a b := by
  have e : PySem.W.dataLe false encKP a b = !PySem.W.dataLt (encKP b) (encKP a) := rfl
  rw [e, lt_KP]
  unfold LeK
  by_cases h : b.1 < a.1 ∨ (b.1 = a.1 ∧ b.2 < a.2)
  · rw [decide_eq_true h]
    refine ⟨fun z => (nomatch z), fun z => ?_⟩
    exfalso
    rcases h with h | h <;> rcases z with z | z
    · omega
    · omega
    · omega
    · exact absurd h.2 (List.not_lt.mpr z.2)
  · rw [decide_eq_false h]
    refine ⟨fun _ => ?_, fun _ => rfl⟩
    by_cases h1 : a.1 < b.1
    · exact .inl h1
    · have h2 : ¬ b.1 < a.1 := fun z => h (.inl z)
      exact .inr ⟨by omega, List.not_lt.mp fun z => h (.inr ⟨by omega, z⟩)⟩
theorem LeK.trans {a b c : Nat × List Int} (h : LeK a b) (h' : LeK b c) : LeK a c := by
  rcases h with h | h <;> rcases h' with h' | h'
  · exact .inl (by omega)
  · exact .inl (by omega)
  · exact .inl (by omega)
  · exact .inr ⟨h.1.trans h'.1, List.le_trans h.2 h'.2⟩
theorem LeK.antisymm {a b : Nat × List Int} (h : LeK a b) (h' : LeK b a) : a = b := by
  rcases h with h | h <;> rcases h' with h' | h'
  · omega
  · omega
  · omega
  · exact Prod.ext h.1 (List.le_antisymm h.2 h'.2)
theorem LeK.total (a b : Nat × List Int) : LeK a b ∨ LeK b a := by
  rcases Nat.lt_trichotomy a.1 b.1 with h | h | h
  · exact .inl (.inl h)
  · rcases List.le_total a.2 b.2 with z | z
    · exact .inl (.inr ⟨h, z⟩)
    · exact .inr (.inr ⟨h.symm, z⟩)
  · exact .inr (.inl h)
theorem LeK.refl (a : Nat × List Int) : LeK a a := (LeK.total a a).elim id id
def sortKP (ps : List (Nat × List Int)) : List (Nat × List Int) := ps.mergeSort (PySem.W.dataLe false encKP)
theorem sortD_KP (ps : List (Nat × List Int)) : sortD (ps.map encKP) = (sortKP ps).map encKP := by
  unfold sortD sortKP
  exact (List.map_mergeSort (f := encKP) (r := PySem.W.dataLe false encKP) (s := PySem.W.dataLe false id) (fun a _ b _ => rfl)).symm
theorem sortKP_pw (ps : List (Nat × List Int)) : (sortKP ps).Pairwise LeK := by
  unfold sortKP
  refine (List.pairwise_mergeSort (le := PySem.W.dataLe false encKP) (fun a b c h1 h2 => ?_) (fun a b => ?_) ps).imp fun {a b} h => (le_KP a b).mp h
  · exact (le_KP a c).mpr (((le_KP a b).mp h1).trans ((le_KP b c).mp h2))
  · rw [Bool.or_eq_true, le_KP, le_KP]
    exact LeK.total a b
theorem sortKP_uniq {l ps : List (Nat × List Int)} (h : l.Pairwise LeK) (hp : l.Perm ps) : sortKP ps = l :=
  (List.Perm.eq_of_pairwise (fun a b _ _ h1 h2 => h1.antisymm h2) h (sortKP_pw ps) (hp.trans (List.mergeSort_perm ps _).symm)).symm
theorem sh_KP (k : Nat × List Int) : Sh 2 (encKP k) := sh_tuple (sha_cons sh_int (sha_cons (sh_P k.2) sha_nil))
theorem eqv_KP (k : Nat × List Int) : PyData.eqv (encKP k) (encKP k) = true := by
  unfold encKP encP eI
  simp [PyData.eqv, PyData.eqvAll, eqv_ints]
theorem sortOk_KP (ps : List (Nat × List Int)) : SortOk (ps.map encKP) := by
  refine ⟨fun d hd d' hd' => ?_, .inl (.inl fun d hd => ?_), fun d hd => ?_⟩
  · obtain ⟨a, _, rfl⟩ := List.mem_map.mp hd
    obtain ⟨b, _, rfl⟩ := List.mem_map.mp hd'
    unfold encKP eI
    simp [PySem.W.alike, PySem.W.alikeAll, alike_P a.2 b.2]
  · obtain ⟨a, ha, rfl⟩ := List.mem_map.mp hd
    exact ⟨_, _, rfl⟩
  · obtain ⟨a, _, rfl⟩ := List.mem_map.mp hd
    exact Nat.le_trans (sh_KP a).dep (by decide)
/-! ### the least two of three are the same -/
theorem key_le {l : List (List Int)} {p : List Int} (hp : p.length ≤ 50) (h : ∀ q ∈ l, LeP p q) : LeK (p.length, p) (keyK l) := by
  unfold keyK
  cases l with
  | nil => exact .inl (by show p.length < 99; omega)
  | cons q r => exact h q List.mem_cons_self
theorem tri {f g h : List Int → Option Nat} : ∀ {l : List (List Int)}, l.Pairwise LeP → (∀ p ∈ l, p.length ≤ 50) → ∃ m M, LeK m M ∧ ([m, m, M] : List (Nat × List Int)).Perm [keyK (l.filter fun p => !decide (f p = g p)), keyK (l.filter fun p => !decide (g p = h p)), keyK (l.filter fun p => !decide (f p = h p))]
  | [], _, _ => ⟨(99, []), (99, []), LeK.refl _, List.Perm.refl _⟩
  | p :: r, hl, hs => by
    obtain ⟨h1, h2⟩ := List.pairwise_cons.mp hl
    have hpl := hs p List.mem_cons_self
    have ih := tri (f := f) (g := g) (h := h) h2 fun q hq => hs q (List.mem_cons_of_mem _ hq)
    have sub : ∀ F : List Int → Bool, ∀ q ∈ r.filter F, LeP p q := fun F q hq => h1 q (List.mem_filter.mp hq).1
    have pos : ∀ a b : List Int → Option Nat, a p ≠ b p → ((p :: r).filter fun p => !decide (a p = b p)) = p :: r.filter fun p => !decide (a p = b p) := fun a b hab => List.filter_cons_of_pos (by rw [decide_eq_false hab]; rfl)
    have neg : ∀ a b : List Int → Option Nat, a p = b p → ((p :: r).filter fun p => !decide (a p = b p)) = r.filter fun p => !decide (a p = b p) := fun a b hab => List.filter_cons_of_neg (by rw [decide_eq_true hab]; decide)
    by_cases c1 : f p = g p
    · by_cases c2 : g p = h p
      · rw [neg f g c1, neg g h c2, neg f h (c1.trans c2)]
        exact ih
      · rw [neg f g c1, pos g h c2, pos f h fun z => c2 (c1.symm.trans z)]
        refine ⟨(p.length, p), keyK (r.filter fun p => !decide (f p = g p)), key_le hpl (sub _), ?_⟩
        exact (List.perm_append_comm (l₁ := [(p.length, p), (p.length, p)]) (l₂ := [keyK (r.filter fun p => !decide (f p = g p))]))
    · by_cases c2 : g p = h p
      · rw [pos f g c1, neg g h c2, pos f h fun z => c1 (z.trans c2.symm)]
        refine ⟨(p.length, p), keyK (r.filter fun p => !decide (g p = h p)), key_le hpl (sub _), ?_⟩
        exact (List.Perm.swap _ _ _).cons _
      · rw [pos f g c1, pos g h c2]
        by_cases c3 : f p = h p
        · rw [neg f h c3]
          exact ⟨(p.length, p), keyK (r.filter fun p => !decide (f p = h p)), key_le hpl (sub _), List.Perm.refl _⟩
        · rw [pos f h c3]
          exact ⟨(p.length, p), (p.length, p), LeK.refl _, List.Perm.refl _⟩
theorem tri_sort {s t u : Sg} (ok : OkS s) (h1 : t.L.length = s.L.length) (h2 : u.L.length = s.L.length) : ∃ m M, sortKP [keyK (diffsM s t), keyK (diffsM t u), keyK (diffsM s u)] = [m, m, M] := by
  have hl : (picsM (rgM s.L.length)).Pairwise LeP := sortLP_pw _
  obtain ⟨m, M, hm, hp⟩ := tri (f := needO (keysG (glowsM s))) (g := needO (keysG (glowsM t))) (h := needO (keysG (glowsM u))) hl fun p hp => by
    have := ((mem_pics.mp hp).pic ok).len
    omega
  refine ⟨m, M, sortKP_uniq ?_ ?_⟩
  · exact List.pairwise_cons.mpr ⟨fun q hq => by
      rcases List.mem_cons.mp hq with e | e
      · rw [e]
        exact LeK.refl _
      · rw [List.mem_singleton.mp e]
        exact hm, List.pairwise_cons.mpr ⟨fun q hq => by rw [List.mem_singleton.mp hq]; exact hm, List.pairwise_singleton _ _⟩⟩
  · unfold diffsM
    rw [h1]
    exact hp
/-- a lamp turned round -/
def flipL (L : List (Nat × Nat)) (i : Nat) (q : Nat × Nat) : List (Nat × Nat) := if q ∈ L then L else L.take i ++ [q] ++ L.drop (i + 1)
theorem flip_len {L : List (Nat × Nat)} {i : Nat} (h : i < L.length) (q : Nat × Nat) : (flipL L i q).length = L.length := by
  unfold flipL
  split
  · rfl
  · rw [List.length_append, List.length_append, List.length_take, List.length_drop, List.length_singleton]
    omega
theorem flip_ok {s : Sg} (ok : OkS s) {i : Nat} (h : i < s.L.length) {r : Nat} (h1 : 1 ≤ r) (h3 : r ≤ 3) : OkS ⟨s.w, flipL s.L i ((s.L.getD i (0, 0)).2, (s.L.getD i (0, 0)).1), r⟩ := by
  have hl := flip_len h ((s.L.getD i (0, 0)).2, (s.L.getD i (0, 0)).1)
  have l1 := ok.l1
  have l7 := ok.l7
  refine ⟨ok.w2, ok.w5, by show 1 ≤ (flipL _ _ _).length; omega, by show (flipL _ _ _).length ≤ 7; omega, fun p hp => ?_, ?_, h1, h3⟩
  · have hp : p ∈ flipL s.L i ((s.L.getD i (0, 0)).2, (s.L.getD i (0, 0)).1) := hp
    unfold flipL at hp
    split at hp
    · exact ok.ok p hp
    · rcases List.mem_append.mp hp with z | z
      · rcases List.mem_append.mp z with y | y
        · exact ok.ok p (List.mem_of_mem_take y)
        · rw [List.mem_singleton.mp y]
          have hg : s.L.getD i (0, 0) = s.L[i] := by
            rw [List.getD_eq_getElem?_getD, List.getElem?_eq_getElem h]
            rfl
          have := ok.ok _ (List.getElem_mem h)
          rw [hg]
          exact ⟨this.2.1, this.1, fun e => this.2.2 e.symm⟩
      · exact ok.ok p (List.mem_of_mem_drop z)
  · show (flipL _ _ _).Nodup
    unfold flipL
    split
    · exact ok.nd
    · rename_i hn
      have hsub : (s.L.take i ++ s.L.drop (i + 1)).Sublist s.L := by
        rw [← List.eraseIdx_eq_take_drop_succ]
        exact List.eraseIdx_sublist _ _
      have hnd := hsub.nodup ok.nd
      rw [List.append_assoc]
      obtain ⟨n1, n2, n3⟩ := List.nodup_append.mp hnd
      refine List.nodup_append.mpr ⟨n1, List.nodup_append.mpr ⟨by simp, n2, fun a ha b hb e => hn ?_⟩, fun a ha b hb e => ?_⟩
      · rw [← List.mem_singleton.mp ha, e]
        exact List.mem_of_mem_drop hb
      · rcases List.mem_append.mp hb with z | z
        · refine hn ?_
          rw [← List.mem_singleton.mp z, ← e]
          exact List.mem_of_mem_take ha
        · exact n3 a ha b z e
end LW

set_option Elab.async false
set_option linter.all false
set_option maxRecDepth 100000
set_option maxHeartbeats 4000000
namespace LW
open PySem PySem.Spec PyProof.Rows L2
section
variable {X : Cx} {st : Stmt} {rest : List Stmt} {t u : TS}
/-- x = [i, j]: behind it a token is out -/
theorem pss_intsT {i k1 k2 : Nat} {x : Str} {a b : Int} {c1 c2 lp pos' pos : Pos} (hN : X.N.Nodup) (hi : X.N[i]? = some x) (hx : Loc X.env.scope x) (h2 : PSsT X rest u)
    (hs : swapsWith (.List [.Constant (.int a) k1 c1, .Constant (.int b) k2 c2] lp) (some (.Name x pos')) pos.line X.env = pure false := by rfl) (hf : X.fn x = true ∨ X.env.scope.names.lookup x = some .local := by first | exact .inl rfl | exact .inr rfl | assumption) :
    PSs X (.Assign [.Name x pos'] (.List [.Constant (.int a) k1 c1, .Constant (.int b) k2 c2] lp) pos :: rest) (tSeq (tAsg (tLst (tCons (tC (.int a)) (tCons (tC (.int b)) tNil))) (gName i)) u) := by
  refine ⟨fun pins s σ H D I h => ?_⟩
  refine wpAny_execs_cons (wpAny_Assign_Name (wpAny_List_spliced ?_) hs)
  show wpAny _ _ (spliced ((false, eval (.Constant (.int a) k1 c1) X.env) :: backTo lp (starEach [.Constant (.int b) k2 c2] X.env))) _ _ s
  refine Calls.spliced_cons (wpAny_Constant_int ?_)
  show wpAny _ _ (spliced ((false, eval (.Constant (.int b) k2 c2) X.env) :: backTo lp (starEach [] X.env))) _ _ _
  refine Calls.spliced_cons (wpAny_Constant_int (Calls.spliced_nil ?_))
  have hsz : (2 : Nat) ≤ sizeLine := by decide
  refine ⟨hsz, ?_⟩
  have h : ∀ p, H p = none → u D (σ.set i (some (.ref p))) (upd H p (.lst [.int a, .int b])) := h.2
  have hfr : H s.heap.objs.size = none := I.hok.fresh (Nat.le_refl _)
  have I1 : Inv X pins σ (upd H s.heap.objs.size (.lst [.int a, .int b])) { s with heap := s.heap.push { cls := .type "list", data := .seq #[.int a s.toks, .int b (s.toks + 1)] }, toks := s.toks + 1 + 1 } :=
    I.laid (t' := s.toks + 1 + 1) (fun b u e => Heap.get?_push_of_some _ e) (Nat.le_refl _) ⟨hsz, [.int a s.toks, .int b (s.toks + 1)], 0, .cons ⟨_, rfl⟩ (.cons ⟨_, rfl⟩ .nil), Heap.get?_push_size _ rfl⟩
  refine wpAny_mono (PySem.wpAny_toks (store_ok (v := V.ref s.heap.objs.size) (u := Value.ref s.heap.objs.size) (Q := fun _ s2 => Inv X pins (σ.set i (some (V.ref s.heap.objs.size))) (upd H s.heap.objs.size (.lst [.int a, .int b])) s2) I1 hN hi hx rfl (fun _ I2 => I2) hf)) (fun _ s2 q => ?_) fun _ _ z => z.2
  have hk : s.toks + 1 + 1 ≤ s2.toks := q.1
  exact h2 pins s2 _ _ D (by omega) q.2 (h _ hfr)
theorem pst_set {i : Nat} {x : Str} {e : Expr} {te : TE} {pos' pos : Pos} (hN : X.N.Nodup) (hi : X.N[i]? = some x) (hx : Loc X.env.scope x) (he : PET X e te) (hs : swapsWith e (some (.Name x pos')) pos.line X.env = pure false := by rfl) (hf : X.fn x = true ∨ X.env.scope.names.lookup x = some .local := by first | exact .inl rfl | exact .inr rfl | assumption) :
    PST X (.Assign [.Name x pos'] e pos) (tAsg te (gName i)) := by
  intro pins s σ H D h0 I h
  refine wpAny_Assign_Name (thn (he pins s σ H _ h0 I h) fun v s1 ⟨y, H1, I1, r1, q1⟩ => ?_) hs
  exact store_ok I1 hN hi hx r1 (fun s2 I2 => ⟨_, H1, I2, q1⟩) hf
/-- for, its body with a token out -/
theorem pst_forT {tg iter : Expr} {body : List Stmt} {wi : TI} {g : TG} {tb : TS} {pos : Pos} (hp : PassesOwn (model X.prog X.w) X.A X.env X.xe) (hc : X.calm = true) (hi : PI X tg iter wi) (hg : PG X tg g) (hb : PSsT X body tb)
    (hs : ∀ x, foldedSetIterable iter X.env x = pure x := by intro _; rfl) : PST X (.For tg iter body [] pos) (tFor wi g tb) := by
  intro pins s σ H D h0 I h
  refine wpAny_For (wpAny_mono (PySem.wpAny_toks (hi.run pins s σ H _ I h)) (fun v s1 h1 => wpAny_mono (PySem.wpAny_toks h1.2) (fun itv s2 h2 => ?_) fun _ _ z => z.2) fun _ _ z => z.2) hs
  have k1 : s.toks ≤ s1.toks := h1.1
  have k2 : s1.toks ≤ s2.toks := h2.1
  obtain ⟨_, it, fp, tn, J, H2, e, I2, T, st2, f2, W, ⟨m0, w0⟩, turn⟩ := h2
  subst e
  have stat : ∀ {H' : Hp}, (∀ b ∈ fp, H' b = none) → ∀ b ∈ fp, FpOk X pins H' b := fun hn b hb => ⟨hn b hb, (f2 b hb).2⟩
  refine codeAny_forLoop_any (fun n s' => 1 ≤ s'.toks ∧ ∃ i σ' H', Inv X pins σ' H' s' ∧ tn i s'.heap ∧ (∀ b ∈ fp, H' b = none) ∧ W i n σ' H') ?_ m0 ⟨by omega, 0, σ, H2, I2, st2, fun b hb => (f2 b hb).1, w0⟩
  rintro n s3 ⟨h3, i, σ3, H3, I3, st3, fr3, w3⟩
  rcases turn i n σ3 H3 w3 with ⟨stop, qn⟩ | ⟨go, N, hN, step⟩
  · refine wpAny_passesOwn hp (thn (T.done X rfl rfl rfl hc i pins s3 σ3 H3 X.xe I3 (stat fr3) st3 stop) fun r s4 ⟨hr, I4⟩ => ?_)
    subst hr
    exact wpAny_execs_nil ⟨σ3, H3, I4, qn⟩
  · refine wpAny_passesOwn hp (wpAny_mono (PySem.wpAny_toks (T.item X rfl rfl rfl hc i pins s3 σ3 H3 X.xe I3 (stat fr3) st3 go)) (fun r s4 q4 => ?_) fun _ _ z => z.2)
    obtain ⟨k4, u, hr, h4⟩ := q4
    subst hr
    refine wpAny_passesOwn hp (wpAny_mono (PySem.wpAny_toks h4) (fun _ s5 q5 => ?_) fun _ _ z => z.2)
    obtain ⟨k5, x, H5, I5, r5, y5, st5, fr5⟩ := q5
    have I5' := I5.pinned (stat fr5) (T.obj _ _ st5)
    refine wpAny_passesOwn hp (wpAny_mono (PySem.wpAny_toks (hg.run _ s5 σ3 H5 x u _ I5' r5 (step x H5 y5))) (fun _ s6 q6 => ?_) fun _ _ z => z.2)
    obtain ⟨k6, σ6, H6, I6, q6⟩ := q6
    refine wpAny_passesOwn hp (wpAny_mono (PySem.wpAny_toks (hb _ s6 σ6 H6 _ (by omega) I6 q6)) (fun f s7 q7 => ?_) fun _ _ z => z.2)
    obtain ⟨k7, q7⟩ := q7
    have again : ∀ {σ7 : L2.St} {H7 : Hp}, Inv X (pins ++ pinsAt fp s5.heap) σ7 H7 s7 → N σ7 H7 → ∃ m, m < n ∧ 1 ≤ s7.toks ∧ ∃ i σ' H', Inv X pins σ' H' s7 ∧ tn i s7.heap ∧ (∀ b ∈ fp, H' b = none) ∧ W i m σ' H' := fun {σ7 H7} I7 n7 => by
      obtain ⟨m', hm, w7⟩ := hN σ7 H7 n7
      refine ⟨m', hm, by omega, i + 1, σ7, H7, I7.unpinned, T.keep _ _ _ st5 fun b hb o e => (I7.pin (b, o) (List.mem_append_right _ (List.mem_append_right _ (mem_pinsAt hb e)))).1, fun b hb => ?_, w7⟩
      obtain ⟨o, e, d⟩ := T.obj _ _ st5 b hb
      exact (I7.pin (b, o) (List.mem_append_right _ (List.mem_append_right _ (mem_pinsAt hb e)))).2.1
    cases f with
    | next => obtain ⟨σ7, H7, I7, n7⟩ := q7; exact again I7 n7
    | cont => obtain ⟨σ7, H7, I7, n7⟩ := q7; exact again I7 n7
    | brk => obtain ⟨σ7, H7, I7, q7⟩ := q7; exact ⟨σ7, H7, I7.unpinned, q7⟩
    | ret v => obtain ⟨x7, σ7, H7, I7, r7, q7⟩ := q7; exact ⟨x7, σ7, H7, I7.unpinned, r7, q7⟩
end
section
variable {K : PySem.W.Frag} {ρ : List Sl} {cs cs1 cs2 : Cs} {te ta tb : TE} {d e : PyData} {ds : List PyData}
theorem orT_K {X : Cx} {a b : Expr} {rest : List Expr} {pos : Pos} {ta tb : TE} (K : PySem.W.Frag) (ha : PE X a ta) (hb : PE X (.BoolOp .Or (b :: rest) pos) tb) (h : X.K = K := by rfl) : PE X (.BoolOp .Or (a :: b :: rest) pos) (tOrT K ta tb) := by
  subst h
  exact pe_orT ha hb
theorem ev_replC {x y z r : Str} (h : Ev K ta ρ cs (.dat (.str x)) cs1) (hl : x.length + (x.length + 1) * z.length ≤ 16777216) (hr : Txt.replace x y z = r) : Ev K (CwR.tReplC ta y z) ρ cs (.dat (.str r)) cs1 := fun G σ H ok Q q =>
  h G σ H ok _ fun v G1 H1 f1 ok1 e1 => ⟨x, e1, hl, by rw [hr]; exact q _ G1 H1 f1 ok1 rfl⟩
/-- None or e -/
theorem ev_orN (ha : Ev K ta ρ cs (.dat .none) cs1) (hb : Ev K tb ρ cs1 (.dat d) cs2) : Ev K (tOrT K ta tb) ρ cs (.dat d) cs2 := fun G σ H ok Q q =>
  ha G σ H ok _ fun v G1 H1 f1 ok1 e1 => by
    cases e1
    refine ⟨false, ?_, ?_⟩
    · exact rfl
    · show tb σ H1 Q
      exact hb G1 σ H1 ok1 Q fun v G2 H2 f2 ok2 e2 => q v G2 H2 (f1.trans f2) ok2 e2
/-- a list, or e -/
theorem ev_orL (ha : Ev K ta ρ cs (.dat (.list ds)) cs1) (hb : ds = [] → Ev K tb ρ cs1 (.dat (.list [])) cs1) : Ev K (tOrT K ta tb) ρ cs (.dat (.list ds)) cs1 := fun G σ H ok Q q =>
  ha G σ H ok _ fun v G1 H1 f1 ok1 e1 => by
    obtain ⟨p, vs, rfl, hp, dv⟩ := id e1
    refine ⟨!vs.isEmpty, ?_, ?_⟩
    · have hp' := ok1.ex _ _ hp
      exact .inl ⟨vs, .inl (.inl hp'), rfl⟩
    · cases hv : vs with
      | nil =>
        have hd : ds = [] := List.length_eq_zero_iff.mp (by rw [dv.len, hv]; rfl)
        subst hd
        show tb σ H1 Q
        exact hb rfl G1 σ H1 ok1 Q fun v G2 H2 f2 ok2 e2 => q v G2 H2 (f1.trans f2) ok2 e2
      | cons x r =>
        show Q (.ref p) H1
        exact q _ G1 H1 f1 ok1 e1
end
end LW

set_option Elab.async false
set_option linter.all false
set_option maxRecDepth 100000
namespace LW
open PySem PySem.Spec PyProof.Rows L2
/-! ### reach -/
def fullT (t : List Nat) : List Nat := t.map fun c => if c = 48 then 43 else c
theorem full_repl {w : Nat} (hw : w ≤ 5) {t : List Nat} (ht : t ∈ turnsM w) : Txt.replace (tS t) "0" "+" = tS (fullT t) := by
  have key : ∀ w ∈ [0, 1, 2, 3, 4, 5], ∀ t ∈ turnsM w, Txt.replace (tS t) "0" "+" = tS (fullT t) := by decide +kernel
  refine key w ?_ t ht
  have : w = 0 ∨ w = 1 ∨ w = 2 ∨ w = 3 ∨ w = 4 ∨ w = 5 := by omega
  rcases this with rfl | rfl | rfl | rfl | rfl | rfl <;> simp
theorem full_okT {s : Sg} {t : List Nat} (h : OkT s t) : OkT s (fullT t) := by
  refine ⟨by unfold fullT; rw [List.length_map]; exact h.len, fun c hc => ?_⟩
  unfold fullT at hc
  obtain ⟨d, hd, rfl⟩ := List.mem_map.mp hc
  have := h.ok d hd
  split <;> omega
theorem full_no (t : List Nat) (w : Nat) : stt (fullT t) w ≠ 48 := by
  unfold stt fullT
  rw [List.getD_eq_getElem?_getD, List.getElem?_map]
  cases t[w]? with
  | none => simp
  | some c =>
    show (if c = 48 then 43 else c) ≠ 48
    split <;> omega
/-- where no lamp leads to another, the reach does not matter -/
theorem lit_no {s : Sg} {t : List Nat} (h : ∀ a b, a < s.L.length → b < s.L.length → lk s t a b = false) (i : Nat) : Lit s t i ↔ i < s.L.length ∧ c1 s t i = true := by
  unfold Lit
  constructor
  · rintro (h' | ⟨_, a, b, ha, hb, h', _⟩ | ⟨_, a, b, c, ha, hb, hc, h', _⟩)
    · exact h'
    · unfold c2 at h'
      rw [h a b ha hb] at h'
      simp at h'
    · unfold c3 at h'
      rw [h a b ha hb] at h'
      simp at h'
  · exact .inl
theorem glow_ext {s s' : Sg} {t : List Nat} (h : ∀ i, Lit s t i ↔ Lit s' t i) : glowM s t = glowM s' t := by
  refine sorted_same (glowM_sorted s t) (glowM_sorted s' t) fun z => ?_
  rw [mem_glowM, mem_glowM]
  exact exists_congr fun i => and_congr Iff.rfl (h i)
theorem glow_no {s s' : Sg} {t : List Nat} (hL : s'.L = s.L) (h : ∀ a b, a < s.L.length → b < s.L.length → lk s t a b = false) : glowM s t = glowM s' t := by
  refine glow_ext fun i => ?_
  have h' : ∀ a b, a < s'.L.length → b < s'.L.length → lk s' t a b = false := fun a b ha hb => by
    have e : lk s' t a b = lk s t a b := by
      unfold lk sw fw
      rw [hL]
    rw [e]
    rw [hL] at ha hb
    exact h a b ha hb
  rw [lit_no h, lit_no h', hL]
  have e : c1 s' t i = c1 s t i := by
    unfold c1 hi lo sw fw
    rw [hL]
  rw [e]
theorem glow_full {s s' : Sg} (hL : s'.L = s.L) (t : List Nat) : glowM s (fullT t) = glowM s' (fullT t) := glow_no hL fun a b _ _ => by
  unfold lk
  rw [Bool.and_eq_false_iff]
  exact .inr (by rw [beq_eq_false_iff_ne]; exact full_no t _)
theorem glow_sub {s s' : Sg} (hL : s'.L = s.L) (hr : s.r ≤ s'.r) (t : List Nat) : ∀ x ∈ glowM s t, x ∈ glowM s' t := fun x hx => by
  obtain ⟨i, rfl, hi⟩ := mem_glowM.mp hx
  exact mem_glowM.mpr ⟨i, rfl, lit_mono hL hr hi⟩
theorem glows_ext {s s' : Sg} (hw : s'.w = s.w) (h : ∀ t, glowM s t = glowM s' t) : glowsM s = glowsM s' := by
  unfold glowsM
  rw [hw]
  refine foldl_congr' fun g t _ => ?_
  unfold addG
  rw [h t]
theorem diffs_ext {s s' : Sg} (hw : s'.w = s.w) (h : ∀ t, glowM s t = glowM s' t) : diffsM s s' = [] := by
  unfold diffsM
  rw [glows_ext hw h]
  refine List.filter_eq_nil_iff.mpr fun p _ => ?_
  rw [decide_eq_true rfl]
  decide
/-- a sign in two layers -/
def layS (m r : Nat) : Sg := ⟨4, (List.range m).map fun a => (a / 2, 2 + a % 2), r⟩
theorem lay_len (m r : Nat) : (layS m r).L.length = m := by
  unfold layS
  rw [List.length_map, List.length_range]
theorem lay_ok {m r : Nat} (h1 : 1 ≤ m) (h4 : m ≤ 4) (hr : 1 ≤ r) (hr3 : r ≤ 3) : OkS (layS m r) := by
  refine ⟨by show 2 ≤ 4; decide, by show 4 ≤ 5; decide, by rw [lay_len]; exact h1, by rw [lay_len]; omega, fun p hp => ?_, ?_, hr, hr3⟩
  · have hp : p ∈ (List.range m).map fun a => (a / 2, 2 + a % 2) := hp
    obtain ⟨a, ha, rfl⟩ := List.mem_map.mp hp
    have := List.mem_range.mp ha
    show a / 2 < 4 ∧ 2 + a % 2 < 4 ∧ a / 2 ≠ 2 + a % 2
    omega
  · show ((List.range m).map fun a => (a / 2, 2 + a % 2)).Nodup
    have : m = 1 ∨ m = 2 ∨ m = 3 ∨ m = 4 := by omega
    rcases this with rfl | rfl | rfl | rfl <;> decide
theorem lay_glow {m : Nat} (hm : m ≤ 4) (r r' : Nat) (t : List Nat) : glowM (layS m r) t = glowM (layS m r') t := glow_no rfl fun a b ha hb => by
  rw [lay_len] at ha hb
  unfold lk
  rw [Bool.and_eq_false_iff]
  refine .inl ?_
  rw [beq_eq_false_iff_ne]
  have e : ∀ k, k < m → (layS m r).L.getD k (0, 0) = (k / 2, 2 + k % 2) := fun k hk => by
    unfold layS
    rw [List.getD_eq_getElem?_getD, List.getElem?_map, List.getElem?_range hk]
    rfl
  unfold sw fw
  rw [e a ha, e b hb]
  show 2 + a % 2 ≠ b / 2
  omega
theorem lay_diffs {m : Nat} (hm : m ≤ 4) (r r' : Nat) : diffsM (layS m r) (layS m r') = [] := diffs_ext rfl fun t => lay_glow hm r r' t
end LW

set_option Elab.async false
set_option linter.all false
set_option maxRecDepth 100000
set_option maxHeartbeats 4000000
namespace LW
open PySem PySem.Spec PyProof.Rows L2
/-! ### fields -/
def putS (f : Str) (z : Sl) : List (Str × Sl) → List (Str × Sl)
  | [] => [(f, z)]
  | (g, x) :: r => if g = f then (g, z) :: r else (g, x) :: putS f z r
structure FsOk (G : Hp) (ws : List (Str × V)) (fs : List (Str × Sl)) : Prop where
  nm : ws.map (·.1) = fs.map (·.1)
  sl : SlVs G (ws.map (·.2)) (fs.map (·.2))
theorem FsOk.look {G : Hp} {f : Str} {z : Sl} : ∀ {ws : List (Str × V)} {fs : List (Str × Sl)}, FsOk G ws fs → fs.lookup f = some z → ∃ v, ws.lookup f = some v ∧ SlV G v z
  | [], [], _, h => by cases h
  | [], _ :: _, ⟨h, _⟩, _ => by cases h
  | _ :: _, [], ⟨h, _⟩, _ => by cases h
  | (g, v) :: ws, (g', y) :: fs, ⟨h1, h2⟩, h => by
    have e1 : g = g' := (List.cons.inj h1).1
    have e2 : ws.map (·.1) = fs.map (·.1) := (List.cons.inj h1).2
    subst e1
    rw [List.lookup_cons] at h ⊢
    cases hb : (f == g) with
    | true =>
      rw [hb] at h
      cases h
      exact ⟨v, rfl, h2.1⟩
    | false =>
      rw [hb] at h
      exact FsOk.look ⟨e2, h2.2⟩ h
theorem FsOk.none {G : Hp} {f : Str} : ∀ {ws : List (Str × V)} {fs : List (Str × Sl)}, FsOk G ws fs → fs.lookup f = none → ws.lookup f = none
  | [], [], _, h => rfl
  | [], _ :: _, ⟨h, _⟩, _ => by cases h
  | _ :: _, [], ⟨h, _⟩, _ => by cases h
  | (g, v) :: ws, (g', y) :: fs, ⟨h1, h2⟩, h => by
    have e1 : g = g' := (List.cons.inj h1).1
    have e2 : ws.map (·.1) = fs.map (·.1) := (List.cons.inj h1).2
    subst e1
    rw [List.lookup_cons] at h ⊢
    cases hb : (f == g) with
    | true =>
      rw [hb] at h
      cases h
    | false =>
      rw [hb] at h
      exact FsOk.none ⟨e2, h2.2⟩ h
theorem FsOk.put {G : Hp} {f : Str} {z : Sl} {y : V} (hy : SlV G y z) : ∀ {ws : List (Str × V)} {fs : List (Str × Sl)}, FsOk G ws fs → FsOk G (putF f y ws) (putS f z fs)
  | [], [], _ => ⟨rfl, hy, trivial⟩
  | [], _ :: _, ⟨h, _⟩ => by cases h
  | _ :: _, [], ⟨h, _⟩ => by cases h
  | (g, v) :: ws, (g', x) :: fs, ⟨h1, h2⟩ => by
    have e1 : g = g' := (List.cons.inj h1).1
    have e2 : ws.map (·.1) = fs.map (·.1) := (List.cons.inj h1).2
    subst e1
    unfold putF putS
    by_cases hg : g = f
    · rw [if_pos hg, if_pos hg]
      exact ⟨by rw [List.map_cons, List.map_cons, e2], hy, h2.2⟩
    · rw [if_neg hg, if_neg hg]
      have ih := FsOk.put (f := f) hy (ws := ws) (fs := fs) ⟨e2, h2.2⟩
      exact ⟨by rw [List.map_cons, List.map_cons, ih.nm], h2.1, ih.sl⟩
theorem putS_mem {f : Str} {z y : Sl} : ∀ {fs : List (Str × Sl)}, y ∈ (putS f z fs).map (·.2) → y = z ∨ y ∈ fs.map (·.2)
  | [], h => .inl (List.mem_singleton.mp h)
  | (g, x) :: r, h => by
    unfold putS at h
    split at h
    · rcases List.mem_cons.mp h with e | e
      · exact .inl e
      · exact .inr (List.mem_cons_of_mem _ e)
    · rcases List.mem_cons.mp h with e | e
      · exact .inr (by rw [e]; exact List.mem_cons_self)
      · rcases putS_mem e with e | e
        · exact .inl e
        · exact .inr (List.mem_cons_of_mem _ e)
section
variable {K : PySem.W.Frag} {ρ : List Sl} {cs cs1 cs2 : Cs} {te ta tb tv : TE} {tr : TA} {u : TS} {z z1 z2 : Sl} {zs : List Sl} {P : Po} {p C dx : Addr} {fs : List (Str × Sl)} {f m : Str} {c : Ce} {E : XK}
theorem CsOk.ins {G H : Hp} (ok : CsOk K G H cs) {k : Nat} (hk : cs[k]? = some (p, .ins C dx fs)) : ∃ ws, H p = some (.ins C dx ws) ∧ FsOk G ws fs ∧ (∀ ks, Sl.fd ks ∉ fs.map (·.2)) ∧ ∀ ks, Sl.fl ks ∉ fs.map (·.2) := by
  obtain ⟨_, _, ws, h1, h2, h3, h4⟩ := ok.is _ (List.mem_of_getElem? hk)
  exact ⟨ws, h1, ⟨h2, h3⟩, h4⟩
theorem fld_K {X : Cx} {e : Expr} {pos : Pos} (K : PySem.W.Frag) (he : PE X e ta) (hb : attributeBase e f X.env (eval e X.env) = eval e X.env) (h : X.K = K := by rfl) : PE X (.Attribute e f pos) (tFld K ta f) := by
  subst h
  exact pe_fld he hb
/-- o.f -/
theorem ev_fld (k : Nat) (h : Ev K ta ρ cs (.raw (.ref p)) cs1) (hk : cs1[k]? = some (p, .ins C dx fs)) (hc : Cls K C) (hn : NoAttr K C f) (hf : fs.lookup f = some z) : Ev K (tFld K ta f) ρ cs z cs1 := fun G σ H ok Q q =>
  h G σ H ok _ fun v G1 H1 f1 ok1 e1 => by
    cases e1
    obtain ⟨ws, h1, h2, _⟩ := ok1.ce.ins hk
    obtain ⟨v, hv, hz⟩ := h2.look hf
    exact ⟨p, C, dx, ws, v, rfl, h1, hc, hn, hv, q v G1 H1 f1 ok1 hz⟩
theorem ins_put {G H : Hp} {ws : List (Str × V)} {y : V} (hF : FsOk G ws fs) (hn : (∀ ks, Sl.fd ks ∉ fs.map (·.2)) ∧ ∀ ks, Sl.fl ks ∉ fs.map (·.2)) (hy : SlV G y z) (hz : (∀ ks, z ≠ .fd ks) ∧ ∀ ks, z ≠ .fl ks) : CellIs K G (upd H p (.ins C dx (putF f y ws))) p (.ins C dx (putS f z fs)) := by
  have hP := hF.put (f := f) hy
  refine ⟨_, upd_same, hP.nm, hP.sl, fun ks hm => ?_, fun ks hm => ?_⟩
  · rcases putS_mem hm with e | e
    · exact hz.1 ks e.symm
    · exact hn.1 ks e
  · rcases putS_mem hm with e | e
    · exact hz.2 ks e.symm
    · exact hn.2 ks e
/-- o.f = e -/
theorem run_fld (k : Nat) (hv : Ev K tv ρ cs z cs1) (hz : (∀ ks, z ≠ .fd ks) ∧ ∀ ks, z ≠ .fl ks) (ho : Ev K ta ρ cs1 (.raw (.ref p)) cs1) (hk : cs1[k]? = some (p, .ins C dx fs)) (hc : Cls K C) (hn : NoAttr K C f) (hl : fs.length < 100) (h' : Run K u ρ (cs1.set k (p, .ins C dx (putS f z fs))) P) :
    Run K (tSeq (sFld K ta tv f) u) ρ cs P := fun G σ H D ok n r bk ct =>
  hv G σ H ok _ fun y G1 H1 f1 ok1 e1 => ho G1 σ H1 ok1 _ fun x G2 H2 f2 ok2 e2 => by
    cases e2
    obtain ⟨ws, h1, h2, h3⟩ := ok2.ce.ins hk
    have hwl : ws.length < 1000 := by
      have := congrArg List.length h2.nm
      rw [List.length_map, List.length_map] at this
      omega
    obtain ⟨f3, ok3⟩ := ok2.put (o := .ins C dx (putF f y ws)) (c' := .ins C dx (putS f z fs)) hk (ins_put h2 h3 (e1.mono f2.g) hz)
    have fr := (f1.trans f2).trans f3
    exact ⟨p, C, dx, ws, rfl, h1, hc, hn, hwl, h' G2 σ _ D ok3 (n.after fr) (r.after fr) (bk.after fr) (ct.after fr)⟩
/-- o.f = [..], a new object -/
theorem run_fldN1 (k : Nat) (hv : EvN K tv ρ cs c cs1) (ho : ∀ q, Ev K ta ρ ((q, c) :: cs1) (.raw (.ref p)) ((q, c) :: cs1)) (hk : cs1[k]? = some (p, .ins C dx fs)) (hc : Cls K C) (hn : NoAttr K C f) (hl : fs.length < 100) (h' : ∀ q, P.nx ρ ((q, c) :: cs1.set k (p, .ins C dx (putS f (.raw (.ref q)) fs)))) :
    Run K (sFld K ta tv f) ρ cs P := fun G σ H D ok n r bk ct =>
  hv G σ H ok _ fun q G1 H1 hq f1 ok1 => ho q G1 σ H1 ok1 _ fun x G2 H2 f2 ok2 e2 => by
    cases e2
    obtain ⟨ws, h1, h2, h3⟩ := ok2.ce.ins (k := k + 1) (by rw [List.getElem?_cons_succ]; exact hk)
    have hwl : ws.length < 1000 := by
      have := congrArg List.length h2.nm
      rw [List.length_map, List.length_map] at this
      omega
    obtain ⟨f3, ok3⟩ := ok2.put (k := k + 1) (o := .ins C dx (putF f (.ref q) ws)) (c' := .ins C dx (putS f (.raw (.ref q)) fs)) (by rw [List.getElem?_cons_succ]; exact hk) (ins_put h2 h3 (z := .raw (.ref q)) rfl ⟨fun _ z => (nomatch z), fun _ z => (nomatch z)⟩)
    have fr := (f1.trans f2).trans f3
    rw [List.set_cons_succ] at fr ok3
    exact ⟨p, C, dx, ws, rfl, h1, hc, hn, hwl, n _ _ G2 σ _ (h' q) fr ok3⟩
/-- the cells in the middle are the callee's -/
theorem mid_back {G H G' H' : Hp} {pre mid mid' post : Cs} (ok : CsOk K G H (pre ++ (mid ++ post))) (f : Fr G H mid G' H' mid') (ok' : CsOk K G' H' mid') (hm : mid'.map (·.1) = mid.map (·.1)) : Fr G H (pre ++ (mid ++ post)) G' H' (pre ++ (mid' ++ post)) ∧ CsOk K G' H' (pre ++ (mid' ++ post)) := by
  have hnm : (pre ++ (mid' ++ post)).map (·.1) = (pre ++ (mid ++ post)).map (·.1) := by
    rw [List.map_append, List.map_append, List.map_append, List.map_append, hm]
  have hkeep : ∀ x, x ∈ pre ∨ x ∈ post → x.1 ∉ mid.map (·.1) := fun x hx hin => by
    have nd := ok.nd
    rw [List.map_append, List.map_append] at nd
    obtain ⟨_, n2, n3⟩ := List.nodup_append.mp nd
    obtain ⟨_, _, n4⟩ := List.nodup_append.mp n2
    rcases hx with hx | hx
    · exact n3 x.1 (List.mem_map.mpr ⟨x, hx, rfl⟩) x.1 (List.mem_append_left _ hin) rfl
    · exact n4 x.1 hin x.1 (List.mem_map.mpr ⟨x, hx, rfl⟩) rfl
  refine ⟨⟨f.g, fun a o h hn => f.keep a o h fun z => hn ?_, f.grow, fun a h => .inl (by rw [hnm] at h; exact h)⟩, by rw [hnm]; exact ok.nd, fun x hx => ?_⟩
  · rw [List.map_append, List.map_append]
    exact List.mem_append_right _ (List.mem_append_left _ z)
  · have other : x ∈ pre ∨ x ∈ post → G' x.1 = none ∧ (∃ o, H' x.1 = some o) ∧ CellIs K G' H' x.1 x.2 := fun hx' => by
      have hxc : x ∈ pre ++ (mid ++ post) := by
        rcases hx' with h | h
        · exact List.mem_append_left _ h
        · exact List.mem_append_right _ (List.mem_append_right _ h)
      obtain ⟨h1, ⟨o, h2⟩, h3⟩ := ok.is x hxc
      obtain ⟨k1, k2⟩ := f.keep _ _ h2 (hkeep x hx')
      exact ⟨k2.cell h2 h3 h1, ⟨o, k1⟩, h3.mono f.g (k1.trans h2.symm)⟩
    rcases List.mem_append.mp hx with h | h
    · exact other (.inl h)
    · rcases List.mem_append.mp h with h | h
      · exact ok'.is x h
      · exact other (.inr h)
/-- o.m(..) that changes the cells in the middle and gives data -/
theorem ev_meth {R : List Sl → Cs → Sl → Cs → Prop} (k : Nat) {pre mid mid' post : Cs} (ho : Ev K ta ρ cs (.raw (.ref p)) cs1) (hk : cs1[k]? = some (p, .ins C dx fs)) (hm : fs.lookup m = none) (hr : EvA K tr ρ cs1 zs (pre ++ (mid ++ post))) (hmid : mid'.map (·.1) = mid.map (·.1)) (hR : R (.raw (.ref p) :: zs) mid z mid') :
    Ev K (tMeth C m (SpG K R) [] E ta tr) ρ cs z (pre ++ (mid' ++ post)) := fun G σ H ok Q q =>
  ho G σ H ok _ fun v G1 H1 f1 ok1 e1 => by
    cases e1
    obtain ⟨ws, h1, h2, _⟩ := ok1.ce.ins hk
    refine ⟨p, dx, ws, rfl, h1, h2.none hm, hr G1 σ H1 ok1 _ fun vs G2 H2 f2 ok2 e2 => ?_⟩
    have okm : CsOk K G2 H2 mid := ok2.ce.sub ((List.sublist_append_left mid post).trans (List.sublist_append_right pre _))
    refine ⟨G2, .raw (.ref p) :: zs, mid, z, mid', ok2.ex, ⟨rfl, by rw [List.append_nil]; exact e2⟩, okm, hR, fun v G3 H3 f3 ex3 ok3 hv => ?_⟩
    obtain ⟨f4, ok4⟩ := mid_back ok2.ce f3 ok3 hmid
    exact q v G3 H3 ((f1.trans f2).trans f4) ⟨ex3, ok2.sl.mono f3.g, ok4⟩ hv
/-- .. and gives a new object -/
theorem evn_meth {R : List Sl → Cs → Ce → Cs → Prop} (k : Nat) {pre mid mid' post : Cs} (ho : Ev K ta ρ cs (.raw (.ref p)) cs1) (hk : cs1[k]? = some (p, .ins C dx fs)) (hm : fs.lookup m = none) (hr : EvA K tr ρ cs1 zs (pre ++ (mid ++ post))) (hmid : mid'.map (·.1) = mid.map (·.1)) (hR : R (.raw (.ref p) :: zs) mid c mid') :
    EvN K (tMeth C m (SpN K R) [] E ta tr) ρ cs c (pre ++ (mid' ++ post)) := fun G σ H ok Q q =>
  ho G σ H ok _ fun v G1 H1 f1 ok1 e1 => by
    cases e1
    obtain ⟨ws, h1, h2, _⟩ := ok1.ce.ins hk
    refine ⟨p, dx, ws, rfl, h1, h2.none hm, hr G1 σ H1 ok1 _ fun vs G2 H2 f2 ok2 e2 => ?_⟩
    have okm : CsOk K G2 H2 mid := ok2.ce.sub ((List.sublist_append_left mid post).trans (List.sublist_append_right pre _))
    refine ⟨G2, .raw (.ref p) :: zs, mid, c, mid', ok2.ex, ⟨rfl, by rw [List.append_nil]; exact e2⟩, okm, hR, fun q' G3 H3 hq' f3 ex3 ok3 => ?_⟩
    obtain ⟨f4, ok4⟩ := mid_back ok2.ce (f3.sub (List.sublist_cons_self _ _)) (ok3.sub (List.sublist_cons_self _ _)) hmid
    have hqc : q' ∉ (pre ++ (mid' ++ post)).map (·.1) := fun hin => by
      have hnm : (pre ++ (mid' ++ post)).map (·.1) = (pre ++ (mid ++ post)).map (·.1) := by
        rw [List.map_append, List.map_append, List.map_append, List.map_append, hmid]
      rw [hnm] at hin
      obtain ⟨y, hy, e⟩ := List.mem_map.mp hin
      obtain ⟨_, ⟨o, g2⟩, _⟩ := ok2.ce.is y hy
      have e' : y.1 = q' := e
      rw [e', hq'] at g2
      cases g2
    refine q q' G3 H3 ((f1.trans f2).fresh hq') ((f1.trans f2).trans ⟨f4.g, f4.keep, f4.grow, fun a ha => ?_⟩) ⟨ex3, ok2.sl.mono f3.g, ?_, fun x hx => ?_⟩
    · rw [List.map_cons] at ha
      rcases List.mem_cons.mp ha with y | y
      · exact .inr (by rw [y]; exact hq')
      · exact f4.new a y
    · rw [List.map_cons]
      exact List.nodup_cons.mpr ⟨hqc, ok4.nd⟩
    · rcases List.mem_cons.mp hx with y | y
      · subst y
        exact ok3.is _ List.mem_cons_self
      · exact ok4.is x y
end
end LW

set_option Elab.async false
set_option linter.all false
set_option maxRecDepth 100000
set_option maxHeartbeats 4000000
namespace LW
open PySem PySem.Spec PyProof.Rows L2
section
variable {K : PySem.W.Frag} {ρ : List Sl} {cs cs1 cs2 : Cs} {te ta tb tv : TE} {tr : TA} {u : TS} {z : Sl} {zs : List Sl} {P : Po} {p : Addr} {ds : List PyData}
/-- a walk over a list that stands in a cell: the body leaves it as it is -/
theorem run_forC {g : TG} {tb : TS} (Inv : Nat → List Sl → Cs → Prop) (hi : Ev K te ρ cs (.raw (.ref p)) cs1) (hp : ∀ i ρ' c, Inv i ρ' c → (p, Ce.lst ds) ∈ c) (h0 : Inv 0 ρ cs1)
    (hs : ∀ (i : Nat) (d : PyData) (ρ' : List Sl) (c : Cs), ds[i]? = some d → Inv i ρ' c → ∃ as, Tg g d as ∧ Run K tb (setsR ρ' as) c { nx := Inv (i + 1), rt := P.rt, bk := P.nx, ct := Inv (i + 1) })
    (hd : ∀ ρ' c, Inv ds.length ρ' c → P.nx ρ' c) : Run K (tFor (iM K te) g tb) ρ cs P := fun G σ H D ok n r bk ct => by
  refine .inl (hi G σ H ok _ fun v G1 H1 f1 ok1 e1 => ?_)
  cases e1
  obtain ⟨_, _, vs1, hv1, dv1⟩ := ok1.ce.is _ (hp 0 _ _ h0)
  refine ⟨p, rfl, ⟨vs1, .inl (.inl hv1)⟩, ?_⟩
  let W : Nat → Nat → L2.St → Hp → Prop := fun i m σx Hx => i + m = ds.length ∧ ∃ ρx c Gx, Inv i ρx c ∧ Fr G1 H1 cs1 Gx Hx c ∧ Ok K Gx σx Hx ρx c
  refine ⟨W, ⟨ds.length, by omega, ρ, cs1, G1, h0, .refl, ok1⟩, ?_⟩
  rintro i m σx Hx ⟨em, ρx, c, Gx, hin, fx, okx⟩
  obtain ⟨_, _, vs, hv, dv⟩ := okx.ce.is _ (hp i _ _ hin)
  have hv : Hx p = some (.lst vs) := hv
  have hl := dv.len
  by_cases hlt : i < ds.length
  · obtain ⟨d, hd'⟩ : ∃ d, ds[i]? = some d := ⟨_, List.getElem?_eq_getElem hlt⟩
    obtain ⟨as, tg, hb⟩ := hs i d ρx c hd' hin
    refine .inr ⟨⟨vs, vs[i]'(by omega), .inl (.inl hv), List.getElem?_eq_getElem (by omega)⟩, fun σ' H' => W (i + 1) (m - 1) σ' H', fun σ' H' h => ⟨m - 1, by omega, h⟩, fun x H' y => ?_⟩
    obtain ⟨rfl, hx⟩ := y
    obtain ⟨w, hw, dw⟩ := dv.get hd'
    have e : some w = some x := hw.symm.trans (hx vs (.inl (.inl hv)))
    cases e
    refine tg Gx x _ σx dw okx.ex _ fun ws hws => ?_
    have f4 := f1.trans fx
    have again : Goes K Gx H' c (Inv (i + 1)) (fun σ' H' => W (i + 1) (m - 1) σ' H') := fun ρ5 c5 G5 σ5 H5 a f5 ok5 => ⟨by omega, ρ5, c5, G5, a, fx.trans f5, ok5⟩
    exact hb Gx _ H' { D with nx := fun σ' H' => W (i + 1) (m - 1) σ' H', ct := fun σ' H' => W (i + 1) (m - 1) σ' H', bk := D.nx } ⟨okx.ex, okx.sl.sets hws, okx.ce⟩ again (r.after f4) (n.after f4) again
  · have ei : i = ds.length := by omega
    subst ei
    exact .inl ⟨⟨vs, .inl (.inl hv), by omega⟩, n ρx c Gx σx Hx (hd ρx c hin) (f1.trans fx) okx⟩
/-- [f(x) for x in a list that stands in a cell] -/
theorem evn_mapC {α : Type} {g : TG} {vs : List Nat} {xs : List α} {enc : α → PyData} (f : α → PyData) (hi : Ev K te ρ cs (.raw (.ref p)) cs1) (hp : (p, Ce.lst (xs.map enc)) ∈ cs1) (hl : xs.length ≤ 100000)
    (hs : ∀ x ∈ xs, ∃ as, Tg g (enc x) as ∧ (∀ a ∈ as.map (·.1), a ∈ vs) ∧ Ev K tb (setsR (wipeR ρ vs) as) cs1 (.dat (f x)) cs1) : EvN K (tLc (iM K te) g tYes tb vs) ρ cs (.lst (xs.map f)) cs1 := fun G σ H ok Q q => by
  refine .inl (hi G σ H ok _ fun v G1 H1 f1 ok1 e1 => ?_)
  cases e1
  obtain ⟨_, _, vs1, hv1, dv1⟩ := ok1.ce.is _ hp
  refine ⟨p, rfl, ⟨vs1, .inl (.inl hv1)⟩, ?_⟩
  intro D hD
  let W : Nat → Nat → Hp → Prop := fun i m Hx => i + m = xs.length ∧ ∃ Gx, Fr G1 H1 cs1 Gx Hx ((D, .lst ((xs.take i).map f)) :: cs1) ∧ Ok K Gx σ Hx ρ ((D, .lst ((xs.take i).map f)) :: cs1)
  have hW0 : W 0 xs.length (upd H1 D (.lst [])) := by
    obtain ⟨f2, ok2⟩ := ok1.newL (ds := []) (vs := []) hD rfl
    exact ⟨by omega, G1, f2, ok2⟩
  refine ⟨W, ⟨xs.length, hW0⟩, ?_⟩
  rintro i m Hx ⟨em, Gx, fx, okx⟩
  obtain ⟨_, _, ws, hv, dv⟩ := okx.ce.is _ (List.mem_cons_of_mem _ hp)
  have hv : Hx p = some (.lst ws) := hv
  have hl' := dv.len
  rw [List.length_map] at hl'
  by_cases hlt : i < xs.length
  · have hd' : (xs.map enc)[i]? = some (enc xs[i]) := by rw [List.getElem?_map, List.getElem?_eq_getElem hlt]; rfl
    obtain ⟨as, tg, has, hb⟩ := hs xs[i] (List.getElem_mem hlt)
    refine .inr ⟨⟨ws, ws[i]'(by omega), .inl (.inl hv), List.getElem?_eq_getElem (by omega)⟩, fun H' => W (i + 1) (m - 1) H', fun H' h => ⟨m - 1, by omega, h⟩, fun x H' y => ?_⟩
    obtain ⟨rfl, hx⟩ := y
    obtain ⟨w, hw, dw⟩ := dv.get hd'
    have e : some w = some x := hw.symm.trans (hx ws (.inl (.inl hv)))
    cases e
    refine tg Gx x _ (wipe σ vs) dw okx.ex _ fun ws' hws => ⟨by rw [wipe_sets has, wipe_wipe], ?_⟩
    have ok4 : Ok K Gx (sets (wipe σ vs) (as.map (·.1)) ws') H' (setsR (wipeR ρ vs) as) ((D, .lst ((xs.take i).map f)) :: cs1) := ⟨okx.ex, (okx.sl.wipe vs).sets hws, okx.ce⟩
    show tb _ H' _
    refine (Ev.frame (x := (D, .lst ((xs.take i).map f))) hb) Gx _ H' ok4 _ fun y G6 H6 f6 ok6 e6 => ?_
    obtain ⟨vs6, hv6, dv6⟩ := ok6.ce.lst (k := 0) rfl
    have h6l := dv6.len
    rw [List.length_map, List.length_take] at h6l
    refine ⟨vs6, hv6, Nat.lt_of_lt_of_le (show vs6.length < 100000 by omega) (by decide), ?_⟩
    have et : (xs.take (i + 1)).map f = (xs.take i).map f ++ [f xs[i]] := by
      rw [List.take_add_one, List.getElem?_eq_getElem hlt, List.map_append]
      rfl
    obtain ⟨f7, ok7⟩ := ok6.put (k := 0) (o := .lst (vs6 ++ [y])) (c' := .lst ((xs.take (i + 1)).map f)) rfl ⟨_, upd_same, by rw [et]; exact dv6.append (.one e6)⟩
    exact ⟨by omega, G6, (fx.trans f6).trans f7, ok7.ex, okx.sl.mono f6.g, ok7.ce⟩
  · have ei : i = xs.length := by omega
    subst ei
    rw [List.take_length] at fx okx
    exact .inl ⟨⟨ws, .inl (.inl hv), by omega⟩, q D Gx Hx (f1.fresh hD) (f1.trans fx) okx⟩
end
/-! ### len(o) by an own __len__ -/
section
variable {prog : Program} {w : World} {A : Around} {E : Value → Shared → Prop} {s : Shared} {K : PySem.W.Frag} {x C f : Addr} {ox : Obj} {odd : Option Obj}
theorem len_own {Q : Value → Shared → Prop} (X : K.In s.heap) (I : PySem.W.InstAt s.heap x ox C odd) (hs : PySem.W.findIn K (.ref C) "__len__" = some (some (.ref f))) (hf : PySem.W.isFn K (.ref f) = true)
    (h : wpAny (model prog w) A.in1 (call (.ref f) [.ref x]) (fun r s₁ => ∃ n u, r = Value.int n u ∧ 0 ≤ n ∧ n < 2 ^ 62 ∧ ∀ t k, Q (.int n t) { s₁ with toks := k }) E s) : wpAny (model prog w) A (call (.builtin "len") [.ref x]) Q E s := by
  refine Calls.call_function_entry kind_len plain_len entry_len (args_len1 _) ?_
  unfold Builtin.«len»
  refine wpAny_bind (m := oneArg "len" _) (wpAny_pure ?_)
  refine wpAny_bind (m := callSpecial? (.ref x) (PySem.Str.ofString "__len__")) (PySem.W.special_fn X I hs (beq_iff_eq.mp hf) (wpAny_mono h (fun r s' hr => ?_) fun _ _ y => y))
  obtain ⟨n, u, rfl, h0, h1, hq⟩ := hr
  refine wpAny_bind (wpAny_holding (wpAny_pure ?_))
  refine wpAny_bind (wpAny_letGo ?_)
  show wpAny _ _ (if n < 0 then _ else _) _ _ _
  rw [if_neg (by omega)]
  show wpAny _ _ (if n ≥ 2 ^ 63 then _ else _) _ _ _
  rw [if_neg (by omega)]
  exact wpAny_bind (wpAny_mkInt (wpAny_pure ⟨_, rfl, hq _ _⟩))
end
def rLenOwn (C : Addr) (sp : Sp) : List V → Hp → VK → Prop := fun xs H Q => ∃ a dx fs, xs = [V.ref a] ∧ H a = some (.ins C dx fs) ∧ sp [.ref a] H (fun z H' => ∃ n, z = .int n ∧ 0 ≤ n ∧ n < 2 ^ 62 ∧ Q z H') E0
theorem call_lenOwn {X : Cx} {C f : Addr} {fd : FuncData} {ps : List Str} {sp : Sp} {k : Nat} (hs : PySem.W.findIn X.K (.ref C) "__len__" = some (some (.ref f))) (hf : PySem.W.isFn X.K (.ref f) = true) (F : FnOk X.prog X.w X.K X.mg X.base CX0 k f fd ps sp) (hb : Binds X.K fd ps []) (hr : Room (k + 1) X.A) : CallR X (.builtin "len") (rLenOwn C sp) := by
  intro pins s σ H xs us Q I r h
  obtain ⟨a, dx, fs, rfl, ha, q⟩ := h
  obtain ⟨u, rfl, ru⟩ := r.one
  cases (show u = Value.ref a from ru)
  obtain ⟨mA, O, _⟩ := ins_get I.hok ha
  obtain ⟨od, ho, _⟩ := lookIn_ns O.ns
  have J : PySem.W.InstAt s.heap a (PySem.W.instObj C dx) C (some od) := ⟨O.obj, rfl, rfl, ho⟩
  have hl : [Value.ref a].length = ps.length := F.len _ _ _ _ q
  refine len_own I.kIn J hs hf (wpAny_call (codeAny_mono (F.run X.A.in1 X.stack s H ⟨[.ref a], []⟩ [.ref a] [.ref a] _ E0 (Room.in1 hr) I.env0.in1 (by have := hb s [.ref a] I.kIn hl; rw [List.append_nil] at this; exact this) (.cons rfl .nil) q) fun r s' hq => ?_))
  cases r with
  | error e => exact (pass0 (X := X)) pins σ H s e s' I hq
  | ok fl =>
    cases fl with
    | ret u =>
      obtain ⟨z', H', I', rz, n, en, h0, h1, qz⟩ := I.after hq
      subst en
      obtain ⟨t, e⟩ := (show ∃ t, u = Value.int n t from rz)
      cases e
      exact ⟨n, t, rfl, h0, h1, fun t' k' => ⟨.int n, H', I'.tok k', ⟨t', rfl⟩, qz⟩⟩
    | next => exact False.elim hq
    | brk => exact False.elim hq
    | cont => exact False.elim hq
end LW

set_option Elab.async false
set_option linter.all false
set_option maxRecDepth 100000
set_option maxHeartbeats 4000000
namespace LW
open PySem PySem.Spec PyProof.Rows L2
/-! ### methods -/
structure MDef (K : PySem.W.Frag) (C : Addr) (m qual : Str) (st : Stmt) (ps : List Str) : Prop where
  ex : ∃ (f : Addr) (fd : FuncData), Meth K C m f ∧ Fun K m qual st f fd ∧ Binds K fd ps []
structure MCal (P : Program) (w : World) (K : PySem.W.Frag) (mg : Str → Option Value) (base : Heap) (k : Nat) (C : Addr) (m : Str) (ps : List Str) (sp : Sp) : Prop where
  ex : ∃ (f : Addr) (fd : FuncData), Meth K C m f ∧ Binds K fd ps [] ∧ FnOk P w K mg base CX0 k f fd ps sp
section
variable {P : Program} {w : World} {K : PySem.W.Frag} {mg : Str → Option Value} {base : Heap} {x m qual : Str} {st : Stmt} {ps N : List Str} {k : Nat} {C : Addr}
theorem MDef.cal {R : List Sl → Cs → Sl → Cs → Prop} (D : MDef K C m qual st ps) (S : FnScope N ps (defScope st)) (hlen : ∀ args cs z cs', R args cs z cs' → args.length = ps.length)
    (hbody : ∀ (cdv : Value) (A : Around) (outer : List Env) (s : Shared) (H : Hp) (E : XK) (f : Addr), Room k (A.deeper (envOfC qual (defScope st) s.heap.objs.size f cdv)) →
      ∃ t, PSs (cxOf CX0 P w K mg base N qual (defScope st) f cdv A outer s H E).nox (defBody st) t ∧
        ∀ args cs z cs', R args cs z cs' → Run K t (startR N args) cs { nx := fun _ c => z = .dat .none ∧ List.Sublist cs' c, rt := fun y c => y = z ∧ List.Sublist cs' c }) :
    MCal P w K mg base (k + 1) C m ps (SpG K R) := by
  obtain ⟨f, fd, hm, F, B⟩ := D.ex
  refine ⟨f, fd, hm, B, F.ok S (fun vs H Q E h => ?_) (fun cdv A outer s H vs Q E hr h => ?_)⟩
  · obtain ⟨G, args, cs, z, cs', _, h1, _, h2, _⟩ := h
    rw [h1.len]
    exact hlen _ _ _ _ h2
  · obtain ⟨t, ht, hrun⟩ := hbody cdv A outer s H E f hr
    refine ⟨t, ht, ?_⟩
    obtain ⟨G, args, cs, z, cs', ex, h1, h2, hR, q⟩ := h
    refine hrun args cs z cs' hR G _ H _ ⟨ex, .start h1, h2⟩ (fun ρ' c' G' σ' H' ⟨e, sb⟩ f' ok' => ?_) (fun z' v c' G' H' ⟨e, sb⟩ f' ex' ok' hv => ?_) (fun _ _ _ _ _ h => h.elim) (fun _ _ _ _ _ h => h.elim)
    · subst e
      exact q _ G' H' (f'.sub sb) ok'.ex (ok'.ce.sub sb) rfl
    · subst e
      exact q _ G' H' (f'.sub sb) ex' (ok'.sub sb) hv
theorem MDef.calN {R : List Sl → Cs → Ce → Cs → Prop} (D : MDef K C m qual st ps) (S : FnScope N ps (defScope st)) (hlen : ∀ args cs z cs', R args cs z cs' → args.length = ps.length) (hcs : ∀ args cs z cs', R args cs z cs' → cs'.map (·.1) = cs.map (·.1))
    (hbody : ∀ (cdv : Value) (A : Around) (outer : List Env) (s : Shared) (H : Hp) (E : XK) (f : Addr), Room k (A.deeper (envOfC qual (defScope st) s.heap.objs.size f cdv)) →
      ∃ t, PSs (cxOf CX0 P w K mg base N qual (defScope st) f cdv A outer s H E).nox (defBody st) t ∧
        ∀ args cs c cs', R args cs c cs' → Run K t (startR N args) cs { nx := fun _ _ => False, rt := fun y c1 => ∃ p, y = .raw (.ref p) ∧ List.Sublist ((p, c) :: cs') c1 }) :
    MCal P w K mg base (k + 1) C m ps (SpN K R) := by
  obtain ⟨f, fd, hm, F, B⟩ := D.ex
  refine ⟨f, fd, hm, B, F.ok S (fun vs H Q E h => ?_) (fun cdv A outer s H vs Q E hr h => ?_)⟩
  · obtain ⟨G, args, cs, z, cs', _, h1, _, h2, _⟩ := h
    rw [h1.len]
    exact hlen _ _ _ _ h2
  · obtain ⟨t, ht, hrun⟩ := hbody cdv A outer s H E f hr
    refine ⟨t, ht, ?_⟩
    obtain ⟨G, args, cs, c, cs', ex, h1, h2, hR, q⟩ := h
    refine hrun args cs c cs' hR G _ H _ ⟨ex, .start h1, h2⟩ (fun ρ' c' G' σ' H' h f' ok' => h.elim) (fun z' v c' G' H' ⟨p, e, sb⟩ f' ex' ok' hv => ?_) (fun _ _ _ _ _ h => h.elim) (fun _ _ _ _ _ h => h.elim)
    subst e
    cases hv
    have f2 := f'.sub sb
    have ok2 := ok'.sub sb
    refine q p G' H' ?_ f2 ex' ok2
    rcases f2.new p (by rw [List.map_cons]; exact List.mem_cons_self) with z | z
    · have nd := ok2.nd
      rw [List.map_cons, hcs _ _ _ _ hR] at nd
      exact absurd z (List.nodup_cons.mp nd).1
    · exact z
variable {X : Cx} {sp : Sp} {o e : Expr} {es : List Expr} {p pos apos : Pos} {ta : TE} {t : TA} {j : Nat}
theorem pe_mcal {pl : Sem Bool} (he : PE X o ta) (c : Cls X.K C) (M : MCal X.prog X.w X.K X.mg X.base k C m ps sp) (hr : Room j X.A) (hj : k ≤ j) (ha : PA X (e :: es) t)
    (hst : starEach (e :: es) X.env = (false, eval e X.env) :: starEach es X.env := by rfl) (hpl : (backTo pos (starEach es X.env)).any (·.1) = false := by rfl)
    (ht : eval (.Call (.Attribute o m apos) (e :: es) [] pos) X.env = (do
      let ov ← eval o X.env
      standAt apos.atName
      let (f, first) ← holding [ov] (getMethod ov m pl)
      callWith pos f first (backTo pos (starEach (e :: es) X.env)) (backToKw pos (keywordEach [] X.env))) := by rfl) :
    PE X (.Call (.Attribute o m apos) (e :: es) [] pos) (tMeth C m sp [] E0 ta t) := by
  obtain ⟨f, fd, hm, hb, F⟩ := M.ex
  exact pe_meth he c hm F (hr.mono hj) hb .nil pass0 ha hst hpl ht
theorem pe_mcal0 {pl : Sem Bool} (he : PE X o ta) (c : Cls X.K C) (M : MCal X.prog X.w X.K X.mg X.base k C m ps sp) (hr : Room j X.A) (hj : k ≤ j)
    (ht : eval (.Call (.Attribute o m apos) [] [] pos) X.env = (do
      let ov ← eval o X.env
      standAt apos.atName
      let (f, first) ← holding [ov] (getMethod ov m pl)
      callWith pos f first (backTo pos (starEach [] X.env)) (backToKw pos (keywordEach [] X.env))) := by rfl) :
    PE X (.Call (.Attribute o m apos) [] [] pos) (tMeth C m sp [] E0 ta tNil) := by
  obtain ⟨f, fd, hm, hb, F⟩ := M.ex
  exact pe_meth0 he c hm F (hr.mono hj) hb .nil pass0 ht
theorem lenO_K (M : MCal X.prog X.w X.K X.mg X.base k C "__len__" ps sp) (hr : Room j X.A) (hj : k + 1 ≤ j) : CallR X (.builtin "len") (rLenOwn C sp) := by
  obtain ⟨f, fd, hm, hb, F⟩ := M.ex
  exact call_lenOwn hm.at_ hm.fn F hb (hr.mono hj)
theorem ps_fldK {value : Expr} {f : Str} {pos' pos : Pos} {tv : TE} (K : PySem.W.Frag) (ha : PE X o ta) (hv : PE X value tv) (hs : swapsWith value (some (.Attribute o f pos')) pos.line X.env = pure false) (h : X.K = K := by rfl) : PS X (.Assign [.Attribute o f pos'] value pos) (sFld K ta tv f) := by
  subst h
  exact ps_fld ha hv hs
end
/-! ### making a panel -/
def panC (C dx pl : Addr) (s : Sg) : Ce := .ins C dx [("sign", .dat (encS s)), ("turns", .raw (.ref pl))]
/-- what the making of a panel comes to -/
def spInit (K : PySem.W.Frag) (C : Addr) : Sp := fun vs H Q _ => ∃ (G : Hp) (x dx : Addr) (s : Sg), Ex G H ∧ SlVs G vs [.raw (.ref x), .dat (encS s)] ∧ OkS s ∧ CsOk K G H [(x, .ins C dx [])] ∧
  ∀ pl G' H', H pl = none → Fr G H [(x, .ins C dx [])] G' H' [(pl, .lst []), (x, panC C dx pl s)] → Ex G' H' → CsOk K G' H' [(pl, .lst []), (x, panC C dx pl s)] → Q .non H'
structure ICal (P : Program) (w : World) (K : PySem.W.Frag) (mg : Str → Option Value) (base : Heap) (k : Nat) (C : Addr) (ps : List Str) (sp : Sp) : Prop where
  ex : ∃ (f : Addr) (fd : FuncData), Mk K C f ∧ Binds K fd ps [] ∧ FnOk P w K mg base CX0 k f fd ps sp
section
variable {X : Cx} {K : PySem.W.Frag} {ρ : List Sl} {cs cs1 : Cs} {ta : TE} {tr : TA} {C : Addr} {s : Sg} {k j : Nat} {ps : List Str} {sp : Sp} {x : Str} {e : Expr} {es : List Expr} {p pos : Pos} {t : TA}
theorem pe_ical (M : ICal X.prog X.w X.K X.mg X.base k C ps sp) (hr : Room j X.A) (hj : k + 1 ≤ j) (hg : Gl X x) (hm : X.mg x = some (.ref C)) (ha : PA X (e :: es) t) (hdb : (x == ("__debug__" : Str)) = false := by decide) (he : starEach (e :: es) X.env = (false, eval e X.env) :: starEach es X.env := by rfl) (hpl : (backTo pos (starEach es X.env)).any (·.1) = false := by rfl) :
    PE X (.Call (.Name x p) (e :: es) [] pos) (tMake C sp [] E0 t) := by
  obtain ⟨f, fd, hk, hb, F⟩ := M.ex
  exact pe_make hk F (hr.mono hj) hg hm hb .nil pass0 ha hdb he hpl
/-- a panel is made: two new cells -/
def EvP (K : PySem.W.Frag) (te : TE) (ρ : List Sl) (cs : Cs) (C : Addr) (s : Sg) (row : List PyData) (cs' : Cs) : Prop :=
  ∀ G σ H, Ok K G σ H ρ cs → ∀ Q : VK, (∀ x dx pl G' H', H x = none → Fr G H cs G' H' ((x, panC C dx pl s) :: (pl, .lst row) :: cs') → Ok K G' σ H' ρ ((x, panC C dx pl s) :: (pl, .lst row) :: cs') → Q (.ref x) H') → te σ H Q
theorem evp_make (h : EvA K tr ρ cs [.dat (encS s)] cs1) (ok : OkS s) : EvP K (tMake C (spInit K C) [] E0 tr) ρ cs C s [] cs1 := fun G σ H okH Q q =>
  h G σ H okH _ fun vs G1 H1 f1 ok1 e1 x dx hx hdx hne => by
    have hx2 : (upd H1 dx (.own x)) x = none := by rw [upd_ne (Ne.symm hne)]; exact hx
    have exH : ∀ c o, H1 c = some o → upd (upd H1 dx (.own x)) x (.ins C dx []) c = some o := fun c o e => by
      rw [upd_ne (ne_of_none e hx), upd_ne (ne_of_none e hdx)]
      exact e
    have ex1 : Ex G1 (upd (upd H1 dx (.own x)) x (.ins C dx [])) := fun c o e => exH c o (ok1.ex c o e)
    refine ⟨G1, x, dx, s, ex1, ⟨rfl, by rw [List.append_nil]; exact e1⟩, ok, ⟨by simp, fun c hc => ?_⟩, fun pl G2 H2 hpl f2 ex2 ok2 => ⟨rfl, ?_⟩⟩
    · rw [List.mem_singleton.mp hc]
      exact ⟨ok1.ex.back hx, ⟨_, upd_same⟩, [], upd_same, rfl, trivial, fun _ z => (nomatch z), fun _ z => (nomatch z)⟩
    · have hpl1 : H1 pl = none := by
        cases h0 : H1 pl with
        | none => rfl
        | some o =>
          rw [exH pl o h0] at hpl
          cases hpl
      have hplx : pl ≠ x := fun e => by
        rw [e, upd_same] at hpl
        cases hpl
      have hin : ∀ c, c ∈ cs1.map (·.1) → ∃ o, H1 c = some o := fun c hc => by
        obtain ⟨y, hy, e⟩ := List.mem_map.mp hc
        obtain ⟨_, ⟨o, h2⟩, _⟩ := ok1.ce.is y hy
        have e : y.1 = c := e
        rw [e] at h2
        exact ⟨o, h2⟩
      have hxc : x ∉ cs1.map (·.1) := fun z => by
        obtain ⟨o, h⟩ := hin x z
        rw [hx] at h
        cases h
      have hpc : pl ∉ cs1.map (·.1) := fun z => by
        obtain ⟨o, h⟩ := hin pl z
        rw [hpl1] at h
        cases h
      have keep : ∀ c o, H1 c = some o → H2 c = some o ∧ Sm G1 G2 c o := fun c o e => f2.keep c o (exH c o e) fun z => by
        have : c = x := by simpa using z
        exact ne_of_none e hx this
      refine q x dx pl G2 H2 (f1.fresh hx) (f1.trans ⟨f2.g, fun c o e _ => keep c o e, fun c o e => ⟨o, (keep c o e).1⟩, fun c hc => ?_⟩) ⟨ex2, ok1.sl.mono f2.g, ?_, fun c hc => ?_⟩
      · rw [List.map_cons, List.map_cons] at hc
        rcases List.mem_cons.mp hc with e | e
        · exact .inr (by rw [show c = x from e]; exact hx)
        · rcases List.mem_cons.mp e with e | e
          · exact .inr (by rw [show c = pl from e]; exact hpl1)
          · exact .inl e
      · rw [List.map_cons, List.map_cons]
        refine List.nodup_cons.mpr ⟨fun z => ?_, List.nodup_cons.mpr ⟨hpc, ok1.ce.nd⟩⟩
        rcases List.mem_cons.mp z with e | e
        · exact hplx e.symm
        · exact hxc e
      · rcases List.mem_cons.mp hc with e | e
        · rw [e]
          exact ok2.is _ (List.mem_cons_of_mem _ List.mem_cons_self)
        · rcases List.mem_cons.mp e with e | e
          · rw [e]
            exact ok2.is _ List.mem_cons_self
          · obtain ⟨g1, ⟨o, g2⟩, g3⟩ := ok1.ce.is c e
            obtain ⟨k1, k2⟩ := keep _ _ g2
            exact ⟨k2.cell g2 g3 g1, ⟨o, k1⟩, g3.mono f2.g (k1.trans g2.symm)⟩
/-- x, y = panel, [] -/
theorem run_parPN (i j : Nat) {tb : TE} {u : TS} {row : List PyData} {c : Ce} {cs2 : Cs} {P : Po} (ha : EvP K ta ρ cs C s row cs1) (hb : ∀ x dx pl, EvN K tb ρ ((x, panC C dx pl s) :: (pl, .lst row) :: cs1) c ((x, panC C dx pl s) :: (pl, .lst row) :: cs2))
    (h' : ∀ x dx pl q, Run K u ((ρ.set i (.raw (.ref x))).set j (.raw (.ref q))) ((q, c) :: (x, panC C dx pl s) :: (pl, .lst row) :: cs2) P) : Run K (tSeq (tPar i j (tCons ta (tCons tb tNil))) u) ρ cs P := fun G σ H D ok n r bk ct =>
  ha G σ H ok _ fun x dx pl G1 H1 hx f1 ok1 => hb x dx pl G1 σ H1 ok1 _ fun q G2 H2 hq f2 ok2 => by
    have f := f1.trans f2
    exact ⟨.ref x, .ref q, rfl, h' x dx pl q G2 _ H2 D ⟨ok2.ex, (ok2.sl.set i (v := .ref x) (s := .raw (.ref x)) rfl).set j (v := .ref q) (s := .raw (.ref q)) rfl, ok2.ce⟩ (n.after f) (r.after f) (bk.after f) (ct.after f)⟩
end
section
variable {K : PySem.W.Frag} {ρ : List Sl} {cs cs1 : Cs} {ta tx : TE} {tr : TA} {p C dx : Addr} {fs : List (Str × Sl)} {n : Nat} {z : Sl}
theorem ev_lenOwn {R : List Sl → Cs → Sl → Cs → Prop} (k : Nat) {pre mid post : Cs} (ho : Ev K ta ρ cs (.raw (.ref p)) (pre ++ (mid ++ post))) (hk : (pre ++ (mid ++ post))[k]? = some (p, .ins C dx fs)) (hR : R [.raw (.ref p)] mid (.dat (eI n)) mid) (hn : n ≤ 100000) : Ev K (tCB (rLenOwn C (SpG K R)) (tCons ta tNil)) ρ cs (.dat (eI n)) (pre ++ (mid ++ post)) := fun G σ H ok Q q =>
  (ea_cons ho ea_nil) G σ H ok _ fun vs G1 H1 f1 ok1 e1 => by
    obtain ⟨v, rfl, e⟩ := e1.one
    cases e
    obtain ⟨ws, h1, _⟩ := ok1.ce.ins hk
    have okm : CsOk K G1 H1 mid := ok1.ce.sub ((List.sublist_append_left mid post).trans (List.sublist_append_right pre _))
    refine ⟨p, dx, ws, rfl, h1, G1, [.raw (.ref p)], mid, .dat (eI n), mid, ok1.ex, ⟨rfl, trivial⟩, okm, hR, fun v G2 H2 f2 ex2 ok2 hv => ?_⟩
    obtain ⟨f3, ok3⟩ := mid_back ok1.ce f2 ok2 rfl
    exact ⟨(n : Int), hv, by omega, by omega, q v G2 H2 (f1.trans f3) ⟨ex2, ok1.sl.mono f2.g, ok3⟩ hv⟩
theorem ev_count {ns : List Int} {i : Int} (hx : Ev K ta ρ cs z cs1) (hz : Rds cs1 z (.list (ns.map PyData.int))) (hi : Ev K tx ρ cs1 (.dat (.int i)) cs1) : Ev K (tBM K "list" (rCntI K) ta (tCons tx tNil)) ρ cs (.dat (eI (ns.count i))) cs1 := fun G σ H ok Q q =>
  hx G σ H ok _ fun v G1 H1 f1 ok1 e1 => by
    obtain ⟨p, vs, rfl, hp, dv⟩ := hz.list e1 ok1.ex ok1.ce
    refine ⟨.inl ⟨rfl, vs, .inl (.inl hp)⟩, hi G1 σ H1 ok1 _ fun y G2 H2 f2 ok2 e2 => ?_⟩
    cases e2
    obtain ⟨p', vs2, e', hp2, dv2⟩ := hz.list (e1.mono f2.g) ok2.ex ok2.ce
    cases e'
    rw [dv2.ints] at hp2
    exact ⟨p, ns, i, rfl, rfl, .inl (.inl hp2), q _ G2 H2 (f1.trans f2) ok2 rfl⟩
end
end LW

set_option Elab.async false
set_option linter.all false
set_option maxRecDepth 100000
namespace LW
open PySem PySem.Spec PyProof.Rows L2
/-! ### fractions in lowest terms -/
def lowM (n d : Int) : Int × Int := (n / (Int.gcd n d : Int), d / (Int.gcd n d : Int))
def encQ (q : Int × Int) : PyData := .tuple [.int q.1, .int q.2]
theorem gcd_pos {n d : Int} (h : 0 < d) : 0 < Int.gcd n d := Int.gcd_pos_of_ne_zero_right n (by omega)
theorem gcd_le {n d : Int} (h : 0 < d) : Int.gcd n d ≤ d.natAbs := Nat.le_of_dvd (by omega) (Nat.gcd_dvd_right _ _)
theorem low_num {n d : Int} : (lowM n d).1 * (Int.gcd n d : Int) = n := Int.ediv_mul_cancel (Int.gcd_dvd_left n d)
theorem low_den {n d : Int} : (lowM n d).2 * (Int.gcd n d : Int) = d := Int.ediv_mul_cancel (Int.gcd_dvd_right n d)
theorem low_den_pos {n d : Int} (h : 0 < d) : 0 < (lowM n d).2 := by
  have h1 := low_den (n := n) (d := d)
  have h2 := gcd_pos (n := n) h
  by_cases hc : 0 < (lowM n d).2
  · exact hc
  · have : (lowM n d).2 * (Int.gcd n d : Int) ≤ 0 := Int.mul_nonpos_of_nonpos_of_nonneg (by omega) (by omega)
    omega
/-- the same fraction -/
theorem low_cross (n d : Int) : (lowM n d).1 * d = (lowM n d).2 * n := by
  have h1 := low_num (n := n) (d := d)
  have h2 := low_den (n := n) (d := d)
  generalize (lowM n d).1 = a at h1
  generalize (lowM n d).2 = b at h2
  generalize (Int.gcd n d : Int) = g at h1 h2
  subst h1
  subst h2
  rw [← Int.mul_assoc, ← Int.mul_assoc, Int.mul_comm a b]
theorem low_scale {n d k : Int} (hk : 0 < k) : lowM (k * n) (k * d) = lowM n d := by
  unfold lowM
  rw [Int.gcd_mul_left, Int.natCast_mul, show ((k.natAbs : Nat) : Int) = k from by omega]
  rw [Int.mul_ediv_mul_of_pos _ _ hk, Int.mul_ediv_mul_of_pos _ _ hk]
theorem sh_Q (q : Int × Int) : Sh 1 (encQ q) := sh_tuple (sha_cons sh_int (sha_cons sh_int sha_nil))
/-! ### shares -/
def cntM (s : Sg) (row : List (List Nat)) (x : Int) : Nat := ((row.map (glowM s)).filter fun g => decide (x ∈ g)).length
def sharesM (s : Sg) (row : List (List Nat)) : List (Int × Int) := (List.range s.L.length).map fun (x : Nat) => lowM (cntM s row (x : Int)) ((max 1 row.length : Nat) : Int)
theorem cnt_append (s : Sg) (a b : List (List Nat)) (x : Int) : cntM s (a ++ b) x = cntM s a x + cntM s b x := by
  unfold cntM
  rw [List.map_append, List.filter_append, List.length_append]
theorem shares_twice (s : Sg) (row : List (List Nat)) : sharesM s (row ++ row) = sharesM s row := by
  unfold sharesM
  refine List.map_congr_left fun x _ => ?_
  rw [cnt_append, List.length_append]
  by_cases h : row = []
  · subst h
    rfl
  · have hl : 0 < row.length := List.length_pos_iff.mpr h
    rw [Nat.max_eq_right (by omega), Nat.max_eq_right (by omega)]
    have e1 : ((cntM s row (x : Int) + cntM s row (x : Int) : Nat) : Int) = 2 * (cntM s row (x : Int) : Int) := by omega
    have e2 : ((row.length + row.length : Nat) : Int) = 2 * (row.length : Int) := by omega
    rw [e1, e2, low_scale (by decide)]
theorem shown_twice (s : Sg) (row : List (List Nat)) : shownM s (row ++ row) = shownM s row := by
  refine sorted_same (shown_srt s _) (shown_srt s _) fun z => ?_
  rw [mem_shown, mem_shown]
  constructor
  · rintro ⟨t, ht, h⟩
    rcases List.mem_append.mp ht with e | e
    · exact ⟨t, e, h⟩
    · exact ⟨t, e, h⟩
  · rintro ⟨t, ht, h⟩
    exact ⟨t, List.mem_append_left _ ht, h⟩
/-- in a list of different numbers: once or not at all -/
theorem count_nd {l : List Int} (h : l.Nodup) (x : Int) : l.count x = if x ∈ l then 1 else 0 := by
  split
  · rename_i hx
    have h1 : l.count x ≤ 1 := List.nodup_iff_count.mp h x
    have h2 : 0 < l.count x := List.count_pos_iff.mpr hx
    omega
  · rename_i hx
    exact List.count_eq_zero.mpr hx
theorem cnt_count (s : Sg) (x : Int) : ∀ row : List (List Nat), ((row.map (glowM s)).flatten).count x = cntM s row x
  | [] => rfl
  | t :: r => by
    rw [List.map_cons, List.flatten_cons, List.count_append, cnt_count s x r, count_nd (srt_nd (glowM_sorted s t)) x]
    unfold cntM
    rw [List.map_cons, List.filter_cons]
    by_cases h : x ∈ glowM s t
    · rw [if_pos h, if_pos (decide_eq_true h), List.length_cons]
      omega
    · rw [if_neg h, if_neg (by rw [decide_eq_false h]; decide)]
      omega
theorem cnt_le (s : Sg) (row : List (List Nat)) (x : Int) : cntM s row x ≤ row.length := by
  unfold cntM
  exact Nat.le_trans (List.length_filter_le _ _) (by rw [List.length_map]; exact Nat.le_refl _)
end LW

set_option Elab.async false
set_option linter.all false
set_option maxRecDepth 100000
set_option maxHeartbeats 4000000
namespace LW
open PySem PySem.W PySem.Calls PySem.SeqAt PyProof.Rows L2
/-! ### sorted of a tuple -/
def rSortT (K : PySem.W.Frag) : List V → Hp → VK → Prop := fun xs H Q => ∃ (a : Addr) (vs : List V) (ds : List PyData), xs = [V.ref a] ∧ SqT K H a vs ∧ DpAll K H vs ds ∧ SortOk ds ∧ ∀ p, H p = none → Q (.ref p) (upd H p (.lst (srtP vs ds)))
theorem cr_sortT {X : Cx} (hu : X.A.units + 65 < cLine) : CallR X (.builtin "sorted") (rSortT X.K) := fun pins s σ H xs us Q I r h => by
  obtain ⟨a, vs, ds, rfl, hs, hd, hk, q⟩ := h
  obtain ⟨its, rv, hl, hz⟩ := I.tuple hs
  obtain ⟨u, rfl, ru⟩ := vals1 r
  obtain rfl : u = Value.ref a := ru
  obtain ⟨o, ho, hc, n0, hdt⟩ := hl
  have hlen := DpAll.len hd
  have hal : its.length = vs.length := rv.length.symm
  refine Calls.call_function_entry PyProof.Rows.kind_sorted PyProof.Rows.plain_sorted PyProof.Rows.entry_sorted (PyProof.Rows.args_sorted1 _) ?_
  unfold Builtin.«sorted»
  refine wpAny_bind (m := checkCount "sorted" 1 1 _) (wpAny_pure ?_)
  refine wpAny_bind (wpAny_collect_seq a (.inr rfl) ho hc hdt (fun h' hkp => ?_) (by rw [List.size_toArray, hal]; exact hz))
  have I1 : L2.Inv X pins σ H { s with heap := h' } := I.kept hkp
  refine wpAny_bind (wpAny_newList ?_ (by rw [hal]; exact hz))
  have hoL : (h'.push (seqObj "list" its.toArray 0)).get? h'.objs.size = some (seqObj "list" its.toArray 0) := Heap.get?_push_size _ rfl
  show wpAny _ _ _ _ _ { s with heap := h'.push (seqObj "list" its.toArray 0) }
  obtain ⟨e1, e2⟩ := each_split (each_zip I1 hd rv)
  have old : ∀ b o, h'.get? b = some o → (sortingHeap (h'.push (seqObj "list" its.toArray 0)) h'.objs.size its).get? b = some o := fun b o e => sortingHeap_old (Nat.ne_of_lt (Heap.lt_size e)) (Heap.get?_push_of_some _ e)
  have e3 := each_keep (h' := sortingHeap (h'.push (seqObj "list" its.toArray 0)) h'.objs.size its) old e2
  have e4 := each_snd e3
  rw [zip_snd hlen] at e4
  refine wpAny_bind (wpAny_holding (wpAny_call_entry PyProof.Rows.slot_list_sort ⟨_, hoL, rfl⟩ PyProof.Rows.entry_list_sort
    (list_sort_vals (κ := dataKind (sortingHeap (h'.push (seqObj "list" its.toArray 0)) h'.objs.size its) ds) (s := { s with heap := h'.push (seqObj "list" its.toArray 0) }) hoL (sortsA (s := { s with heap := sortingHeap (h'.push (seqObj "list" its.toArray 0)) h'.objs.size its }) e4 hk ?_) (by rw [hal]; exact hz) ⟨_, rfl, ?_⟩) (PyProof.Rows.args_list_sort _)))
  · show X.A.in1.in1.units + 8 < cLine
    have q1 : X.A.in1.in1.units ≤ X.A.units + 2 := by first | exact Nat.le_refl _ | (simp [Around.in1]; done) | (simp [Around.in1]; omega)
    omega
  · have hv := vals_sorted hlen e1 e3 hk.1
    obtain ⟨n, hn⟩ := PyProof.Rows.sortedHeap_at (vs := its) (out := (sortVals (dataKind (sortingHeap (h'.push (seqObj "list" its.toArray 0)) h'.objs.size its) ds) false its its).toArray) hoL
    refine wpAny_pure ⟨_, rfl, .ref h'.objs.size, upd H h'.objs.size (.lst (srtP vs ds)), I1.laid (t' := s.toks) (fun b u e => ?_) (Nat.le_refl _) ⟨?_, _, n, hv, hn⟩, rfl, q _ (I1.hok.fresh (Nat.le_refl _))⟩
    · have hb : b < h'.objs.size := Heap.lt_size e
      rw [PyProof.Rows.sortedHeap_old (Nat.ne_of_lt hb) (by rw [size_push']; exact Nat.lt_succ_of_lt hb)]
      exact Heap.get?_push_of_some _ e
    · rw [srtP_len hlen]
      exact hz
theorem sortT_K {X : Cx} (K : PySem.W.Frag) (hu : X.A.units + 65 < cLine) (h : X.K = K := by rfl) : CallR X (.builtin "sorted") (rSortT K) := by
  subst h
  exact cr_sortT hu
theorem cnt_K {X : Cx} (K : PySem.W.Frag) (h : X.K = K := by rfl) : MtR X "list.count" (rCntI K) := by
  subst h
  exact mt_lcount
section
variable {K : PySem.W.Frag} {ρ : List Sl} {cs cs1 : Cs} {te : TE} {z : Sl} {ds : List PyData}
theorem evn_sortT (h : Ev K te ρ cs (.dat (.tuple ds)) cs1) (ok : SortOk ds) : EvN K (tCB (rSortT K) (tCons te tNil)) ρ cs (.lst (sortD ds)) cs1 := fun G σ H okx Q q =>
  (ea_cons h ea_nil) G σ H okx _ fun vs G1 H1 f1 ok1 e1 => by
    obtain ⟨v, rfl, hv⟩ := e1.one
    obtain ⟨a, xs, rfl, hp, dv⟩ := hv
    refine ⟨a, xs, ds, rfl, .inl (.inl (ok1.ex _ _ hp)), DtAll.dp ds xs (dv.mono ok1.ex), ok, fun r hr => ?_⟩
    obtain ⟨f2, ok2⟩ := ok1.newL hr (dt_sorted dv)
    exact q r G1 _ (f1.fresh hr) (f1.trans f2) ok2
end
theorem sortOk_ints (ns : List Int) : SortOk (ns.map PyData.int) := by
  refine ⟨fun d hd d' hd' => ?_, .inl (.inr fun d hd => ?_), fun d hd => ?_⟩
  · obtain ⟨a, _, rfl⟩ := List.mem_map.mp hd
    obtain ⟨b, _, rfl⟩ := List.mem_map.mp hd'
    simp [PySem.W.alike]
  · obtain ⟨a, _, rfl⟩ := List.mem_map.mp hd
    exact ⟨fun z => (nomatch z), fun _ z => (nomatch z)⟩
  · obtain ⟨a, _, rfl⟩ := List.mem_map.mp hd
    simp [PyData.depth]
theorem sortD_ints {ns : List Int} (h : ns.Nodup) : sortD (ns.map PyData.int) = (sd ns).map PyData.int := by
  have e : sortD (ns.map PyData.int) = (ns.mergeSort fun a b => decide (a ≤ b)).map PyData.int := by
    unfold sortD
    have q := dataLe_int (β := Int) id
    exact (List.map_mergeSort (f := PyData.int) (r := fun a b => decide (a ≤ b)) (s := PySem.W.dataLe false id) (fun a _ b _ => (congrFun (congrFun q a) b).symm)).symm
  rw [e]
  congr 1
  refine sd_of ?_ fun z => List.mem_mergeSort
  have h1 : (ns.mergeSort fun a b => decide (a ≤ b)).Pairwise (fun a b => decide (a ≤ b) = true) := List.pairwise_mergeSort (fun a b c h1 h2 => by simp at *; omega) (fun a b => by simp; omega) ns
  have h2 : (ns.mergeSort fun a b => decide (a ≤ b)).Nodup := (List.mergeSort_perm ns _).nodup_iff.mpr h
  refine (h1.and h2).imp fun {a b} ⟨x, y⟩ => ?_
  have := of_decide_eq_true x
  omega
section
variable {K : PySem.W.Frag} {ρ : List Sl} {cs cs1 : Cs} {z z1 z2 : Sl} {i j : Int}
theorem cd_abs (h : Rds cs z (.int i)) : CallD K (fun xs H Q => ∃ i, xs = [.int i] ∧ Q (.int (if i < 0 then -i else i)) H) [z] cs (.dat (.int (i.natAbs : Int))) := fun vs G H hv ex ok Q q => by
  obtain ⟨v, rfl, e⟩ := hv.one
  refine ⟨i, by rw [h.int e], q _ G H (.refl ex) ?_⟩
  show V.int _ = V.int _
  congr 1
  split <;> omega
theorem opd_fdivW (h1 : Rds cs z1 (.int i)) (h2 : Rds cs z2 (.int j)) (hc : CDivW i j) : OpD K (rI CDivW fun i j => .int (i / j)) z1 z2 cs (.dat (.int (i / j))) := opd_I (dg := fun i j => .int (i / j)) h1 h2 hc fun _ => rfl
theorem opd_mulW (h1 : Rds cs z1 (.int i)) (h2 : Rds cs z2 (.int j)) (hc : CMulW i j) : OpD K (rI CMulW fun i j => .int (i * j)) z1 z2 cs (.dat (.int (i * j))) := opd_I (dg := fun i j => .int (i * j)) h1 h2 hc fun _ => rfl
end
/-- Euclid -/
theorem gcd_step {a b : Int} (ha : 0 ≤ a) (hb : 0 < b) : Int.gcd b (a % b) = Int.gcd a b := by
  obtain ⟨n, rfl⟩ := Int.eq_ofNat_of_zero_le ha
  obtain ⟨m, rfl⟩ := Int.eq_ofNat_of_zero_le (Int.le_of_lt hb)
  show Nat.gcd m (n % m) = Nat.gcd n m
  rw [Nat.gcd_comm n m, Nat.gcd_rec m n, Nat.gcd_comm]
theorem log2_mono {a b : Nat} (h : a ≤ b) : a.log2 ≤ b.log2 := by
  by_cases h0 : a = 0
  · rw [h0]
    exact Nat.zero_le _
  · have hb : b ≠ 0 := by omega
    exact (Nat.le_log2 hb).mpr (Nat.le_trans (Nat.log2_self_le h0) h)
theorem run_par1 {K : PySem.W.Frag} {ρ : List Sl} {cs cs1 : Cs} {z1 z2 : Sl} {tr : TA} {P : Po} (i j : Nat) (h : EvA K tr ρ cs [z1, z2] cs1) (h' : P.nx ((ρ.set i z1).set j z2) cs1) : Run K (tPar i j tr) ρ cs P := fun G σ H D ok n r bk ct => run_par (u := tNext) i j h (run_next h') G σ H D ok n r bk ct
end LW

set_option Elab.async false
set_option linter.all false
set_option maxRecDepth 100000
set_option maxHeartbeats 4000000
namespace LW
/-! ### sums of fractions -/
def sm : Nat → (Nat → Rat) → Rat
  | 0, _ => 0
  | n + 1, f => sm n f + f n
theorem sm_congr {f g : Nat → Rat} : ∀ {n : Nat}, (∀ i, i < n → f i = g i) → sm n f = sm n g
  | 0, _ => rfl
  | n + 1, h => by
    show sm n f + f n = sm n g + g n
    rw [sm_congr (n := n) fun i hi => h i (by omega), h n (by omega)]
theorem sm_zero {f : Nat → Rat} : ∀ {n : Nat}, (∀ i, i < n → f i = 0) → sm n f = 0
  | 0, _ => rfl
  | n + 1, h => by
    show sm n f + f n = 0
    rw [sm_zero (n := n) fun i hi => h i (by omega), h n (by omega)]
    grind
theorem sm_add (f g : Nat → Rat) : ∀ n : Nat, sm n (fun i => f i + g i) = sm n f + sm n g
  | 0 => by
    show (0 : Rat) = 0 + 0
    grind
  | n + 1 => by
    show sm n (fun i => f i + g i) + (f n + g n) = (sm n f + f n) + (sm n g + g n)
    rw [sm_add f g n]
    grind
theorem sm_sub (f g : Nat → Rat) : ∀ n : Nat, sm n (fun i => f i - g i) = sm n f - sm n g
  | 0 => by
    show (0 : Rat) = 0 - 0
    grind
  | n + 1 => by
    show sm n (fun i => f i - g i) + (f n - g n) = (sm n f + f n) - (sm n g + g n)
    rw [sm_sub f g n]
    grind
theorem sm_mul (c : Rat) (f : Nat → Rat) : ∀ n : Nat, sm n (fun i => c * f i) = c * sm n f
  | 0 => by
    show (0 : Rat) = c * 0
    grind
  | n + 1 => by
    show sm n (fun i => c * f i) + c * f n = c * (sm n f + f n)
    rw [sm_mul c f n]
    grind
theorem sm_mulr (c : Rat) (f : Nat → Rat) (n : Nat) : sm n (fun i => f i * c) = sm n f * c := by
  have h : sm n (fun i => f i * c) = sm n (fun i => c * f i) := sm_congr fun i _ => Rat.mul_comm _ _
  rw [h, sm_mul, Rat.mul_comm]
theorem sm_one {f : Nat → Rat} {r : Nat} : ∀ {n : Nat}, r < n → (∀ i, i < n → i ≠ r → f i = 0) → sm n f = f r
  | 0, h, _ => by omega
  | n + 1, h, h0 => by
    show sm n f + f n = f r
    by_cases e : r = n
    · rw [sm_zero (n := n) fun i hi => h0 i (by omega) (by omega), e]
      grind
    · rw [sm_one (n := n) (r := r) (by omega) fun i hi hr => h0 i (by omega) hr, h0 n (by omega) (by omega)]
      grind
theorem sm_split {f g : Nat → Rat} {r : Nat} : ∀ {n : Nat}, r < n → (∀ i, i < n → i ≠ r → f i = g i) → sm n f = sm n g + (f r - g r) := fun {n} h h0 => by
  have q := sm_sub f g n
  have q2 : sm n (fun i => f i - g i) = f r - g r := sm_one (f := fun i => f i - g i) h fun i hi hr => by rw [h0 i hi hr]; grind
  grind
theorem sm_comm (f : Nat → Nat → Rat) (m : Nat) : ∀ n : Nat, sm n (fun i => sm m (fun j => f i j)) = sm m (fun j => sm n (fun i => f i j))
  | 0 => (sm_zero fun _ _ => rfl).symm
  | n + 1 => by
    show sm n (fun i => sm m (fun j => f i j)) + sm m (fun j => f n j) = sm m (fun j => sm n (fun i => f i j) + f n j)
    rw [sm_comm f m n, sm_add]
theorem sm_nonneg {f : Nat → Rat} : ∀ {n : Nat}, (∀ i, i < n → 0 ≤ f i) → 0 ≤ sm n f
  | 0, _ => Rat.le_refl
  | n + 1, h => by
    have h1 := sm_nonneg (n := n) fun i hi => h i (by omega)
    have h2 := h n (by omega)
    show 0 ≤ sm n f + f n
    grind
theorem sm_le {f g : Nat → Rat} : ∀ {n : Nat}, (∀ i, i < n → f i ≤ g i) → sm n f ≤ sm n g
  | 0, _ => Rat.le_refl
  | n + 1, h => by
    have h1 := sm_le (n := n) fun i hi => h i (by omega)
    have h2 := h n (by omega)
    show sm n f + f n ≤ sm n g + g n
    grind
/-- a sum below nought has a term below nought -/
theorem sm_neg {f : Nat → Rat} {n : Nat} (h : sm n f < 0) : ∃ i, i < n ∧ f i < 0 := by
  apply Classical.byContradiction
  intro hc
  have : 0 ≤ sm n f := sm_nonneg fun i hi => by
    apply Classical.byContradiction
    intro h2
    exact hc ⟨i, hi, Rat.not_le.mp h2⟩
  grind
/-- a term is at most the sum of nonnegative terms -/
theorem sm_term {f : Nat → Rat} {n r : Nat} (hr : r < n) (h : ∀ i, i < n → 0 ≤ f i) : f r ≤ sm n f := by
  have q := sm_le (f := fun i => if i = r then f i else 0) (g := f) (n := n) fun i hi => by
    by_cases e : i = r
    · simp only [e, if_pos]
      exact Rat.le_refl
    · simp only [e, if_false]
      exact h i hi
  rw [sm_one (r := r) hr fun i _ hi => by simp only [hi, if_false]] at q
  simpa using q
/-! ### the tableau -/
/-- n lamps, m parts; A k j: does part k hold lamp j; the first tableau: columns n + k are the spares, column n + m the right side, row m the sum -/
def T0 (n m : Nat) (A : Nat → Nat → Rat) (k j : Nat) : Rat :=
  if k = m then (if j < n then 1 else 0) else if j < n then A k j else if j = n + m then 1 else if j = n + k then 1 else 0
structure Tab (n m : Nat) (A : Nat → Nat → Rat) (T : Nat → Nat → Rat) (β : Nat → Nat) : Prop where
  bas : ∀ i, i < m → β i < n + m
  unit : ∀ i, i < m → ∀ k, k ≤ m → T k (β i) = if k = i then 1 else 0
  rc : ∀ i, i < m → ∀ j, j ≤ n + m → T i j = sm m fun k => T i (n + k) * T0 n m A k j
  rcz : ∀ j, j ≤ n + m → T m j = T0 n m A m j + sm m fun k => T m (n + k) * T0 n m A k j
  cr : ∀ k, k < m → ∀ j, j ≤ n + m → T0 n m A k j = sm m fun i => T0 n m A k (β i) * T i j
  crz : ∀ j, j ≤ n + m → T0 n m A m j = T m j + sm m fun i => T0 n m A m (β i) * T i j
section
variable {n m : Nat} {A T T' : Nat → Nat → Rat} {β β' : Nat → Nat}
theorem T0_spare {k r : Nat} (hk : k < m) (hr : r < m) : T0 n m A k (n + r) = if k = r then 1 else 0 := by
  unfold T0
  rw [if_neg (by omega), if_neg (by omega), if_neg (by omega)]
  by_cases e : k = r
  · rw [if_pos (by omega), if_pos e]
  · rw [if_neg (by omega), if_neg e]
theorem T0_z {r : Nat} : T0 n m A m (n + r) = 0 := by
  unfold T0
  rw [if_pos rfl, if_neg (by omega)]
theorem T0_b {k : Nat} (hk : k < m) : T0 n m A k (n + m) = 1 := by
  unfold T0
  rw [if_neg (by omega), if_neg (by omega), if_pos rfl]
theorem T0_zb : T0 n m A m (n + m) = 0 := by
  unfold T0
  rw [if_pos rfl, if_neg (by omega)]
theorem T0_lamp {k j : Nat} (hk : k < m) (hj : j < n) : T0 n m A k j = A k j := by
  unfold T0
  rw [if_neg (by omega), if_pos hj]
theorem T0_zl {j : Nat} (hj : j < n) : T0 n m A m j = 1 := by
  unfold T0
  rw [if_pos rfl, if_pos hj]
theorem Tab.start : Tab n m A (T0 n m A) (fun i => n + i) where
  bas := fun i hi => by omega
  unit := fun i hi k hk => by
    by_cases e : k = m
    · subst e
      rw [T0_z, if_neg (by omega)]
    · exact T0_spare (by omega) hi
  rc := fun i hi j hj => by
    rw [sm_one (r := i) hi fun k hk hki => by rw [T0_spare hi hk, if_neg (by omega)]; grind, T0_spare hi hi, if_pos rfl]
    grind
  rcz := fun j hj => by
    rw [sm_zero fun k hk => by rw [T0_z]; grind]
    grind
  cr := fun k hk j hj => by
    rw [sm_one (r := k) hk fun i hi hki => by rw [T0_spare hk hi, if_neg (by omega)]; grind, T0_spare hk hk, if_pos rfl]
    grind
  crz := fun j hj => by
    rw [sm_zero fun k hk => by rw [T0_z]; grind]
    grind
theorem Tab.inj (h : Tab n m A T β) {i k : Nat} (hi : i < m) (hk : k < m) (e : β i = β k) : i = k := by
  have h1 := h.unit i hi i (by omega)
  have h2 := h.unit k hk i (by omega)
  rw [e] at h1
  rw [h1, if_pos rfl] at h2
  by_cases q : i = k
  · exact q
  · rw [if_neg q] at h2
    grind
theorem Tab.unitm (h : Tab n m A T β) {i : Nat} (hi : i < m) : T m (β i) = 0 := by
  rw [h.unit i hi m (by omega), if_neg (by omega)]
/-- two tableaux: a row of the one by the columns of the other -/
theorem Tab.x0 (h : Tab n m A T β) (h' : Tab n m A T' β') {i s : Nat} (hi : i < m) (hs : s ≤ n + m) : T' i s = sm m fun l => T l s * T' i (β l) := by
  rw [h'.rc i hi s hs]
  have e1 : (sm m fun k => T' i (n + k) * T0 n m A k s) = sm m fun k => sm m fun l => T' i (n + k) * (T0 n m A k (β l) * T l s) := sm_congr fun k hk => by
    rw [h.cr k hk s hs, sm_mul]
  rw [e1, sm_comm]
  refine sm_congr fun l hl => ?_
  have e2 : (sm m fun k => T' i (n + k) * (T0 n m A k (β l) * T l s)) = sm m fun k => T l s * (T' i (n + k) * T0 n m A k (β l)) := sm_congr fun k hk => by grind
  rw [e2, sm_mul, ← h'.rc i hi (β l) (Nat.le_of_lt (h.bas l hl))]
theorem Tab.x1 (h : Tab n m A T β) (h' : Tab n m A T' β') {s : Nat} (hs : s ≤ n + m) : T' m s = T m s + sm m fun l => T l s * T' m (β l) := by
  have e0 := h'.rcz s hs
  have e1 : (sm m fun k => T' m (n + k) * T0 n m A k s) = sm m fun l => T l s * (T' m (β l) - T0 n m A m (β l)) := by
    have q1 : (sm m fun k => T' m (n + k) * T0 n m A k s) = sm m fun k => sm m fun l => T' m (n + k) * (T0 n m A k (β l) * T l s) := sm_congr fun k hk => by
      rw [h.cr k hk s hs, sm_mul]
    rw [q1, sm_comm]
    refine sm_congr fun l hl => ?_
    have e2 : (sm m fun k => T' m (n + k) * (T0 n m A k (β l) * T l s)) = sm m fun k => T l s * (T' m (n + k) * T0 n m A k (β l)) := sm_congr fun k hk => by grind
    have e3 := h'.rcz (β l) (Nat.le_of_lt (h.bas l hl))
    rw [e2, sm_mul]
    congr 1
    grind
  have e4 : (sm m fun l => T l s * (T' m (β l) - T0 n m A m (β l))) = (sm m fun l => T l s * T' m (β l)) - sm m fun l => T0 n m A m (β l) * T l s := by
    rw [← sm_sub]
    exact sm_congr fun l hl => by grind
  have e5 := h.crz s hs
  grind
theorem Tab.uniq (h : Tab n m A T β) (h' : Tab n m A T' β) {i s : Nat} (hi : i ≤ m) (hs : s ≤ n + m) : T' i s = T i s := by
  by_cases e : i = m
  · subst e
    rw [h.x1 h' hs, sm_zero fun l hl => by rw [h'.unitm hl]; grind]
    grind
  · rw [h.x0 h' (by omega) hs, sm_one (r := i) (by omega) fun l hl hli => by rw [h'.unit l hl i hi, if_neg (by omega)]; grind, h'.unit i (by omega) i hi, if_pos rfl]
    grind
/-- a pivot -/
def piv (T : Nat → Nat → Rat) (r c : Nat) : Nat → Nat → Rat := fun i j => if i = r then T r j / T r c else T i j - T i c * (T r j / T r c)
def pivB (β : Nat → Nat) (r c : Nat) : Nat → Nat := fun i => if i = r then c else β i
theorem Tab.piv {r c : Nat} (h : Tab n m A T β) (hr : r < m) (hc : c < n + m) (hp : T r c ≠ 0) : Tab n m A (piv T r c) (pivB β r c) := by
  have er : ∀ j, LW.piv T r c r j = T r j / T r c := fun j => if_pos rfl
  have ei : ∀ i j, i ≠ r → LW.piv T r c i j = T i j - T i c * (T r j / T r c) := fun i j hi => if_neg hi
  have br : pivB β r c r = c := if_pos rfl
  have bi : ∀ i, i ≠ r → pivB β r c i = β i := fun i hi => if_neg hi
  have hcr : ∀ k, (∀ j, j ≤ n + m → T0 n m A k j = (if k = m then T m j else 0) + sm m fun i => T0 n m A k (β i) * T i j) → ∀ j, j ≤ n + m → T0 n m A k j = (if k = m then LW.piv T r c m j else 0) + sm m fun i => T0 n m A k (pivB β r c i) * LW.piv T r c i j := fun k hk j hj => by
    have q : (sm m fun i => T0 n m A k (pivB β r c i) * LW.piv T r c i j) = (sm m fun i => T0 n m A k (β i) * T i j - (T r j / T r c) * (T0 n m A k (β i) * T i c)) + (T0 n m A k c * (T r j / T r c) - (T0 n m A k (β r) * T r j - (T r j / T r c) * (T0 n m A k (β r) * T r c))) := by
      rw [sm_split (r := r) hr (g := fun i => T0 n m A k (β i) * T i j - (T r j / T r c) * (T0 n m A k (β i) * T i c)) fun i hi hne => by rw [bi i hne, ei i j hne]; grind]
      rw [br, er]
    rw [q, sm_sub, sm_mul]
    have e1 := hk j hj
    have e2 := hk c (by omega)
    by_cases e : k = m
    · rw [if_pos e] at e1 e2 ⊢
      rw [ei m j (by omega)]
      have hd : T r j / T r c * T r c = T r j := Rat.div_mul_cancel hp
      grind
    · rw [if_neg e] at e1 e2 ⊢
      have hd : T r j / T r c * T r c = T r j := Rat.div_mul_cancel hp
      grind
  refine ⟨fun i hi => ?_, fun i hi k hk => ?_, fun i hi j hj => ?_, fun j hj => ?_, fun k hk j hj => ?_, fun j hj => ?_⟩
  · by_cases e : i = r
    · rw [e, br]
      exact hc
    · rw [bi i e]
      exact h.bas i hi
  · by_cases e : i = r
    · subst e
      rw [br]
      by_cases e2 : k = i
      · subst e2
        rw [er, if_pos rfl]
        grind
      · rw [ei k c e2, if_neg e2]
        grind
    · rw [bi i e]
      have u1 := h.unit i hi r (by omega)
      rw [if_neg (by omega)] at u1
      have u2 := h.unit i hi k hk
      by_cases e2 : k = r
      · subst e2
        rw [er, u1, if_neg (by omega)]
        grind
      · rw [ei k _ e2, u1, u2]
        grind
  · by_cases e : i = r
    · subst e
      have q : (sm m fun k => LW.piv T i c i (n + k) * T0 n m A k j) = sm m fun k => (T i c)⁻¹ * (T i (n + k) * T0 n m A k j) := sm_congr fun k hk => by
        rw [er]
        grind
      rw [q, sm_mul, ← h.rc i hi j hj, er]
      grind
    · have q : (sm m fun k => LW.piv T r c i (n + k) * T0 n m A k j) = sm m fun k => T i (n + k) * T0 n m A k j - (T i c * (T r c)⁻¹) * (T r (n + k) * T0 n m A k j) := sm_congr fun k hk => by
        rw [ei i _ e]
        grind
      rw [q, sm_sub, sm_mul, ← h.rc i hi j hj, ← h.rc r hr j hj, ei i j e]
      grind
  · have q : (sm m fun k => LW.piv T r c m (n + k) * T0 n m A k j) = sm m fun k => T m (n + k) * T0 n m A k j - (T m c * (T r c)⁻¹) * (T r (n + k) * T0 n m A k j) := sm_congr fun k hk => by
      rw [ei m _ (by omega)]
      grind
    rw [q, sm_sub, sm_mul, ← h.rc r hr j hj, ei m j (by omega)]
    have := h.rcz j hj
    grind
  · have q := hcr k (fun j hj => by rw [if_neg (by omega), ← h.cr k hk j hj]; grind) j hj
    rw [if_neg (by omega)] at q
    rw [q]
    grind
  · have q := hcr m (fun j hj => by rw [if_pos rfl]; exact h.crz j hj) j hj
    rw [if_pos rfl] at q
    exact q
end
end LW

set_option Elab.async false
set_option linter.all false
set_option maxRecDepth 100000
set_option maxHeartbeats 4000000
namespace LW
/-- the rule by which a column comes in and a row goes out -/
structure Stp (n m : Nat) (T : Nat → Nat → Rat) (β : Nat → Nat) (r c : Nat) : Prop where
  cN : c < n + m
  cpos : 0 < T m c
  cmin : ∀ j, j < c → T m j ≤ 0
  rm : r < m
  rpos : 0 < T r c
  rmin : ∀ i, i < m → 0 < T i c → T r (n + m) / T r c ≤ T i (n + m) / T i c
  tie : ∀ i, i < m → 0 < T i c → T r (n + m) / T r c = T i (n + m) / T i c → β r ≤ β i
theorem div_nonneg {a b : Rat} (ha : 0 ≤ a) (hb : 0 < b) : 0 ≤ a / b := by
  rw [Rat.div_def]
  exact Rat.mul_nonneg ha (Rat.le_of_lt (Rat.inv_pos.mpr hb))
theorem div_zero' {a b : Rat} (h : a / b = 0) (hb : 0 < b) : a = 0 := by
  have : a / b * b = a := Rat.div_mul_cancel (Rat.ne_of_gt hb)
  rw [h] at this
  grind
theorem Stp.ratio {n m : Nat} {T : Nat → Nat → Rat} {β : Nat → Nat} {r c : Nat} (h : Stp n m T β r c) (f : ∀ i, i < m → 0 ≤ T i (n + m)) : 0 ≤ T r (n + m) / T r c := div_nonneg (f r h.rm) h.rpos
theorem Stp.feas {n m : Nat} {T : Nat → Nat → Rat} {β : Nat → Nat} {r c : Nat} (h : Stp n m T β r c) (f : ∀ i, i < m → 0 ≤ T i (n + m)) : ∀ i, i < m → 0 ≤ piv T r c i (n + m) := fun i hi => by
  have hq := h.ratio f
  unfold piv
  by_cases e : i = r
  · rw [if_pos e]
    exact hq
  · rw [if_neg e]
    have hf := f i hi
    by_cases hp : 0 < T i c
    · have h1 := h.rmin i hi hp
      have h2 := Rat.mul_le_mul_of_nonneg_left h1 (Rat.le_of_lt hp)
      have h3 : T i c * (T i (n + m) / T i c) = T i (n + m) := by
        rw [Rat.mul_comm]
        exact Rat.div_mul_cancel (Rat.ne_of_gt hp)
      grind
    · have h1 : T i c ≤ 0 := Rat.not_lt.mp hp
      have h2 := Rat.mul_nonneg (a := - T i c) (by grind) hq
      grind
theorem max_at (f : Nat → Nat) (p : Nat) : ∀ d : Nat, ∃ e, p ≤ e ∧ e < p + (d + 1) ∧ ∀ k, p ≤ k → k < p + (d + 1) → f k ≤ f e
  | 0 => ⟨p, Nat.le_refl _, by omega, fun k h1 h2 => by rw [show k = p by omega]; exact Nat.le_refl _⟩
  | d + 1 => by
    obtain ⟨e, h1, h2, h3⟩ := max_at f p d
    by_cases h : f e ≤ f (p + (d + 1))
    · refine ⟨p + (d + 1), by omega, by omega, fun k k1 k2 => ?_⟩
      by_cases hk : k < p + (d + 1)
      · have := h3 k k1 hk
        omega
      · rw [show k = p + (d + 1) by omega]
        exact Nat.le_refl _
    · refine ⟨e, h1, by omega, fun k k1 k2 => ?_⟩
      by_cases hk : k < p + (d + 1)
      · exact h3 k k1 hk
      · rw [show k = p + (d + 1) by omega]
        omega
/-- a run of steps -/
structure Seq (n m : Nat) (A : Nat → Nat → Rat) (T : Nat → Nat → Nat → Rat) (β : Nat → Nat → Nat) (r c : Nat → Nat) : Prop where
  tab : ∀ k, Tab n m A (T k) (β k)
  feas : ∀ k i, i < m → 0 ≤ T k i (n + m)
  stp : ∀ k, Stp n m (T k) (β k) (r k) (c k)
  nxT : ∀ k i j, i ≤ m → j ≤ n + m → T (k + 1) i j = piv (T k) (r k) (c k) i j
  nxB : ∀ k i, i < m → β (k + 1) i = pivB (β k) (r k) (c k) i
section
variable {n m : Nat} {A : Nat → Nat → Rat} {T : Nat → Nat → Nat → Rat} {β : Nat → Nat → Nat} {r c : Nat → Nat}
theorem Seq.down (S : Seq n m A T β r c) (k : Nat) : T (k + 1) m (n + m) ≤ T k m (n + m) ∧ (T (k + 1) m (n + m) = T k m (n + m) → T k (r k) (n + m) = 0) := by
  have s := S.stp k
  have e := S.nxT k m (n + m) (Nat.le_refl _) (Nat.le_refl _)
  have rm := s.rm
  have e2 : piv (T k) (r k) (c k) m (n + m) = T k m (n + m) - T k m (c k) * (T k (r k) (n + m) / T k (r k) (c k)) := if_neg (by omega)
  have hq := s.ratio (S.feas k)
  have hm := Rat.mul_nonneg (Rat.le_of_lt s.cpos) hq
  refine ⟨by grind, fun h => ?_⟩
  have h0 : T k m (c k) * (T k (r k) (n + m) / T k (r k) (c k)) = 0 := by grind
  rcases Rat.mul_eq_zero.mp h0 with z | z
  · have := s.cpos
    grind
  · exact div_zero' z s.rpos
theorem Seq.anti (S : Seq n m A T β r c) {x : Nat} : ∀ d : Nat, T (x + d) m (n + m) ≤ T x m (n + m)
  | 0 => Rat.le_refl
  | d + 1 => by
    have h1 := S.anti (x := x) d
    have h2 := (S.down (x + d)).1
    rw [show x + (d + 1) = x + d + 1 by omega]
    grind
def InB (m : Nat) (β : Nat → Nat → Nat) (k v : Nat) : Prop := ∃ i, i < m ∧ β k i = v
theorem Seq.notIn (S : Seq n m A T β r c) {x v : Nat} (h : ¬ InB m β x v) : ∀ d : Nat, (∀ k, x ≤ k → k < x + d → c k ≠ v) → ¬ InB m β (x + d) v
  | 0, _ => h
  | d + 1, hc => fun ⟨i, hi, e⟩ => by
    have ih := S.notIn h d fun k k1 k2 => hc k k1 (by omega)
    have q := S.nxB (x + d) i hi
    rw [show x + (d + 1) = x + d + 1 by omega, q] at e
    unfold pivB at e
    split at e
    · exact hc (x + d) (by omega) (by omega) e
    · exact ih ⟨i, hi, e⟩
theorem Seq.isIn (S : Seq n m A T β r c) {x v : Nat} (h : InB m β x v) : ∀ d : Nat, (∀ k, x ≤ k → k < x + d → β k (r k) ≠ v) → InB m β (x + d) v
  | 0, _ => h
  | d + 1, hc => by
    obtain ⟨i, hi, e⟩ := S.isIn h d fun k k1 k2 => hc k k1 (by omega)
    refine ⟨i, hi, ?_⟩
    rw [show x + (d + 1) = x + d + 1 by omega, S.nxB (x + d) i hi]
    unfold pivB
    rw [if_neg fun z => hc (x + d) (by omega) (by omega) (by rw [← z]; exact e)]
    exact e
theorem Seq.same (S : Seq n m A T β r c) {x i : Nat} (hi : i < m) : ∀ d : Nat, (∀ k, x ≤ k → k < x + d → r k ≠ i) → β (x + d) i = β x i
  | 0, _ => rfl
  | d + 1, hc => by
    have ih := S.same hi d fun k k1 k2 => hc k k1 (by omega)
    rw [show x + (d + 1) = x + d + 1 by omega, S.nxB (x + d) i hi]
    unfold pivB
    rw [if_neg fun z => hc (x + d) (by omega) (by omega) z.symm]
    exact ih
/-- Bland: no basis comes again -/
theorem Seq.never (S : Seq n m A T β r c) {p q : Nat} (hpq : p < q) (hb : ∀ i, i < m → β p i = β q i) : False := by
  have hz : T q m (n + m) = T p m (n + m) := by
    have h : Tab n m A (T q) (β p) := by
      have t := S.tab q
      refine ⟨fun i hi => by rw [hb i hi]; exact t.bas i hi, fun i hi k hk => by rw [hb i hi]; exact t.unit i hi k hk, t.rc, t.rcz, fun k hk j hj => ?_, fun j hj => ?_⟩
      · rw [t.cr k hk j hj]
        exact sm_congr fun i hi => by rw [hb i hi]
      · rw [t.crz j hj]
        congr 1
        exact sm_congr fun i hi => by rw [hb i hi]
    exact (S.tab p).uniq h (Nat.le_refl _) (Nat.le_refl _)
  have hr0 : ∀ k, p ≤ k → k < q → T k (r k) (n + m) = 0 := fun k h1 h2 => by
    have a1 := S.anti (x := p) (k - p)
    have a2 := S.anti (x := k + 1) (q - (k + 1))
    rw [show p + (k - p) = k by omega] at a1
    rw [show k + 1 + (q - (k + 1)) = q by omega] at a2
    have d := S.down k
    refine d.2 ?_
    have := d.1
    grind
  have hrc : ∀ i, i < m → ∀ d, p + d ≤ q → T (p + d) i (n + m) = T p i (n + m) := fun i hi d => by
    induction d with
    | zero => intro _; rfl
    | succ d ih =>
      intro hd
      have h0 := hr0 (p + d) (by omega) (by omega)
      rw [show p + (d + 1) = p + d + 1 by omega, S.nxT (p + d) i (n + m) (by omega) (Nat.le_refl _)]
      rw [← ih (by omega)]
      unfold piv
      by_cases e : i = r (p + d)
      · rw [if_pos e, e, h0]
        grind
      · rw [if_neg e, h0]
        grind
  have hrow : ∀ k, p ≤ k → k ≤ q → ∀ i, i < m → T k i (n + m) = T p i (n + m) := fun k h1 h2 i hi => by
    have := hrc i hi (k - p) (by omega)
    rw [show p + (k - p) = k by omega] at this
    exact this
  have hch : ∀ x y, p ≤ x → x ≤ y → y ≤ q → ∀ i, i < m → β x i ≠ β y i → T p i (n + m) = 0 := fun x y h1 h2 h3 i hi hne => by
    apply Classical.byContradiction
    intro hT
    refine hne ?_
    have e := S.same (x := x) hi (y - x) fun k k1 k2 hk => hT ?_
    · rw [show x + (y - x) = y by omega] at e
      exact e.symm
    · rw [← hrow k (by omega) (by omega) i hi, ← hk]
      exact hr0 k (by omega) (by omega)
  obtain ⟨e, e1, e2, e3⟩ := max_at c p (q - p - 1)
  rw [show p + (q - p - 1 + 1) = q by omega] at e2 e3
  have notE : ¬ InB m β e (c e) := fun ⟨i, hi, z⟩ => by
    have h := (S.tab e).unitm hi
    rw [z] at h
    have := (S.stp e).cpos
    grind
  have inPQ : ∀ v, InB m β p v ↔ InB m β q v := fun v => ⟨fun ⟨i, hi, z⟩ => ⟨i, hi, by rw [← hb i hi]; exact z⟩, fun ⟨i, hi, z⟩ => ⟨i, hi, by rw [hb i hi]; exact z⟩⟩
  -- the greatest leaves, too
  obtain ⟨a, a1, a2, a3⟩ : ∃ a, p ≤ a ∧ a < q ∧ β a (r a) = c e := by
    apply Classical.byContradiction
    intro hno
    have nl : ∀ k, p ≤ k → k < q → β k (r k) ≠ c e := fun k h1 h2 h3 => hno ⟨k, h1, h2, h3⟩
    have i1 : InB m β (e + 1) (c e) := ⟨r e, (S.stp e).rm, by rw [S.nxB e _ (S.stp e).rm]; exact if_pos rfl⟩
    have i2 := S.isIn i1 (q - (e + 1)) fun k h1 h2 => nl k (by omega) (by omega)
    rw [show e + 1 + (q - (e + 1)) = q by omega] at i2
    have i3 := S.isIn ((inPQ _).mpr i2) (e - p) fun k h1 h2 => nl k (by omega) (by omega)
    rw [show p + (e - p) = e by omega] at i3
    exact notE i3
  have sa := S.stp a
  have se := S.stp e
  have hst : c a < c e := by
    have h1 := e3 a a1 a2
    have h2 : c a ≠ c e := fun z => by
      have h := (S.tab a).unitm sa.rm
      rw [a3, ← z] at h
      have := sa.cpos
      grind
    omega
  have hx := (S.tab a).x1 (S.tab e) (s := c a) (Nat.le_of_lt sa.cN)
  have hneg : (sm m fun l => T a l (c a) * T e m (β a l)) < 0 := by
    have h1 := se.cmin (c a) hst
    have h2 := sa.cpos
    grind
  obtain ⟨l, hl, hlt⟩ := sm_neg hneg
  have hv0 : T e m (β a l) ≠ 0 := fun z => by
    rw [z] at hlt
    grind
  have nIe : ¬ InB m β e (β a l) := fun ⟨i, hi, z⟩ => hv0 (by rw [← z]; exact (S.tab e).unitm hi)
  have hle : β a l ≤ c e := by
    apply Classical.byContradiction
    intro hgt
    have ne : ∀ k, p ≤ k → k < q → c k ≠ β a l := fun k h1 h2 h3 => by
      have := e3 k h1 h2
      omega
    have n1 := S.notIn nIe (q - e) fun k h1 h2 => ne k (by omega) (by omega)
    rw [show e + (q - e) = q by omega] at n1
    have n2 := S.notIn (fun z => n1 ((inPQ _).mp z)) (a - p) fun k h1 h2 => ne k (by omega) (by omega)
    rw [show p + (a - p) = a by omega] at n2
    exact n2 ⟨l, hl, rfl⟩
  have hne : β a l ≠ c e := fun z => by
    have el : l = r a := (S.tab a).inj hl sa.rm (by rw [z, a3])
    rw [z, el] at hlt
    have := Rat.mul_pos sa.rpos se.cpos
    grind
  have hvl := se.cmin (β a l) (by omega)
  have hpos : 0 < T a l (c a) := by
    apply Classical.byContradiction
    intro h
    have h1 : T a l (c a) ≤ 0 := Rat.not_lt.mp h
    have := Rat.mul_nonneg (a := - T a l (c a)) (b := - T e m (β a l)) (by grind) (by grind)
    grind
  have hl0 : T a l (n + m) = 0 := by
    rw [hrow a a1 (by omega) l hl]
    have hd : β a l ≠ β e l := fun z => nIe ⟨l, hl, z.symm⟩
    by_cases h : a ≤ e
    · exact hch a e a1 h (by omega) l hl hd
    · exact hch e a e1 (by omega) (by omega) l hl (Ne.symm hd)
  have ht := sa.tie l hl hpos (by rw [hl0, hr0 a a1 a2]; grind)
  rw [a3] at ht
  omega
end
/-! ### the end is reached -/
def allL (N : Nat) : Nat → List (List Nat)
  | 0 => [[]]
  | k + 1 => (allL N k).flatMap fun l => (List.range N).map fun x => x :: l
theorem mem_allL {N : Nat} : ∀ {l : List Nat}, (∀ x ∈ l, x < N) → l ∈ allL N l.length
  | [], _ => List.mem_cons_self
  | x :: l, h => List.mem_flatMap.mpr ⟨l, mem_allL fun y hy => h y (List.mem_cons_of_mem _ hy), List.mem_map.mpr ⟨x, List.mem_range.mpr (h x List.mem_cons_self), rfl⟩⟩
theorem pigeon {α : Type} [DecidableEq α] (U : List α) (f : Nat → α) (h : ∀ k, f k ∈ U) : ∃ p q, p < q ∧ f p = f q := by
  apply Classical.byContradiction
  intro hno
  have nd : ((List.range (U.length + 1)).map f).Nodup := by
    rw [List.nodup_iff_pairwise_ne, List.pairwise_map]
    exact List.pairwise_lt_range.imp fun {a b} hab e => hno ⟨a, b, hab, e⟩
  have hle := nd.length_le_of_subset (l₂ := U) fun x hx => by
    obtain ⟨k, _, rfl⟩ := List.mem_map.mp hx
    exact h k
  rw [List.length_map, List.length_range] at hle
  omega
theorem Seq.not {n m : Nat} {A : Nat → Nat → Rat} {T : Nat → Nat → Nat → Rat} {β : Nat → Nat → Nat} {r c : Nat → Nat} (S : Seq n m A T β r c) : False := by
  obtain ⟨p, q, h1, h2⟩ := pigeon (allL (n + m) m) (fun k => (List.range m).map (β k)) fun k => by
    have h := mem_allL (N := n + m) (l := (List.range m).map (β k)) fun x hx => by
      obtain ⟨i, hi, rfl⟩ := List.mem_map.mp hx
      exact (S.tab k).bas i (List.mem_range.mp hi)
    rw [List.length_map, List.length_range] at h
    exact h
  refine S.never h1 fun i hi => ?_
  have h3 := congrArg (fun l : List Nat => l[i]?) h2
  simp only [List.getElem?_map, List.getElem?_range hi, Option.map_some] at h3
  exact Option.some.inj h3
end LW

set_option Elab.async false
set_option linter.all false
set_option maxRecDepth 100000
set_option maxHeartbeats 4000000
namespace LW
/-! ### determinants: rows are vectors -/
def skp (i a : Nat) : Nat := if a < i then a else a + 1
def sg (i : Nat) : Rat := if i % 2 = 0 then 1 else -1
theorem sg_succ (i : Nat) : sg (i + 1) = - sg i := by
  unfold sg
  by_cases h : i % 2 = 0
  · rw [if_pos h, if_neg (by omega)]
  · rw [if_neg h, if_pos (by omega)]
    grind
def mnr (M : Nat → Nat → Rat) (i : Nat) : Nat → Nat → Rat := fun a b => M (skp i a) (b + 1)
def det : Nat → (Nat → Nat → Rat) → Rat
  | 0, _ => 1
  | k + 1, M => sm (k + 1) fun i => sg i * M i 0 * det k (mnr M i)
def rp (M : Nat → Nat → Rat) (l : Nat) (v : Nat → Rat) : Nat → Nat → Rat := fun a b => if a = l then v b else M a b
theorem det_congr : ∀ {k : Nat} {M N : Nat → Nat → Rat}, (∀ a, a < k → ∀ b, b < k → M a b = N a b) → det k M = det k N
  | 0, _, _, _ => rfl
  | k + 1, M, N, h => sm_congr fun i hi => by
    rw [h i hi 0 (by omega), det_congr (k := k) (M := mnr M i) (N := mnr N i) fun a ha b hb => h _ (by unfold skp; split <;> omega) _ (by omega)]
theorem mnr_self (M : Nat → Nat → Rat) (l : Nat) (v : Nat → Rat) : mnr (rp M l v) l = mnr M l := by
  funext a b
  unfold mnr rp
  rw [if_neg (by unfold skp; split <;> omega)]
theorem mnr_other (M : Nat → Nat → Rat) {l i : Nat} (h : i ≠ l) (v : Nat → Rat) : mnr (rp M l v) i = rp (mnr M i) (if l < i then l else l - 1) (fun b => v (b + 1)) := by
  funext a b
  unfold mnr rp
  by_cases e : skp i a = l
  · rw [if_pos e, if_pos (by unfold skp at e; split at e <;> split <;> omega)]
  · rw [if_neg e, if_neg (by unfold skp at e; split at e <;> split <;> omega)]
theorem det_lin : ∀ {k l : Nat} (M : Nat → Nat → Rat) (x y : Rat) (u v : Nat → Rat), l < k → det k (rp M l fun b => x * u b + y * v b) = x * det k (rp M l u) + y * det k (rp M l v)
  | 0, _, _, _, _, _, _, h => by omega
  | k + 1, l, M, x, y, u, v, h => by
    show (sm (k + 1) fun i => sg i * rp M l (fun b => x * u b + y * v b) i 0 * det k (mnr (rp M l fun b => x * u b + y * v b) i)) = x * (sm (k + 1) fun i => sg i * rp M l u i 0 * det k (mnr (rp M l u) i)) + y * (sm (k + 1) fun i => sg i * rp M l v i 0 * det k (mnr (rp M l v) i))
    rw [← sm_mul, ← sm_mul, ← sm_add]
    refine sm_congr fun i hi => ?_
    by_cases e : i = l
    · subst e
      rw [mnr_self, mnr_self, mnr_self]
      have q : ∀ w : Nat → Rat, rp M i w i 0 = w 0 := fun w => if_pos rfl
      rw [q, q, q]
      grind
    · rw [mnr_other M e, mnr_other M e, mnr_other M e, det_lin (k := k) (mnr M i) x y (fun b => u (b + 1)) (fun b => v (b + 1)) (by split <;> omega)]
      have q : ∀ w : Nat → Rat, rp M l w i 0 = M i 0 := fun w => if_neg e
      rw [q, q, q]
      grind
theorem det_nought {k l : Nat} (M : Nat → Nat → Rat) (h : l < k) : det k (rp M l fun _ => 0) = 0 := by
  have q := det_lin M 0 0 (fun _ => 0) (fun _ => 0) h
  have e : (fun _ : Nat => (0 : Rat) * 0 + 0 * 0) = fun _ => 0 := by
    funext _
    grind
  rw [e] at q
  grind
theorem det_sum {k l : Nat} (M : Nat → Nat → Rat) (h : l < k) (x : Nat → Rat) (u : Nat → Nat → Rat) : ∀ t : Nat, det k (rp M l fun b => sm t fun s => x s * u s b) = sm t fun s => x s * det k (rp M l (u s))
  | 0 => det_nought M h
  | t + 1 => by
    have q := det_lin M 1 (x t) (fun b => sm t fun s => x s * u s b) (u t) h
    have e : (fun b => sm (t + 1) fun s => x s * u s b) = fun b => 1 * (sm t fun s => x s * u s b) + x t * u t b := by
      funext b
      show (sm t fun s => x s * u s b) + x t * u t b = _
      grind
    rw [e, q, det_sum M h x u t]
    show _ = (sm t fun s => x s * det k (rp M l (u s))) + x t * det k (rp M l (u t))
    grind
theorem sm_two {f : Nat → Rat} {n r s : Nat} (hr : r < n) (hs : s < n) (hrs : r ≠ s) (h : ∀ i, i < n → i ≠ r → i ≠ s → f i = 0) : sm n f = f r + f s := by
  rw [sm_split (r := r) hr (g := fun i => if i = r then 0 else f i) fun i hi hne => by rw [if_neg hne]]
  rw [sm_one (r := s) hs fun i hi hne => by
    by_cases e : i = r
    · rw [if_pos e]
    · rw [if_neg e]
      exact h i hi e hne]
  rw [if_neg (Ne.symm hrs), if_pos rfl]
  grind
theorem det_adj : ∀ {k a : Nat} {M : Nat → Nat → Rat}, a + 1 < k → (∀ b, M a b = M (a + 1) b) → det k M = 0
  | 0, _, _, h, _ => by omega
  | k + 1, a, M, h, he => by
    show (sm (k + 1) fun i => sg i * M i 0 * det k (mnr M i)) = 0
    rw [sm_two (r := a) (s := a + 1) (by omega) h (by omega) fun i hi h1 h2 => ?_]
    · have e : mnr M a = mnr M (a + 1) := by
        funext x b
        unfold mnr skp
        by_cases h1 : x < a
        · rw [if_pos h1, if_pos (by omega)]
        · by_cases h2 : x = a
          · rw [if_neg h1, if_pos (by omega), h2]
            exact (he _).symm
          · rw [if_neg h1, if_neg (by omega)]
      rw [e, sg_succ, he 0]
      grind
    · have q : det k (mnr M i) = 0 := by
        by_cases h3 : i < a
        · refine det_adj (a := a - 1) (by omega) fun b => ?_
          unfold mnr skp
          rw [if_neg (by omega), if_neg (by omega), show a - 1 + 1 = a by omega]
          exact he _
        · refine det_adj (a := a) (by omega) fun b => ?_
          unfold mnr skp
          rw [if_pos (by omega), if_pos (by omega)]
          exact he _
      rw [q]
      grind
theorem rp_self (M : Nat → Nat → Rat) (l : Nat) : rp M l (M l) = M := by
  funext a b
  unfold rp
  by_cases e : a = l
  · rw [if_pos e, e]
  · rw [if_neg e]
theorem rp_rp (M : Nat → Nat → Rat) (l : Nat) (u v : Nat → Rat) : rp (rp M l u) l v = rp M l v := by
  funext a b
  unfold rp
  by_cases e : a = l
  · rw [if_pos e, if_pos e]
  · rw [if_neg e, if_neg e, if_neg e]
theorem rp_comm (M : Nat → Nat → Rat) {l l' : Nat} (h : l ≠ l') (u v : Nat → Rat) : rp (rp M l u) l' v = rp (rp M l' v) l u := by
  funext a b
  unfold rp
  by_cases e : a = l
  · rw [if_neg (by omega), if_pos e, if_pos e]
  · by_cases e' : a = l'
    · rw [if_pos e', if_neg e, if_pos e']
    · rw [if_neg e', if_neg e, if_neg e, if_neg e']
theorem det_swap {k a : Nat} (M : Nat → Nat → Rat) (h : a + 1 < k) (u v : Nat → Rat) : det k (rp (rp M a u) (a + 1) v) = - det k (rp (rp M a v) (a + 1) u) := by
  have adj : ∀ w : Nat → Rat, det k (rp (rp M a w) (a + 1) w) = 0 := fun w => det_adj (a := a) h fun b => by
    unfold rp
    rw [if_neg (by omega), if_pos rfl, if_pos rfl]
  have two : ∀ x y : Nat → Rat, det k (rp (rp M a fun b => 1 * x b + 1 * y b) (a + 1) fun b => 1 * x b + 1 * y b) = det k (rp (rp M a x) (a + 1) x) + det k (rp (rp M a x) (a + 1) y) + det k (rp (rp M a y) (a + 1) x) + det k (rp (rp M a y) (a + 1) y) := fun x y => by
    rw [det_lin _ 1 1 x y h, rp_comm M (by omega) _ x, rp_comm M (by omega) _ y, det_lin _ 1 1 x y (show a < k by omega), det_lin _ 1 1 x y (show a < k by omega)]
    rw [rp_comm M (show a + 1 ≠ a by omega) x x, rp_comm M (show a + 1 ≠ a by omega) x y, rp_comm M (show a + 1 ≠ a by omega) y x, rp_comm M (show a + 1 ≠ a by omega) y y]
    grind
  have q := two u v
  rw [adj, adj, adj] at q
  grind
theorem det_eq : ∀ (d : Nat) {k a : Nat} {M : Nat → Nat → Rat}, a + (d + 1) < k → (∀ b, M a b = M (a + (d + 1)) b) → det k M = 0
  | 0, _, _, _, h, he => det_adj h he
  | d + 1, k, a, M, h, he => by
    have q := det_swap (k := k) (a := a + (d + 1)) M (by omega) (M (a + (d + 1))) (M (a + (d + 1) + 1))
    have e1 : rp (rp M (a + (d + 1)) (M (a + (d + 1)))) (a + (d + 1) + 1) (M (a + (d + 1) + 1)) = M := by
      rw [rp_self, rp_self]
    rw [e1] at q
    rw [q, det_eq d (k := k) (a := a) (by omega) fun b => ?_]
    · grind
    · unfold rp
      rw [if_neg (by omega), if_neg (by omega), if_neg (by omega), if_pos rfl]
      exact he b
theorem det_same {k a b : Nat} {M : Nat → Nat → Rat} (ha : a < k) (hb : b < k) (hab : a ≠ b) (h : ∀ x, M a x = M b x) : det k M = 0 := by
  by_cases hlt : a < b
  · exact det_eq (b - a - 1) (a := a) (by omega) fun x => by rw [show a + (b - a - 1 + 1) = b by omega]; exact h x
  · exact det_eq (a - b - 1) (a := b) (by omega) fun x => by rw [show b + (a - b - 1 + 1) = a by omega]; exact (h x).symm
theorem det_one : ∀ k : Nat, det k (fun a b => if a = b then 1 else 0) = 1
  | 0 => rfl
  | k + 1 => by
    show (sm (k + 1) fun i => sg i * (if i = 0 then 1 else 0) * det k (mnr (fun a b => if a = b then 1 else 0) i)) = 1
    rw [sm_one (r := 0) (by omega) fun i hi hne => by rw [if_neg hne]; grind]
    rw [det_congr (N := fun a b => if a = b then 1 else 0) fun a ha b hb => ?_, det_one k, if_pos rfl]
    · show (1 : Rat) * 1 * 1 = 1
      grind
    · unfold mnr skp
      rw [if_neg (by omega)]
      show (if a + 1 = b + 1 then (1 : Rat) else 0) = if a = b then 1 else 0
      by_cases e : a = b
      · rw [if_pos (by omega), if_pos e]
      · rw [if_neg (by omega), if_neg e]
/-! ### small whole numbers -/
def fct : Nat → Nat
  | 0 => 1
  | k + 1 => (k + 1) * fct k
theorem fct_pos : ∀ k, 1 ≤ fct k
  | 0 => Nat.le_refl _
  | k + 1 => Nat.le_trans (fct_pos k) (by
    show fct k ≤ (k + 1) * fct k
    exact Nat.le_mul_of_pos_left _ (by omega))
theorem fct_mono {k l : Nat} (h : k ≤ l) : fct k ≤ fct l := by
  induction l with
  | zero =>
    rw [show k = 0 by omega]
    exact Nat.le_refl _
  | succ l ih =>
    by_cases e : k = l + 1
    · rw [e]
      exact Nat.le_refl _
    · refine Nat.le_trans (ih (by omega)) ?_
      show fct l ≤ (l + 1) * fct l
      exact Nat.le_mul_of_pos_left _ (by omega)
def Sml (x : Rat) (B : Nat) : Prop := ∃ z : Int, x = (z : Rat) ∧ z.natAbs ≤ B
theorem Sml.add {x y : Rat} {B C : Nat} (h : Sml x B) (h' : Sml y C) : Sml (x + y) (B + C) := by
  obtain ⟨z, rfl, hz⟩ := h
  obtain ⟨z', rfl, hz'⟩ := h'
  exact ⟨z + z', by rw [Rat.intCast_add], by omega⟩
theorem Sml.neg {x : Rat} {B : Nat} (h : Sml x B) : Sml (-x) B := by
  obtain ⟨z, rfl, hz⟩ := h
  exact ⟨-z, by rw [Rat.intCast_neg], by omega⟩
theorem Sml.sub {x y : Rat} {B C : Nat} (h : Sml x B) (h' : Sml y C) : Sml (x - y) (B + C) := by
  rw [Rat.sub_eq_add_neg]
  exact h.add h'.neg
theorem Sml.zero (B : Nat) : Sml 0 B := ⟨0, rfl, by simp⟩
theorem Sml.mono {x : Rat} {B C : Nat} (h : Sml x B) (hl : B ≤ C) : Sml x C := by
  obtain ⟨z, e, hz⟩ := h
  exact ⟨z, e, Nat.le_trans hz hl⟩
theorem Sml.sum {f : Nat → Rat} {B : Nat} : ∀ {n : Nat}, (∀ i, i < n → Sml (f i) B) → Sml (sm n f) (n * B)
  | 0, _ => .zero _
  | n + 1, h => by
    have h1 := Sml.sum (n := n) fun i hi => h i (by omega)
    exact (h1.add (h n (by omega))).mono (by rw [Nat.succ_mul]; exact Nat.le_refl _)
theorem Sml.bit {x y : Rat} {B : Nat} (h : x = 0 ∨ x = 1) (h' : Sml y B) : Sml (x * y) B := by
  rcases h with e | e
  · rw [e, Rat.zero_mul]
    exact .zero _
  · rw [e, Rat.one_mul]
    exact h'
theorem det_small : ∀ {k : Nat} {M : Nat → Nat → Rat}, (∀ a, a < k → ∀ b, b < k → M a b = 0 ∨ M a b = 1) → Sml (det k M) (fct k)
  | 0, _, _ => ⟨1, rfl, Nat.le_refl _⟩
  | k + 1, M, h => by
    refine Sml.sum fun i hi => ?_
    have hd : Sml (det k (mnr M i)) (fct k) := det_small fun a ha b hb => h _ (by unfold skp; split <;> omega) _ (by omega)
    have hm := Sml.bit (h i hi 0 (by omega)) hd
    have e : sg i * M i 0 * det k (mnr M i) = sg i * (M i 0 * det k (mnr M i)) := by grind
    rw [e]
    unfold sg
    split
    · rw [Rat.one_mul]
      exact hm
    · have e2 : (-1 : Rat) * (M i 0 * det k (mnr M i)) = - (M i 0 * det k (mnr M i)) := by grind
      rw [e2]
      exact hm.neg
theorem sm_ne {f : Nat → Rat} {n : Nat} (h : sm n f ≠ 0) : ∃ i, i < n ∧ f i ≠ 0 := by
  apply Classical.byContradiction
  intro hc
  exact h (sm_zero fun i hi => by
    apply Classical.byContradiction
    intro h2
    exact hc ⟨i, hi, h2⟩)
/-- if vectors with a determinant are sums of some vectors, these can be put into an order with a determinant -/
theorem det_pick {k : Nat} {M u : Nat → Nat → Rat} {x : Nat → Nat → Rat} (hu : ∀ a, a < k → ∀ b, b < k → u a b = sm k fun s => x a s * M s b) (hd : det k u ≠ 0) : ∀ l, l ≤ k → ∃ f : Nat → Nat, (∀ a, f a < k ∨ k = 0) ∧ det k (fun a => if a < l then M (f a) else u a) ≠ 0
  | 0, _ => ⟨fun _ => 0, fun a => by show 0 < k ∨ k = 0; omega, by
    rw [show (fun a => if a < 0 then M 0 else u a) = u from by funext a; rw [if_neg (by omega)]]
    exact hd⟩
  | l + 1, hl => by
    obtain ⟨f, hf, hn⟩ := det_pick hu hd l (by omega)
    have e : det k (fun a => if a < l then M (f a) else u a) = det k (rp (fun a => if a < l then M (f a) else u a) l fun b => sm k fun s => x l s * M s b) := det_congr fun a ha b hb => by
      unfold rp
      by_cases q : a = l
      · subst q
        rw [if_neg (by omega), if_pos rfl]
        exact hu a ha b hb
      · rw [if_neg q]
    rw [e, det_sum _ (by omega)] at hn
    obtain ⟨s, hs, h0⟩ := sm_ne hn
    have h1 : det k (rp (fun a => if a < l then M (f a) else u a) l (M s)) ≠ 0 := fun z => h0 (by rw [z]; grind)
    refine ⟨fun a => if a = l then s else f a, fun a => ?_, ?_⟩
    · by_cases q : a = l
      · simp only [q, if_true]
        exact .inl hs
      · simp only [q, if_false]
        exact hf a
    · rw [show (fun a => if a < l + 1 then M (if a = l then s else f a) else u a) = rp (fun a => if a < l then M (f a) else u a) l (M s) from ?_]
      · exact h1
      · funext a b
        unfold rp
        by_cases q : a = l
        · rw [if_pos q, if_pos (by omega), if_pos q]
        · rw [if_neg q, if_neg q]
          show (if a < l + 1 then M (f a) else u a) b = (if a < l then M (f a) else u a) b
          by_cases q2 : a < l
          · rw [if_pos q2, if_pos (by omega)]
          · rw [if_neg q2, if_neg (by omega)]
/-- Cramer, with a bound -/
theorem cramer {k : Nat} {M x : Nat → Nat → Rat} (hM : ∀ a, a < k → ∀ b, b < k → M a b = 0 ∨ M a b = 1) (hu : ∀ a, a < k → ∀ b, b < k → (if a = b then 1 else 0) = sm k fun s => x a s * M s b) :
    ∃ D : Rat, D ≠ 0 ∧ Sml D (fct k) ∧ ∀ (y v : Nat → Rat), (∀ b, b < k → v b = sm k fun s => y s * M s b) → (∀ b, b < k → v b = 0 ∨ v b = 1) → ∀ s, s < k → Sml (y s * D) (fct k) := by
  obtain ⟨f, hf, hn⟩ := det_pick (u := fun a b => if a = b then 1 else 0) hu (by rw [det_one]; grind) k (Nat.le_refl _)
  have e0 : det k (fun a => if a < k then M (f a) else fun b => if a = b then 1 else 0) = det k (fun a => M (f a)) := det_congr fun a ha b hb => by rw [if_pos ha]
  rw [e0] at hn
  have hfk : ∀ a, a < k → f a < k := fun a ha => (hf a).resolve_right (by omega)
  have inj : ∀ a b, a < k → b < k → f a = f b → a = b := fun a b ha hb e => by
    apply Classical.byContradiction
    intro hne
    exact hn (det_same (M := fun a => M (f a)) ha hb hne fun x => by rw [e])
  have sur : ∀ s, s < k → ∃ l, l < k ∧ f l = s := fun s hs => by
    apply Classical.byContradiction
    intro hno
    have nd : (s :: (List.range k).map f).Nodup := by
      refine List.nodup_cons.mpr ⟨fun z => ?_, ?_⟩
      · obtain ⟨l, hl, e⟩ := List.mem_map.mp z
        exact hno ⟨l, List.mem_range.mp hl, e⟩
      · rw [List.nodup_iff_pairwise_ne, List.pairwise_map]
        refine (List.Pairwise.and_mem.mp List.pairwise_lt_range).imp fun {a b} ⟨ha, hb, hab⟩ e => ?_
        have := inj a b (List.mem_range.mp ha) (List.mem_range.mp hb) e
        omega
    have hle := nd.length_le_of_subset (l₂ := List.range k) fun y hy => by
      rcases List.mem_cons.mp hy with rfl | hy
      · exact List.mem_range.mpr hs
      · obtain ⟨l, hl, rfl⟩ := List.mem_map.mp hy
        exact List.mem_range.mpr (hfk l (List.mem_range.mp hl))
    rw [List.length_cons, List.length_map, List.length_range] at hle
    omega
  refine ⟨det k fun a => M (f a), hn, det_small fun a ha b hb => hM _ (hfk a ha) b hb, fun y v hv hv01 s hs => ?_⟩
  obtain ⟨l, hl, rfl⟩ := sur s hs
  have e1 : det k (rp (fun a => M (f a)) l v) = y (f l) * det k fun a => M (f a) := by
    rw [det_congr (N := rp (fun a => M (f a)) l fun b => sm k fun s => y s * M s b) fun a ha b hb => ?_, det_sum _ hl]
    · rw [sm_one (r := f l) (hfk l hl) fun i hi hne => ?_]
      · rw [show rp (fun a => M (f a)) l (M (f l)) = fun a => M (f a) from rp_self (fun a => M (f a)) l]
      · obtain ⟨l', hl', e⟩ := sur i hi
        have hll : l' ≠ l := fun z => hne (by rw [← e, z])
        rw [det_same (a := l') (b := l) hl' hl hll fun x => ?_]
        · grind
        · unfold rp
          rw [if_neg hll, if_pos rfl, ← e]
    · unfold rp
      by_cases q : a = l
      · rw [if_pos q, if_pos q]
        exact hv b hb
      · rw [if_neg q, if_neg q]
  rw [← e1]
  refine det_small fun a ha b hb => ?_
  unfold rp
  by_cases q : a = l
  · rw [if_pos q]
    exact hv01 b hb
  · rw [if_neg q]
    exact hM _ (hfk a ha) b hb
end LW

set_option Elab.async false
set_option linter.all false
set_option maxRecDepth 100000
set_option maxHeartbeats 4000000
namespace LW
/-! ### sums over a part of the places -/
def flt (m : Nat) (P : Nat → Bool) : List Nat := (List.range m).filter P
theorem flt_succ (m : Nat) (P : Nat → Bool) : flt (m + 1) P = if P m then flt m P ++ [m] else flt m P := by
  unfold flt
  rw [List.range_succ, List.filter_append]
  by_cases h : P m = true
  · rw [if_pos h, List.filter_cons, if_pos h]
    rfl
  · rw [if_neg h, List.filter_cons, if_neg h]
    simp
theorem sm_flt (P : Nat → Bool) (g : Nat → Rat) : ∀ m : Nat, (sm m fun i => if P i then g i else 0) = sm (flt m P).length fun s => g ((flt m P).getD s 0)
  | 0 => rfl
  | m + 1 => by
    show (sm m fun i => if P i then g i else 0) + (if P m then g m else 0) = _
    rw [sm_flt P g m, flt_succ]
    by_cases h : P m = true
    · rw [if_pos h, if_pos h, List.length_append]
      show _ = (sm (flt m P).length fun s => g ((flt m P ++ [m]).getD s 0)) + g ((flt m P ++ [m]).getD (flt m P).length 0)
      congr 1
      · exact sm_congr fun s hs => by simp [List.getD, List.getElem?_append_left hs]
      · simp [List.getD]
    · rw [if_neg h, if_neg h]
      grind
theorem mem_flt {m : Nat} {P : Nat → Bool} {i : Nat} : i ∈ flt m P ↔ i < m ∧ P i = true := by
  unfold flt
  rw [List.mem_filter, List.mem_range]
theorem flt_nd (m : Nat) (P : Nat → Bool) : (flt m P).Nodup := List.Pairwise.filter _ List.nodup_range
theorem flt_get {m : Nat} {P : Nat → Bool} {s : Nat} (h : s < (flt m P).length) : (flt m P).getD s 0 < m ∧ P ((flt m P).getD s 0) = true := by
  have e : (flt m P).getD s 0 = (flt m P)[s] := by simp [List.getD, List.getElem?_eq_getElem h]
  rw [e]
  exact mem_flt.mp (List.getElem_mem h)
theorem flt_has {m : Nat} {P : Nat → Bool} {i : Nat} (h : i < m) (hp : P i = true) : ∃ s, s < (flt m P).length ∧ (flt m P).getD s 0 = i := by
  obtain ⟨s, hs, e⟩ := List.getElem_of_mem (mem_flt.mpr ⟨h, hp⟩)
  exact ⟨s, hs, by simp [List.getD, List.getElem?_eq_getElem hs, e]⟩
theorem flt_inj {m : Nat} {P : Nat → Bool} {s t : Nat} (hs : s < (flt m P).length) (ht : t < (flt m P).length) (e : (flt m P).getD s 0 = (flt m P).getD t 0) : s = t := by
  have e1 : (flt m P)[s] = (flt m P)[t] := by simpa [List.getD, List.getElem?_eq_getElem hs, List.getElem?_eq_getElem ht] using e
  have nd := List.pairwise_iff_getElem.mp (flt_nd m P)
  by_cases h1 : s < t
  · exact absurd e1 (nd s t hs ht h1)
  · by_cases h2 : t < s
    · exact absurd e1.symm (nd t s ht hs h2)
    · omega
theorem flt_both (m : Nat) (P : Nat → Bool) : (flt m P).length + (flt m fun i => !P i).length = m := by
  induction m with
  | zero => rfl
  | succ m ih =>
    rw [flt_succ, flt_succ]
    cases h : P m
    · simp
      omega
    · simp
      omega
section
variable {n m : Nat} {A T : Nat → Nat → Rat} {β : Nat → Nat}
/-- rows whose basic column is a lamp; parts whose spare is not basic -/
def lampB (n : Nat) (β : Nat → Nat) : Nat → Bool := fun i => decide (β i < n)
def freeB (n m : Nat) (β : Nat → Nat) : Nat → Bool := fun q => (List.range m).all fun i => decide (β i ≠ n + q)
theorem freeB_iff {q : Nat} : freeB n m β q = true ↔ ∀ i, i < m → β i ≠ n + q := by
  unfold freeB
  rw [List.all_eq_true]
  constructor
  · intro h i hi
    exact of_decide_eq_true (h i (List.mem_range.mpr hi))
  · intro h i hi
    exact decide_eq_true (h i (List.mem_range.mp hi))
theorem Tab.count (h : Tab n m A T β) : (flt m (lampB n β)).length = (flt m (freeB n m β)).length := by
  have e1 := flt_both m (lampB n β)
  have e2 := flt_both m (freeB n m β)
  have h1 : (flt m fun i => !lampB n β i).length ≤ (flt m fun q => !freeB n m β q).length := by
    have nd : ((flt m fun i => !lampB n β i).map fun i => β i - n).Nodup := by
      rw [List.nodup_iff_pairwise_ne, List.pairwise_map]
      refine (List.Pairwise.and_mem.mp (List.nodup_iff_pairwise_ne.mp (flt_nd m _))).imp fun {a b} ⟨ha, hb, hab⟩ e => hab ?_
      obtain ⟨a1, a2⟩ := mem_flt.mp ha
      obtain ⟨b1, b2⟩ := mem_flt.mp hb
      have a3 : n ≤ β a := by simpa [lampB] using a2
      have b3 : n ≤ β b := by simpa [lampB] using b2
      exact h.inj a1 b1 (by omega)
    have hle := nd.length_le_of_subset (l₂ := flt m fun q => !freeB n m β q) fun y hy => by
      obtain ⟨i, hi, rfl⟩ := List.mem_map.mp hy
      obtain ⟨i1, i2⟩ := mem_flt.mp hi
      have i3 : n ≤ β i := by simpa [lampB] using i2
      have i4 := h.bas i i1
      refine mem_flt.mpr ⟨by omega, ?_⟩
      cases hf : freeB n m β (β i - n) with
      | false => rfl
      | true => exact absurd (show β i = n + (β i - n) by omega) (freeB_iff.mp hf i i1)
    rw [List.length_map] at hle
    exact hle
  have h2 : (flt m fun q => !freeB n m β q).length ≤ (flt m fun i => !lampB n β i).length := by
    have hle := (flt_nd m fun q => !freeB n m β q).length_le_of_subset (l₂ := (flt m fun i => !lampB n β i).map fun i => β i - n) fun q hq => by
      obtain ⟨q1, q2⟩ := mem_flt.mp hq
      have q3 : ¬ freeB n m β q = true := by simpa using q2
      have q4 : ∃ i, i < m ∧ β i = n + q := by
        apply Classical.byContradiction
        intro hno
        exact q3 (freeB_iff.mpr fun i hi e => hno ⟨i, hi, e⟩)
      obtain ⟨i, hi, e⟩ := q4
      refine List.mem_map.mpr ⟨i, mem_flt.mpr ⟨hi, ?_⟩, by omega⟩
      have : ¬ β i < n := by omega
      simp [lampB, this]
    rw [List.length_map] at hle
    exact hle
  omega
theorem Tab.lampsB (h : Tab n m A T β) : (flt m (lampB n β)).length ≤ n := by
  have nd : ((flt m (lampB n β)).map β).Nodup := by
    rw [List.nodup_iff_pairwise_ne, List.pairwise_map]
    refine (List.Pairwise.and_mem.mp (List.nodup_iff_pairwise_ne.mp (flt_nd m _))).imp fun {a b} ⟨ha, hb, hab⟩ e => hab ?_
    exact h.inj (mem_flt.mp ha).1 (mem_flt.mp hb).1 e
  have hle := nd.length_le_of_subset (l₂ := List.range n) fun y hy => by
    obtain ⟨i, hi, rfl⟩ := List.mem_map.mp hy
    have := (mem_flt.mp hi).2
    exact List.mem_range.mpr (by simpa [lampB] using this)
  rw [List.length_map, List.length_range] at hle
  exact hle
/-- 0 and 1 alone -/
theorem T0_bit (hA : ∀ k, k < m → ∀ j, j < n → A k j = 0 ∨ A k j = 1) {k j : Nat} (hk : k ≤ m) : T0 n m A k j = 0 ∨ T0 n m A k j = 1 := by
  unfold T0
  by_cases e : k = m
  · rw [if_pos e]
    by_cases e2 : j < n
    · rw [if_pos e2]
      exact .inr rfl
    · rw [if_neg e2]
      exact .inl rfl
  · rw [if_neg e]
    by_cases e2 : j < n
    · rw [if_pos e2]
      exact hA k (by omega) j e2
    · rw [if_neg e2]
      by_cases e3 : j = n + m
      · rw [if_pos e3]
        exact .inr rfl
      · rw [if_neg e3]
        by_cases e4 : j = n + k
        · rw [if_pos e4]
          exact .inr rfl
        · rw [if_neg e4]
          exact .inl rfl
/-- all entries are small whole numbers over one small whole number -/
theorem Tab.small (h : Tab n m A T β) (hn : n ≤ 7) (hA : ∀ k, k < m → ∀ j, j < n → A k j = 0 ∨ A k j = 1) : ∃ D : Rat, D ≠ 0 ∧ Sml D 5040 ∧ ∀ i, i ≤ m → ∀ j, j ≤ n + m → Sml (T i j * D) 40320 := by
  have hc := h.count
  have hl := h.lampsB
  have hk7 : (flt m (lampB n β)).length ≤ 7 := by omega
  have hfc : fct (flt m (lampB n β)).length ≤ 5040 := Nat.le_trans (fct_mono hk7) (by decide)
  -- a sum over the basis is a sum over its lamps
  have lsum : ∀ (q : Nat) (y : Nat → Rat), (∀ i, i < m → n ≤ β i → T0 n m A q (β i) = 0) → (sm m fun i => T0 n m A q (β i) * y i) = sm (flt m (lampB n β)).length fun s => y ((flt m (lampB n β)).getD s 0) * T0 n m A q (β ((flt m (lampB n β)).getD s 0)) := fun q y h0 => by
    rw [← sm_flt (lampB n β) (fun i => y i * T0 n m A q (β i))]
    refine sm_congr fun i hi => ?_
    by_cases e : β i < n
    · rw [if_pos (by simp [lampB, e])]
      grind
    · rw [if_neg (by simp [lampB, e]), h0 i hi (by omega)]
      grind
  have free0 : ∀ q, q < m → freeB n m β q = true → ∀ i, i < m → n ≤ β i → T0 n m A q (β i) = 0 := fun q hq hf i hi hni => by
    have h1 := freeB_iff.mp hf i hi
    have h2 := h.bas i hi
    have e := T0_spare (n := n) (m := m) (A := A) hq (show β i - n < m by omega)
    rw [show n + (β i - n) = β i by omega] at e
    rw [e, if_neg (by omega)]
  have fr : ∀ b, b < (flt m (lampB n β)).length → (flt m (freeB n m β)).getD b 0 < m ∧ freeB n m β ((flt m (freeB n m β)).getD b 0) = true := fun b hb => flt_get (by omega)
  obtain ⟨D, hD, hDs, hcr⟩ := cramer (k := (flt m (lampB n β)).length) (M := fun s b => T0 n m A ((flt m (freeB n m β)).getD b 0) (β ((flt m (lampB n β)).getD s 0))) (x := fun a s => T ((flt m (lampB n β)).getD s 0) (n + (flt m (freeB n m β)).getD a 0))
    (fun a ha b hb => T0_bit hA (Nat.le_of_lt (fr b hb).1)) (fun a ha b hb => by
      have e := h.cr _ (fr b hb).1 (n + (flt m (freeB n m β)).getD a 0) (by have := (fr a ha).1; omega)
      rw [lsum _ (fun i => T i (n + (flt m (freeB n m β)).getD a 0)) (free0 _ (fr b hb).1 (fr b hb).2), T0_spare (fr b hb).1 (fr a ha).1] at e
      rw [← e]
      by_cases q : a = b
      · rw [if_pos q, if_pos (by rw [q])]
      · rw [if_neg q, if_neg fun z => q (flt_inj (by omega) (by omega) z.symm)])
  have hlamp : ∀ s, s < (flt m (lampB n β)).length → ∀ j, j ≤ n + m → Sml (T ((flt m (lampB n β)).getD s 0) j * D) 5040 := fun s hs j hj => by
    refine (hcr (fun s => T ((flt m (lampB n β)).getD s 0) j) (fun b => T0 n m A ((flt m (freeB n m β)).getD b 0) j) (fun b hb => ?_) (fun b hb => T0_bit hA (Nat.le_of_lt (fr b hb).1)) s hs).mono hfc
    have e := h.cr _ (fr b hb).1 j hj
    rw [lsum _ (fun i => T i j) (free0 _ (fr b hb).1 (fr b hb).2)] at e
    exact e
  have hsum : ∀ q, q ≤ m → ∀ j, j ≤ n + m → Sml ((sm (flt m (lampB n β)).length fun s => T ((flt m (lampB n β)).getD s 0) j * T0 n m A q (β ((flt m (lampB n β)).getD s 0))) * D) 35280 := fun q hq j hj => by
    rw [← sm_mulr]
    refine (Sml.sum (B := 5040) fun s hs => ?_).mono (Nat.le_trans (Nat.mul_le_mul_right _ hk7) (by decide))
    have e : T ((flt m (lampB n β)).getD s 0) j * T0 n m A q (β ((flt m (lampB n β)).getD s 0)) * D = T0 n m A q (β ((flt m (lampB n β)).getD s 0)) * (T ((flt m (lampB n β)).getD s 0) j * D) := by grind
    rw [e]
    exact Sml.bit (T0_bit hA hq) (hlamp s hs j hj)
  refine ⟨D, hD, hDs.mono hfc, fun i hi j hj => ?_⟩
  by_cases em : i = m
  · subst em
    have e := h.crz j hj
    rw [lsum i (fun l => T l j) fun l hl hnl => by rw [show β l = n + (β l - n) by omega]; exact T0_z] at e
    have e2 : T i j * D = T0 n i A i j * D - (sm (flt i (lampB n β)).length fun s => T ((flt i (lampB n β)).getD s 0) j * T0 n i A i (β ((flt i (lampB n β)).getD s 0))) * D := by grind
    rw [e2]
    exact ((Sml.bit (T0_bit hA (Nat.le_refl _)) (hDs.mono hfc)).sub (hsum i (Nat.le_refl _) j hj)).mono (by decide)
  · by_cases eb : β i < n
    · obtain ⟨s, hs, e⟩ := flt_has (P := lampB n β) (show i < m by omega) (by simp [lampB, eb])
      have q := hlamp s hs j hj
      rw [e] at q
      exact q.mono (by decide)
    · have hb := h.bas i (by omega)
      have hq : β i - n < m := by omega
      have e := h.cr (β i - n) hq j hj
      have e1 : T0 n m A (β i - n) (β i) = 1 := by
        have z := T0_spare (n := n) (m := m) (A := A) hq hq
        rw [show n + (β i - n) = β i by omega, if_pos rfl] at z
        exact z
      have e2 : (sm m fun l => T0 n m A (β i - n) (β l) * T l j) = (sm m fun l => if lampB n β l then T l j * T0 n m A (β i - n) (β l) else 0) + T i j := by
        rw [sm_split (r := i) (by omega) (g := fun l => if lampB n β l then T l j * T0 n m A (β i - n) (β l) else 0) fun l hl hne => ?_]
        · rw [if_neg (by simp [lampB, eb]), e1]
          grind
        · by_cases q : β l < n
          · rw [if_pos (by simp [lampB, q])]
            grind
          · rw [if_neg (by simp [lampB, q])]
            have hbl := h.bas l hl
            have z := T0_spare (n := n) (m := m) (A := A) hq (show β l - n < m by omega)
            rw [show n + (β l - n) = β l by omega, if_neg fun w => hne (h.inj hl (by omega) (by omega))] at z
            rw [z]
            grind
      rw [e2, sm_flt (lampB n β) (fun l => T l j * T0 n m A (β i - n) (β l))] at e
      have e3 : T i j * D = T0 n m A (β i - n) j * D - (sm (flt m (lampB n β)).length fun s => T ((flt m (lampB n β)).getD s 0) j * T0 n m A (β i - n) (β ((flt m (lampB n β)).getD s 0))) * D := by grind
      rw [e3]
      exact ((Sml.bit (T0_bit hA (Nat.le_of_lt hq)) (hDs.mono hfc)).sub (hsum _ (Nat.le_of_lt hq) j hj)).mono (by decide)
end
end LW

set_option Elab.async false
set_option linter.all false
set_option maxRecDepth 100000
set_option maxHeartbeats 4000000
namespace LW
/-! ### the program's tables, as lists of fractions -/
def tf (T : List (List Rat)) (i j : Nat) : Rat := (T.getD i []).getD j 0
def bf (β : List Nat) (i : Nat) : Nat := β.getD i 0
def partA (parts : List (List Int)) (pic : List Int) (k j : Nat) : Rat := if pic.getD j 0 ∈ parts.getD k [] then 1 else 0
def tableM (parts : List (List Int)) (pic : List Int) : List (List Rat) :=
  (List.range parts.length).map (fun k => (pic.map (fun l => if l ∈ parts.getD k [] then (1 : Rat) else 0) ++ (List.range parts.length).map (fun o => if k = o then (1 : Rat) else 0)) ++ [1]) ++ [List.replicate pic.length 1 ++ List.replicate (parts.length + 1) 0]
structure Shp (n m : Nat) (T : List (List Rat)) : Prop where
  len : T.length = m + 1
  row : ∀ r ∈ T, r.length = n + m + 1
theorem getD_lt {α : Type} {l : List α} {i : Nat} {d : α} (h : i < l.length) : l.getD i d = l[i] := by
  simp [List.getD, List.getElem?_eq_getElem h]
theorem Shp.get {n m : Nat} {T : List (List Rat)} (h : Shp n m T) {i : Nat} (hi : i ≤ m) : T.getD i [] ∈ T ∧ (T.getD i []).length = n + m + 1 := by
  have hl := h.len
  rw [getD_lt (show i < T.length by omega)]
  exact ⟨List.getElem_mem _, h.row _ (List.getElem_mem _)⟩
theorem table_shp (parts : List (List Int)) (pic : List Int) : Shp pic.length parts.length (tableM parts pic) := by
  refine ⟨by simp [tableM], fun r hr => ?_⟩
  unfold tableM at hr
  rcases List.mem_append.mp hr with h | h
  · obtain ⟨k, _, rfl⟩ := List.mem_map.mp h
    simp
    omega
  · rw [List.mem_singleton.mp h]
    simp
    omega
theorem table_tf {parts : List (List Int)} {pic : List Int} {i j : Nat} (hi : i ≤ parts.length) (hj : j ≤ pic.length + parts.length) : tf (tableM parts pic) i j = T0 pic.length parts.length (partA parts pic) i j := by
  unfold tf tableM T0
  by_cases e : i = parts.length
  · rw [if_pos e, e]
    have q : ((List.range parts.length).map (fun k => (pic.map (fun l => if l ∈ parts.getD k [] then (1 : Rat) else 0) ++ (List.range parts.length).map (fun o => if k = o then (1 : Rat) else 0)) ++ [1]) ++ [List.replicate pic.length (1 : Rat) ++ List.replicate (parts.length + 1) 0]).getD parts.length [] = List.replicate pic.length 1 ++ List.replicate (parts.length + 1) 0 := by
      simp [List.getD]
    rw [q]
    by_cases h : j < pic.length
    · rw [if_pos h]
      simp [List.getD, List.getElem?_append_left, h]
    · rw [if_neg h]
      simp only [List.getD]
      rw [List.getElem?_append_right (by simp; omega)]
      simp only [List.length_replicate, List.getElem?_replicate]
      split <;> rfl
  · rw [if_neg e]
    have q : ((List.range parts.length).map (fun k => (pic.map (fun l => if l ∈ parts.getD k [] then (1 : Rat) else 0) ++ (List.range parts.length).map (fun o => if k = o then (1 : Rat) else 0)) ++ [1]) ++ [List.replicate pic.length (1 : Rat) ++ List.replicate (parts.length + 1) 0]).getD i [] = (pic.map (fun l => if l ∈ parts.getD i [] then (1 : Rat) else 0) ++ (List.range parts.length).map (fun o => if i = o then (1 : Rat) else 0)) ++ [1] := by
      rw [List.getD, List.getElem?_append_left (by simp; omega), List.getElem?_map, List.getElem?_range (by omega)]
      rfl
    rw [q]
    by_cases h : j < pic.length
    · rw [if_pos h]
      unfold partA
      rw [List.getD, List.getElem?_append_left (by simp; omega), List.getElem?_append_left (by simp; omega), List.getElem?_map, getD_lt h, List.getElem?_eq_getElem h]
      rfl
    · rw [if_neg h]
      by_cases h2 : j = pic.length + parts.length
      · rw [if_pos h2, List.getD, List.getElem?_append_right (by simp; omega)]
        simp [h2]
      · rw [if_neg h2, List.getD, List.getElem?_append_left (by simp; omega), List.getElem?_append_right (by simp; omega), List.getElem?_map, List.length_map, List.getElem?_range (by omega)]
        show (if i = j - pic.length then (1 : Rat) else 0) = if j = pic.length + i then 1 else 0
        by_cases h3 : i = j - pic.length
        · rw [if_pos h3, if_pos (by omega)]
        · rw [if_neg h3, if_neg (by omega)]
def ownM (T : List (List Rat)) (r c : Nat) : List Rat := (T.getD r []).map fun v => v * (tf T r c)⁻¹
def turnedM (T : List (List Rat)) (r c : Nat) : List (List Rat) := (List.range T.length).map fun i => if i = r then ownM T r c else List.zipWith (fun v p => v - tf T i c * p) (T.getD i []) (ownM T r c)
section
variable {n m : Nat} {T : List (List Rat)} {r c : Nat}
theorem own_len (h : Shp n m T) (hr : r ≤ m) : (ownM T r c).length = n + m + 1 := by
  unfold ownM
  rw [List.length_map]
  exact (h.get hr).2
theorem turned_shp (h : Shp n m T) (hr : r ≤ m) : Shp n m (turnedM T r c) := by
  refine ⟨by simp [turnedM, h.len], fun x hx => ?_⟩
  unfold turnedM at hx
  obtain ⟨i, hi, rfl⟩ := List.mem_map.mp hx
  have hi' := List.mem_range.mp hi
  have hl := h.len
  have ho := own_len (c := c) h hr
  have hg := (h.get (i := i) (by omega)).2
  split
  · exact ho
  · rw [List.length_zipWith, ho, hg]
    omega
theorem turned_tf (h : Shp n m T) (hr : r ≤ m) {i j : Nat} (hi : i ≤ m) (hj : j ≤ n + m) : tf (turnedM T r c) i j = piv (tf T) r c i j := by
  have hl := h.len
  have ho := own_len (c := c) h hr
  have hg := (h.get hi).2
  have eo : ∀ j, j ≤ n + m → (ownM T r c).getD j 0 = tf T r j / tf T r c := fun j hj => by
    have hgr := (h.get hr).2
    unfold ownM
    rw [List.getD, List.getElem?_map, List.getElem?_eq_getElem (by omega)]
    show (T.getD r [])[j] * _ = _
    rw [Rat.div_def, ← getD_lt (d := 0) (by omega)]
    rfl
  have e : (turnedM T r c).getD i [] = if i = r then ownM T r c else List.zipWith (fun v p => v - tf T i c * p) (T.getD i []) (ownM T r c) := by
    unfold turnedM
    rw [List.getD, List.getElem?_map, List.getElem?_range (by omega)]
    rfl
  unfold tf piv
  rw [e]
  by_cases q : i = r
  · rw [if_pos q, if_pos q]
    exact eo j hj
  · rw [if_neg q, if_neg q]
    have e2 : (List.zipWith (fun v p => v - tf T i c * p) (T.getD i []) (ownM T r c)).getD j 0 = (T.getD i []).getD j 0 - tf T i c * (ownM T r c).getD j 0 := by
      rw [List.getD, List.getElem?_zipWith, List.getElem?_eq_getElem (show j < (T.getD i []).length by omega), List.getElem?_eq_getElem (show j < (ownM T r c).length by omega)]
      rw [getD_lt (show j < (T.getD i []).length by omega), getD_lt (show j < (ownM T r c).length by omega)]
      rfl
    rw [e2, eo j hj]
    rfl
end
/-! ### which column comes in, which row goes out -/
def posM (n m : Nat) (T : List (List Rat)) : List Nat := (List.range (n + m)).filter fun j => decide (0 < tf T m j)
def lvM (T : List (List Rat)) (β : List Nat) (b c : Nat) : Nat → Option (Rat × Nat × Nat)
  | 0 => none
  | k + 1 => if 0 < tf T k c then
      match lvM T β b c k with
      | none => some (tf T k b * (tf T k c)⁻¹, bf β k, k)
      | some x => if tf T k b * (tf T k c)⁻¹ < x.1 then some (tf T k b * (tf T k c)⁻¹, bf β k, k) else if tf T k b * (tf T k c)⁻¹ = x.1 ∧ bf β k < x.2.1 then some (tf T k b * (tf T k c)⁻¹, bf β k, k) else some x
    else lvM T β b c k
structure LvOk (T : List (List Rat)) (β : List Nat) (b c k : Nat) (x : Rat × Nat × Nat) : Prop where
  lt : x.2.2 < k
  pos : 0 < tf T x.2.2 c
  q : x.1 = tf T x.2.2 b / tf T x.2.2 c
  bb : x.2.1 = bf β x.2.2
  le : ∀ i, i < k → 0 < tf T i c → x.1 ≤ tf T i b / tf T i c
  tie : ∀ i, i < k → 0 < tf T i c → x.1 = tf T i b / tf T i c → x.2.1 ≤ bf β i
theorem lvM_ok (T : List (List Rat)) (β : List Nat) (b c : Nat) : ∀ k : Nat, (lvM T β b c k = none ∧ ∀ i, i < k → ¬ 0 < tf T i c) ∨ ∃ x, lvM T β b c k = some x ∧ LvOk T β b c k x
  | 0 => .inl ⟨rfl, fun _ h => by omega⟩
  | k + 1 => by
    unfold lvM
    have ih := lvM_ok T β b c k
    by_cases hp : 0 < tf T k c
    · rw [if_pos hp]
      right
      rcases ih with ⟨e, h⟩ | ⟨x, e, h⟩
      · rw [e]
        refine ⟨_, rfl, Nat.lt_succ_self _, hp, rfl, rfl, fun i hi hpi => ?_, fun i hi hpi _ => ?_⟩
        · by_cases q : i = k
          · rw [q]
            exact Rat.le_refl
          · exact absurd hpi (h i (by omega))
        · by_cases q : i = k
          · rw [q]
            exact Nat.le_refl _
          · exact absurd hpi (h i (by omega))
      · rw [e]
        dsimp only
        have eq : tf T k b * (tf T k c)⁻¹ = tf T k b / tf T k c := rfl
        by_cases h1 : tf T k b * (tf T k c)⁻¹ < x.1
        · rw [if_pos h1]
          refine ⟨_, rfl, Nat.lt_succ_self _, hp, rfl, rfl, fun i hi hpi => ?_, fun i hi hpi he => ?_⟩
          · by_cases q : i = k
            · rw [q]
              exact Rat.le_refl
            · have := h.le i (by omega) hpi
              show tf T k b * (tf T k c)⁻¹ ≤ _
              grind
          · by_cases q : i = k
            · rw [q]
              exact Nat.le_refl _
            · have := h.le i (by omega) hpi
              have he : tf T k b * (tf T k c)⁻¹ = tf T i b / tf T i c := he
              grind
        · rw [if_neg h1]
          by_cases h2 : tf T k b * (tf T k c)⁻¹ = x.1 ∧ bf β k < x.2.1
          · rw [if_pos h2]
            refine ⟨_, rfl, Nat.lt_succ_self _, hp, rfl, rfl, fun i hi hpi => ?_, fun i hi hpi he => ?_⟩
            · by_cases q : i = k
              · rw [q]
                exact Rat.le_refl
              · have := h.le i (by omega) hpi
                show tf T k b * (tf T k c)⁻¹ ≤ _
                rw [h2.1]
                exact this
            · by_cases q : i = k
              · rw [q]
                exact Nat.le_refl _
              · have he : tf T k b * (tf T k c)⁻¹ = tf T i b / tf T i c := he
                rw [h2.1] at he
                have := h.tie i (by omega) hpi he
                have h3 := h2.2
                show bf β k ≤ _
                omega
          · rw [if_neg h2]
            refine ⟨x, rfl, Nat.lt_succ_of_lt h.lt, h.pos, h.q, h.bb, fun i hi hpi => ?_, fun i hi hpi he => ?_⟩
            · by_cases q : i = k
              · rw [q]
                exact Rat.not_lt.mp h1
              · exact h.le i (by omega) hpi
            · by_cases q : i = k
              · rw [q] at he ⊢
                apply Classical.byContradiction
                intro h3
                exact h2 ⟨he.symm, by omega⟩
              · exact h.tie i (by omega) hpi he
    · rw [if_neg hp]
      rcases ih with ⟨e, h⟩ | ⟨x, e, h⟩
      · refine .inl ⟨e, fun i hi => ?_⟩
        by_cases q : i = k
        · rw [q]
          exact hp
        · exact h i (by omega)
      · refine .inr ⟨x, e, Nat.lt_succ_of_lt h.lt, h.pos, h.q, h.bb, fun i hi hpi => ?_, fun i hi hpi he => ?_⟩
        · by_cases q : i = k
          · rw [q] at hpi
            exact absurd hpi hp
          · exact h.le i (by omega) hpi
        · by_cases q : i = k
          · rw [q] at hpi
            exact absurd hpi hp
          · exact h.tie i (by omega) hpi he
/-! ### the whole run -/
def colS (n m : Nat) (s : List (List Rat) × List Nat) : Nat := (posM n m s.1).getD 0 0
def rowS (n m : Nat) (s : List (List Rat) × List Nat) : Nat := match lvM s.1 s.2 (n + m) (colS n m s) m with
  | none => 0
  | some x => x.2.2
def spxM (n m : Nat) (s : List (List Rat) × List Nat) : List (List Rat) × List Nat := (turnedM s.1 (rowS n m s) (colS n m s), s.2.set (rowS n m s) (colS n m s))
def runM (n m : Nat) (s : List (List Rat) × List Nat) : Nat → List (List Rat) × List Nat
  | 0 => s
  | k + 1 => spxM n m (runM n m s k)
structure StOk (n m : Nat) (A : Nat → Nat → Rat) (s : List (List Rat) × List Nat) : Prop where
  shp : Shp n m s.1
  bl : s.2.length = m
  tab : Tab n m A (tf s.1) (bf s.2)
  feas : ∀ i, i < m → 0 ≤ tf s.1 i (n + m)
theorem Tab.congr {n m : Nat} {A T T' : Nat → Nat → Rat} {β β' : Nat → Nat} (h : Tab n m A T β) (hT : ∀ i, i ≤ m → ∀ j, j ≤ n + m → T' i j = T i j) (hB : ∀ i, i < m → β' i = β i) : Tab n m A T' β' := by
  refine ⟨fun i hi => by rw [hB i hi]; exact h.bas i hi, fun i hi k hk => ?_, fun i hi j hj => ?_, fun j hj => ?_, fun k hk j hj => ?_, fun j hj => ?_⟩
  · have := h.bas i hi
    rw [hB i hi, hT k hk _ (by omega)]
    exact h.unit i hi k hk
  · rw [hT i (by omega) j hj, h.rc i hi j hj]
    exact sm_congr fun k hk => by rw [hT i (by omega) _ (by omega)]
  · rw [hT m (by omega) j hj, h.rcz j hj]
    congr 1
    exact sm_congr fun k hk => by rw [hT m (by omega) _ (by omega)]
  · rw [h.cr k hk j hj]
    exact sm_congr fun i hi => by rw [hT i (by omega) _ hj, hB i hi]
  · rw [h.crz j hj, hT m (by omega) j hj]
    congr 1
    exact sm_congr fun i hi => by rw [hT i (by omega) _ hj, hB i hi]
section
variable {n m : Nat} {A : Nat → Nat → Rat} {s : List (List Rat) × List Nat}
/-- every column has a row that bounds it -/
theorem StOk.bound (h : StOk n m A s) (hA : ∀ k, k < m → ∀ j, j < n → A k j = 0 ∨ A k j = 1) (hcov : ∀ j, j < n → ∃ k, k < m ∧ A k j = 1) {c : Nat} (hc : c < n + m) : ∃ i, i < m ∧ 0 < tf s.1 i c := by
  apply Classical.byContradiction
  intro hno
  have hle : ∀ i, i < m → tf s.1 i c ≤ 0 := fun i hi => Rat.not_lt.mp fun z => hno ⟨i, hi, z⟩
  have h0 : ∀ k, k < m → T0 n m A k c ≤ 0 := fun k hk => by
    rw [h.tab.cr k hk c (by omega)]
    have := sm_le (f := fun i => T0 n m A k (bf s.2 i) * tf s.1 i c) (g := fun _ => 0) (n := m) fun i hi => by
      have hb := T0_bit (n := n) (m := m) hA (k := k) (j := bf s.2 i) (by omega)
      have h1 := hle i hi
      show T0 n m A k (bf s.2 i) * tf s.1 i c ≤ 0
      rcases hb with e | e <;> rw [e] <;> grind
    rw [sm_zero (f := fun _ => 0) fun _ _ => rfl] at this
    exact this
  by_cases e : c < n
  · obtain ⟨k, hk, e1⟩ := hcov c e
    have := h0 k hk
    rw [T0_lamp hk e, e1] at this
    grind
  · have := h0 (c - n) (by omega)
    have z := T0_spare (n := n) (m := m) (A := A) (show c - n < m by omega) (show c - n < m by omega)
    rw [show n + (c - n) = c by omega, if_pos rfl] at z
    rw [z] at this
    grind
theorem colS_ok (h : posM n m s.1 ≠ []) : colS n m s < n + m ∧ 0 < tf s.1 m (colS n m s) ∧ ∀ j, j < colS n m s → tf s.1 m j ≤ 0 := by
  unfold colS
  cases hp : posM n m s.1 with
  | nil => exact absurd hp h
  | cons x r =>
    have hx : x ∈ posM n m s.1 := by rw [hp]; exact List.mem_cons_self
    have hx' := List.mem_filter.mp hx
    have hlt : (posM n m s.1).Pairwise (· < ·) := List.Pairwise.filter _ List.pairwise_lt_range
    rw [hp] at hlt
    refine ⟨List.mem_range.mp hx'.1, of_decide_eq_true hx'.2, fun j hj => Rat.not_lt.mp fun z => ?_⟩
    have hj : j < x := hj
    have hm : j ∈ posM n m s.1 := List.mem_filter.mpr ⟨List.mem_range.mpr (by have := List.mem_range.mp hx'.1; omega), decide_eq_true z⟩
    rw [hp] at hm
    rcases List.mem_cons.mp hm with e | e
    · omega
    · have := (List.pairwise_cons.mp hlt).1 j e
      omega
theorem StOk.stp (h : StOk n m A s) (hA : ∀ k, k < m → ∀ j, j < n → A k j = 0 ∨ A k j = 1) (hcov : ∀ j, j < n → ∃ k, k < m ∧ A k j = 1) (hp : posM n m s.1 ≠ []) : Stp n m (tf s.1) (bf s.2) (rowS n m s) (colS n m s) ∧ ∃ x, lvM s.1 s.2 (n + m) (colS n m s) m = some x ∧ x.2.2 = rowS n m s := by
  obtain ⟨c1, c2, c3⟩ := colS_ok hp
  rcases lvM_ok s.1 s.2 (n + m) (colS n m s) m with ⟨e, h0⟩ | ⟨x, e, hx⟩
  · obtain ⟨i, hi, hpos⟩ := h.bound hA hcov c1
    exact absurd hpos (h0 i hi)
  · have er : rowS n m s = x.2.2 := by
      unfold rowS
      rw [e]
    rw [er]
    refine ⟨⟨c1, c2, c3, hx.lt, hx.pos, fun i hi hpi => ?_, fun i hi hpi he => ?_⟩, x, e, rfl⟩
    · rw [← hx.q]
      exact hx.le i hi hpi
    · rw [← hx.q] at he
      rw [← hx.bb]
      exact hx.tie i hi hpi he
theorem bf_set {β : List Nat} {r c i : Nat} (hr : r < β.length) : bf (β.set r c) i = pivB (bf β) r c i := by
  unfold bf pivB
  by_cases e : i = r
  · rw [if_pos e, e]
    simp [List.getD, hr]
  · rw [if_neg e]
    simp [List.getD, List.getElem?_set_ne (Ne.symm e)]
theorem StOk.next (h : StOk n m A s) (hA : ∀ k, k < m → ∀ j, j < n → A k j = 0 ∨ A k j = 1) (hcov : ∀ j, j < n → ∃ k, k < m ∧ A k j = 1) (hp : posM n m s.1 ≠ []) : StOk n m A (spxM n m s) := by
  obtain ⟨st, _⟩ := h.stp hA hcov hp
  have rm := st.rm
  have hbl := h.bl
  have hT : ∀ i, i ≤ m → ∀ j, j ≤ n + m → tf (spxM n m s).1 i j = piv (tf s.1) (rowS n m s) (colS n m s) i j := fun i hi j hj => turned_tf h.shp (by omega) hi hj
  refine ⟨turned_shp h.shp (by omega), by show (s.2.set _ _).length = m; rw [List.length_set]; exact h.bl, ?_, fun i hi => ?_⟩
  · exact (h.tab.piv rm st.cN (Rat.ne_of_gt st.rpos)).congr hT fun i hi => bf_set (by omega)
  · rw [hT i (by omega) _ (by omega)]
    exact st.feas h.feas i hi
theorem runM_end (h : StOk n m A s) (hA : ∀ k, k < m → ∀ j, j < n → A k j = 0 ∨ A k j = 1) (hcov : ∀ j, j < n → ∃ k, k < m ∧ A k j = 1) : ∃ K, posM n m (runM n m s K).1 = [] ∧ (∀ k, k < K → posM n m (runM n m s k).1 ≠ []) ∧ ∀ k, k ≤ K → StOk n m A (runM n m s k) := by
  have ok : ∀ K, (∀ k, k < K → posM n m (runM n m s k).1 ≠ []) → ∀ k, k ≤ K → StOk n m A (runM n m s k) := fun K hK k => by
    induction k with
    | zero => intro _; exact h
    | succ k ih =>
      intro hk
      exact (ih (by omega)).next hA hcov (hK k (by omega))
  have ex : ∃ K, posM n m (runM n m s K).1 = [] := by
    apply Classical.byContradiction
    intro hno
    have hne : ∀ k, posM n m (runM n m s k).1 ≠ [] := fun k z => hno ⟨k, z⟩
    have hok : ∀ k, StOk n m A (runM n m s k) := fun k => ok k (fun j _ => hne j) k (Nat.le_refl _)
    refine Seq.not (n := n) (m := m) (A := A) (T := fun k => tf (runM n m s k).1) (β := fun k => bf (runM n m s k).2) (r := fun k => rowS n m (runM n m s k)) (c := fun k => colS n m (runM n m s k)) ⟨fun k => (hok k).tab, fun k => (hok k).feas, fun k => ((hok k).stp hA hcov (hne k)).1, fun k i j hi hj => ?_, fun k i hi => ?_⟩
    · have rm := ((hok k).stp hA hcov (hne k)).1.rm
      exact turned_tf (hok k).shp (by omega) hi hj
    · have rm := ((hok k).stp hA hcov (hne k)).1.rm
      have hbl := (hok k).bl
      exact bf_set (by omega)
  obtain ⟨K, hK⟩ := ex
  have least : ∀ K, posM n m (runM n m s K).1 = [] → ∃ L, posM n m (runM n m s L).1 = [] ∧ ∀ k, k < L → posM n m (runM n m s k).1 ≠ [] := fun K => by
    induction K using Nat.strongRecOn with
    | ind K ih =>
      intro hK
      by_cases hc : ∃ k, k < K ∧ posM n m (runM n m s k).1 = []
      · obtain ⟨k, hk, e⟩ := hc
        exact ih k hk e
      · exact ⟨K, hK, fun k hk z => hc ⟨k, hk, z⟩⟩
  obtain ⟨L, h1, h2⟩ := least K hK
  exact ⟨L, h1, h2, ok L h2⟩
end
end LW

set_option Elab.async false
set_option linter.all false
set_option maxRecDepth 100000
set_option maxHeartbeats 4000000
namespace LW
/-- what the end of a run shows -/
structure Cert (n m : Nat) (A : Nat → Nat → Rat) (v : Rat) (w y : Nat → Rat) : Prop where
  w0 : ∀ j, j < n → 0 ≤ w j
  w1 : ∀ k, k < m → (sm n fun j => A k j * w j) ≤ 1
  ws : sm n w = v
  y0 : ∀ k, k < m → 0 ≤ y k
  y1 : ∀ j, j < n → 1 ≤ sm m fun k => y k * A k j
  ys : sm m y = v
  tight : 0 < v → ∃ j, j < n ∧ (sm m fun k => y k * A k j) = 1
  den : ∃ D : Rat, D ≠ 0 ∧ Sml D 5040 ∧ Sml (v * D) 40320 ∧ (∀ k, k < m → Sml (y k * D) 40320) ∧ ∀ j, j < n → Sml (w j * D) 40320
section
variable {n m : Nat} {A : Nat → Nat → Rat} {s : List (List Rat) × List Nat}
def wF (n m : Nat) (s : List (List Rat) × List Nat) (j : Nat) : Rat := sm m fun i => if bf s.2 i = j then tf s.1 i (n + m) else 0
def yF (n m : Nat) (s : List (List Rat) × List Nat) (k : Nat) : Rat := - tf s.1 m (n + k)
def vF (n m : Nat) (s : List (List Rat) × List Nat) : Rat := - tf s.1 m (n + m)
theorem sm_wF (a : Nat → Rat) : (sm n fun j => a j * wF n m s j) = sm m fun i => if bf s.2 i < n then a (bf s.2 i) * tf s.1 i (n + m) else 0 := by
  unfold wF
  have e : (sm n fun j => a j * sm m fun i => if bf s.2 i = j then tf s.1 i (n + m) else 0) = sm n fun j => sm m fun i => a j * (if bf s.2 i = j then tf s.1 i (n + m) else 0) := sm_congr fun j hj => by rw [sm_mul]
  rw [e, sm_comm]
  refine sm_congr fun i hi => ?_
  by_cases h : bf s.2 i < n
  · rw [if_pos h, sm_one (r := bf s.2 i) h fun j hj hne => by rw [if_neg (Ne.symm hne)]; grind, if_pos rfl]
  · rw [if_neg h]
    exact sm_zero fun j hj => by rw [if_neg (by omega)]; grind
theorem StOk.cert (h : StOk n m A s) (hn : n ≤ 7) (hA : ∀ k, k < m → ∀ j, j < n → A k j = 0 ∨ A k j = 1) (he : posM n m s.1 = []) : Cert n m A (vF n m s) (wF n m s) (yF n m s) := by
  have hz : ∀ j, j < n + m → tf s.1 m j ≤ 0 := fun j hj => Rat.not_lt.mp fun z => by
    have hm : j ∈ posM n m s.1 := List.mem_filter.mpr ⟨List.mem_range.mpr hj, decide_eq_true z⟩
    rw [he] at hm
    exact nomatch hm
  have hws : sm n (wF n m s) = vF n m s := by
    have e1 := h.tab.crz (n + m) (Nat.le_refl _)
    rw [T0_zb] at e1
    have e2 := sm_wF (n := n) (m := m) (s := s) fun _ => 1
    have e3 : (sm n fun j => 1 * wF n m s j) = sm n (wF n m s) := sm_congr fun j _ => Rat.one_mul _
    have e4 : (sm m fun i => T0 n m A m (bf s.2 i) * tf s.1 i (n + m)) = sm m fun i => if bf s.2 i < n then 1 * tf s.1 i (n + m) else 0 := sm_congr fun i hi => by
      by_cases hb : bf s.2 i < n
      · rw [if_pos hb, T0_zl hb]
      · rw [if_neg hb, show bf s.2 i = n + (bf s.2 i - n) by omega, T0_z]
        grind
    unfold vF
    grind
  refine ⟨fun j hj => sm_nonneg fun i hi => ?_, fun k hk => ?_, hws, fun k hk => ?_, fun j hj => ?_, ?_, fun hv => ?_, ?_⟩
  · split
    · exact h.feas i hi
    · exact Rat.le_refl
  · rw [sm_wF]
    have e1 := h.tab.cr k hk (n + m) (Nat.le_refl _)
    rw [T0_b hk] at e1
    rw [e1]
    refine sm_le fun i hi => ?_
    by_cases hb : bf s.2 i < n
    · rw [if_pos hb, T0_lamp hk hb]
      exact Rat.le_refl
    · rw [if_neg hb]
      refine Rat.mul_nonneg ?_ (h.feas i hi)
      rcases T0_bit (n := n) (m := m) hA (k := k) (j := bf s.2 i) (by omega) with e | e <;> rw [e] <;> grind
  · have := hz (n + k) (by omega)
    unfold yF
    grind
  · have e1 := h.tab.rcz j (by omega)
    rw [T0_zl hj] at e1
    have e2 : (sm m fun k => yF n m s k * A k j) = - sm m fun k => tf s.1 m (n + k) * T0 n m A k j := by
      have e3 : (sm m fun k => yF n m s k * A k j) = sm m fun k => (-1) * (tf s.1 m (n + k) * T0 n m A k j) := sm_congr fun k hk => by
        rw [T0_lamp hk hj]
        unfold yF
        grind
      rw [e3, sm_mul]
      grind
    have := hz j (by omega)
    grind
  · have e1 := h.tab.rcz (n + m) (Nat.le_refl _)
    rw [T0_zb] at e1
    have e2 : sm m (yF n m s) = - sm m fun k => tf s.1 m (n + k) * T0 n m A k (n + m) := by
      have e3 : sm m (yF n m s) = sm m fun k => (-1) * (tf s.1 m (n + k) * T0 n m A k (n + m)) := sm_congr fun k hk => by
        rw [T0_b hk]
        unfold yF
        grind
      rw [e3, sm_mul]
      grind
    unfold vF
    grind
  · -- a basic lamp
    have hex : ∃ i, i < m ∧ bf s.2 i < n := by
      apply Classical.byContradiction
      intro hno
      have e0 : sm n (wF n m s) = 0 := sm_zero fun j hj => sm_zero fun i hi => by
        rw [if_neg fun z => hno ⟨i, hi, by omega⟩]
      rw [hws] at e0
      grind
    obtain ⟨i, hi, hb⟩ := hex
    refine ⟨bf s.2 i, hb, ?_⟩
    have e1 := h.tab.rcz (bf s.2 i) (by omega)
    rw [T0_zl hb, h.tab.unitm hi] at e1
    have e2 : (sm m fun k => yF n m s k * A k (bf s.2 i)) = - sm m fun k => tf s.1 m (n + k) * T0 n m A k (bf s.2 i) := by
      have e3 : (sm m fun k => yF n m s k * A k (bf s.2 i)) = sm m fun k => (-1) * (tf s.1 m (n + k) * T0 n m A k (bf s.2 i)) := sm_congr fun k hk => by
        rw [T0_lamp hk hb]
        unfold yF
        grind
      rw [e3, sm_mul]
      grind
    grind
  · obtain ⟨D, d0, d1, d2⟩ := h.tab.small hn hA
    refine ⟨D, d0, d1, ?_, fun k hk => ?_, fun j hj => ?_⟩
    · have e : vF n m s * D = - (tf s.1 m (n + m) * D) := by
        unfold vF
        grind
      rw [e]
      exact (d2 m (Nat.le_refl _) _ (Nat.le_refl _)).neg
    · have e : yF n m s k * D = - (tf s.1 m (n + k) * D) := by
        unfold yF
        grind
      rw [e]
      exact (d2 m (Nat.le_refl _) _ (by omega)).neg
    · by_cases hb : ∃ i, i < m ∧ bf s.2 i = j
      · obtain ⟨i, hi, e⟩ := hb
        have e1 : wF n m s j = tf s.1 i (n + m) := by
          unfold wF
          rw [sm_one (r := i) hi fun l hl hne => by rw [if_neg fun z => hne (h.tab.inj hl hi (by omega))], if_pos e]
        rw [e1]
        exact d2 i (by omega) _ (Nat.le_refl _)
      · have e1 : wF n m s j = 0 := sm_zero fun i hi => by rw [if_neg fun z => hb ⟨i, hi, z⟩]
        rw [e1, Rat.zero_mul]
        exact .zero _
end
section
variable {n m : Nat} {A : Nat → Nat → Rat} {v v' : Rat} {w y w' y' : Nat → Rat}
/-- weak duality -/
theorem weak (hw : ∀ j, j < n → 0 ≤ w j) (hw1 : ∀ k, k < m → (sm n fun j => A k j * w j) ≤ 1) (hy : ∀ k, k < m → 0 ≤ y k) (hy1 : ∀ j, j < n → 1 ≤ sm m fun k => y k * A k j) : sm n w ≤ sm m y := by
  have h1 : sm n w ≤ sm n fun j => (sm m fun k => y k * A k j) * w j := sm_le fun j hj => by
    have := Rat.mul_le_mul_of_nonneg_right (hy1 j hj) (hw j hj)
    rw [Rat.one_mul] at this
    exact this
  have h2 : (sm n fun j => (sm m fun k => y k * A k j) * w j) = sm m fun k => y k * sm n fun j => A k j * w j := by
    have e : (sm n fun j => (sm m fun k => y k * A k j) * w j) = sm n fun j => sm m fun k => y k * (A k j * w j) := sm_congr fun j hj => by
      rw [← sm_mulr]
      exact sm_congr fun k hk => by grind
    rw [e, sm_comm]
    exact sm_congr fun k hk => by rw [sm_mul]
  have h3 : (sm m fun k => y k * sm n fun j => A k j * w j) ≤ sm m y := sm_le fun k hk => by
    have := Rat.mul_le_mul_of_nonneg_left (hw1 k hk) (hy k hk)
    rw [Rat.mul_one] at this
    exact this
  grind
theorem Cert.one (c : Cert n m A v w y) (hA : ∀ k, k < m → ∀ j, j < n → A k j = 0 ∨ A k j = 1) (hn : 0 < n) : 1 ≤ v := by
  have h1 := c.y1 0 hn
  have h2 : (sm m fun k => y k * A k 0) ≤ sm m y := sm_le fun k hk => by
    have hy := c.y0 k hk
    rcases hA k hk 0 hn with e | e <;> rw [e] <;> grind
  have := c.ys
  grind
end
/-! ### the program's end of a run -/
def CovP (parts : List (List Int)) (pic : List Int) : Prop := ∀ l ∈ pic, ∃ q ∈ parts, l ∈ q
def basM (n m : Nat) : List Nat := (List.range m).map fun i => n + i
def stM0 (parts : List (List Int)) (pic : List Int) : List (List Rat) × List Nat := (tableM parts pic, basM pic.length parts.length)
theorem partA_bit (parts : List (List Int)) (pic : List Int) : ∀ k, k < parts.length → ∀ j, j < pic.length → partA parts pic k j = 0 ∨ partA parts pic k j = 1 := fun k _ j _ => by
  unfold partA
  split
  · exact .inr rfl
  · exact .inl rfl
theorem partA_cov {parts : List (List Int)} {pic : List Int} (h : CovP parts pic) : ∀ j, j < pic.length → ∃ k, k < parts.length ∧ partA parts pic k j = 1 := fun j hj => by
  obtain ⟨q, hq, hl⟩ := h pic[j] (List.getElem_mem hj)
  obtain ⟨k, hk, e⟩ := List.getElem_of_mem hq
  refine ⟨k, hk, ?_⟩
  unfold partA
  rw [getD_lt hj, getD_lt hk, e, if_pos hl]
theorem st0_ok (parts : List (List Int)) (pic : List Int) : StOk pic.length parts.length (partA parts pic) (stM0 parts pic) := by
  refine ⟨table_shp parts pic, by simp [stM0, basM], ?_, fun i hi => ?_⟩
  · refine Tab.start.congr (fun i hi j hj => table_tf hi hj) fun i hi => ?_
    show bf (basM _ _) i = _
    unfold bf basM
    rw [List.getD, List.getElem?_map, List.getElem?_range hi]
    rfl
  · show 0 ≤ tf (tableM parts pic) i _
    rw [table_tf (by omega) (Nat.le_refl _), T0_b hi]
    grind
open Classical in
noncomputable def endK (parts : List (List Int)) (pic : List Int) : Nat :=
  if h : ∃ K, posM pic.length parts.length (runM pic.length parts.length (stM0 parts pic) K).1 = [] ∧ (∀ k, k < K → posM pic.length parts.length (runM pic.length parts.length (stM0 parts pic) k).1 ≠ []) ∧ ∀ k, k ≤ K → StOk pic.length parts.length (partA parts pic) (runM pic.length parts.length (stM0 parts pic) k) then Classical.choose h else 0
theorem endK_ok {parts : List (List Int)} {pic : List Int} (h : CovP parts pic) : posM pic.length parts.length (runM pic.length parts.length (stM0 parts pic) (endK parts pic)).1 = [] ∧ (∀ k, k < endK parts pic → posM pic.length parts.length (runM pic.length parts.length (stM0 parts pic) k).1 ≠ []) ∧ ∀ k, k ≤ endK parts pic → StOk pic.length parts.length (partA parts pic) (runM pic.length parts.length (stM0 parts pic) k) := by
  have ex := runM_end (st0_ok parts pic) (partA_bit parts pic) (partA_cov h)
  unfold endK
  rw [dif_pos ex]
  exact Classical.choose_spec ex
noncomputable def endS (parts : List (List Int)) (pic : List Int) : List (List Rat) × List Nat := runM pic.length parts.length (stM0 parts pic) (endK parts pic)
noncomputable def valM (parts : List (List Int)) (pic : List Int) : Rat := vF pic.length parts.length (endS parts pic)
noncomputable def wgt (parts : List (List Int)) (pic : List Int) : Nat → Rat := wF pic.length parts.length (endS parts pic)
noncomputable def tak (parts : List (List Int)) (pic : List Int) : Nat → Rat := yF pic.length parts.length (endS parts pic)
theorem sol_cert {parts : List (List Int)} {pic : List Int} (h : CovP parts pic) (hn : pic.length ≤ 7) : Cert pic.length parts.length (partA parts pic) (valM parts pic) (wgt parts pic) (tak parts pic) := by
  obtain ⟨h1, h2, h3⟩ := endK_ok h
  exact (h3 _ (Nat.le_refl _)).cert hn (partA_bit parts pic) h1
end LW

set_option Elab.async false
set_option linter.all false
set_option maxRecDepth 100000
set_option maxHeartbeats 4000000
namespace LW
open PySem
/-! ### fractions as the program holds them -/
def pr (q : Rat) : Int × Int := (q.num, (q.den : Int))
def encR (q : Rat) : PyData := encQ (pr q)
theorem low_mk {n : Int} {d : Nat} (h : d ≠ 0) : lowM n (d : Int) = pr (mkRat n d) := by
  unfold lowM pr
  rw [Rat.num_mkRat, Rat.den_mkRat, if_neg h, if_neg h]
  have e : Int.gcd n (d : Int) = d.gcd n.natAbs := by
    show Nat.gcd n.natAbs (Int.natAbs (d : Int)) = _
    rw [Int.natAbs_natCast, Nat.gcd_comm]
  rw [e, Int.natCast_ediv]
theorem low_mul (a b : Rat) : lowM (a.num * b.num) ((a.den : Int) * (b.den : Int)) = pr (a * b) := by
  have h : a.den * b.den ≠ 0 := Nat.mul_ne_zero a.den_nz b.den_nz
  rw [← Int.natCast_mul, low_mk h, ← Rat.mul_def']
theorem low_sub (a b : Rat) : lowM (a.num * (b.den : Int) - b.num * (a.den : Int)) ((a.den : Int) * (b.den : Int)) = pr (a - b) := by
  have h : a.den * b.den ≠ 0 := Nat.mul_ne_zero a.den_nz b.den_nz
  rw [← Int.natCast_mul, low_mk h, ← Rat.sub_def']
theorem num_pos {q : Rat} : 0 < q.num ↔ 0 < q := by
  constructor
  · intro h
    have h1 : 0 ≤ q := Rat.num_nonneg.mp (by omega)
    refine Rat.lt_of_le_of_ne h1 fun e => ?_
    rw [← e] at h
    simp at h
  · intro h
    have h1 : 0 ≤ q.num := Rat.num_nonneg.mpr (Rat.le_of_lt h)
    have h2 : q.num ≠ 0 := fun e => by
      rw [Rat.num_eq_zero] at e
      rw [e] at h
      exact Rat.lt_irrefl h
    omega
theorem rev_pos {q : Rat} (h : 0 < q) : ((q.den : Int), q.num) = pr q⁻¹ := by
  have hn := num_pos.mpr h
  unfold pr
  rw [Rat.num_inv, Rat.den_inv, if_neg (by omega), Int.sign_eq_one_of_pos hn, Int.one_mul]
  congr 1
  omega
theorem pr_inj {a b : Rat} : pr a = pr b ↔ a = b := by
  constructor
  · intro h
    have h1 : a.num = b.num := congrArg Prod.fst h
    have h2 : (a.den : Int) = (b.den : Int) := congrArg Prod.snd h
    exact Rat.ext h1 (by omega)
  · intro h
    rw [h]
theorem eqv_Q (a b : Int × Int) : PyData.eqv (encQ a) (encQ b) = decide (a = b) := by
  unfold encQ
  have := eqv_tup [a.1, a.2] [b.1, b.2]
  rw [show ([a.1, a.2].map PyData.int) = [.int a.1, .int a.2] from rfl, show ([b.1, b.2].map PyData.int) = [.int b.1, .int b.2] from rfl] at this
  rw [this]
  refine decide_eq_decide.mpr ⟨fun h => ?_, fun h => by rw [h]⟩
  simp at h
  exact Prod.ext h.1 h.2
theorem eqv_R (a b : Rat) : PyData.eqv (encR a) (encR b) = decide (a = b) := by
  unfold encR
  rw [eqv_Q]
  exact decide_eq_decide.mpr pr_inj
theorem lt_R (a b : Rat) : a.num * (b.den : Int) < b.num * (a.den : Int) ↔ a < b := (Rat.lt_iff a b).symm
theorem neg_R (q : Rat) : (- q.num, (q.den : Int)) = pr (-q) := rfl
theorem R_zero : encR 0 = .tuple [.int 0, .int 1] := rfl
theorem R_one : encR 1 = .tuple [.int 1, .int 1] := rfl
/-! ### sizes -/
def Szz (B : Nat) (q : Rat) : Prop := q.num.natAbs ≤ B ∧ q.den ≤ B
theorem Szz.mono {B C : Nat} {q : Rat} (h : Szz B q) (hl : B ≤ C) : Szz C q := ⟨Nat.le_trans h.1 hl, Nat.le_trans h.2 hl⟩
theorem Szz.mul {B C : Nat} {a b : Rat} (ha : Szz B a) (hb : Szz C b) : Szz (B * C) (a * b) := by
  constructor
  · rw [Rat.num_mul]
    refine Nat.le_trans ?_ (Nat.mul_le_mul ha.1 hb.1)
    rw [← Int.natAbs_mul]
    rw [Int.natAbs_ediv_of_dvd ?_]
    · exact Nat.div_le_self _ _
    · exact Int.ofNat_dvd_left.mpr (Nat.gcd_dvd_left _ _)
  · rw [Rat.den_mul]
    exact Nat.le_trans (Nat.div_le_self _ _) (Nat.mul_le_mul ha.2 hb.2)
theorem Szz.inv {B : Nat} {q : Rat} (h : Szz B q) (hq : 0 < q) : Szz B q⁻¹ := by
  have e := rev_pos hq
  have h1 : (q.den : Int) = (q⁻¹).num := congrArg Prod.fst e
  have h2 : q.num = ((q⁻¹).den : Int) := congrArg Prod.snd e
  have := h.1
  have := h.2
  constructor <;> omega
theorem cross_int {q : Rat} {D z : Int} (h : q * (D : Rat) = (z : Rat)) : q.num * D = z * (q.den : Int) := by
  have h1 : q * (q.den : Rat) = (q.num : Rat) := by
    have e : q = (q.num : Rat) / ((q.den : Nat) : Rat) := by
      have := Rat.mkRat_self q
      rw [Rat.mkRat_eq_div] at this
      exact this.symm
    have hd : (q.den : Rat) ≠ 0 := fun z => q.den_nz (Rat.natCast_eq_zero_iff.mp z)
    calc q * (q.den : Rat) = (q.num : Rat) / (q.den : Rat) * (q.den : Rat) := by rw [← e]
      _ = q.num := Rat.div_mul_cancel hd
  have h2 : (q.num : Rat) * (D : Rat) = (z : Rat) * (q.den : Rat) := by
    rw [← h1, ← h]
    grind
  have h3 : ((q.num * D : Int) : Rat) = ((z * (q.den : Int) : Int) : Rat) := by
    rw [Rat.intCast_mul, Rat.intCast_mul, h2]
    rfl
  exact Rat.intCast_inj.mp h3
theorem den_dvd {q : Rat} {D z : Int} (h : q * (D : Rat) = (z : Rat)) : q.den ∣ D.natAbs := by
  have e := cross_int h
  have e1 : q.den ∣ q.num.natAbs * D.natAbs := by
    rw [← Int.natAbs_mul, e, Int.natAbs_mul, Int.natAbs_natCast]
    exact Nat.dvd_mul_left _ _
  exact (Nat.Coprime.symm q.reduced).dvd_of_dvd_mul_left e1
theorem szz_of {q : Rat} {D z : Int} {B C : Nat} (h : q * (D : Rat) = (z : Rat)) (hD : D ≠ 0) (hB : D.natAbs ≤ B) (hC : z.natAbs ≤ C) : q.num.natAbs ≤ C ∧ q.den ≤ B := by
  have hd := den_dvd h
  have hD0 : 0 < D.natAbs := by omega
  have h1 := Nat.le_of_dvd hD0 hd
  refine ⟨?_, by omega⟩
  have e := cross_int h
  have e1 : q.num.natAbs * D.natAbs = z.natAbs * q.den := by
    have := congrArg Int.natAbs e
    rw [Int.natAbs_mul, Int.natAbs_mul, Int.natAbs_natCast] at this
    exact this
  have e2 : z.natAbs * q.den ≤ z.natAbs * D.natAbs := Nat.mul_le_mul_left _ h1
  have e3 : q.num.natAbs * D.natAbs ≤ z.natAbs * D.natAbs := by omega
  exact Nat.le_trans (Nat.le_of_mul_le_mul_right e3 hD0) hC
theorem StOk.szz {n m : Nat} {A : Nat → Nat → Rat} {s : List (List Rat) × List Nat} (h : StOk n m A s) (hn : n ≤ 7) (hA : ∀ k, k < m → ∀ j, j < n → A k j = 0 ∨ A k j = 1) : ∀ i, i ≤ m → ∀ j, j ≤ n + m → Szz 40320 (tf s.1 i j) := fun i hi j hj => by
  obtain ⟨D, d0, ⟨D', rfl, d1⟩, d2⟩ := h.tab.small hn hA
  obtain ⟨z, e, hz⟩ := d2 i hi j hj
  have q := szz_of e (fun w => d0 (by rw [w]; rfl)) d1 hz
  exact ⟨q.1, by omega⟩
/-! ### the weights' list -/
def wsM (n m : Nat) (s : List (List Rat) × List Nat) : Nat → List Rat
  | 0 => List.replicate n 0
  | i + 1 => if bf s.2 i < n then (wsM n m s i).set (bf s.2 i) (tf s.1 i (n + m)) else wsM n m s i
theorem wsM_len (n m : Nat) (s : List (List Rat) × List Nat) : ∀ k, (wsM n m s k).length = n
  | 0 => List.length_replicate
  | k + 1 => by
    unfold wsM
    split
    · rw [List.length_set]
      exact wsM_len n m s k
    · exact wsM_len n m s k
theorem wsM_at {n m : Nat} {s : List (List Rat) × List Nat} (inj : ∀ i k, i < m → k < m → bf s.2 i = bf s.2 k → i = k) {j : Nat} (hj : j < n) : ∀ k, k ≤ m → (wsM n m s k)[j]? = some (sm k fun i => if bf s.2 i = j then tf s.1 i (n + m) else 0)
  | 0, _ => by
    unfold wsM
    rw [List.getElem?_replicate, if_pos hj]
    rfl
  | k + 1, hk => by
    have ih := wsM_at inj hj k (by omega)
    show (if bf s.2 k < n then (wsM n m s k).set (bf s.2 k) (tf s.1 k (n + m)) else wsM n m s k)[j]? = some ((sm k fun i => if bf s.2 i = j then tf s.1 i (n + m) else 0) + if bf s.2 k = j then tf s.1 k (n + m) else 0)
    by_cases e : bf s.2 k = j
    · rw [if_pos (by omega), if_pos e, e, List.getElem?_set_self (by rw [wsM_len]; exact hj), sm_zero fun i hi => by rw [if_neg fun z => by have := inj i k (by omega) (by omega) (by omega); omega]]
      congr 1
      grind
    · rw [if_neg e]
      have e2 : (if bf s.2 k < n then (wsM n m s k).set (bf s.2 k) (tf s.1 k (n + m)) else wsM n m s k)[j]? = (wsM n m s k)[j]? := by
        split
        · rw [List.getElem?_set_ne e]
        · rfl
      rw [e2, ih]
      congr 1
      grind
theorem wsM_eq {n m : Nat} {A : Nat → Nat → Rat} {s : List (List Rat) × List Nat} (h : StOk n m A s) : wsM n m s m = (List.range n).map (wF n m s) := by
  apply List.ext_getElem?
  intro j
  by_cases hj : j < n
  · rw [wsM_at (fun i k hi hk e => h.tab.inj hi hk e) hj m (Nat.le_refl _), List.getElem?_map, List.getElem?_range hj]
    rfl
  · rw [List.getElem?_eq_none (by rw [wsM_len]; omega), List.getElem?_eq_none (by simp; omega)]
end LW

set_option Elab.async false
set_option linter.all false
set_option maxRecDepth 100000
set_option maxHeartbeats 4000000
namespace LW
open PySem PySem.Spec PyProof.Rows L2
section
variable {K : PySem.W.Frag} {ρ : List Sl} {cs cs1 cs2 : Cs} {te ta tb : TE} {tr : TA} {p : Addr} {ds : List PyData} {z z1 z2 : Sl} {zs : List Sl} {c : Ce} {u : TS} {P : Po} {w : V} {d e : PyData} {i j : Int} {E : XK}
theorem run_parEN (a b : Nat) (ha : Ev K ta ρ cs z cs1) (hb : EvN K tb ρ cs1 c cs2) (hz : ∃ d, z = .dat d) (h' : ∀ q, Run K u ((ρ.set a z).set b (.raw (.ref q))) ((q, c) :: cs2) P) : Run K (tSeq (tPar a b (tCons ta (tCons tb tNil))) u) ρ cs P := fun G σ H D ok n r bk ct =>
  ha G σ H ok _ fun v G1 H1 f1 ok1 e1 => hb G1 σ H1 ok1 _ fun q G2 H2 hq f2 ok2 => by
    have f := f1.trans f2
    exact ⟨v, .ref q, rfl, h' q G2 _ H2 D ⟨ok2.ex, (ok2.sl.set a (e1.mono f2.g)).set b (v := .ref q) (s := .raw (.ref q)) rfl, ok2.ce⟩ (n.after f) (r.after f) (bk.after f) (ct.after f)⟩
theorem run_setL1 (k : Nat) {n : Nat} {ti : TE} (h : Ev K te ρ cs (.dat d) cs1) (ho : Ev K ta ρ cs1 (.raw (.ref p)) cs1) (hi : Ev K ti ρ cs1 (.dat (.int (n : Int))) cs2) (hk : cs2[k]? = some (p, .lst ds)) (hn : n < ds.length) (h' : P.nx ρ (cs2.set k (p, .lst (ds.set n d)))) : Run K (tAsg te (gSub ta ti rSetL)) ρ cs P := fun G σ H D ok nn r bk ct =>
  run_setL (u := tNext) k h ho hi hk hn (run_next h') G σ H D ok nn r bk ct
theorem opd_mulC (h1 : Rds cs z1 (.int i)) (h2 : Rds cs z2 (.int j)) (hc : CMul i j) : OpD K (rI CMul fun i j => .int (i * j)) z1 z2 cs (.dat (.int (i * j))) := opd_I (dg := fun i j => .int (i * j)) h1 h2 hc fun _ => rfl
/-! ### a tuple of a raw value and two data -/
theorem ev_tupR (h : EvA K tr ρ cs [.raw w, .dat d, .dat e] cs1) : Ev K (tTup tr) ρ cs (.rdd w d e) cs1 := fun G σ H ok Q q =>
  h G σ H ok _ fun vs G1 H1 f1 ok1 h1 => by
    match vs, h1 with
    | [x, y, v], ⟨e1, e2, e3, _⟩ =>
      cases (show x = w from e1)
      refine ⟨by show 3 ≤ _; decide, fun p hp => ?_⟩
      have g := Gr.new ok1.ex (o := .tup [w, y, v]) hp
      exact q _ _ _ (f1.trans g.fr) (ok1.gr g) ⟨p, y, v, rfl, upd_same, Dt.mono g.g _ _ e2, Dt.mono g.g _ _ e3⟩
theorem opd_ixR : OpD K (rIx K) (.rdd w d e) (.dat (.int 2)) cs (.dat e) := fun x y G H hx hy ex ok Q q => by
  obtain ⟨a, x', y', rfl, h1, h2, h3⟩ := hx
  exact .inr (.inl ⟨a, _, 2, y', rfl, hy, .inl (.inl (ex _ _ h1)), rfl, q y' G H (.refl ex) h3⟩)
theorem opd_isNR : OpD K (fun x y H Q => y = .non ∧ Q (.bl (decide (x = .non))) H) (.rdd w d e) (.dat .none) cs (.dat (.bool false)) := fun x y G H hx hy ex ok Q q => by
  cases hy
  obtain ⟨a, x', y', rfl, h1, h2, h3⟩ := hx
  exact ⟨rfl, q _ G H (.refl ex) rfl⟩
theorem ev_varR (k : Nat) (h : ρ[k]? = some (.rdd w d e)) : Ev K (tVar k) ρ cs (.rdd w d e) cs := fun G σ H ok Q q => by
  obtain ⟨v, hv, hs⟩ := ok.sl.get h (fun z => nomatch z)
  exact ⟨v, hv, q v G H .refl ok hs⟩
/-- x, y, pattern = such a tuple -/
theorem run_asgR3 (a b : Nat) {g : TG} {as : List (Nat × PyData)} (h : Ev K te ρ cs (.rdd w d e) cs1) (hg : Tg g e as) (h' : Run K u (setsR ((ρ.set a (.raw w)).set b (.dat d)) as) cs1 P) :
    Run K (tSeq (tAsg te (gTup K 3 (gCons (gName a) (gCons (gName b) (gCons g gNil))))) u) ρ cs P := fun G σ H D ok n r bk ct =>
  h G σ H ok _ fun v G1 H1 f1 ok1 e1 => by
    obtain ⟨q, x, y, rfl, h1, h2, h3⟩ := e1
    refine ⟨q, [w, x, y], rfl, .inl (.inl (ok1.ex _ _ h1)), rfl, w, [x, y], rfl, x, [y], rfl, y, [], rfl, ?_⟩
    refine hg G1 y H1 _ h3 ok1.ex _ fun ws hws => ⟨rfl, ?_⟩
    exact h' G1 _ H1 D ⟨ok1.ex, ((ok1.sl.set a (v := w) (s := .raw w) rfl).set b (s := .dat d) h2).sets hws, ok1.ce⟩ (n.after f1) (r.after f1) (bk.after f1) (ct.after f1)
end
/-- a def that hands back None, or a new dict in such a tuple -/
def SpD (K : PySem.W.Frag) (RD : List Sl → PyData → PyData → KD → Prop) : Sp := fun vs H Q _ => ∃ G args e1 e2 kvs, Ex G H ∧ SlVs G vs args ∧ RD args e1 e2 kvs ∧
  ∀ p v G' H', H p = none → Fr G H [] G' H' [(p, .dic kvs)] → Ex G' H' → CsOk K G' H' [(p, .dic kvs)] → SlV G' v (.rdd (.ref p) e1 e2) → Q v H'
def SpS (K : PySem.W.Frag) (RN : List Sl → Cs → Sl → Cs → Prop) (RD : List Sl → PyData → PyData → KD → Prop) : Sp := fun vs H Q E => SpG K RN vs H Q E ∨ SpD K RD vs H Q E
def EvD (K : PySem.W.Frag) (te : TE) (ρ : List Sl) (cs : Cs) (kvs : KD) (e1 e2 : PyData) (cs' : Cs) : Prop :=
  ∀ G σ H, Ok K G σ H ρ cs → ∀ Q : VK, (∀ p v G' H', H p = none → Fr G H cs G' H' ((p, .dic kvs) :: cs') → Ok K G' σ H' ρ ((p, .dic kvs) :: cs') → SlV G' v (.rdd (.ref p) e1 e2) → Q v H') → te σ H Q
section
variable {K : PySem.W.Frag} {ρ : List Sl} {cs cs1 : Cs} {te : TE} {tr : TA} {z : Sl} {zs : List Sl} {u : TS} {P : Po} {e1 e2 : PyData} {kvs : KD} {E : XK} {RN : List Sl → Cs → Sl → Cs → Prop} {RD : List Sl → PyData → PyData → KD → Prop}
theorem ev_callS {sub : Cs} (h : EvA K tr ρ cs zs cs1) (hs : List.Sublist sub cs1) (hR : RN zs sub z sub) : Ev K (tCall (SpS K RN RD) [] E tr) ρ cs z cs1 := fun G σ H ok Q q =>
  h G σ H ok _ fun vs G1 H1 f1 ok1 h1 => by
    refine .inl ⟨G1, zs, sub, z, sub, ok1.ex, by rw [List.append_nil]; exact h1, ok1.ce.sub hs, hR, fun v G2 H2 f2 ex2 ok2 hv => ?_⟩
    obtain ⟨f3, ok3⟩ := sub_back ok1.ce (fun x hx => hs.subset hx) (fun x hx => hx) f2 ok2 (fun x hx => hx)
    exact q v G2 H2 (f1.trans f3) ⟨ex2, ok1.sl.mono f2.g, ok3⟩ hv
theorem evd_call (h : EvA K tr ρ cs zs cs1) (hR : RD zs e1 e2 kvs) : EvD K (tCall (SpS K RN RD) [] E tr) ρ cs kvs e1 e2 cs1 := fun G σ H ok Q q =>
  h G σ H ok _ fun vs G1 H1 f1 ok1 h1 => by
    refine .inr ⟨G1, zs, e1, e2, kvs, ok1.ex, by rw [List.append_nil]; exact h1, hR, fun p v G2 H2 hp f2 ex2 ok2 hv => ?_⟩
    obtain ⟨f3, ok3⟩ := sub_back (sub := []) (sub' := []) ok1.ce (fun x hx => nomatch hx) (fun x hx => hx) (f2.sub (List.sublist_cons_self _ _)) (ok2.sub (List.sublist_cons_self _ _)) (fun x hx => hx)
    have hpc : p ∉ cs1.map (·.1) := fun z => by
      obtain ⟨y, hy, e⟩ := List.mem_map.mp z
      obtain ⟨_, ⟨o, h2⟩, _⟩ := ok1.ce.is y hy
      have e' : y.1 = p := e
      rw [e', hp] at h2
      cases h2
    refine q p v G2 H2 (f1.fresh hp) (f1.trans ⟨f3.g, f3.keep, f3.grow, fun a ha => ?_⟩) ⟨ex2, ok1.sl.mono f2.g, ?_, fun x hx => ?_⟩ hv
    · rw [List.map_cons] at ha
      rcases List.mem_cons.mp ha with y | y
      · exact .inr (by rw [y]; exact hp)
      · exact .inl y
    · rw [List.map_cons]
      exact List.nodup_cons.mpr ⟨hpc, ok1.ce.nd⟩
    · rcases List.mem_cons.mp hx with y | y
      · subst y
        exact ok2.is _ List.mem_cons_self
      · exact ok3.is x y
theorem run_asgD (i : Nat) (h : EvD K te ρ cs kvs e1 e2 cs1) (h' : ∀ p, Run K u (ρ.set i (.rdd (.ref p) e1 e2)) ((p, .dic kvs) :: cs1) P) : Run K (tSeq (tAsg te (gName i)) u) ρ cs P := fun G σ H D ok n r bk ct =>
  h G σ H ok _ fun p v G1 H1 hp f1 ok1 hv => h' p G1 _ H1 D ⟨ok1.ex, ok1.sl.set i hv, ok1.ce⟩ (n.after f1) (r.after f1) (bk.after f1) (ct.after f1)
end
section
variable {P : Program} {w : World} {K : PySem.W.Frag} {mg : Str → Option Value} {base : Heap} {x : Str} {st : Stmt} {ps N : List Str} {k : Nat}
theorem Def.calS {RN : List Sl → Cs → Sl → Cs → Prop} {RD : List Sl → PyData → PyData → KD → Prop} (D : Def K mg x st ps) (S : FnScope N ps (defScope st)) (hlen : ∀ args cs z cs', RN args cs z cs' → args.length = ps.length) (hlenD : ∀ args e1 e2 kvs, RD args e1 e2 kvs → args.length = ps.length)
    (hbody : ∀ (cdv : Value) (A : Around) (outer : List Env) (s : Shared) (H : Hp) (E : XK) (f : Addr), Room k (A.deeper (envOfC x (defScope st) s.heap.objs.size f cdv)) →
      ∃ t, PSs (cxOf CX0 P w K mg base N x (defScope st) f cdv A outer s H E).nox (defBody st) t ∧
        (∀ args cs z cs', RN args cs z cs' → Run K t (startR N args) cs { nx := fun _ _ => False, rt := fun y c => y = z ∧ List.Sublist cs' c }) ∧
        ∀ args e1 e2 kvs, RD args e1 e2 kvs → Run K t (startR N args) [] { nx := fun _ _ => False, rt := fun y c1 => ∃ p, y = .rdd (.ref p) e1 e2 ∧ List.Sublist [(p, .dic kvs)] c1 }) :
    Cal P w K mg base (k + 1) x ps (SpS K RN RD) := by
  obtain ⟨f, fd, hm, F, B⟩ := D.ex
  refine ⟨f, fd, hm, F.kp, B, F.ok S (fun vs H Q E h => ?_) (fun cdv A outer s H vs Q E hr h => ?_)⟩
  · rcases h with ⟨G, args, cs, z, cs', _, h1, _, h2, _⟩ | ⟨G, args, e1, e2, kvs, _, h1, h2, _⟩
    · rw [h1.len]
      exact hlen _ _ _ _ h2
    · rw [h1.len]
      exact hlenD _ _ _ _ h2
  · obtain ⟨t, ht, hN, hD⟩ := hbody cdv A outer s H E f hr
    refine ⟨t, ht, ?_⟩
    rcases h with ⟨G, args, cs, z, cs', ex, h1, h2, hR, q⟩ | ⟨G, args, e1, e2, kvs, ex, h1, hR, q⟩
    · refine hN args cs z cs' hR G _ H _ ⟨ex, .start h1, h2⟩ (fun ρ' c' G' σ' H' h f' ok' => h.elim) (fun z' v c' G' H' ⟨e, sb⟩ f' ex' ok' hv => ?_) (fun _ _ _ _ _ h => h.elim) (fun _ _ _ _ _ h => h.elim)
      subst e
      exact q _ G' H' (f'.sub sb) ex' (ok'.sub sb) hv
    · refine hD args e1 e2 kvs hR G _ H _ ⟨ex, .start h1, ⟨by simp, fun _ h => nomatch h⟩⟩ (fun ρ' c' G' σ' H' h f' ok' => h.elim) (fun z' v c' G' H' ⟨p, e, sb⟩ f' ex' ok' hv => ?_) (fun _ _ _ _ _ h => h.elim) (fun _ _ _ _ _ h => h.elim)
      subst e
      have f2 := f'.sub sb
      refine q p v G' H' ?_ f2 ex' (ok'.sub sb) hv
      rcases f2.new p (by rw [List.map_cons]; exact List.mem_cons_self) with z | z
      · exact nomatch z
      · exact z
end
end LW

set_option Elab.async false
set_option linter.all false
set_option maxRecDepth 100000
set_option maxHeartbeats 4000000
namespace LW
open PySem
/-! ### brightness -/
def partsM (s : Sg) (p : List Int) : List (List Int) := largestM (keysG (glowsM s)) p
noncomputable def brightM (s : Sg) (p : List Int) : Option Rat := match coverM (keysG (glowsM s)) p with
  | none => none
  | some _ => some (valM (partsM s p) p)⁻¹
def encBr : Option Rat → PyData
  | none => .none
  | some q => encR q
theorem cov_of {ks : List (List Int)} {p : List Int} (hs : ∀ k ∈ ks, Srt k) (hp : Srt p) {l : List (List Int)} (h : coverM ks p = some l) : CovP (largestM ks p) p := fun x hx => by
  have hc := cover_ok (ks := ks) (p := p) hs hp
  rw [h] at hc
  obtain ⟨_, h2, h3⟩ := hc
  obtain ⟨q, hq, hxq⟩ := (h3 x).mp hx
  obtain ⟨r, hr, hsub⟩ := above hs (p.length - q.length) q (h2 q hq) (Nat.le_refl _)
  exact ⟨r, hr, hsub x hxq⟩
theorem largest_few {ks : List (List Int)} {p : List Int} (nd : ks.Nodup) (hp : ∀ k ∈ ks, Pic k) : (largestM ks p).length ≤ 128 := by
  refine pics_few (List.Pairwise.filter _ (List.Pairwise.filter _ nd)) fun q hq => hp q ?_
  exact (clean_mem.mp (largest_sub hq)).1
end LW

set_option Elab.async false
set_option linter.all false
set_option maxRecDepth 100000
set_option maxHeartbeats 4000000
namespace LW
open PySem
theorem rle_of_eq {a b : Rat} (h : a = b) : a ≤ b := by rw [h]; exact Rat.le_refl
/-! ### sums over lists -/
def ls {α : Type} : List α → (α → Rat) → Rat
  | [], _ => 0
  | a :: l, f => f a + ls l f
section
variable {α β : Type}
theorem ls_congr {f g : α → Rat} : ∀ {l : List α}, (∀ a ∈ l, f a = g a) → ls l f = ls l g
  | [], _ => rfl
  | a :: l, h => by
    show f a + ls l f = g a + ls l g
    rw [h a List.mem_cons_self, ls_congr fun b hb => h b (List.mem_cons_of_mem _ hb)]
theorem ls_le {f g : α → Rat} : ∀ {l : List α}, (∀ a ∈ l, f a ≤ g a) → ls l f ≤ ls l g
  | [], _ => Rat.le_refl
  | a :: l, h => by
    show f a + ls l f ≤ g a + ls l g
    have h1 := h a List.mem_cons_self
    have h2 := ls_le fun b hb => h b (List.mem_cons_of_mem a hb)
    grind
theorem ls_app (f : α → Rat) : ∀ (l k : List α), ls (l ++ k) f = ls l f + ls k f
  | [], k => by show ls k f = 0 + ls k f; grind
  | a :: l, k => by
    show f a + ls (l ++ k) f = f a + ls l f + ls k f
    rw [ls_app f l k]
    grind
theorem ls_map (g : α → β) (f : β → Rat) : ∀ l : List α, ls (l.map g) f = ls l fun a => f (g a)
  | [] => rfl
  | a :: l => by
    show f (g a) + ls (l.map g) f = _
    rw [ls_map g f l]
    rfl
theorem ls_mul (c : Rat) (f : α → Rat) : ∀ l : List α, ls l (fun a => c * f a) = c * ls l f
  | [] => by show (0 : Rat) = c * 0; grind
  | a :: l => by
    show c * f a + ls l (fun a => c * f a) = c * (f a + ls l f)
    rw [ls_mul c f l]
    grind
theorem ls_mulr (c : Rat) (f : α → Rat) (l : List α) : ls l (fun a => f a * c) = ls l f * c := by
  rw [ls_congr (g := fun a => c * f a) fun a _ => Rat.mul_comm _ _, ls_mul, Rat.mul_comm]
theorem ls_add (f g : α → Rat) : ∀ l : List α, ls l (fun a => f a + g a) = ls l f + ls l g
  | [] => by show (0 : Rat) = 0 + 0; grind
  | a :: l => by
    show f a + g a + ls l (fun a => f a + g a) = f a + ls l f + (g a + ls l g)
    rw [ls_add f g l]
    grind
theorem ls_zero {f : α → Rat} : ∀ {l : List α}, (∀ a ∈ l, f a = 0) → ls l f = 0
  | [], _ => rfl
  | a :: l, h => by
    show f a + ls l f = 0
    rw [h a List.mem_cons_self, ls_zero fun b hb => h b (List.mem_cons_of_mem _ hb)]
    grind
theorem ls_nonneg {f : α → Rat} {l : List α} (h : ∀ a ∈ l, 0 ≤ f a) : 0 ≤ ls l f := by
  have := ls_le (f := fun _ => 0) h
  rw [ls_zero fun a _ => rfl] at this
  exact this
theorem ls_comm (f : α → β → Rat) (k : List β) : ∀ l : List α, ls l (fun a => ls k fun b => f a b) = ls k fun b => ls l fun a => f a b
  | [] => by
    show (0 : Rat) = ls k fun b => 0
    rw [ls_zero fun _ _ => rfl]
  | a :: l => by
    show (ls k fun b => f a b) + ls l (fun a => ls k fun b => f a b) = ls k fun b => f a b + ls l fun a => f a b
    rw [ls_add, ls_comm f k l]
theorem ls_const (c : Rat) : ∀ l : List α, ls l (fun _ => c) = (l.length : Rat) * c
  | [] => by show (0 : Rat) = ((0 : Nat) : Rat) * c; grind
  | a :: l => by
    show c + ls l (fun _ => c) = ((l.length + 1 : Nat) : Rat) * c
    rw [ls_const c l, Rat.natCast_add]
    grind
theorem ls_perm {f : α → Rat} {l k : List α} (h : l.Perm k) : ls l f = ls k f := by
  induction h with
  | nil => rfl
  | cons a _ ih => show f a + _ = f a + _; rw [ih]
  | swap a b l => show f b + (f a + ls l f) = f a + (f b + ls l f); grind
  | trans _ _ h1 h2 => rw [h1, h2]
theorem ls_filter (q : α → Bool) (f : α → Rat) : ∀ l : List α, ls (l.filter q) f = ls l fun a => if q a then f a else 0
  | [] => rfl
  | a :: l => by
    show _ = (if q a then f a else 0) + ls l fun a => if q a then f a else 0
    rw [← ls_filter q f l]
    cases h : q a with
    | true => rw [List.filter_cons_of_pos h]; rfl
    | false => rw [List.filter_cons_of_neg (by rw [h]; decide)]; grind
theorem sm_first (f : Nat → Rat) : ∀ n, sm (n + 1) f = f 0 + sm n fun i => f (i + 1)
  | 0 => by show (0 : Rat) + f 0 = f 0 + 0; grind
  | n + 1 => by
    show sm (n + 1) f + f (n + 1) = f 0 + ((sm n fun i => f (i + 1)) + f (n + 1))
    rw [sm_first f n]
    grind
theorem sm_ls (F : α → Rat) (d : α) : ∀ l : List α, (sm l.length fun j => F (l.getD j d)) = ls l F
  | [] => rfl
  | a :: l => by
    rw [List.length_cons, sm_first]
    show F a + (sm l.length fun i => F (l.getD i d)) = F a + ls l F
    rw [sm_ls F d l]
theorem sm_range (f : Nat → Rat) : ∀ n, ls (List.range n) f = sm n f
  | 0 => rfl
  | n + 1 => by
    rw [List.range_succ, ls_app, sm_range f n]
    show sm n f + (f n + 0) = sm n f + f n
    grind
end
/-! ### brightness without indices -/
/-- the weights' side: no clean picture of G weighs more than b -/
structure WtS (G : List (List Int)) (p : List Int) (b : Rat) (w : Int → Rat) : Prop where
  nn : ∀ x ∈ p, 0 ≤ w x
  one : ls p w = 1
  le : ∀ q ∈ G, (∀ x ∈ q, x ∈ p) → (ls p fun x => if x ∈ q then w x else 0) ≤ b
/-- the turns' side: shares of clean pictures that light each lamp at least b -/
structure TkS (G : List (List Int)) (p : List Int) (b : Rat) (y : List (List Int × Rat)) : Prop where
  cl : ∀ e ∈ y, e.1 ∈ G ∧ ∀ x ∈ e.1, x ∈ p
  nn : ∀ e ∈ y, 0 ≤ e.2
  one : ls y (fun e => e.2) = 1
  ge : ∀ x ∈ p, b ≤ ls y fun e => if x ∈ e.1 then e.2 else 0
structure Bri (G : List (List Int)) (p : List Int) (b : Rat) : Prop where
  pos : 0 < b
  w : ∃ w, WtS G p b w
  y : ∃ y, TkS G p b y
theorem ite_mul {c : Prop} [Decidable c] {a b : Rat} : (if c then a else 0) * b = if c then a * b else 0 := by
  split
  · rfl
  · grind
theorem mul_ite {c : Prop} [Decidable c] {a b : Rat} : b * (if c then a else 0) = if c then b * a else 0 := by
  split
  · rfl
  · grind
theorem weakL {G : List (List Int)} {p : List Int} {b b' : Rat} {w : Int → Rat} {y : List (List Int × Rat)} (hw : WtS G p b w) (hy : TkS G p b' y) : b' ≤ b := by
  have h1 : ls p (fun x => b' * w x) ≤ ls p fun x => (ls y fun e => if x ∈ e.1 then e.2 else 0) * w x := ls_le fun x hx => Rat.mul_le_mul_of_nonneg_right (hy.ge x hx) (hw.nn x hx)
  rw [ls_mul, hw.one, Rat.mul_one] at h1
  have h2 : (ls p fun x => (ls y fun e => if x ∈ e.1 then e.2 else 0) * w x) = ls y fun e => e.2 * ls p fun x => if x ∈ e.1 then w x else 0 := by
    rw [ls_congr (g := fun x => ls y fun e => if x ∈ e.1 then e.2 * w x else 0) fun x hx => by
      rw [← ls_mulr]
      exact ls_congr fun e _ => ite_mul]
    rw [ls_comm]
    refine ls_congr fun e he => ?_
    rw [← ls_mul]
    exact ls_congr fun x _ => mul_ite.symm
  have h3 : (ls y fun e => e.2 * ls p fun x => if x ∈ e.1 then w x else 0) ≤ ls y fun e => e.2 * b := ls_le fun e he => Rat.mul_le_mul_of_nonneg_left (hw.le e.1 (hy.cl e he).1 (hy.cl e he).2) (hy.nn e he)
  rw [ls_mulr, hy.one, Rat.one_mul] at h3
  grind
theorem Bri.uniq {G : List (List Int)} {p : List Int} {b b' : Rat} (h : Bri G p b) (h' : Bri G p b') : b = b' := by
  obtain ⟨w, hw⟩ := h.w
  obtain ⟨y, hy⟩ := h.y
  obtain ⟨w', hw'⟩ := h'.w
  obtain ⟨y', hy'⟩ := h'.y
  have h1 := weakL hw hy'
  have h2 := weakL hw' hy
  grind
/-- fewer clean pictures: not brighter -/
theorem Bri.mono {G G' : List (List Int)} {p : List Int} {b b' : Rat} (h : Bri G p b) (h' : Bri G' p b') (hG : ∀ q ∈ G', (∀ x ∈ q, x ∈ p) → q ∈ G) : b' ≤ b := by
  obtain ⟨w, hw⟩ := h.w
  obtain ⟨y', hy'⟩ := h'.y
  exact weakL hw ⟨fun e he => ⟨hG e.1 (hy'.cl e he).1 (hy'.cl e he).2, (hy'.cl e he).2⟩, hy'.nn, hy'.one, hy'.ge⟩
/-- a row of clean pictures, some perhaps empty -/
theorem Bri.row {G : List (List Int)} {p : List Int} {b : Rat} (h : Bri G p b) {L : List (List Int)} (hL : ∀ q ∈ L, (q = [] ∨ q ∈ G) ∧ ∀ x ∈ q, x ∈ p) {m : Nat} (hm : ∀ x ∈ p, m ≤ (L.filter fun q => decide (x ∈ q)).length) : (m : Rat) ≤ b * L.length := by
  obtain ⟨w, hw⟩ := h.w
  have hb := h.pos
  have h1 : ls p (fun x => (m : Rat) * w x) ≤ ls p fun x => (ls L fun q => if x ∈ q then 1 else 0) * w x := ls_le fun x hx => by
    refine Rat.mul_le_mul_of_nonneg_right ?_ (hw.nn x hx)
    have e : (ls L fun q => if x ∈ q then (1 : Rat) else 0) = ((L.filter fun q => decide (x ∈ q)).length : Rat) := by
      have := ls_const (1 : Rat) (L.filter fun q => decide (x ∈ q))
      rw [Rat.mul_one, ls_filter] at this
      rw [← this]
      exact ls_congr fun q _ => by by_cases hq : x ∈ q <;> simp [hq]
    rw [e]
    exact Rat.natCast_le_natCast.mpr (hm x hx)
  rw [ls_mul, hw.one, Rat.mul_one] at h1
  have h2 : (ls p fun x => (ls L fun q => if x ∈ q then 1 else 0) * w x) = ls L fun q => ls p fun x => if x ∈ q then w x else 0 := by
    rw [ls_congr (g := fun x => ls L fun q => if x ∈ q then w x else 0) fun x hx => by
      rw [← ls_mulr]
      exact ls_congr fun q _ => by rw [ite_mul, Rat.one_mul]]
    rw [ls_comm]
  have h3 : (ls L fun q => ls p fun x => if x ∈ q then w x else 0) ≤ ls L fun _ => b := ls_le fun q hq => by
    obtain ⟨h4, h5⟩ := hL q hq
    rcases h4 with rfl | h4
    · rw [ls_zero fun x _ => if_neg List.not_mem_nil]
      grind
    · exact hw.le q h4 h5
  rw [ls_const] at h3
  grind
/-- weights: some clean picture weighs its part -/
theorem Bri.wts {G : List (List Int)} {p : List Int} {b : Rat} (h : Bri G p b) (u : Int → Rat) (hu : ∀ x ∈ p, 0 ≤ u x) {M : Rat} (hM : ∀ q ∈ G, (∀ x ∈ q, x ∈ p) → (ls p fun x => if x ∈ q then u x else 0) ≤ M) : b * ls p u ≤ M := by
  obtain ⟨y, hy⟩ := h.y
  have h1 : ls p (fun x => b * u x) ≤ ls p fun x => (ls y fun e => if x ∈ e.1 then e.2 else 0) * u x := ls_le fun x hx => Rat.mul_le_mul_of_nonneg_right (hy.ge x hx) (hu x hx)
  rw [ls_mul] at h1
  have h2 : (ls p fun x => (ls y fun e => if x ∈ e.1 then e.2 else 0) * u x) = ls y fun e => e.2 * ls p fun x => if x ∈ e.1 then u x else 0 := by
    rw [ls_congr (g := fun x => ls y fun e => if x ∈ e.1 then e.2 * u x else 0) fun x hx => by
      rw [← ls_mulr]
      exact ls_congr fun e _ => ite_mul]
    rw [ls_comm]
    refine ls_congr fun e he => ?_
    rw [← ls_mul]
    exact ls_congr fun x _ => mul_ite.symm
  have h3 : (ls y fun e => e.2 * ls p fun x => if x ∈ e.1 then u x else 0) ≤ ls y fun e => e.2 * M := ls_le fun e he => Rat.mul_le_mul_of_nonneg_left (hM e.1 (hy.cl e he).1 (hy.cl e he).2) (hy.nn e he)
  rw [ls_mulr, hy.one, Rat.one_mul] at h3
  grind
/-! ### from the end of a run -/
theorem cert_bri {ks : List (List Int)} {p : List Int} (hs : ∀ k ∈ ks, Srt k) (hp : p.Nodup) (hne : p ≠ []) {v : Rat} {w y : Nat → Rat} (c : Cert p.length (largestM ks p).length (partA (largestM ks p) p) v w y) : Bri ks p v⁻¹ := by
  have hv := c.one (partA_bit _ _) (List.length_pos_iff.mpr hne)
  have hv0 : v ≠ 0 := by grind
  have hvi : 0 < v⁻¹ := Rat.inv_pos.mpr (by grind)
  have hvv : v * v⁻¹ = 1 := Rat.mul_inv_cancel _ hv0
  have hidx : ∀ j, j < p.length → p.idxOf (p.getD j 0) = j := fun j hj => by
    rw [getD_lt hj]
    exact List.Nodup.idxOf_getElem hp j hj
  have hsum : ∀ q : List Int, (ls p fun x => if x ∈ q then w (p.idxOf x) * v⁻¹ else 0) = (sm p.length fun j => (if p.getD j 0 ∈ q then (1 : Rat) else 0) * w j) * v⁻¹ := fun q => by
    rw [← sm_ls _ (0 : Int), ← sm_mulr]
    refine sm_congr fun j hj => ?_
    rw [hidx j hj]
    by_cases h : p.getD j 0 ∈ q
    · rw [if_pos h, if_pos h, Rat.one_mul]
    · rw [if_neg h, if_neg h]
      grind
  refine ⟨hvi, ⟨fun x => w (p.idxOf x) * v⁻¹, fun x hx => Rat.mul_nonneg (c.w0 _ (List.idxOf_lt_length_iff.mpr hx)) (by grind), ?_, fun q hq hqp => ?_⟩, ⟨(List.range (largestM ks p).length).map fun k => ((largestM ks p).getD k [], y k * v⁻¹), fun e he => ?_, fun e he => ?_, ?_, fun x hx => ?_⟩⟩
  · rw [← sm_ls _ (0 : Int), sm_congr (g := fun j => w j * v⁻¹) fun j hj => by rw [hidx j hj], sm_mulr]
    show sm p.length w * v⁻¹ = 1
    rw [c.ws, hvv]
  · obtain ⟨r, hr, hsub⟩ := above (p := p) hs (p.length - q.length) q (clean_mem.mpr ⟨hq, hqp⟩) (Nat.le_refl _)
    obtain ⟨k, hk, e⟩ := List.getElem_of_mem hr
    have h1 := c.w1 k hk
    rw [hsum q]
    have h2 : (sm p.length fun j => (if p.getD j 0 ∈ q then (1 : Rat) else 0) * w j) ≤ sm p.length fun j => partA (largestM ks p) p k j * w j := sm_le fun j hj => by
      refine Rat.mul_le_mul_of_nonneg_right ?_ (c.w0 j hj)
      unfold partA
      by_cases h : p.getD j 0 ∈ q
      · rw [if_pos h, if_pos (by rw [getD_lt hk, e]; exact hsub _ h)]
        exact Rat.le_refl
      · rw [if_neg h]
        split <;> grind
    have h3 := Rat.mul_le_mul_of_nonneg_right (c := v⁻¹) (Rat.le_trans h2 h1) (by grind)
    rw [Rat.one_mul] at h3
    exact h3
  · obtain ⟨k, hk, rfl⟩ := List.mem_map.mp he
    have hk := List.mem_range.mp hk
    show (largestM ks p).getD k [] ∈ ks ∧ ∀ x ∈ (largestM ks p).getD k [], x ∈ p
    rw [getD_lt hk]
    exact clean_mem.mp (largest_sub (List.getElem_mem hk))
  · obtain ⟨k, hk, rfl⟩ := List.mem_map.mp he
    exact Rat.mul_nonneg (c.y0 k (List.mem_range.mp hk)) (by grind)
  · rw [ls_map, sm_range]
    show (sm (largestM ks p).length fun k => y k * v⁻¹) = 1
    rw [sm_mulr]
    show sm _ y * v⁻¹ = 1
    rw [c.ys, hvv]
  · rw [ls_map, sm_range]
    obtain ⟨j, hj, rfl⟩ := List.getElem_of_mem hx
    have h1 := Rat.mul_le_mul_of_nonneg_right (c := v⁻¹) (c.y1 j hj) (by grind)
    rw [Rat.one_mul, ← sm_mulr] at h1
    refine Rat.le_trans h1 (rle_of_eq (sm_congr fun k hk => ?_))
    unfold partA
    rw [getD_lt hj]
    show y k * _ * v⁻¹ = if p[j] ∈ (largestM ks p).getD k [] then y k * v⁻¹ else 0
    split <;> grind
theorem bright_none {s : Sg} {p : List Int} : brightM s p = none ↔ coverM (keysG (glowsM s)) p = none := by
  unfold brightM
  cases coverM (keysG (glowsM s)) p with
  | none => exact ⟨fun _ => rfl, fun _ => rfl⟩
  | some l => exact ⟨fun h => (nomatch h), fun h => (nomatch h)⟩
end LW

set_option Elab.async false
set_option linter.all false
set_option maxRecDepth 100000
set_option maxHeartbeats 4000000
namespace LW
open PySem PySem.Spec PyProof.Rows L2
section
variable {K : PySem.W.Frag} {ρ : List Sl} {cs cs1 cs2 : Cs} {te ta tb : TE} {z : Sl} {d e : PyData} {ds : List PyData}
/-- a tuple, or e -/
theorem ev_orP (ha : Ev K ta ρ cs (.dat (.tuple ds)) cs1) (hb : ds = [] → Ev K tb ρ cs1 (.dat d) cs1) (hd : ds ≠ [] → d = .tuple ds) : Ev K (tOrT K ta tb) ρ cs (.dat d) cs1 := fun G σ H ok Q q =>
  ha G σ H ok _ fun v G1 H1 f1 ok1 e1 => by
    obtain ⟨p, vs, rfl, hp, dv⟩ := id e1
    refine ⟨!vs.isEmpty, ?_, ?_⟩
    · have hp' := ok1.ex _ _ hp
      exact .inr (.inl ⟨vs, .inl (.inl hp'), rfl⟩)
    · cases hv : vs with
      | nil =>
        have hd : ds = [] := List.length_eq_zero_iff.mp (by rw [dv.len, hv]; rfl)
        show tb σ H1 Q
        exact hb hd G1 σ H1 ok1 Q fun v G2 H2 f2 ok2 e2 => q v G2 H2 (f1.trans f2) ok2 e2
      | cons x r =>
        show Q (.ref p) H1
        have hne : ds ≠ [] := fun z => by
          have := dv.len
          rw [z, hv] at this
          cases this
        rw [hd hne] at q
        exact q _ G1 H1 f1 ok1 e1
theorem cd_min {ns : List Int} {m : Int} (h : Rds cs z (.list (ns.map PyData.int))) (hm : m ∈ ns) (hle : ∀ y ∈ ns, m ≤ y) : CallD K (rMin K) [z] cs (.dat (.int m)) := fun vs G H hv ex ok Q q => by
  obtain ⟨v, rfl, h1⟩ := hv.one
  obtain ⟨p, ws, rfl, hp, dp⟩ := h.list h1 ex ok
  refine ⟨p, ns, rfl, .inl (.inl (by rw [← dp.ints]; exact hp)), List.length_pos_of_mem hm, fun m' h1 h2 => ?_⟩
  have e : m' = m := Int.le_antisymm (h2 m hm) (hle m' h1)
  subst e
  exact q _ G H (.refl ex) rfl
end
theorem SlVs.three {G : Hp} : ∀ {vs : List V} {z y x : Sl}, SlVs G vs [z, y, x] → ∃ u v w, vs = [u, v, w] ∧ SlV G u z ∧ SlV G v y ∧ SlV G w x
  | [], _, _, _, h => h.elim
  | [_], _, _, _, h => h.2.elim
  | [_, _], _, _, _, h => h.2.2.elim
  | [u, v, w], _, _, _, h => ⟨u, v, w, rfl, h.1, h.2.1, h.2.2.1⟩
  | _ :: _ :: _ :: _ :: _, _, _, _, h => h.2.2.2.elim
theorem run_par3 {K : PySem.W.Frag} {ρ : List Sl} {cs cs1 : Cs} {tr : TA} {u : TS} {P : Po} {z1 z2 z3 : Sl} (i j l : Nat) (h : EvA K tr ρ cs [z1, z2, z3] cs1) (h' : Run K u (((ρ.set i z1).set j z2).set l z3) cs1 P) : Run K (tSeq (tPar3 i j l tr) u) ρ cs P := fun G σ H D ok n r bk ct =>
  h G σ H ok _ fun vs G1 H1 f1 ok1 e1 => by
    obtain ⟨v, w, x, rfl, q1, q2, q3⟩ := e1.three
    exact ⟨v, w, x, rfl, h' G1 _ H1 D ⟨ok1.ex, ((ok1.sl.set i q1).set j q2).set l q3, ok1.ce⟩ (n.after f1) (r.after f1) (bk.after f1) (ct.after f1)⟩
/-- the least of some numbers -/
theorem least_ex : ∀ {l : List Int}, l ≠ [] → ∃ m ∈ l, ∀ y ∈ l, m ≤ y
  | [], h => absurd rfl h
  | [a], _ => ⟨a, List.mem_cons_self, fun y hy => by rw [List.mem_singleton.mp hy]; exact Int.le_refl _⟩
  | a :: b :: l, _ => by
    obtain ⟨m, h1, h2⟩ := least_ex (l := b :: l) (by simp)
    by_cases h : a ≤ m
    · exact ⟨a, List.mem_cons_self, fun y hy => by
        rcases List.mem_cons.mp hy with rfl | hy
        · exact Int.le_refl _
        · have := h2 y hy
          omega⟩
    · exact ⟨m, List.mem_cons_of_mem _ h1, fun y hy => by
        rcases List.mem_cons.mp hy with rfl | hy
        · omega
        · exact h2 y hy⟩
/-! ### fractions and counting -/
theorem mul_den (q : Rat) : q * (q.den : Rat) = (q.num : Rat) := by
  have e : q = (q.num : Rat) / ((q.den : Nat) : Rat) := by
    have := Rat.mkRat_self q
    rw [Rat.mkRat_eq_div] at this
    exact this.symm
  have hd : (q.den : Rat) ≠ 0 := fun z => q.den_nz (Rat.natCast_eq_zero_iff.mp z)
  calc q * (q.den : Rat) = (q.num : Rat) / (q.den : Rat) * (q.den : Rat) := by rw [← e]
    _ = (q.num : Rat) := Rat.div_mul_cancel hd
theorem rat_cross {q : Rat} {m n : Int} : (m : Rat) ≤ q * (n : Rat) ↔ m * (q.den : Int) ≤ q.num * n := by
  have hd : (0 : Rat) < (q.den : Rat) := by
    exact Rat.natCast_pos.mpr q.den_pos
  have e := mul_den q
  constructor
  · intro h
    have h1 := Rat.mul_le_mul_of_nonneg_right h (c := (q.den : Rat)) (by grind)
    have h2 : q * (n : Rat) * (q.den : Rat) = (q.num : Rat) * (n : Rat) := by
      rw [← e]
      grind
    rw [h2] at h1
    have h3 : ((m * (q.den : Int) : Int) : Rat) ≤ ((q.num * n : Int) : Rat) := by
      rw [Rat.intCast_mul, Rat.intCast_mul]
      exact h1
    exact Rat.intCast_le_intCast.mp h3
  · intro h
    have h3 := Rat.intCast_le_intCast.mpr h
    rw [Rat.intCast_mul, Rat.intCast_mul, ← e] at h3
    have h4 : (m : Rat) * (q.den : Rat) ≤ q * (n : Rat) * (q.den : Rat) := by
      have : q * (q.den : Rat) * (n : Rat) = q * (n : Rat) * (q.den : Rat) := by grind
      rw [← this]
      exact h3
    exact Rat.le_of_mul_le_mul_right h4 hd
def cntG (s : Sg) (row : List (List Nat)) (x : Int) : Nat := ((row.map (glowM s)).filter fun q => decide (x ∈ q)).length
section
variable {s : Sg} {p : List Int} {b : Rat}
theorem glow_key {t : List Nat} (ht : OkT s t) (hne : glowM s t ≠ []) : glowM s t ∈ keysG (glowsM s) := (glowsM_ok s).all t (turns_okT.mpr ht) hne
theorem rows_le (h : Bri (keysG (glowsM s)) p b) {row : List (List Nat)} (hr : ∀ t ∈ row, OkT s t) (cl : ∀ t ∈ row, ∀ x ∈ glowM s t, x ∈ p) {m : Nat} (hm : ∀ x ∈ p, m ≤ cntG s row x) : (m : Int) * (b.den : Int) ≤ b.num * (row.length : Int) := by
  refine rat_cross.mp ?_
  have h1 := h.row (L := row.map (glowM s)) (fun q hq => by
    obtain ⟨t, ht, rfl⟩ := List.mem_map.mp hq
    refine ⟨?_, cl t ht⟩
    by_cases e : glowM s t = []
    · exact .inl e
    · exact .inr (glow_key (hr t ht) e)) (m := m) hm
  rw [List.length_map] at h1
  exact h1
theorem cnt_pos {row : List (List Nat)} (hp : Srt p) (h : shownM s row = p) : ∀ x ∈ p, 1 ≤ cntG s row x := fun x hx => by
  obtain ⟨t, ht, hxt⟩ := ((shown_iff hp).mp h).2 x hx
  exact List.length_pos_of_mem (List.mem_filter.mpr ⟨List.mem_map.mpr ⟨t, ht, rfl⟩, decide_eq_true hxt⟩)
theorem ind_len {q A : List Int} : ∀ p : List Int, (ls p fun x => if x ∈ q then (if x ∈ A then (1 : Rat) else 0) else 0) = ((p.filter fun x => decide (x ∈ q) && decide (x ∈ A)).length : Rat) := fun p => by
  have h := ls_const (1 : Rat) (p.filter fun x => decide (x ∈ q) && decide (x ∈ A))
  rw [Rat.mul_one, ls_filter] at h
  rw [← h]
  refine ls_congr fun x _ => ?_
  by_cases h1 : x ∈ q <;> by_cases h2 : x ∈ A <;> simp [h1, h2]
theorem apart_le_br (h : Bri (keysG (glowsM s)) p b) (hp : Srt p) : b.num * ((apartM (keysG (glowsM s)) p).length : Int) ≤ (b.den : Int) := by
  obtain ⟨⟨h1, h2⟩, h3⟩ := apart_ok (ks := keysG (glowsM s)) hp
  generalize apartM (keysG (glowsM s)) p = A at h1 h2 h3
  have hA : ∀ l : List Int, l.Nodup → (l.filter fun x => decide (x ∈ A)).length = meetN l A := fun l _ => rfl
  have h4 := h.wts (fun x => if x ∈ A then 1 else 0) (fun x _ => by show (0 : Rat) ≤ if x ∈ A then 1 else 0; split <;> grind) (M := 1) (fun q hq hqp => by
    rw [ind_len]
    have h5 := h3 q (clean_mem.mpr ⟨hq, hqp⟩)
    have h6 : (p.filter fun x => decide (x ∈ q) && decide (x ∈ A)).length ≤ meetN A q := by
      refine nodup_le ((srt_nd hp).filter _) fun x hx => ?_
      have h7 := (List.mem_filter.mp hx).2
      rw [Bool.and_eq_true, decide_eq_true_iff, decide_eq_true_iff] at h7
      exact List.mem_filter.mpr ⟨h7.2, decide_eq_true h7.1⟩
    exact Rat.natCast_le_natCast (b := 1) |>.mpr (by omega))
  have h8 : (ls p fun x => if x ∈ A then (1 : Rat) else 0) = (A.length : Rat) := by
    have h := ls_const (1 : Rat) (p.filter fun x => decide (x ∈ A))
    rw [Rat.mul_one, ls_filter] at h
    have e : (p.filter fun x => decide (x ∈ A)).length = A.length := by
      refine List.Perm.length_eq ((List.perm_ext_iff_of_nodup ((srt_nd hp).filter _) (srt_nd h1)).mpr fun x => ?_)
      rw [List.mem_filter, decide_eq_true_iff]
      exact ⟨fun z => z.2, fun z => ⟨h2 x z, z⟩⟩
    rw [← e, ← h]
    exact ls_congr fun x _ => by by_cases hx : x ∈ A <;> simp [hx]
  rw [h8] at h4
  have hd : (0 : Rat) < (b.den : Rat) := Rat.natCast_pos.mpr b.den_pos
  have h9 := Rat.mul_le_mul_of_nonneg_right h4 (c := (b.den : Rat)) (by grind)
  have e := mul_den b
  have e2 : b * (A.length : Rat) * (b.den : Rat) = (b.num : Rat) * (A.length : Rat) := by
    rw [← e]
    grind
  rw [e2, Rat.one_mul] at h9
  have h10 : ((b.num * (A.length : Int) : Int) : Rat) ≤ (((b.den : Nat) : Int) : Rat) := by
    rw [Rat.intCast_mul]
    exact h9
  exact Rat.intCast_le_intCast.mp h10
end
def orM (p q : List Int) : List Int := if p = [] then q else p
theorem orM_ne {p q : List Int} (h : q ≠ []) : orM p q ≠ [] := by
  unfold orM
  split
  · exact h
  · assumption
theorem orM_of {s : Sg} {p q : List Int} (hp : PicOf s p) (hq : PicOf s q) : PicOf s (orM p q) := by
  unfold orM
  split
  · exact hq
  · exact hp
end LW

set_option Elab.async false
set_option linter.all false
set_option maxRecDepth 100000
set_option maxHeartbeats 4000000
namespace LW
open PySem PySem.Spec PyProof.Rows L2
/-! ### in, for tuples of data -/
def rInDT (neg : Bool) (K : PySem.W.Frag) : R2 := fun x y H Q => ∃ d ds, Dp K H x d ∧ Dp K H y (.tuple ds) ∧ SeqAt.shaped d = true ∧ SeqAt.shaped (.tuple ds) = true ∧ Q (.bl (if neg then !(ds.any fun z => PyData.eqv z d) else ds.any fun z => PyData.eqv z d)) H
theorem op_inDTK {X : Cx} (K : PySem.W.Frag) (hu : X.A.units + 65 < cLine) (h : X.K = K := by rfl) : OpR X (compareOp .In) (rInDT false K) := by
  subst h
  intro pins s σ H x y v u Q I rx ry h
  obtain ⟨d, ds, hd, he, sd, se, q⟩ := h
  obtain ⟨as, r1⟩ := Dp.reads I d x v hd rx
  obtain ⟨bs, r2⟩ := Dp.reads I (.tuple ds) y u he ry
  exact SeqAt.in_tuple_reads r2 r1 (SeqAt.canLay_of_shaped se) (SeqAt.canLay_of_shaped sd) (room_in_shaped sd hu) ⟨.bl _, H, I, rfl, q⟩
theorem op_notInDTK {X : Cx} (K : PySem.W.Frag) (hu : X.A.units + 65 < cLine) (h : X.K = K := by rfl) : OpR X (compareOp .NotIn) (rInDT true K) := by
  subst h
  intro pins s σ H x y v u Q I rx ry h
  obtain ⟨d, ds, hd, he, sd, se, q⟩ := h
  obtain ⟨as, r1⟩ := Dp.reads I d x v hd rx
  obtain ⟨bs, r2⟩ := Dp.reads I (.tuple ds) y u he ry
  exact SeqAt.notIn_tuple_reads r2 r1 (SeqAt.canLay_of_shaped se) (SeqAt.canLay_of_shaped sd) (room_in_shaped sd hu) ⟨.bl _, H, I, rfl, q⟩
theorem opd_inDT {K : PySem.W.Frag} {cs : Cs} {z1 z2 : Sl} {neg : Bool} {d : PyData} {ds : List PyData} (h1 : Rds cs z1 d) (h2 : Rds cs z2 (.tuple ds)) (s1 : SeqAt.shaped d = true) (s2 : SeqAt.shaped (.tuple ds) = true) : OpD K (rInDT neg K) z1 z2 cs (.dat (.bool (if neg then !(ds.any fun z => PyData.eqv z d) else ds.any fun z => PyData.eqv z d))) := fun x y G H hx hy ex ok Q q =>
  ⟨d, ds, (h1.dt hx ex ok).dp, (h2.dt hy ex ok).dp, s1, s2, q _ G H (.refl ex) rfl⟩
/-! ### apart: the largest -/
theorem apS_grows (cl : List (List Int)) : ∀ (l : List (List Int)) (b : List Int), b.length ≤ (l.foldl (apS cl) b).length
  | [], b => Nat.le_refl _
  | q :: l, b => by
    rw [List.foldl_cons]
    refine Nat.le_trans ?_ (apS_grows cl l _)
    unfold apS
    split
    · rename_i h
      rw [Bool.and_eq_true, decide_eq_true_iff] at h
      omega
    · exact Nat.le_refl _
theorem apS_max (cl : List (List Int)) : ∀ (l : List (List Int)) (b q : List Int), q ∈ l → okA cl q = true → q.length ≤ (l.foldl (apS cl) b).length
  | [], _, _, h, _ => nomatch h
  | r :: l, b, q, h, ho => by
    rw [List.foldl_cons]
    rcases List.mem_cons.mp h with rfl | h
    · refine Nat.le_trans ?_ (apS_grows cl l _)
      unfold apS
      rw [ho, Bool.and_true]
      by_cases hl : b.length < q.length
      · rw [if_pos (decide_eq_true hl)]
        exact Nat.le_refl _
      · rw [if_neg (by rw [decide_eq_false hl]; decide)]
        omega
    · exact apS_max cl l _ q h ho
theorem apart_max {ks : List (List Int)} {p q : List Int} (hp : Srt p) (hq : Srt q) (hs : ∀ x ∈ q, x ∈ p) (hm : ∀ one ∈ ks, (∀ x ∈ one, x ∈ p) → meetN q one ≤ 1) : q.length ≤ (apartM ks p).length := by
  refine apS_max _ _ _ q ((mem_picsM hp).mpr ⟨hq, hs⟩) ?_
  unfold okA
  rw [Bool.not_eq_true', List.any_eq_false]
  intro one ho
  have h := clean_mem.mp ho
  have := hm one h.1 h.2
  simp
  omega
theorem apart_mono {ks ks' : List (List Int)} {p : List Int} (hp : Srt p) (h : ∀ q ∈ ks', (∀ x ∈ q, x ∈ p) → q ∈ ks) : (apartM ks p).length ≤ (apartM ks' p).length := by
  obtain ⟨⟨h1, h2⟩, h3⟩ := apart_ok (ks := ks) hp
  exact apart_max hp h1 h2 fun one ho hs => h3 one (clean_mem.mpr ⟨h one ho hs, hs⟩)
/-! ### a lamp more -/
section
variable {s s' : Sg} {pr : Nat × Nat}
structure Plus (s s' : Sg) (pr : Nat × Nat) : Prop where
  w : s'.w = s.w
  L : s'.L = s.L ++ [pr]
  r : s'.r = s.r
theorem Plus.fw (h : Plus s s' pr) {a : Nat} (ha : a < s.L.length) : LW.fw s' a = LW.fw s a := by
  unfold LW.fw
  rw [h.L, List.getD, List.getElem?_append_left ha]
  rfl
theorem Plus.sw (h : Plus s s' pr) {a : Nat} (ha : a < s.L.length) : LW.sw s' a = LW.sw s a := by
  unfold LW.sw
  rw [h.L, List.getD, List.getElem?_append_left ha]
  rfl
theorem Plus.c1 (h : Plus s s' pr) {t : List Nat} {a : Nat} (ha : a < s.L.length) : LW.c1 s' t a = LW.c1 s t a := by
  unfold LW.c1 hi lo
  rw [h.fw ha, h.sw ha]
theorem Plus.c2 (h : Plus s s' pr) {t : List Nat} {a b : Nat} (ha : a < s.L.length) (hb : b < s.L.length) : LW.c2 s' t a b = LW.c2 s t a b := by
  unfold LW.c2 hi lo lk
  rw [h.fw ha, h.sw ha, h.fw hb, h.sw hb]
theorem Plus.c3 (h : Plus s s' pr) {t : List Nat} {a b c : Nat} (ha : a < s.L.length) (hb : b < s.L.length) (hc : c < s.L.length) : LW.c3 s' t a b c = LW.c3 s t a b c := by
  unfold LW.c3 hi lo lk
  rw [h.fw ha, h.sw ha, h.fw hb, h.sw hb, h.fw hc, h.sw hc]
theorem Plus.len (h : Plus s s' pr) : s'.L.length = s.L.length + 1 := by
  rw [h.L, List.length_append]
  rfl
theorem Plus.up (h : Plus s s' pr) {t : List Nat} {i : Nat} (hi : Lit s t i) : Lit s' t i := by
  have hl := h.len
  rcases hi with ⟨h1, h2⟩ | ⟨h1, a, b, ha, hb, h2, h3⟩ | ⟨h1, a, b, c, ha, hb, hc, h2, h3⟩
  · exact .inl ⟨by omega, by rw [h.c1 h1]; exact h2⟩
  · exact .inr (.inl ⟨by rw [h.r]; exact h1, a, b, by omega, by omega, by rw [h.c2 ha hb]; exact h2, h3⟩)
  · exact .inr (.inr ⟨by rw [h.r]; exact h1, a, b, c, by omega, by omega, by omega, by rw [h.c3 ha hb hc]; exact h2, h3⟩)
theorem Plus.down (h : Plus s s' pr) {t : List Nat} {i : Nat} (hi : Lit s' t i) (hn : ¬ Lit s' t s.L.length) : Lit s t i := by
  have hl := h.len
  rcases hi with ⟨h1, h2⟩ | ⟨h1, a, b, ha, hb, h2, h3⟩ | ⟨h1, a, b, c, ha, hb, hc, h2, h3⟩
  · have hne : i ≠ s.L.length := fun e => hn (e ▸ .inl ⟨h1, h2⟩)
    have hi : i < s.L.length := by omega
    exact .inl ⟨hi, by rw [← h.c1 hi]; exact h2⟩
  · have ea : a ≠ s.L.length := fun e => hn (.inr (.inl ⟨h1, a, b, ha, hb, h2, .inl e.symm⟩))
    have eb : b ≠ s.L.length := fun e => hn (.inr (.inl ⟨h1, a, b, ha, hb, h2, .inr e.symm⟩))
    have ha' : a < s.L.length := by omega
    have hb' : b < s.L.length := by omega
    exact .inr (.inl ⟨by rw [← h.r]; exact h1, a, b, ha', hb', by rw [← h.c2 ha' hb']; exact h2, h3⟩)
  · have ea : a ≠ s.L.length := fun e => hn (.inr (.inr ⟨h1, a, b, c, ha, hb, hc, h2, .inl e.symm⟩))
    have eb : b ≠ s.L.length := fun e => hn (.inr (.inr ⟨h1, a, b, c, ha, hb, hc, h2, .inr (.inl e.symm)⟩))
    have ec : c ≠ s.L.length := fun e => hn (.inr (.inr ⟨h1, a, b, c, ha, hb, hc, h2, .inr (.inr e.symm)⟩))
    have ha' : a < s.L.length := by omega
    have hb' : b < s.L.length := by omega
    have hc' : c < s.L.length := by omega
    exact .inr (.inr ⟨by rw [← h.r]; exact h1, a, b, c, ha', hb', hc', by rw [← h.c3 ha' hb' hc']; exact h2, h3⟩)
theorem Plus.sub (h : Plus s s' pr) (t : List Nat) : ∀ x ∈ glowM s t, x ∈ glowM s' t := fun x hx => by
  obtain ⟨i, rfl, hi⟩ := mem_glowM.mp hx
  exact mem_glowM.mpr ⟨i, rfl, h.up hi⟩
theorem Plus.same (h : Plus s s' pr) {t : List Nat} (hn : (s.L.length : Int) ∉ glowM s' t) : glowM s t = glowM s' t := by
  have hn' : ¬ Lit s' t s.L.length := fun z => hn (mem_glowM.mpr ⟨_, rfl, z⟩)
  exact glow_ext fun i => ⟨h.up, fun z => h.down z hn'⟩
theorem Plus.clean (h : Plus s s' pr) {p : List Int} (hp : PicOf s p) {t : List Nat} (hc : ∀ x ∈ glowM s' t, x ∈ p) : glowM s t = glowM s' t := h.same fun z => by
  have := (hp.lt _ (hc _ z)).2
  omega
theorem Plus.okT (h : Plus s s' pr) {t : List Nat} (ht : OkT s' t) : OkT s t := ⟨by rw [ht.len, h.w], ht.ok⟩
theorem Plus.keys (h : Plus s s' pr) {p : List Int} (hp : PicOf s p) : ∀ q ∈ keysG (glowsM s'), (∀ x ∈ q, x ∈ p) → q ∈ keysG (glowsM s) := fun q hq hc => by
  obtain ⟨h1, h2⟩ := turnFor_ok hq
  have hne : q ≠ [] := by
    obtain ⟨x, hx, ex⟩ := List.mem_map.mp hq
    have ex : x.1 = q := ex
    rw [← ex]
    exact ((glowsM_ok s').is x hx).2.1
  rw [← h2] at hc hne ⊢
  rw [← h.clean hp hc] at hne ⊢
  exact glow_key (h.okT h1) hne
theorem Plus.pic (h : Plus s s' pr) {p : List Int} (hp : PicOf s p) : PicOf s' p := ⟨hp.srt, fun x hx => by
  have := hp.lt x hx
  have := h.len
  omega⟩
theorem Plus.few (h : Plus s s' pr) {p : List Int} (hp : PicOf s p) {two : List (List Nat)} (h2 : fewestM s' p = some two) : ∃ one, fewestM s p = some one ∧ one.length ≤ two.length := by
  have f2 := fewest_ok (s := s') (h.pic hp).srt
  rw [h2] at f2
  have f1 := fewest_ok (s := s) hp.srt
  have hok : ∀ t ∈ two, OkT s t := fun t ht => h.okT (f2.okT t ht)
  have hsh : shownM s two = p := by
    refine (shown_iff hp.srt).mpr ⟨fun t ht x hx => f2.cl t ht x (h.sub t x hx), fun x hx => ?_⟩
    obtain ⟨t, ht, hxt⟩ := ((shown_iff hp.srt).mp f2.sh).2 x hx
    exact ⟨t, ht, by rw [h.clean hp (f2.cl t ht)]; exact hxt⟩
  cases hF : fewestM s p with
  | none =>
    rw [hF] at f1
    exact absurd hsh (f1.2 two hok)
  | some one =>
    rw [hF] at f1
    exact ⟨one, rfl, f1.few two hok hsh⟩
end
theorem le_R (a b : Rat) : a.num * (b.den : Int) ≤ b.num * (a.den : Int) ↔ a ≤ b := (Rat.le_iff a b).symm
end LW

set_option Elab.async false
set_option linter.all false
set_option maxRecDepth 100000
set_option maxHeartbeats 4000000
namespace LW
open PySem
/-! ### the least common multiple -/
def lcmF (r : Nat) (qs : List Rat) : Nat := qs.foldl (fun r q => Nat.lcm r q.den) r
def lcmM (qs : List Rat) : Nat := lcmF 1 qs
theorem lcmF_dvd : ∀ (qs : List Rat) (r : Nat), r ∣ lcmF r qs ∧ ∀ q ∈ qs, q.den ∣ lcmF r qs
  | [], r => ⟨Nat.dvd_refl _, fun q h => (nomatch h)⟩
  | a :: qs, r => by
    obtain ⟨h1, h2⟩ := lcmF_dvd qs (Nat.lcm r a.den)
    refine ⟨Nat.dvd_trans (Nat.dvd_lcm_left _ _) h1, fun q hq => ?_⟩
    rcases List.mem_cons.mp hq with rfl | hq
    · exact Nat.dvd_trans (Nat.dvd_lcm_right _ _) h1
    · exact h2 q hq
theorem lcmF_le : ∀ (qs : List Rat) (r W : Nat), r ∣ W → (∀ q ∈ qs, q.den ∣ W) → lcmF r qs ∣ W
  | [], r, W, h, _ => h
  | a :: qs, r, W, h, hq => lcmF_le qs _ W (Nat.lcm_dvd h (hq a List.mem_cons_self)) fun q h => hq q (List.mem_cons_of_mem _ h)
theorem lcm_step (r d : Nat) : (r : Int) * (lowM (d : Int) (r : Int)).1 = ((Nat.lcm r d : Nat) : Int) := by
  unfold lowM Nat.lcm
  show (r : Int) * ((d : Int) / ((Int.gcd d r : Nat) : Int)) = _
  rw [Int.gcd_natCast_natCast, Nat.gcd_comm d r, ← Int.natCast_ediv, ← Int.natCast_mul, Nat.mul_div_assoc _ (Nat.gcd_dvd_right r d)]
section
variable {parts : List (List Int)} {pic : List Int}
noncomputable def shrM (parts : List (List Int)) (pic : List Int) (k : Nat) : Rat := tak parts pic k * (valM parts pic)⁻¹
noncomputable def wtM (parts : List (List Int)) (pic : List Int) (j : Nat) : Rat := wgt parts pic j * (valM parts pic)⁻¹
noncomputable def shrL (parts : List (List Int)) (pic : List Int) : List Rat := (List.range parts.length).map (shrM parts pic)
noncomputable def wtL (parts : List (List Int)) (pic : List Int) : List Rat := (List.range pic.length).map (wtM parts pic)
noncomputable def unitM (parts : List (List Int)) (pic : List Int) : Nat := lcmM (shrL parts pic)
noncomputable def nK (parts : List (List Int)) (pic : List Int) (k : Nat) : Nat := ((shrM parts pic k).num * (unitM parts pic : Int) / ((shrM parts pic k).den : Int)).toNat
noncomputable def rowG (g : GL) (parts : List (List Int)) (pic : List Int) (n : Nat) : List (List Nat) := ((List.range n).map fun k => List.replicate (nK parts pic k) (turnFor g (parts.getD k []))).flatten
theorem szz_quot {v y D : Rat} {u z : Int} (hv : 0 < v) (hu : v * D = (u : Rat)) (hz : y * D = (z : Rat)) (hD : D ≠ 0) : u ≠ 0 ∧ y * v⁻¹ * (u : Rat) = (z : Rat) := by
  have hv0 : v ≠ 0 := by grind
  refine ⟨fun e => ?_, ?_⟩
  · rw [e] at hu
    have : v * D = 0 := hu
    grind
  · rw [← hu, ← hz]
    have := Rat.mul_inv_cancel v hv0
    grind
structure GrOk (parts : List (List Int)) (pic : List Int) : Prop where
  v1 : 1 ≤ valM parts pic
  cert : Cert pic.length parts.length (partA parts pic) (valM parts pic) (wgt parts pic) (tak parts pic)
  u0 : 0 < unitM parts pic
  ule : unitM parts pic ≤ 40320
  dvd : ∀ k, k < parts.length → (shrM parts pic k).den ∣ unitM parts pic
  shz : ∀ k, k < parts.length → Szz 40320 (shrM parts pic k)
  wtz : ∀ j, j < pic.length → Szz 40320 (wtM parts pic j)
  tkz : ∀ k, k < parts.length → Szz 40320 (tak parts pic k)
  wgz : ∀ j, j < pic.length → Szz 40320 (wgt parts pic j)
  vz : Szz 40320 (valM parts pic)
  lcm : ∃ W, W ≠ 0 ∧ W ≤ 40320 ∧ ∀ q ∈ shrL parts pic, q.den ∣ W
theorem gr_ok (hcov : CovP parts pic) (hn : pic.length ≤ 7) (hne : pic ≠ []) : GrOk parts pic := by
  have c := sol_cert hcov hn
  have h1 := c.one (partA_bit _ _) (List.length_pos_iff.mpr hne)
  have hv : 0 < valM parts pic := by grind
  obtain ⟨D, d0, ⟨zD, eD, hD⟩, ⟨u, eu, hu⟩, hy, hw⟩ := c.den
  have hsz : ∀ y : Rat, Sml (y * D) 40320 → Szz 40320 (y * (valM parts pic)⁻¹) ∧ (y * (valM parts pic)⁻¹).den ∣ u.natAbs := fun y ⟨z, ez, hz⟩ => by
    obtain ⟨g1, g2⟩ := szz_quot hv eu ez d0
    exact ⟨szz_of g2 g1 hu hz, den_dvd g2⟩
  have hz0 : zD ≠ 0 := fun e => d0 (by rw [eD, e]; rfl)
  have hsm : ∀ y : Rat, Sml (y * D) 40320 → Szz 40320 y := fun y ⟨z, ez, hz⟩ => by
    have h2 := szz_of (q := y) (D := zD) (z := z) (by rw [← eD, ← ez]) hz0 hD hz
    exact ⟨h2.1, Nat.le_trans h2.2 (by decide)⟩
  have hu0 : u ≠ 0 := by
    obtain ⟨g1, _⟩ := szz_quot (y := valM parts pic) hv eu eu d0
    exact g1
  have hdv : ∀ q ∈ shrL parts pic, q.den ∣ u.natAbs := fun q hq => by
    obtain ⟨k, hk, rfl⟩ := List.mem_map.mp hq
    exact (hsz _ (hy k (List.mem_range.mp hk))).2
  have hlc : unitM parts pic ∣ u.natAbs := lcmF_le _ _ _ (Nat.one_dvd _) hdv
  have hup : 0 < u.natAbs := Int.natAbs_pos.mpr hu0
  refine ⟨h1, c, Nat.pos_of_dvd_of_pos hlc hup, Nat.le_trans (Nat.le_of_dvd hup hlc) hu, fun k hk => ?_, fun k hk => (hsz _ (hy k hk)).1, fun j hj => (hsz _ (hw j hj)).1, fun k hk => hsm _ (hy k hk), fun j hj => hsm _ (hw j hj), hsm _ ⟨u, eu, hu⟩, u.natAbs, by omega, hu, hdv⟩
  exact (lcmF_dvd _ _).2 _ (List.mem_map.mpr ⟨k, List.mem_range.mpr hk, rfl⟩)
theorem GrOk.nK (h : GrOk parts pic) {k : Nat} (hk : k < parts.length) : ((LW.nK parts pic k : Nat) : Int) = (shrM parts pic k).num * (unitM parts pic : Int) / ((shrM parts pic k).den : Int) ∧ ((LW.nK parts pic k : Nat) : Rat) = shrM parts pic k * (unitM parts pic : Rat) := by
  obtain ⟨c, hc⟩ := h.dvd k hk
  have hd := (shrM parts pic k).den_pos
  have h0 : 0 ≤ shrM parts pic k := by
    have hvi : 0 < (valM parts pic)⁻¹ := Rat.inv_pos.mpr (by have := h.v1; grind)
    exact Rat.mul_nonneg (h.cert.y0 k hk) (by grind)
  have hn := Rat.num_nonneg.mpr h0
  have e1 : (shrM parts pic k).num * (unitM parts pic : Int) / ((shrM parts pic k).den : Int) = (shrM parts pic k).num * (c : Int) := by
    rw [hc, Int.natCast_mul, ← Int.mul_assoc, Int.mul_comm _ ((shrM parts pic k).den : Int), Int.mul_assoc]
    exact Int.mul_ediv_cancel_left _ (by omega)
  have hnn : 0 ≤ (shrM parts pic k).num * (c : Int) := Int.mul_nonneg hn (by omega)
  have e2 : ((LW.nK parts pic k : Nat) : Int) = (shrM parts pic k).num * (c : Int) := by
    unfold LW.nK
    rw [e1, Int.toNat_of_nonneg hnn]
  refine ⟨by rw [e2, e1], ?_⟩
  have e3 : ((LW.nK parts pic k : Nat) : Rat) = (((shrM parts pic k).num * (c : Int) : Int) : Rat) := by
    rw [← e2]
    rfl
  have e4 := mul_den (shrM parts pic k)
  have e5 : ((unitM parts pic : Nat) : Rat) = ((shrM parts pic k).den : Rat) * (c : Rat) := by
    rw [← Rat.natCast_mul, ← hc]
  rw [e3, Rat.intCast_mul, ← e4, e5]
  show _ * (c : Rat) = _
  grind
theorem rowG_succ (g : GL) (n : Nat) : rowG g parts pic (n + 1) = rowG g parts pic n ++ List.replicate (nK parts pic n) (turnFor g (parts.getD n [])) := by
  unfold rowG
  rw [List.range_succ, List.map_append, List.flatten_append]
  simp
theorem rowG_len (h : GrOk parts pic) (g : GL) : ∀ n, n ≤ parts.length → ((rowG g parts pic n).length : Rat) = sm n (fun k => shrM parts pic k) * (unitM parts pic : Rat)
  | 0, _ => by
    show ((0 : Nat) : Rat) = 0 * _
    grind
  | n + 1, hn => by
    rw [rowG_succ, List.length_append, List.length_replicate, Rat.natCast_add, rowG_len h g n (by omega), (h.nK (k := n) (by omega)).2]
    show _ = (sm n (fun k => shrM parts pic k) + shrM parts pic n) * _
    grind
theorem shr_sum (h : GrOk parts pic) : sm parts.length (fun k => shrM parts pic k) = 1 := by
  unfold shrM
  rw [sm_mulr]
  show sm parts.length (tak parts pic) * _ = 1
  rw [h.cert.ys]
  exact Rat.mul_inv_cancel _ (by have := h.v1; grind)
theorem rowG_unit (h : GrOk parts pic) (g : GL) : (rowG g parts pic parts.length).length = unitM parts pic := by
  have e := rowG_len h g parts.length (Nat.le_refl _)
  rw [shr_sum h, Rat.one_mul] at e
  exact Rat.natCast_inj.mp e
theorem rowG_part (h : GrOk parts pic) (g : GL) {n : Nat} (hn : n ≤ parts.length) : (rowG g parts pic n).length ≤ unitM parts pic := by
  rw [← rowG_unit h g]
  have : ∀ d, n + d ≤ parts.length → (rowG g parts pic n).length ≤ (rowG g parts pic (n + d)).length := fun d => by
    induction d with
    | zero => intro _; exact Nat.le_refl _
    | succ d ih =>
      intro hd
      have := ih (by omega)
      rw [show n + (d + 1) = (n + d) + 1 by omega, rowG_succ, List.length_append]
      omega
  have h1 := this (parts.length - n) (by omega)
  rw [show n + (parts.length - n) = parts.length by omega] at h1
  exact h1
end
section
variable {s : Sg} {p : List Int}
theorem parts_key {k : Nat} (hk : k < (partsM s p).length) : (partsM s p).getD k [] ∈ keysG (glowsM s) ∧ ∀ x ∈ (partsM s p).getD k [], x ∈ p := by
  rw [getD_lt hk]
  exact clean_mem.mp (largest_sub (List.getElem_mem hk))
theorem rowG_mem {n : Nat} (hn : n ≤ (partsM s p).length) : ∀ t ∈ rowG (glowsM s) (partsM s p) p n, OkT s t ∧ ∀ x ∈ glowM s t, x ∈ p := fun t ht => by
  unfold rowG at ht
  obtain ⟨l, hl, htl⟩ := List.mem_flatten.mp ht
  obtain ⟨k, hk, rfl⟩ := List.mem_map.mp hl
  have hk := List.mem_range.mp hk
  obtain ⟨_, rfl⟩ := List.mem_replicate.mp htl
  obtain ⟨h1, h2⟩ := parts_key (s := s) (p := p) (k := k) (by omega)
  obtain ⟨h3, h4⟩ := turnFor_ok h1
  exact ⟨h3, by rw [h4]; exact h2⟩
theorem cnt_app (a b : List (List Nat)) (x : Int) : cntG s (a ++ b) x = cntG s a x + cntG s b x := by
  unfold cntG
  rw [List.map_append, List.filter_append, List.length_append]
theorem cnt_rep (n : Nat) (t : List Nat) (x : Int) : cntG s (List.replicate n t) x = if x ∈ glowM s t then n else 0 := by
  unfold cntG
  rw [List.map_replicate]
  by_cases h : x ∈ glowM s t
  · rw [List.filter_replicate_of_pos (p := fun q => decide (x ∈ q)) (decide_eq_true h), List.length_replicate, if_pos h]
  · rw [List.filter_replicate_of_neg (p := fun q => decide (x ∈ q)) (by rw [decide_eq_false h]; decide), if_neg h]
    rfl
theorem rowG_cnt (x : Int) : ∀ n, n ≤ (partsM s p).length → ((cntG s (rowG (glowsM s) (partsM s p) p n) x : Nat) : Rat) = sm n fun k => if x ∈ (partsM s p).getD k [] then (nK (partsM s p) p k : Rat) else 0
  | 0, _ => rfl
  | n + 1, hn => by
    rw [rowG_succ, cnt_app, cnt_rep, Rat.natCast_add, rowG_cnt x n (by omega), (turnFor_ok (parts_key (s := s) (p := p) (k := n) (by omega)).1).2]
    show _ = (sm n fun k => if x ∈ (partsM s p).getD k [] then (nK (partsM s p) p k : Rat) else 0) + if x ∈ (partsM s p).getD n [] then (nK (partsM s p) p n : Rat) else 0
    split <;> rfl
theorem rowG_at (h : GrOk (partsM s p) p) {j : Nat} (hj : j < p.length) : ((cntG s (rowG (glowsM s) (partsM s p) p (partsM s p).length) p[j] : Nat) : Rat) = (sm (partsM s p).length fun k => tak (partsM s p) p k * partA (partsM s p) p k j) * ((valM (partsM s p) p)⁻¹ * (unitM (partsM s p) p : Rat)) := by
  rw [rowG_cnt _ _ (Nat.le_refl _), ← sm_mulr]
  refine sm_congr fun k hk => ?_
  unfold partA
  rw [getD_lt hj, (h.nK hk).2]
  unfold shrM
  split <;> grind
theorem rowG_ge (h : GrOk (partsM s p) p) : ∀ x ∈ p, (valM (partsM s p) p)⁻¹ * (unitM (partsM s p) p : Rat) ≤ ((cntG s (rowG (glowsM s) (partsM s p) p (partsM s p).length) x : Nat) : Rat) := fun x hx => by
  obtain ⟨j, hj, rfl⟩ := List.getElem_of_mem hx
  rw [rowG_at h hj]
  have h1 := h.cert.y1 j hj
  have hvi : 0 < (valM (partsM s p) p)⁻¹ := Rat.inv_pos.mpr (by have := h.v1; grind)
  have hu : (0 : Rat) ≤ (unitM (partsM s p) p : Rat) := Rat.natCast_nonneg
  have h2 := Rat.mul_le_mul_of_nonneg_right h1 (c := (valM (partsM s p) p)⁻¹ * (unitM (partsM s p) p : Rat)) (Rat.mul_nonneg (by grind) hu)
  rw [Rat.one_mul] at h2
  exact h2
theorem rowG_tight (h : GrOk (partsM s p) p) : ∃ x ∈ p, ((cntG s (rowG (glowsM s) (partsM s p) p (partsM s p).length) x : Nat) : Rat) = (valM (partsM s p) p)⁻¹ * (unitM (partsM s p) p : Rat) := by
  obtain ⟨j, hj, e⟩ := h.cert.tight (by have := h.v1; grind)
  exact ⟨p[j], List.getElem_mem hj, by rw [rowG_at h hj, e, Rat.one_mul]⟩
theorem wt_nonneg (h : GrOk (partsM s p) p) : ∀ q ∈ wtL (partsM s p) p, 0 ≤ q ∧ Szz 40320 q := fun q hq => by
  obtain ⟨j, hj, rfl⟩ := List.mem_map.mp hq
  have hj := List.mem_range.mp hj
  have hvi : 0 < (valM (partsM s p) p)⁻¹ := Rat.inv_pos.mpr (by have := h.v1; grind)
  exact ⟨Rat.mul_nonneg (h.cert.w0 j hj) (by grind), h.wtz j hj⟩
theorem wt_sum (h : GrOk (partsM s p) p) : ls (wtL (partsM s p) p) id = 1 := by
  unfold wtL
  rw [ls_map, sm_range]
  show (sm p.length fun j => wtM (partsM s p) p j) = 1
  unfold wtM
  rw [sm_mulr]
  show sm p.length (wgt (partsM s p) p) * _ = 1
  rw [h.cert.ws]
  exact Rat.mul_inv_cancel _ (by have := h.v1; grind)
/-- the weights of a clean glow -/
theorem wt_part (h : GrOk (partsM s p) p) {one : List Int} (hk : one ∈ keysG (glowsM s)) (hc : ∀ x ∈ one, x ∈ p) : ls (((p.zip (wtL (partsM s p) p)).filter fun e => decide (e.1 ∈ one)).map (·.2)) id ≤ (valM (partsM s p) p)⁻¹ := by
  rw [ls_map, ls_filter]
  have hvi : 0 < (valM (partsM s p) p)⁻¹ := Rat.inv_pos.mpr (by have := h.v1; grind)
  have ez : p.zip (wtL (partsM s p) p) = (List.range p.length).map fun j => (p.getD j 0, wtM (partsM s p) p j) := by
    refine List.ext_getElem (by simp [wtL]) fun i h1 h2 => ?_
    have hi : i < p.length := by simpa using h2
    rw [List.getElem_zip, List.getElem_map, List.getElem_range, getD_lt hi]
    congr 1
    unfold wtL
    rw [List.getElem_map, List.getElem_range]
  rw [ez, ls_map, sm_range]
  obtain ⟨r, hr, hsub⟩ := above (ks := keysG (glowsM s)) (p := p) (keys_srt s) (p.length - one.length) one (clean_mem.mpr ⟨hk, hc⟩) (Nat.le_refl _)
  obtain ⟨k, hkl, e⟩ := List.getElem_of_mem hr
  have h1 := h.cert.w1 k hkl
  have h2 := Rat.mul_le_mul_of_nonneg_right h1 (c := (valM (partsM s p) p)⁻¹) (by grind)
  rw [Rat.one_mul, ← sm_mulr] at h2
  refine Rat.le_trans (sm_le fun j hj => ?_) h2
  show (if decide (p.getD j 0 ∈ one) = true then wtM (partsM s p) p j else 0) ≤ _
  have hw := h.cert.w0 j hj
  have hw' : 0 ≤ wgt (partsM s p) p j * (valM (partsM s p) p)⁻¹ := Rat.mul_nonneg hw (by grind)
  unfold partA wtM
  by_cases hm : p.getD j 0 ∈ one
  · rw [if_pos (decide_eq_true hm), if_pos (by rw [show (partsM s p).getD k [] = r from (getD_lt hkl).trans e]; exact hsub _ hm), Rat.one_mul]
    exact Rat.le_refl
  · rw [if_neg (by rw [decide_eq_false hm]; decide)]
    split <;> grind
end
end LW

set_option Elab.async false
set_option linter.all false
set_option maxRecDepth 100000
set_option maxHeartbeats 4000000
namespace LW
open PySem
/-! ### lamps that glow alone -/
theorem singles : ∀ p : List Int, (p.map fun x => [x]).flatten = p
  | [] => rfl
  | a :: l => by rw [List.map_cons, List.flatten_cons, singles l]; rfl
theorem cover_single {ks : List (List Int)} {p : List Int} (hs : ∀ k ∈ ks, Srt k) (hp : Srt p) (h : ∀ x ∈ p, [x] ∈ ks) : ∃ l, coverM ks p = some l := by
  have hc := cover_ok hs hp
  cases hC : coverM ks p with
  | some l => exact ⟨l, rfl⟩
  | none =>
    rw [hC] at hc
    refine absurd ?_ (hc p.length)
    refine ⟨p.map fun x => [x], by rw [List.length_map], fun q hq => ?_, ?_⟩
    · obtain ⟨x, hx, rfl⟩ := List.mem_map.mp hq
      exact clean_mem.mpr ⟨h x hx, fun z hz => by rw [List.mem_singleton.mp hz]; exact hx⟩
    · rw [singles p]
      exact sorted_same hp (sd_sorted _) fun z => mem_sd.symm
theorem nones_nil {s : Sg} (h : ∀ p, PicOf s p → ∃ l, coverM (keysG (glowsM s)) p = some l) : nonesM (needsM s) = [] := by
  unfold nonesM needsM
  rw [List.map_eq_nil_iff, List.filter_eq_nil_iff]
  intro x hx
  obtain ⟨p, hp, rfl⟩ := List.mem_map.mp hx
  have hpo := mem_pics.mp hp
  obtain ⟨l, hl⟩ := h p hpo
  have := cover_need (keys_srt s) hpo.srt
  rw [hl] at this
  show ¬ (needO (keysG (glowsM s)) p).isNone = true
  rw [← this]
  exact fun z => nomatch z
theorem Bri.one_of {G : List (List Int)} {p : List Int} {b : Rat} (h : Bri G p b) (hne : p ≠ []) (hG : p ∈ G) : b = 1 := by
  obtain ⟨w, hw⟩ := h.w
  obtain ⟨y, hy⟩ := h.y
  have h1 := hw.le p hG fun x hx => hx
  rw [ls_congr (g := w) fun x hx => if_pos hx, hw.one] at h1
  cases hp : p with
  | nil => exact absurd hp hne
  | cons x r =>
    have h2 := hy.ge x (by rw [hp]; exact List.mem_cons_self)
    have h3 : (ls y fun e => if x ∈ e.1 then e.2 else 0) ≤ ls y fun e => e.2 := ls_le fun e he => by
      have := hy.nn e he
      split <;> grind
    rw [hy.one] at h3
    grind
/-- a picture that one turn shows is a glow -/
theorem few_one {s : Sg} {p : List Int} {told : List (List Nat)} (hp : Srt p) (hne : p ≠ []) (h : FewOk s p told) (h1 : told.length = 1) : p ∈ keysG (glowsM s) := by
  match told, h1, h with
  | [t], _, h =>
    have e : glowM s t = p := by
      have := h.sh
      refine sorted_same (glowM_sorted s t) hp fun z => ⟨h.cl t List.mem_cons_self z, fun hz => ?_⟩
      obtain ⟨u, hu, hz⟩ := ((shown_iff hp).mp h.sh).2 z hz
      rw [List.mem_singleton.mp hu] at hz
      exact hz
    rw [← e]
    exact glow_key (h.okT t List.mem_cons_self) (h.ne t List.mem_cons_self)
theorem lap_fold' {ks ks' : List (List Int)} {n : Nat} {p : List Int} (hs : Srt p) (hp : ∀ x ∈ p, 0 ≤ x ∧ x < n) (hk : ∀ q, q ∈ ks' ↔ q ∈ ks) (hnd : ∀ q ∈ ks, q.Nodup) : (picsM (rgM n)).foldl (lapS (cleanM ks' p) p) [] = apartM ks p := by
  unfold apartM
  rw [← pics_within hs hp, ← foldl_if]
  refine foldl_congr' fun b q hq => lapS_eq (fun k => ?_) (fun k hk' => ?_) ?_
  · rw [clean_mem, clean_mem, hk]
  · exact hnd k ((hk k).mp (clean_mem.mp hk').1)
  · have hrg : Srt (rgM n) := rgM_srt n
    exact srt_nd ((mem_picsM hrg).mp hq).1
/-! ### tables -/
def tabs : List (Nat × Nat) := [(1, 2), (1, 3), (2, 1), (2, 2), (2, 3), (3, 2), (3, 1)]
def tabS (r c h : Nat) : Sg := ⟨r + c, (List.range (r * c)).map fun a => (a / c, r + a % c), h⟩
def pow3 (k : Nat) : Nat := ([1, 2, 4] : List Nat).getD k 1
def pow4 (k : Nat) : Nat := ([1, 2, 4, 8] : List Nat).getD k 1
def blockM (c m one two : Nat) : List Int := ((List.range m).filter fun a => decide (one / pow3 (a / c) % 2 = 1) && decide (two / pow3 (a % c) % 2 = 1)).map fun a : Nat => (a : Int)
def blockR (r c one n : Nat) : List (List Int) := (List.range n).map fun j => blockM c (r * c) one (1 + j)
def blockT (r c n : Nat) : List (List Int) := (List.range n).flatMap fun i => blockR r c (1 + i) (pow4 c - 1)
def blocksM (r c : Nat) : List (List Int) := blockT r c (pow4 r - 1)
theorem tab_small {r c : Nat} (h : (r, c) ∈ tabs) : 1 ≤ r ∧ r ≤ 3 ∧ 1 ≤ c ∧ c ≤ 3 ∧ r * c ≤ 6 ∧ r + c ≤ 5 ∧ 2 ≤ r + c ∧ 1 ≤ r * c := by
  have key : ∀ x ∈ tabs, 1 ≤ x.1 ∧ x.1 ≤ 3 ∧ 1 ≤ x.2 ∧ x.2 ≤ 3 ∧ x.1 * x.2 ≤ 6 ∧ x.1 + x.2 ≤ 5 ∧ 2 ≤ x.1 + x.2 ∧ 1 ≤ x.1 * x.2 := by decide
  exact key (r, c) h
theorem tab_len (r c h : Nat) : (tabS r c h).L.length = r * c := by
  unfold tabS
  rw [List.length_map, List.length_range]
theorem tab_ok {r c h : Nat} (ht : (r, c) ∈ tabs) (h1 : 1 ≤ h) (h3 : h ≤ 3) : OkS (tabS r c h) := by
  obtain ⟨q1, q2, q3, q4, q5, q6, q7, q8⟩ := tab_small ht
  have key : ∀ x ∈ tabs, (∀ p ∈ (tabS x.1 x.2 1).L, p.1 < x.1 + x.2 ∧ p.2 < x.1 + x.2 ∧ p.1 ≠ p.2) ∧ (tabS x.1 x.2 1).L.Nodup := by decide
  obtain ⟨k1, k2⟩ := key (r, c) ht
  exact ⟨q7, q6, by rw [tab_len]; omega, by rw [tab_len]; omega, k1, k2, h1, h3⟩
theorem tab_glow {r c : Nat} (ht : (r, c) ∈ tabs) (h h' : Nat) (t : List Nat) : glowM (tabS r c h) t = glowM (tabS r c h') t := glow_no rfl fun a b ha hb => by
  obtain ⟨q1, q2, q3, q4, q5, q6, q7, q8⟩ := tab_small ht
  rw [tab_len] at ha hb
  unfold lk
  rw [Bool.and_eq_false_iff]
  refine .inl ?_
  rw [beq_eq_false_iff_ne]
  have e : ∀ k, k < r * c → (tabS r c h).L.getD k (0, 0) = (k / c, r + k % c) := fun k hk => by
    unfold tabS
    rw [List.getD_eq_getElem?_getD, List.getElem?_map, List.getElem?_range hk]
    rfl
  unfold sw fw
  rw [e a ha, e b hb]
  show r + a % c ≠ b / c
  have : b / c < r := Nat.div_lt_of_lt_mul (by rw [Nat.mul_comm]; exact hb)
  omega
theorem tab_keys {r c : Nat} (ht : (r, c) ∈ tabs) (h : Nat) (q : List Int) : q ∈ blocksM r c ↔ q ∈ keysG (glowsM (tabS r c h)) := by
  have e : glowsM (tabS r c h) = glowsM (tabS r c 1) := glows_ext rfl fun t => tab_glow ht h 1 t
  rw [e]
  have key : ∀ x ∈ tabs, (∀ q ∈ blocksM x.1 x.2, q ∈ keysG (glowsM (tabS x.1 x.2 1))) ∧ ∀ q ∈ keysG (glowsM (tabS x.1 x.2 1)), q ∈ blocksM x.1 x.2 := by decide +kernel
  obtain ⟨k1, k2⟩ := key (r, c) ht
  exact ⟨k1 q, k2 q⟩
theorem tab_single {r c : Nat} (ht : (r, c) ∈ tabs) (h : Nat) {x : Int} (h0 : 0 ≤ x) (hx : x < (r * c : Nat)) : [x] ∈ keysG (glowsM (tabS r c h)) := by
  rw [← tab_keys ht h]
  have key : ∀ y ∈ tabs, ∀ k ∈ List.range (y.1 * y.2), [(k : Int)] ∈ blocksM y.1 y.2 := by decide +kernel
  have := key (r, c) ht x.toNat (List.mem_range.mpr (by show x.toNat < r * c; omega))
  rw [Int.toNat_of_nonneg h0] at this
  exact this
theorem tab_pics {r c : Nat} (ht : (r, c) ∈ tabs) : (blocksM r c).length ≤ 49 ∧ ∀ q ∈ blocksM r c, Pic q := by
  have k1 : ∀ y ∈ tabs, (blocksM y.1 y.2).length ≤ 49 := by decide +kernel
  refine ⟨k1 (r, c) ht, fun q hq => ?_⟩
  have hk := (tab_keys ht 1 q).mp hq
  have hok := tab_ok ht (h := 1) (by decide) (by decide)
  obtain ⟨h1, h2⟩ := turnFor_ok hk
  rw [← h2]
  exact ⟨glowM_sorted _ _, fun x hx => by
    have := glowM_lt hx
    have := hok.l7
    omega⟩
end LW

set_option Elab.async false
set_option linter.all false
set_option maxRecDepth 100000
set_option maxHeartbeats 4000000
namespace LW
open PySem
/-! ### rings -/
def ringW (n st d : Nat) : List Nat := let ws := (List.range (n + 1)).map fun a => (st + a) % n; if d = 1 then ws.reverse else ws
def ringS (n st d : Nat) : Sg := ⟨n, (ringW n st d).zip ((ringW n st d).drop 1), 1⟩
def rings : List (Nat × Nat × Nat) := [3, 4, 5].flatMap fun n => (List.range n).flatMap fun st => [(n, st, 0), (n, st, 1)]
def ringK (n : Nat) : List (List Int) := match n with
  | 3 => [[0], [1], [2]]
  | 4 => [[0], [1], [2], [3], [0, 2], [1, 3]]
  | _ => [[0], [1], [2], [3], [4], [0, 2], [0, 3], [1, 3], [1, 4], [2, 4]]
theorem rings_mem {n st d : Nat} (h3 : 3 ≤ n) (h5 : n ≤ 5) (hs : st < n) (hd : d < 2) : (n, st, d) ∈ rings := by
  have h : n = 3 ∨ n = 4 ∨ n = 5 := by omega
  have hd : d = 0 ∨ d = 1 := by omega
  unfold rings
  refine List.mem_flatMap.mpr ⟨n, by rcases h with rfl | rfl | rfl <;> simp, List.mem_flatMap.mpr ⟨st, List.mem_range.mpr hs, ?_⟩⟩
  rcases hd with rfl | rfl <;> simp
theorem ring_keys : ∀ x ∈ rings, (∀ q ∈ keysG (glowsM (ringS x.1 x.2.1 x.2.2)), q ∈ ringK x.1) ∧ ∀ q ∈ ringK x.1, q ∈ keysG (glowsM (ringS x.1 x.2.1 x.2.2)) := by decide +kernel
theorem ring_ok : ∀ x ∈ rings, (∀ p ∈ (ringS x.1 x.2.1 x.2.2).L, p.1 < x.1 ∧ p.2 < x.1 ∧ p.1 ≠ p.2) ∧ (ringS x.1 x.2.1 x.2.2).L.Nodup ∧ (ringS x.1 x.2.1 x.2.2).L.length = x.1 := by decide +kernel
def touchM (n : Nat) (p : List Int) : List Int := p.filter fun x => decide ((x + 1) % (n : Int) ∈ p)
def needR (n : Nat) (p : List Int) : Nat := if p = rgM n then (if n = 4 then 2 else 3) else if touchM n p = [] then 1 else 2
def apR (n : Nat) (p : List Int) : Nat := if p = rgM n then (if n = 3 then 3 else 2) else if touchM n p = [] then 1 else 2
def subs : List Int → List (List Int)
  | [] => [[]]
  | a :: l => subs l ++ (subs l).map (a :: ·)
theorem mem_subs : ∀ {l q : List Int}, List.Sublist q l → q ∈ subs l
  | [], _, h => by cases h; exact List.mem_cons_self
  | a :: l, q, h => by
    cases h with
    | cons _ h => exact List.mem_append_left _ (mem_subs h)
    | cons_cons _ h => exact List.mem_append_right _ (List.mem_map.mpr ⟨_, mem_subs h, rfl⟩)
theorem srt_subl {p l : List Int} (hp : Srt p) (hl : Srt l) (h : ∀ x ∈ p, x ∈ l) : List.Sublist p l := by
  have e : l.filter (fun x => decide (x ∈ p)) = p := sorted_same (hl.filter _) hp fun z => by
    rw [List.mem_filter, decide_eq_true_iff]
    exact ⟨fun q => q.2, fun q => ⟨h z q, q⟩⟩
  rw [← e]
  exact List.filter_sublist
theorem ring_cov : ∀ n ∈ [3, 4, 5], ∀ p ∈ subs (rgM n), p ≠ [] → (coverM (ringK n) p).map List.length = some (needR n p) := by decide +kernel
theorem ring_ap : ∀ n ∈ [3, 4, 5], ∀ p ∈ subs (rgM n), p ≠ [] → ∃ q ∈ subs p, q.length = apR n p ∧ ∀ one ∈ ringK n, withinM one p = true → meetN q one ≤ 1 := by decide +kernel
def third : Rat := ⟨1, 3, by decide, by decide⟩
def half : Rat := ⟨1, 2, by decide, by decide⟩
def two5 : Rat := ⟨2, 5, by decide, by decide⟩
theorem third_eq : third * 3 = 1 := by decide +kernel
theorem half_eq : half * 2 = 1 := by decide +kernel
theorem two5_eq : two5 * 5 = 2 := by decide +kernel
def rqM (n : Nat) (p : List Int) : Rat := if p = rgM n then (if n = 3 then third else if n = 4 then half else two5) else if touchM n p = [] then 1 else half
structure RingOk (n : Nat) (S : Sg) : Prop where
  n3 : 3 ≤ n
  n5 : n ≤ 5
  ok : OkS S
  w : S.w = n
  len : S.L.length = n
  keys : ∀ q, q ∈ ringK n ↔ q ∈ keysG (glowsM S)
theorem ring_is {n st d : Nat} (h3 : 3 ≤ n) (h5 : n ≤ 5) (hs : st < n) (hd : d < 2) : RingOk n (ringS n st d) := by
  have hm := rings_mem h3 h5 hs hd
  obtain ⟨k1, k2⟩ := ring_keys _ hm
  obtain ⟨o1, o2, o3⟩ := ring_ok _ hm
  exact ⟨h3, h5, ⟨by show 2 ≤ n; omega, h5, by rw [o3]; show 1 ≤ n; omega, by rw [o3]; show n ≤ 7; omega, o1, o2, by show 1 ≤ 1; decide, by show 1 ≤ 3; decide⟩, rfl, o3, fun q => ⟨k2 q, k1 q⟩⟩
section
variable {n : Nat} {S : Sg} {p : List Int}
theorem RingOk.mem (h : RingOk n S) : n ∈ [3, 4, 5] := by
  have := h.n3
  have := h.n5
  have e : n = 3 ∨ n = 4 ∨ n = 5 := by omega
  rcases e with rfl | rfl | rfl <;> simp
theorem RingOk.sub (h : RingOk n S) (hp : PicOf S p) : p ∈ subs (rgM n) := mem_subs (srt_subl hp.srt (rgM_srt n) fun x hx => by
  have := hp.lt x hx
  rw [h.len] at this
  exact mem_rgM.mpr this)
theorem RingOk.cov (h : RingOk n S) (hp : PicOf S p) : ∃ l, coverM (keysG (glowsM S)) p = some l := cover_single (keys_srt S) hp.srt fun x hx => by
  have hl := hp.lt x hx
  rw [h.len] at hl
  rw [← h.keys]
  have key : ∀ n ∈ [3, 4, 5], ∀ k ∈ List.range n, [(k : Int)] ∈ ringK n := by decide
  have := key n h.mem x.toNat (List.mem_range.mpr (by omega))
  rw [Int.toNat_of_nonneg hl.1] at this
  exact this
theorem RingOk.need (h : RingOk n S) (hp : PicOf S p) (hne : p ≠ []) {told : List (List Nat)} (hf : FewOk S p told) : told.length = needR n p := by
  have h1 := ring_cov n h.mem p (h.sub hp) hne
  have hsr : ∀ k ∈ ringK n, Srt k := fun k hk => keys_srt S k ((h.keys k).mp hk)
  have h2 := cover_need (ks := ringK n) hsr hp.srt
  rw [h1, needO_congr h.keys p, hf.need] at h2
  exact (Option.some.inj h2).symm
theorem RingOk.ge (h : RingOk n S) (hp : PicOf S p) (hne : p ≠ []) : apR n p ≤ (apartM (keysG (glowsM S)) p).length := by
  obtain ⟨q, hq, hl, hm⟩ := ring_ap n h.mem p (h.sub hp) hne
  have key : ∀ {l q : List Int}, q ∈ subs l → List.Sublist q l := fun {l} => by
    induction l with
    | nil =>
      intro q hq
      rw [List.mem_singleton.mp hq]
      exact .slnil
    | cons a l ih =>
      intro q hq
      rcases List.mem_append.mp hq with h | h
      · exact .cons _ (ih h)
      · obtain ⟨r, hr, rfl⟩ := List.mem_map.mp h
        exact .cons_cons _ (ih hr)
  have hs := key hq
  rw [← hl]
  exact apart_max hp.srt (List.Pairwise.sublist hs hp.srt) (fun x hx => hs.subset hx) fun one ho hw => hm one ((h.keys one).mpr ho) (withinM_iff.mpr hw)
theorem frac_k {b : Rat} {k : Nat} (hb : 0 < b) (h1 : (b.den : Int) ≤ b.num * (k : Int)) (h2 : b.num * (k : Int) ≤ (b.den : Int)) : b * (k : Rat) = 1 := by
  have e : b.num * (k : Int) = (b.den : Int) := by omega
  have e1 := mul_den b
  have e2 : (b.num : Rat) * (k : Rat) = (b.den : Rat) := by
    have := congrArg (fun z : Int => (z : Rat)) e
    rw [Rat.intCast_mul] at this
    exact this
  have hn : (b.num : Rat) ≠ 0 := fun z => by
    have : b.num = 0 := Rat.intCast_inj.mp z
    have := num_pos.mpr hb
    omega
  rw [← e2, ← Rat.mul_assoc, Rat.mul_comm b, Rat.mul_assoc] at e1
  grind
theorem RingOk.same (h : RingOk n S) (hp : PicOf S p) (hne : p ≠ []) {told : List (List Nat)} (hf : FewOk S p told) {b : Rat} (hb : Bri (keysG (glowsM S)) p b) : b = rqM n p ∧ (apartM (keysG (glowsM S)) p).length = apR n p := by
  have hnd := h.need hp hne hf
  have hge := h.ge hp hne
  have hle := apart_few hp.srt hf
  have hap := apart_le_br hb hp.srt
  have hrow := rows_le hb hf.okT hf.cl (m := 1) (cnt_pos hp.srt hf.sh)
  have hpos := num_pos.mpr hb.pos
  by_cases h5 : n = 5 ∧ p = rgM n
  · obtain ⟨rfl, rfl⟩ := h5
    have hb5 : b = two5 := by
      have g1 := hb.row (L := [[0, 2], [0, 3], [1, 3], [1, 4], [2, 4]]) (m := 2) (by
        have key : ∀ q ∈ [[(0 : Int), 2], [0, 3], [1, 3], [1, 4], [2, 4]], q ∈ ringK 5 ∧ ∀ x ∈ q, x ∈ rgM 5 := by decide
        exact fun q hq => ⟨.inr ((h.keys q).mp (key q hq).1), (key q hq).2⟩) (by decide)
      have g2 := hb.wts (fun _ => 1) (fun _ _ => by show (0 : Rat) ≤ 1; decide) (M := 2) (fun q hq _ => by
        have key : ∀ q ∈ ringK 5, (ls (rgM 5) fun x => if x ∈ q then (1 : Rat) else 0) ≤ 2 := by decide +kernel
        exact key q ((h.keys q).mpr hq))
      have e5 : ls (rgM 5) (fun _ => (1 : Rat)) = 5 := by decide +kernel
      rw [e5] at g2
      have g1 : (2 : Rat) ≤ b * 5 := g1
      have := two5_eq
      grind
    have e1 : rqM 5 (rgM 5) = two5 := rfl
    refine ⟨by rw [e1, hb5], ?_⟩
    rw [hb5] at hap
    have e2 : apR 5 (rgM 5) = 2 := rfl
    have hap : (2 : Int) * _ ≤ 5 := hap
    rw [e2] at hge ⊢
    omega
  · have e : needR n p = apR n p := by
      unfold needR apR
      have := h.n3
      have := h.n5
      by_cases hw : p = rgM n
      · rw [if_pos hw, if_pos hw]
        have hn5 : n ≠ 5 := fun z => h5 ⟨z, hw⟩
        have e : n = 3 ∨ n = 4 := by omega
        rcases e with rfl | rfl <;> rfl
      · rw [if_neg hw, if_neg hw]
    have hk : (apartM (keysG (glowsM S)) p).length = needR n p := by omega
    have f1 := frac_k (k := needR n p) hb.pos (by rw [← hnd]; omega) (by rw [← hk]; exact hap)
    refine ⟨?_, by omega⟩
    unfold needR at f1
    unfold rqM
    have := h.n3
    have := h.n5
    have t3 := third_eq
    have t2 := half_eq
    by_cases hw : p = rgM n
    · rw [if_pos hw] at f1 ⊢
      have hn5 : n ≠ 5 := fun z => h5 ⟨z, hw⟩
      have e : n = 3 ∨ n = 4 := by omega
      rcases e with rfl | rfl
      · have f1 : b * 3 = 1 := f1
        show b = third
        grind
      · have f1 : b * 2 = 1 := f1
        show b = half
        grind
    · rw [if_neg hw] at f1 ⊢
      split at f1
      · have f1 : b * 1 = 1 := f1
        grind
      · have f1 : b * 2 = 1 := f1
        grind
end
end LW

set_option Elab.async false
set_option linter.all false
set_option maxRecDepth 100000
set_option maxHeartbeats 4000000
namespace LW
open PySem PySem.Spec PyProof.Rows L2
open PySem.Sem (wp)
/-! ### zip of a tuple and a list -/
section
variable {prog : Program} {w : World} {A : Around} {E : Value → Shared → Prop} {s : Shared} {z TI TO i1 i2 l1 l2 : Addr} {x y a b : Value}
/-- what a turn of an iterator promises -/
def NxI (prog : Program) (w : World) (it : Addr) (J N : Heap → Prop) (x : Value) : Prop := ∀ (A : Around) (E : Value → Shared → Prop) (s : Shared) (Q : Value → Shared → Prop), J s.heap → (∀ h', N h' → Heap.SameBut it s.heap h' → Q x { s with heap := h' }) → wpAny (model prog w) A (Builtin.SmallTypes.nextOf (.ref it)) Q E s
def NxE (prog : Program) (w : World) (it : Addr) (J : Heap → Prop) : Prop := ∀ (A : Around) (E : Value → Shared → Prop) (s : Shared) (Q : Value → Shared → Prop), A.handled = none → J s.heap → (∀ h' e, Heap.ExtBut it s.heap h' → (∃ o, h'.get? e = some o ∧ o.cls = .type "StopIteration") → E (.ref e) { s with heap := h' }) → wpAny (model prog w) A (Builtin.SmallTypes.nextOf (.ref it)) Q E s
theorem zg_item {J1 J2 N1 N2 : Heap → Prop} {Q : Value → Shared → Prop} (D : ZipApart z TI TO i1 i2 l1 l2) (qz : IsZip s.heap z TI TO .none) (qI : IsPair s.heap TI (.ref i1) (.ref i2)) (qO : IsPair s.heap TO a b)
    (j1 : ∀ h', (∀ c o, c ≠ z → s.heap.get? c = some o → h'.get? c = some o) → J1 h') (j2 : ∀ h', (∀ c o, c ≠ z → c ≠ i1 → c ≠ TO → s.heap.get? c = some o → h'.get? c = some o) → J2 h') (n1 : NxI prog w i1 J1 N1 x) (n2 : NxI prog w i2 J2 N2 y)
    (p1 : ∀ h h', N1 h → (∀ o, h.get? i1 = some o → h'.get? i1 = some o) → N1 h') (p2 : ∀ h h', N2 h → (∀ o, h.get? i2 = some o → h'.get? i2 = some o) → N2 h') (hi1 : i1 < s.heap.objs.size) (hi2 : i2 < s.heap.objs.size)
    (hQ : ∀ h', IsZip h' z TI TO (rawInt s.heap.objs.size) → IsPair h' TO x y → N1 h' → N2 h' → IsPair h' s.heap.objs.size x y → h'.objs.size = s.heap.objs.size + 1 → (∀ c o, c ≠ z → c ≠ TO → c ≠ i1 → c ≠ i2 → s.heap.get? c = some o → h'.get? c = some o) → Q (.ref s.heap.objs.size) { s with heap := h' }) :
    wpAny (model prog w) A (Builtin.«zip.__next__» ⟨[.ref z], []⟩) (fun fin s' => ∃ v, fin = .done (.ret v) ∧ Q v s') E s := by
  show wpAny _ _ (field (.ref z) 2 >>= _) _ _ _; refine wpAny_bind (wpAny_field qz rfl (x := .bool false) rfl ?_)
  show wpAny _ _ (field (.ref z) 3 >>= _) _ _ _; refine wpAny_bind (wpAny_field qz rfl (x := .ref TI) rfl ?_); refine wpAny_bind (wpAny_seqItems qI rfl ?_)
  show wpAny _ _ (Builtin.SmallTypes.ownedTupleIsFree (.ref z) >>= _) _ _ _; refine wpAny_bind ?_; unfold Builtin.SmallTypes.ownedTupleIsFree; refine wpAny_bind (wpAny_field qz rfl (x := .none) rfl (wpAny_pure ?_)); simp only [if_true]
  refine wpAny_bind (wpAny_rule ?_); refine wpAny_bind (wpAny_field qz rfl (x := .ref TO) rfl ?_)
  refine wpAny_bind (wpAny_setField_rec qz (by simp) fun g1 qz1 e1 => ?_)
  replace qz1 : IsZip g1 z TI TO .ellipsis := qz1
  refine wpAny_bind ?_; simp only [List.zipIdx_cons, List.zipIdx_nil, List.forIn_cons, List.forIn_nil]; refine wpAny_bind (wpAny_bind (wpAny_onRaise ?_))
  show wpAny _ _ (Builtin.SmallTypes.nextOf (.ref i1) >>= _) _ _ _; refine wpAny_bind (n1 _ _ _ _ (j1 _ fun c o hc e => e1.extBut _ _ hc e) fun g2 k2 e2 => wpAny_pure ?_)
  have qO2 : IsPair g2 TO a b := e2.extBut _ _ D.TOi1 (e1.extBut _ _ D.TOz qO)
  refine wpAny_bind (wpAny_seqItems qO2 rfl ?_); refine wpAny_bind (wpAny_updateSeq_pair qO2 fun g3 qO3 e3 => ?_)
  replace qO3 : IsPair g3 TO x b := qO3
  refine wpAny_bind (wpAny_letGo (wpAny_pure ?_)); refine wpAny_bind (wpAny_bind (wpAny_onRaise ?_))
  show wpAny _ _ (Builtin.SmallTypes.nextOf (.ref i2) >>= _) _ _ _; refine wpAny_bind (n2 _ _ _ _ (j2 _ fun c o c1 c2 c3 e => e3.extBut _ _ c3 (e2.extBut _ _ c2 (e1.extBut _ _ c1 e))) fun g4 k4 e4 => wpAny_pure ?_)
  have qO4 : IsPair g4 TO x b := e4.extBut _ _ D.TOi2 qO3
  refine wpAny_bind (wpAny_seqItems qO4 rfl ?_); refine wpAny_bind (wpAny_updateSeq_pair qO4 fun g5 qO5 e5 => ?_)
  replace qO5 : IsPair g5 TO x y := qO5
  refine wpAny_bind (wpAny_letGo (wpAny_pure (wpAny_pure ?_))); refine wpAny_bind (wpAny_seqItems qO5 rfl ?_); refine wpAny_bind (wpAny_newTuple ?_)
  have sz5 : g5.objs.size = s.heap.objs.size := by rw [e5.1, e4.1, e3.1, e2.1, e1.1]
  have qz5 : IsZip g5 z TI TO .ellipsis := e5.extBut _ _ D.TOz.symm (e4.extBut _ _ D.i2z.symm (e3.extBut _ _ D.TOz.symm (e2.extBut _ _ D.i1z.symm qz1)))
  have old5 : ∀ c o, c ≠ z → c ≠ TO → c ≠ i1 → c ≠ i2 → s.heap.get? c = some o → g5.get? c = some o := fun c o c1 c2 c3 c4 e => e5.extBut _ _ c2 (e4.extBut _ _ c4 (e3.extBut _ _ c2 (e2.extBut _ _ c3 (e1.extBut _ _ c1 e))))
  have m1 : N1 g5 := p1 _ _ k2 fun o e => e5.extBut _ _ D.TOi1.symm (e4.extBut _ _ D.i12 (e3.extBut _ _ D.TOi1.symm e))
  have m2 : N2 g5 := p2 _ _ k4 fun o e => e5.extBut _ _ D.TOi2.symm e
  have zlt : z < g5.objs.size := Heap.lt_size qz5
  show wpAny _ _ (Builtin.SmallTypes.ownedTupleHandOut (.ref z) (.ref g5.objs.size) >>= _) _ _ _; refine wpAny_bind ?_; unfold Builtin.SmallTypes.ownedTupleHandOut
  have qz6 : IsZip (g5.push { cls := .type "tuple", data := .seq #[x, y] }) z TI TO .ellipsis := Heap.get?_push_of_some _ qz5
  refine wpAny_bind (wpAny_setField_rec qz6 (by simp) fun g7 qz7 e7 => ?_)
  replace qz7 : IsZip g7 z TI TO (rawInt g5.objs.size) := qz7
  refine wpAny_setField_rec qz7 (by simp) fun g8 qz8 e8 => ?_
  replace qz8 : IsZip g8 z TI TO (rawInt g5.objs.size) := qz8
  have up : ∀ c o, c ≠ z → g5.get? c = some o → g8.get? c = some o := fun c o c1 e => e8.extBut _ _ c1 (e7.extBut _ _ c1 (Heap.get?_push_of_some _ e))
  have qT8 : IsPair g8 g5.objs.size x y := e8.extBut _ _ (Nat.ne_of_gt zlt) (e7.extBut _ _ (Nat.ne_of_gt zlt) (Heap.get?_push_size _ rfl))
  have sz8 : g8.objs.size = g5.objs.size + 1 := by rw [e8.1, e7.1, Heap.size_push]
  rw [sz5] at qz8 qT8 sz8
  refine wpAny_pure ⟨_, rfl, ?_⟩; show Q (.ref g5.objs.size) _; rw [sz5]
  exact hQ g8 qz8 (up _ _ D.TOz qO5) (p1 _ _ m1 fun o e => up _ o D.i1z e) (p2 _ _ m2 fun o e => up _ o D.i2z e) qT8 sz8 fun c o c1 c2 c3 c4 e => up c o c1 (old5 c o c1 c2 c3 c4 e)
/-- the end: the first is at its end, or the second is -/
theorem zg_end {J1 J2 N1 : Heap → Prop} {Q : Fin → Shared → Prop} (hh : A.handled = none) (D : ZipApart z TI TO i1 i2 l1 l2) (qz : IsZip s.heap z TI TO .none) (qI : IsPair s.heap TI (.ref i1) (.ref i2)) (qO : IsPair s.heap TO a b)
    (j1 : ∀ h', (∀ c o, c ≠ z → s.heap.get? c = some o → h'.get? c = some o) → J1 h') (j2 : ∀ h', (∀ c o, c ≠ z → c ≠ i1 → c ≠ TO → s.heap.get? c = some o → h'.get? c = some o) → J2 h') (hend : NxE prog w i1 J1 ∨ (∃ x, NxI prog w i1 J1 N1 x) ∧ NxE prog w i2 J2)
    (hE : ∀ h' e, (∀ c o, c ≠ z → c ≠ TO → c ≠ i1 → c ≠ i2 → s.heap.get? c = some o → h'.get? c = some o) → (∃ o, h'.get? e = some o ∧ o.cls = .type "StopIteration") → E (.ref e) { s with heap := h' }) :
    wpAny (model prog w) A (Builtin.«zip.__next__» ⟨[.ref z], []⟩) Q E s := by
  show wpAny _ _ (field (.ref z) 2 >>= _) _ _ _; refine wpAny_bind (wpAny_field qz rfl (x := .bool false) rfl ?_)
  show wpAny _ _ (field (.ref z) 3 >>= _) _ _ _; refine wpAny_bind (wpAny_field qz rfl (x := .ref TI) rfl ?_); refine wpAny_bind (wpAny_seqItems qI rfl ?_)
  show wpAny _ _ (Builtin.SmallTypes.ownedTupleIsFree (.ref z) >>= _) _ _ _; refine wpAny_bind ?_; unfold Builtin.SmallTypes.ownedTupleIsFree; refine wpAny_bind (wpAny_field qz rfl (x := .none) rfl (wpAny_pure ?_)); simp only [if_true]
  refine wpAny_bind (wpAny_rule ?_); refine wpAny_bind (wpAny_field qz rfl (x := .ref TO) rfl ?_)
  refine wpAny_bind (wpAny_setField_rec qz (by simp) fun g1 qz1 e1 => ?_)
  replace qz1 : IsZip g1 z TI TO .ellipsis := qz1
  refine wpAny_bind ?_; simp only [List.zipIdx_cons, List.zipIdx_nil, List.forIn_cons, List.forIn_nil]; refine wpAny_bind (wpAny_bind (wpAny_onRaise ?_))
  show wpAny _ _ (Builtin.SmallTypes.nextOf (.ref i1) >>= _) _ _ _
  rcases hend with n1 | ⟨⟨x, n1⟩, n2⟩
  · refine wpAny_bind (n1 _ _ _ _ hh (j1 _ fun c o hc e => e1.extBut _ _ hc e) fun g2 e e2 he => ?_)
    obtain ⟨oe, hoe, hce⟩ := he
    have qz2 : IsZip g2 z TI TO .ellipsis := e2 _ _ D.i1z.symm qz1
    have hez : e ≠ z := fun q => by subst q; rw [qz2] at hoe; cases hoe; simp at hce
    refine wpAny_setField_rec qz2 (by simp) fun g3 _ e3 => hE g3 e (fun c o c1 _ c3 _ q => e3.extBut _ _ c1 (e2 _ _ c3 (e1.extBut _ _ c1 q))) ⟨oe, e3.extBut _ _ hez hoe, hce⟩
  · refine wpAny_bind (n1 _ _ _ _ (j1 _ fun c o hc e => e1.extBut _ _ hc e) fun g2 k2 e2 => wpAny_pure ?_)
    have qO2 : IsPair g2 TO a b := e2.extBut _ _ D.TOi1 (e1.extBut _ _ D.TOz qO)
    refine wpAny_bind (wpAny_seqItems qO2 rfl ?_); refine wpAny_bind (wpAny_updateSeq_pair qO2 fun g3 qO3 e3 => ?_)
    refine wpAny_bind (wpAny_letGo (wpAny_pure ?_)); refine wpAny_bind (wpAny_bind (wpAny_onRaise ?_))
    show wpAny _ _ (Builtin.SmallTypes.nextOf (.ref i2) >>= _) _ _ _; refine wpAny_bind (n2 _ _ _ _ hh (j2 _ fun c o c1 c2 c3 e => e3.extBut _ _ c3 (e2.extBut _ _ c2 (e1.extBut _ _ c1 e))) fun g4 e e4 he => ?_)
    obtain ⟨oe, hoe, hce⟩ := he
    have qz4 : IsZip g4 z TI TO .ellipsis := e4 _ _ D.i2z.symm (e3.extBut _ _ D.TOz.symm (e2.extBut _ _ D.i1z.symm qz1))
    have hez : e ≠ z := fun q => by subst q; rw [qz4] at hoe; cases hoe; simp at hce
    refine wpAny_setField_rec qz4 (by simp) fun g5 _ e5 => hE g5 e (fun c o c1 c2 c3 c4 q => e5.extBut _ _ c1 (e4 _ _ c4 (e3.extBut _ _ c2 (e2.extBut _ _ c3 (e1.extBut _ _ c1 q))))) ⟨oe, e5.extBut _ _ hez hoe, hce⟩
end
section
variable {prog : Program} {w : World} {A : Around} {E : Value → Shared → Prop} {s : Shared} {z TI TO i1 i2 l1 l2 : Addr} {x y a b : Value} {k1 k2 : Nat} {xs ys : Array Value}
theorem nx_tup (hx : xs[k1]? = some x) : NxI prog w i1 (fun h => h.IsTupleIter i1 l1 k1 ∧ h.IsTuple l1 xs) (fun h => h.IsTupleIter i1 l1 (k1 + 1)) x := fun A E s Q j q => RZ.nextOf_tuple_item j.1 j.2 hx q
theorem nx_tupE (hx : xs[k1]? = none) : NxE prog w i1 (fun h => h.IsTupleIter i1 l1 k1 ∧ h.IsTuple l1 xs) := fun A E s Q hh j q => RZ.nextOf_tuple_end hh j.1 j.2 hx q
theorem nx_lst (hx : ys[k2]? = some y) : NxI prog w i2 (fun h => h.IsListIter i2 l2 k2 ∧ h.IsList l2 ys) (fun h => h.IsListIter i2 l2 (k2 + 1)) y := fun A E s Q j q => wpAny_nextOf_list_item j.1 j.2 hx q
theorem nx_lstE (hx : ys[k2]? = none) : NxE prog w i2 (fun h => h.IsListIter i2 l2 k2 ∧ h.IsList l2 ys) := fun A E s Q hh j q => wpAny_nextOf_list_end hh j.1 j.2 hx q
theorem zm_item {Q : Option Value → Shared → Prop} (D : ZipApart z TI TO i1 i2 l1 l2) (qz : IsZip s.heap z TI TO .none) (qI : IsPair s.heap TI (.ref i1) (.ref i2)) (qO : IsPair s.heap TO a b) (g1 : s.heap.IsTupleIter i1 l1 k1) (g2 : s.heap.IsListIter i2 l2 k2) (hl1 : s.heap.IsTuple l1 xs) (hl2 : s.heap.IsList l2 ys) (hx : xs[k1]? = some x) (hy : ys[k2]? = some y)
    (hQ : ∀ h', IsZip h' z TI TO (rawInt s.heap.objs.size) → IsPair h' TO x y → h'.IsTupleIter i1 l1 (k1 + 1) → h'.IsListIter i2 l2 (k2 + 1) → IsPair h' s.heap.objs.size x y → h'.objs.size = s.heap.objs.size + 1 → (∀ c o, c ≠ z → c ≠ TO → c ≠ i1 → c ≠ i2 → s.heap.get? c = some o → h'.get? c = some o) → Q (some (.ref s.heap.objs.size)) { s with heap := h' }) :
    wpAny (model prog w) A (pyNext (.ref z)) Q E s := by
  have qT : s.TypeIs (.ref z) "zip" := ⟨_, qz, rfl⟩
  have b1 : i1 < s.heap.objs.size := by obtain ⟨_, e, _⟩ := id g1; exact Heap.lt_size e
  have b2 : i2 < s.heap.objs.size := by obtain ⟨_, e, _⟩ := id g2; exact Heap.lt_size e
  unfold pyNext
  refine wpAny_bind (wpAny_attempt (wpAny_callSpecial?_slot (name := Str.ofString "__next__") qT F.slot_zip_next (wpAny_call_entry F.slot_zip_next qT F.entry_zip_next (zg_item D qz qI qO (fun h' k => ⟨g1.at fun o e => k _ o D.i1z e, ?_⟩) (fun h' k => ⟨g2.at fun o e => k _ o D.i2z D.i12.symm D.TOi2.symm e, ?_⟩) (nx_tup hx) (nx_lst hy) (fun h h' n k => n.at k) (fun h h' n k => n.at k) b1 b2 fun h' a1 a2 a3 a4 a5 a6 a7 => wpAny_pure (hQ h' a1 a2 a3 a4 a5 a6 a7)) (F.args_zip_next_1 _))))
  · obtain ⟨o, e, r⟩ := hl1
    exact ⟨o, k _ o D.l1z e, r⟩
  · obtain ⟨o, e, r⟩ := hl2
    exact ⟨o, k _ o D.l2z D.l2i1 D.l2TO e, r⟩
theorem zm_end {Q : Option Value → Shared → Prop} (hh : A.handled = none) (D : ZipApart z TI TO i1 i2 l1 l2) (qz : IsZip s.heap z TI TO .none) (qI : IsPair s.heap TI (.ref i1) (.ref i2)) (qO : IsPair s.heap TO a b) (g1 : s.heap.IsTupleIter i1 l1 k1) (g2 : s.heap.IsListIter i2 l2 k2) (hl1 : s.heap.IsTuple l1 xs) (hl2 : s.heap.IsList l2 ys) (hend : xs[k1]? = none ∨ ys[k2]? = none)
    (hQ : ∀ h', (∀ c o, c ≠ z → c ≠ TO → c ≠ i1 → c ≠ i2 → s.heap.get? c = some o → h'.get? c = some o) → Q none { s with heap := h' }) : wpAny (model prog w) A (pyNext (.ref z)) Q E s := by
  have qT : s.TypeIs (.ref z) "zip" := ⟨_, qz, rfl⟩
  have hd : NxE prog w i1 (fun h => h.IsTupleIter i1 l1 k1 ∧ h.IsTuple l1 xs) ∨ (∃ x, NxI prog w i1 (fun h => h.IsTupleIter i1 l1 k1 ∧ h.IsTuple l1 xs) (fun h => h.IsTupleIter i1 l1 (k1 + 1)) x) ∧ NxE prog w i2 (fun h => h.IsListIter i2 l2 k2 ∧ h.IsList l2 ys) := by
    cases hx : xs[k1]? with
    | none => exact .inl (nx_tupE hx)
    | some x => exact .inr ⟨⟨x, nx_tup hx⟩, nx_lstE (hend.resolve_left fun q => by rw [hx] at q; cases q)⟩
  unfold pyNext
  refine wpAny_bind (wpAny_attempt (wpAny_callSpecial?_slot (name := Str.ofString "__next__") qT F.slot_zip_next (wpAny_call_entry F.slot_zip_next qT F.entry_zip_next (zg_end hh D qz qI qO (fun h' k => ⟨g1.at fun o e => k _ o D.i1z e, ?_⟩) (fun h' k => ⟨g2.at fun o e => k _ o D.i2z D.i12.symm D.TOi2.symm e, ?_⟩) hd fun h' e hk he => ?_) (F.args_zip_next_1 _))))
  · obtain ⟨o, ho, hc⟩ := he
    exact wpAny_bind (wpAny_isInstance (T := "StopIteration") (b := true) ⟨o, ho, hc⟩ isSubtype_stop (wpAny_pure (hQ _ hk)))
  · obtain ⟨o, e, r⟩ := hl1
    exact ⟨o, k _ o D.l1z e, r⟩
  · obtain ⟨o, e, r⟩ := hl2
    exact ⟨o, k _ o D.l2z D.l2i1 D.l2TO e, r⟩
end
end LW

set_option Elab.async false
set_option linter.all false
set_option maxRecDepth 100000
set_option maxHeartbeats 4000000
namespace LW
open PySem PySem.Spec PyProof.Rows L2
open PySem.Sem (wp)
/-! the heap after zip(t, l) -/
abbrev zmA (h : Heap) (u : Addr) : Heap := h.push { cls := .type "tuple_iterator", data := .fields #[.ref u, .int 0 0] }
abbrev zmB (h : Heap) (u v : Addr) : Heap := (zmA h u).push { cls := .type "list_iterator", data := .fields #[.ref v, .int 0 0] }
abbrev zmC (h : Heap) (u v : Addr) : Heap := (zmB h u v).push { cls := .type "tuple", data := .seq #[.ref h.objs.size, .ref (zmA h u).objs.size] }
abbrev zmD (h : Heap) (u v : Addr) : Heap := (zmC h u v).push { cls := .type "tuple", data := .seq #[.none, .none] }
abbrev zmE (h : Heap) (u v : Addr) : Heap := (zmD h u v).push { cls := .type "zip", data := .fields #[.none, .bool false, .bool false, .ref (zmB h u v).objs.size, .ref (zmC h u v).objs.size] }
theorem zm_new (l1 l2 : Addr) (xs ys : Array Value) : Meets (Builtin.«zip.__new__» ⟨[.type "zip", .ref l1, .ref l2], []⟩) (fun _ R s => s.heap.IsTuple l1 xs ∧ s.heap.IsList l2 ys ∧ R (.ok (.ret (.ref (zmD s.heap l1 l2).objs.size))) { s with heap := zmE s.heap l1 l2 }) :=
  .of_wp fun prog w A R s h => by
    obtain ⟨hp, g, d, tk, os⟩ := s; obtain ⟨hl1, hl2, h⟩ := h
    have hsub := sub_zip
    have t1 : Heap.IsTuple (Shared.heap ⟨hp, g, d, tk, os⟩) l1 xs := hl1
    have t2 : Heap.IsList (Shared.heap ⟨hp.push { cls := .type "tuple_iterator", data := .fields #[.ref l1, .int 0 0] }, g, d, tk, os⟩) l2 ys := by
      obtain ⟨o, e, r⟩ := hl2
      exact ⟨o, Heap.get?_push_of_some _ e, r⟩
    wp_walk using wpAny_pyIter_tuple t1, wpAny_pyIter_list t2
    exact ⟨_, rfl, h⟩
theorem zm_call {prog : Program} {w : World} {A : Around} {E : Value → Shared → Prop} {s : Shared} {l1 l2 : Addr} {xs ys : Array Value} {Q : Value → Shared → Prop} (hl1 : s.heap.IsTuple l1 xs) (hl2 : s.heap.IsList l2 ys)
    (h : ∀ h', IsZip h' (s.heap.objs.size + 4) (s.heap.objs.size + 2) (s.heap.objs.size + 3) .none → IsPair h' (s.heap.objs.size + 2) (.ref s.heap.objs.size) (.ref (s.heap.objs.size + 1)) → IsPair h' (s.heap.objs.size + 3) .none .none → h'.IsTupleIter s.heap.objs.size l1 0 → h'.IsListIter (s.heap.objs.size + 1) l2 0 → h'.objs.size = s.heap.objs.size + 5 → (∀ c o, s.heap.get? c = some o → h'.get? c = some o) → Q (.ref (s.heap.objs.size + 4)) { s with heap := h' }) :
    wpAny (model prog w) A (call (.type "zip") [.ref l1, .ref l2]) Q E s := by
  refine callType_new F.called_zip (by decide) (F.typeCall_zip_2 _ _) (F.newCall_zip_2 _ _) (fun obj => F.args_object_init_3 obj _ _) F.entry_zip_new (zm_new l1 l2 xs ys) ⟨hl1, hl2, ?_⟩
  have s1 : (zmA s.heap l1).objs.size = s.heap.objs.size + 1 := Heap.size_push ..
  have s2 : (zmB s.heap l1 l2).objs.size = s.heap.objs.size + 2 := (Heap.size_push ..).trans (by rw [s1])
  have s3 : (zmC s.heap l1 l2).objs.size = s.heap.objs.size + 3 := (Heap.size_push ..).trans (by rw [s2])
  have s4 : (zmD s.heap l1 l2).objs.size = s.heap.objs.size + 4 := (Heap.size_push ..).trans (by rw [s3])
  have s5 : (zmE s.heap l1 l2).objs.size = s.heap.objs.size + 5 := (Heap.size_push ..).trans (by rw [s4])
  have k1 : ∀ c o, s.heap.get? c = some o → (zmA s.heap l1).get? c = some o := fun c o e => Heap.get?_push_of_some _ e
  have k2 : ∀ c o, (zmA s.heap l1).get? c = some o → (zmB s.heap l1 l2).get? c = some o := fun c o e => Heap.get?_push_of_some _ e
  have k3 : ∀ c o, (zmB s.heap l1 l2).get? c = some o → (zmC s.heap l1 l2).get? c = some o := fun c o e => Heap.get?_push_of_some _ e
  have k4 : ∀ c o, (zmC s.heap l1 l2).get? c = some o → (zmD s.heap l1 l2).get? c = some o := fun c o e => Heap.get?_push_of_some _ e
  have k5 : ∀ c o, (zmD s.heap l1 l2).get? c = some o → (zmE s.heap l1 l2).get? c = some o := fun c o e => Heap.get?_push_of_some _ e
  have o1 : (zmA s.heap l1).get? s.heap.objs.size = some { cls := .type "tuple_iterator", data := .fields #[.ref l1, .int 0 0] } := Heap.get?_push_size _ rfl
  have o2 : (zmB s.heap l1 l2).get? (zmA s.heap l1).objs.size = some { cls := .type "list_iterator", data := .fields #[.ref l2, .int 0 0] } := Heap.get?_push_size _ rfl
  have o3 : (zmC s.heap l1 l2).get? (zmB s.heap l1 l2).objs.size = some { cls := .type "tuple", data := .seq #[.ref s.heap.objs.size, .ref (zmA s.heap l1).objs.size] } := Heap.get?_push_size _ rfl
  have o4 : (zmD s.heap l1 l2).get? (zmC s.heap l1 l2).objs.size = some { cls := .type "tuple", data := .seq #[.none, .none] } := Heap.get?_push_size _ rfl
  have o5 : (zmE s.heap l1 l2).get? (zmD s.heap l1 l2).objs.size = some { cls := .type "zip", data := .fields #[.none, .bool false, .bool false, .ref (zmB s.heap l1 l2).objs.size, .ref (zmC s.heap l1 l2).objs.size] } := Heap.get?_push_size _ rfl
  rw [s2, s3, s4] at o5
  rw [s1, s2] at o3
  rw [s3] at o4
  rw [s1] at o2
  show _ ∧ _
  rw [s4]
  exact ⟨⟨_, o5, rfl⟩, h _ o5 (k5 _ _ (k4 _ _ o3)) (k5 _ _ o4) ⟨_, k5 _ _ (k4 _ _ (k3 _ _ (k2 _ _ o1))), rfl, rfl⟩ ⟨_, k5 _ _ (k4 _ _ (k3 _ _ o2)), rfl, rfl⟩ s5 fun c o e => k5 _ _ (k4 _ _ (k3 _ _ (k2 _ _ (k1 _ _ e))))⟩
end LW

set_option Elab.async false
set_option linter.all false
set_option maxRecDepth 100000
set_option maxHeartbeats 4000000
namespace LW
open PySem PySem.Spec PyProof.Rows L2
open PySem.Sem (wp)
/-- the tuple at a and the list at b as they stand at each turn -/
def ItzM (K : PySem.W.Frag) (a b : Addr) : It :=
  ⟨fun i H => ∃ (xs ys : List V) (x y : V), SqT K H a xs ∧ SqL K H b ys ∧ xs[i]? = some x ∧ ys[i]? = some y,
    fun i H v H' => ∃ T x y, v = .ref T ∧ H T = none ∧ H' = upd H T (.tup [x, y]) ∧ (∀ xs, SqT K H a xs → xs[i]? = some x) ∧ ∀ ys, SqL K H b ys → ys[i]? = some y,
    fun i H => ∃ xs ys : List V, SqT K H a xs ∧ SqL K H b ys ∧ (xs.length ≤ i ∨ ys.length ≤ i)⟩
theorem five {α : Type} {c z TI TO i1 i2 : α} (h : c ∈ [z, TI, TO, i1, i2]) : c = z ∨ c = TI ∨ c = TO ∨ c = i1 ∨ c = i2 := by simpa using h
theorem turn_zipM {P : Program} {w : World} {K : PySem.W.Frag} {elts : List Expr} {kk : Nat} {tpos : Pos} {a b z TI TO i1 i2 : Addr} (D : ZipApart z TI TO i1 i2 a b) :
    Turn P w K (.Tuple elts kk tpos) (ItzM K a b) [z, TI, TO, i1, i2] z (fun i h => IsZip h z TI TO .none ∧ IsPair h TI (.ref i1) (.ref i2) ∧ (∃ x y, IsPair h TO x y) ∧ h.IsTupleIter i1 a i ∧ h.IsListIter i2 b i) where
  mem := List.mem_cons_self
  obj := fun i h st c hc => by
    obtain ⟨qz, qI, ⟨x, y, qO⟩, ⟨o1, e1, _, d1⟩, ⟨o2, e2, _, d2⟩⟩ := st
    rcases five hc with rfl | rfl | rfl | rfl | rfl
    · exact ⟨_, qz, fun v q => nomatch q⟩
    · exact ⟨_, qI, fun v q => nomatch q⟩
    · exact ⟨_, qO, fun v q => nomatch q⟩
    · exact ⟨o1, e1, fun v q => by rw [d1] at q; cases q⟩
    · exact ⟨o2, e2, fun v q => by rw [d2] at q; cases q⟩
  keep := fun i h h' st k => by
    obtain ⟨qz, qI, ⟨x, y, qO⟩, g1, g2⟩ := st
    exact ⟨k z (by simp) _ qz, k TI (by simp) _ qI, ⟨x, y, k TO (by simp) _ qO⟩, g1.at fun o e => k i1 (by simp) o e, g2.at fun o e => k i2 (by simp) o e⟩
  item := by
    intro X hP hw hK hc i pins s σ H E I hf st hg
    subst hP hw hK
    obtain ⟨qz, qI, ⟨x0, y0, qO⟩, g1, g2⟩ := st
    obtain ⟨xs, ys, x, y, sx, sy, hx, hy⟩ := hg
    obtain ⟨t1, v1, p1, _⟩ := I.tuple sx
    obtain ⟨t2, v2, p2, _⟩ := I.list sy
    obtain ⟨u, hu, ru⟩ := v1.get hx
    obtain ⟨u2, hu2, ru2⟩ := v2.get hy
    have zlt : z < s.heap.objs.size := Heap.lt_size qz
    refine zm_item D qz qI qO g1 g2 p1 p2.isList (x := u) (y := u2) (by simpa using hu) (by simpa using hu2) fun h' z' TO' n1 n2 hT sz old => ⟨_, rfl, wpAny_letOwnedTupleGo_zip (s := { s with heap := h' }) z' fun h'' z'' sb => ?_⟩
    have T2 : h''.get? s.heap.objs.size = some { cls := .type "tuple", data := .seq #[u, u2] } := (sb.2 _ (Nat.ne_of_gt zlt)).trans hT
    have new : ObjOk X.prog X.w (upd H s.heap.objs.size (.tup [x, y])) h'' s.heap.objs.size (.tup [x, y]) := ⟨by show 2 ≤ sizeLine; decide, [u, u2], .cons ru (.cons ru2 .nil), ⟨_, T2, rfl, _, rfl⟩⟩
    have I1 : Inv X pins σ (upd H s.heap.objs.size (.tup [x, y])) { s with heap := h'' } := I.turnedNew (t' := s.toks) (ch := [z, TI, TO, i1, i2]) (fun c o hb q => (sb.2 c (fun e => hb (by simp [e]))).trans (old c o (fun e => hb (by simp [e])) (fun e => hb (by simp [e])) (fun e => hb (by simp [e])) (fun e => hb (by simp [e])) q)) hf (Nat.le_refl _) new
    refine ⟨.ref s.heap.objs.size, _, I1, rfl, ⟨_, x, y, rfl, I.hok.fresh (Nat.le_refl _), rfl, fun l hl => by rw [I.tuple_inj hl sx]; exact hx, fun l hl => by rw [I.list_inj hl sy]; exact hy⟩, ⟨z'', (sb.2 _ D.TIz).trans (old _ _ D.TIz D.TITO D.TIi1 D.TIi2 qI), ⟨u, u2, (sb.2 _ D.TOz).trans TO'⟩, n1.at fun o q => (sb.2 _ D.i1z).trans q, n2.at fun o q => (sb.2 _ D.i2z).trans q⟩, fun c hcm => ?_⟩
    have hlt : c < s.heap.objs.size := by
      rcases five hcm with rfl | rfl | rfl | rfl | rfl
      · exact zlt
      · exact Heap.lt_size qI
      · exact Heap.lt_size qO
      · obtain ⟨_, e1, _⟩ := g1; exact Heap.lt_size e1
      · obtain ⟨_, e2, _⟩ := g2; exact Heap.lt_size e2
    rw [upd_ne (Nat.ne_of_lt hlt)]; exact (hf c hcm).1
  done := by
    intro X hP hw hK hc i pins s σ H E I hf st hg
    subst hP hw hK
    obtain ⟨qz, qI, ⟨x0, y0, qO⟩, g1, g2⟩ := st
    obtain ⟨xs, ys, sx, sy, hend⟩ := hg
    obtain ⟨t1, v1, p1, _⟩ := I.tuple sx
    obtain ⟨t2, v2, p2, _⟩ := I.list sy
    have b1 := v1.length
    have b2 := v2.length
    refine zm_end (I.ok.hd hc) D qz qI qO g1 g2 p1 p2.isList ?_ fun h' old => ⟨rfl, I.turnedL (t' := s.toks) (ch := [z, TI, TO, i1, i2]) (fun c o hb q => old c o (fun e => hb (by simp [e])) (fun e => hb (by simp [e])) (fun e => hb (by simp [e])) (fun e => hb (by simp [e])) q) hf⟩
    exact hend.elim (fun q => .inl (by simp; omega)) fun q => .inr (by simp; omega)
  self := fun A i s Q E st h => wpAny_pyIter_zip st.1 h
end LW

set_option Elab.async false
set_option linter.all false
set_option maxRecDepth 100000
set_option maxHeartbeats 4000000
namespace LW
open PySem PySem.Spec PyProof.Rows L2
open PySem.Sem (wp)
def iZipM (K : PySem.W.Frag) (ta : TA) : TI := fun σ H R => ta σ H fun vs H1 => ∃ a b xs ys, vs = [V.ref a, .ref b] ∧ SqT K H1 a xs ∧ SqL K H1 b ys ∧ R (ItzM K a b) H1
theorem pi_zipM {X : Cx} {e e2 : Expr} {ta : TA} {p pos tpos : Pos} {elts : List Expr} {kk : Nat} (K : PySem.W.Frag) (hg : Gl X "zip") (hm : X.mg "zip" = none) (ha : PA X [e, e2] ta) (hs : starEach [e, e2] X.env = (false, eval e X.env) :: starEach [e2] X.env := by rfl) (hpl : (backTo pos (starEach [e2] X.env)).any (·.1) = false := by rfl) (h : X.K = K := by rfl) :
    PI X (.Tuple elts kk tpos) (.Call (.Name "zip" p) [e, e2] [] pos) (iZipM K ta) := by
  subst h
  refine ⟨fun pins s σ H R I h => ?_⟩
  refine Call_ (ld_blt I hg hm PyProof.Rows.boot_zip (PyProof.Rows.callWith_type1 (thn (ha.run pos pins s σ H _ I h) fun us s1 q0 => ?_) hs hpl))
  obtain ⟨vs, H1, I1, r1, a, b, xs, ys, ex, sx, sy, q⟩ := q0
  subst ex
  cases r1 with
  | cons r rr => cases rr with
    | cons r' rr' =>
      cases rr'; cases r; cases r'
      obtain ⟨t1, v1, p1, _⟩ := I1.tuple sx
      obtain ⟨t2, v2, p2, _⟩ := I1.list sy
      obtain ⟨o1, ho1, _⟩ := id p1
      have la : a < s1.heap.objs.size := Heap.lt_size ho1
      have lb : b < s1.heap.objs.size := p2.lt
      refine zm_call (show s1.heap.IsTuple a t1.toArray from p1) p2.isList fun h' qz qI qO g1 g2 sz old => wpAny_pyIter_zip qz ?_
      have I2 : Inv X pins σ H1 { s1 with heap := h' } := I1.kept (t' := s1.toks) old
      have fr : ∀ c, c ∈ [s1.heap.objs.size + 4, s1.heap.objs.size + 2, s1.heap.objs.size + 3, s1.heap.objs.size, s1.heap.objs.size + 1] → FpOk X pins H1 c := fun c hcm => by
        have hle : s1.heap.objs.size ≤ c := by
          rcases five hcm with e | e | e | e | e
          · rw [e]; exact Nat.le_add_right _ _
          · rw [e]; exact Nat.le_add_right _ _
          · rw [e]; exact Nat.le_add_right _ _
          · rw [e]; exact Nat.le_refl _
          · rw [e]; exact Nat.le_add_right _ _
        exact I1.fpOk hle (I1.hok.fresh hle)
      exact ⟨s1.heap.objs.size + 4, [s1.heap.objs.size + 4, s1.heap.objs.size + 2, s1.heap.objs.size + 3, s1.heap.objs.size, s1.heap.objs.size + 1], _, _, H1, rfl, I2, turn_zipM (PySem.W.ktu_apart s1.heap.objs.size a b la lb), ⟨qz, qI, ⟨_, _, qO⟩, g1, g2⟩, fr, q⟩
section
variable {K : PySem.W.Frag} {ρ : List Sl} {cs cs1 : Cs} {tr : TA} {ds es : List PyData}
theorem ei_zipM (h : EvA K tr ρ cs [.dat (.tuple ds), .dat (.list es)] cs1) : EvI K (iZipM K tr) ρ cs (zipD ds es) cs1 := fun G σ H ok R q =>
  h G σ H ok _ fun vs G1 H1 f1 ok1 e1 => by
    obtain ⟨v, w, rfl, ⟨p, ws, rfl, hp, dw⟩, ⟨p', ws', rfl, hp', dw'⟩⟩ := e1.two
    refine ⟨p, p', ws, ws', rfl, .inl (.inl (ok1.ex _ _ hp)), .inl (.inl (ok1.ex _ _ hp')), q _ G1 H1 f1 ok1 ⟨fun i H ex hi => ?_, fun i H ex hi => ?_, fun i H y H' ex yl d hd G2 e2 e3 => ?_⟩⟩
    · unfold zipD at hi
      rw [List.length_zipWith, dw.len, dw'.len] at hi
      exact ⟨ws, ws', .inl (.inl (ex _ _ hp)), .inl (.inl (ex _ _ hp')), by omega⟩
    · unfold zipD at hi
      rw [List.length_zipWith, dw.len, dw'.len] at hi
      exact ⟨ws, ws', ws[i]'(by omega), ws'[i]'(by omega), .inl (.inl (ex _ _ hp)), .inl (.inl (ex _ _ hp')), List.getElem?_eq_getElem _, List.getElem?_eq_getElem _⟩
    · obtain ⟨T, x, y, rfl, hT, rfl, hx, hy⟩ := yl
      unfold zipD at hd
      rw [List.getElem?_zipWith] at hd
      cases h1 : ds[i]? with
      | none =>
        rw [h1] at hd
        cases hd
      | some a =>
        cases h2 : es[i]? with
        | none =>
          rw [h1, h2] at hd
          cases hd
        | some b =>
          rw [h1, h2] at hd
          have hd := (Option.some.inj hd).symm
          subst hd
          obtain ⟨v, hv, dv⟩ := dw.get h1
          obtain ⟨v', hv', dv'⟩ := dw'.get h2
          have e1 : some v = some x := hv.symm.trans (hx ws (.inl (.inl (ex _ _ hp))))
          have e1' : some v' = some y := hv'.symm.trans (hy ws' (.inl (.inl (ex _ _ hp'))))
          have e1 := Option.some.inj e1
          have e1' := Option.some.inj e1'
          subst e1
          subst e1'
          have g := Gr.new e3 (o := .tup [v, v']) hT
          exact ⟨_, g, T, _, rfl, upd_same, _, _, rfl, Dt.mono (e2.trans g.g) _ _ dv, _, _, rfl, Dt.mono (e2.trans g.g) _ _ dv', rfl⟩
end
end LW

set_option Elab.async false
set_option linter.all false
set_option maxRecDepth 100000
set_option maxHeartbeats 4000000
namespace LW
open PySem
/-! ### known signs -/
def combM : Nat → List Int → List (List Int)
  | 0, _ => [[]]
  | _ + 1, [] => []
  | k + 1, a :: l => (combM k l).map (a :: ·) ++ combM (k + 1) l
def picsL (l : List Int) : List (List Int) := (List.range (l.length + 1)).flatMap fun k => combM k l
def lePB (a b : List Int) : Bool := decide (a.length < b.length) || (decide (a.length = b.length) && decide (a ≤ b))
theorem pics_eq {l : List Int} (h1 : (picsL l).Pairwise fun a b => lePB a b = true) (h2 : (picsL l).isPerm (powF l) = true) : picsM l = picsL l := by
  refine (sortLP_uniq (h1.imp fun {a b} h => ?_) (List.isPerm_iff.mp h2)).symm
  unfold lePB at h
  rw [Bool.or_eq_true, Bool.and_eq_true, decide_eq_true_iff, decide_eq_true_iff, decide_eq_true_iff] at h
  exact h
theorem pics_rg : ∀ n ∈ [1, 2, 3, 4, 5], picsM (rgM n) = picsL (rgM n) := fun n hn => by
  have key : ∀ n ∈ [1, 2, 3, 4, 5], ((picsL (rgM n)).Pairwise fun a b => lePB a b = true) ∧ (picsL (rgM n)).isPerm (powF (rgM n)) = true := by decide +kernel
  exact pics_eq (key n hn).1 (key n hn).2
theorem pics_03 : picsM [0, 3] = picsL [0, 3] := pics_eq (by decide +kernel) (by decide +kernel)
theorem okA_congr {ks ks' : List (List Int)} {p q : List Int} (h : ∀ k, k ∈ ks ↔ k ∈ ks') : okA (cleanM ks p) q = okA (cleanM ks' p) q := by
  unfold okA
  congr 1
  rw [Bool.eq_iff_iff, List.any_eq_true, List.any_eq_true]
  constructor
  · rintro ⟨x, h1, h2⟩
    exact ⟨x, clean_mem.mpr ⟨(h x).mp (clean_mem.mp h1).1, (clean_mem.mp h1).2⟩, h2⟩
  · rintro ⟨x, h1, h2⟩
    exact ⟨x, clean_mem.mpr ⟨(h x).mpr (clean_mem.mp h1).1, (clean_mem.mp h1).2⟩, h2⟩
theorem apart_congr {ks ks' : List (List Int)} {p : List Int} (h : ∀ k, k ∈ ks ↔ k ∈ ks') : apartM ks p = apartM ks' p := by
  unfold apartM
  refine foldl_congr' fun b q _ => ?_
  unfold apS
  rw [okA_congr h]
def apartL (ks : List (List Int)) (p : List Int) : List Int := (picsL p).foldl (apS (cleanM ks p)) []
def needL (ks : List (List Int)) (n : Nat) : List (List Int × Option Nat) := (picsL (rgM n)).map fun p => (p, (coverM ks p).map List.length)
structure Kn (S : Sg) (n : Nat) (ks : List (List Int)) : Prop where
  ok : OkS S
  len : S.L.length = n
  n5 : n ∈ [1, 2, 3, 4, 5]
  keys : ∀ q, q ∈ ks ↔ q ∈ keysG (glowsM S)
/-- the conditions, to be computed -/
def knB (S : Sg) (n : Nat) (ks : List (List Int)) : Bool := decide (2 ≤ S.w) && decide (S.w ≤ 5) && decide (S.L.length = n) && (S.L.all fun p => decide (p.1 < S.w ∧ p.2 < S.w ∧ p.1 ≠ p.2)) && decide S.L.Nodup && decide (1 ≤ S.r) && decide (S.r ≤ 3) && (ks.all fun q => decide (q ∈ keysG (glowsM S))) && ((keysG (glowsM S)).all fun q => decide (q ∈ ks)) && decide (n ∈ [1, 2, 3, 4, 5])
theorem kn_of {S : Sg} {n : Nat} {ks : List (List Int)} (h : knB S n ks = true) : Kn S n ks := by
  unfold knB at h
  simp only [Bool.and_eq_true, decide_eq_true_iff, List.all_eq_true] at h
  obtain ⟨⟨⟨⟨⟨⟨⟨⟨⟨w2, w5⟩, hl⟩, hL⟩, hn⟩, r1⟩, r3⟩, k1⟩, k2⟩, h5⟩ := h
  have hn1 : 1 ≤ n ∧ n ≤ 5 := by
    simp only [List.mem_cons, List.not_mem_nil, or_false] at h5
    omega
  exact ⟨⟨w2, w5, by omega, by omega, hL, hn, r1, r3⟩, hl, h5, fun q => ⟨k1 q, k2 q⟩⟩
section
variable {S : Sg} {n : Nat} {ks : List (List Int)} {p : List Int}
theorem Kn.need1 (h : Kn S n ks) (hp : Srt p) : needO (keysG (glowsM S)) p = (coverM ks p).map List.length := by
  rw [cover_need (fun k hk => keys_srt S k ((h.keys k).mp hk)) hp, needO_congr h.keys p]
theorem Kn.needs (h : Kn S n ks) : needsM S = needL ks n := by
  unfold needsM needL
  rw [h.len, pics_rg n h.n5]
  refine List.map_congr_left fun p hp => ?_
  rw [← pics_rg n h.n5] at hp
  rw [h.need1 ((mem_picsM (rgM_srt n)).mp hp).1]
theorem Kn.apart (h : Kn S n ks) (hp : picsM p = picsL p) : apartM (keysG (glowsM S)) p = apartL ks p := by
  rw [apart_congr (fun k => (h.keys k).symm)]
  unfold apartM apartL
  rw [hp]
theorem Kn.row (h : Kn S n ks) (hp : Srt p) {k : Nat} (hc : (coverM ks p).map List.length = some k) : ∃ row, fewestM S p = some row ∧ row.length = k ∧ FewOk S p row := by
  have hn := h.need1 hp
  rw [hc] at hn
  have hf := fewest_ok (s := S) hp
  cases hF : fewestM S p with
  | none =>
    rw [hF] at hf
    rw [hf.1] at hn
    cases hn
  | some row =>
    rw [hF] at hf
    rw [hf.need] at hn
    exact ⟨row, rfl, Option.some.inj hn, hf⟩
theorem Kn.bright (h : Kn S n ks) (hp : Srt p) {k : Nat} (hc : (coverM ks p).map List.length = some k) (ha : (apartM (keysG (glowsM S)) p).length = k) {b : Rat} (hb : Bri (keysG (glowsM S)) p b) : b * (k : Rat) = 1 := by
  obtain ⟨row, _, hl, hf⟩ := h.row hp hc
  have hap := apart_le_br hb hp
  have hrow := rows_le hb hf.okT hf.cl (m := 1) (cnt_pos hp hf.sh)
  refine frac_k hb.pos ?_ ?_
  · rw [← hl]
    omega
  · rw [← ha]
    exact hap
end
/-! the signs -/
def starS (w r : Nat) : Sg := ⟨w, (List.range (w - 1)).map fun k => (0, k + 1), r⟩
def starK (w : Nat) : List (List Int) := (picsL (rgM (w - 1))).drop 1
def backS (r : Nat) : Sg := ⟨2, [(0, 1), (1, 0)], r⟩
def chainS (r : Nat) : Sg := ⟨4, [(0, 1), (1, 2), (2, 3)], r⟩
theorem star_kn : ∀ w ∈ [2, 3, 4, 5], ∀ r ∈ [1, 2, 3], Kn (starS w r) (w - 1) (starK w) := fun w hw r hr => by
  have key : ∀ w ∈ [2, 3, 4, 5], ∀ r ∈ [1, 2, 3], knB (starS w r) (w - 1) (starK w) = true := by decide +kernel
  exact kn_of (key w hw r hr)
theorem back_kn : ∀ r ∈ [1, 2, 3], Kn (backS r) 2 [[0], [1]] := fun r hr => by
  have key : ∀ r ∈ [1, 2, 3], knB (backS r) 2 [[0], [1]] = true := by decide +kernel
  exact kn_of (key r hr)
theorem table_kn : ∀ r ∈ [1, 2, 3], Kn (tabS 2 2 r) 4 (blocksM 2 2) := fun r hr => by
  have key : ∀ r ∈ [1, 2, 3], knB (tabS 2 2 r) 4 (blocksM 2 2) = true := by decide +kernel
  exact kn_of (key r hr)
theorem three_kn : Kn (ringS 3 0 0) 3 (ringK 3) := kn_of (by decide +kernel)
theorem five_kn : Kn (ringS 5 0 0) 5 (ringK 5) := kn_of (by decide +kernel)
def chainK (r : Nat) : List (List Int) := if r = 1 then [[0], [1], [2], [0, 2]] else if r = 2 then [[0], [1], [2], [0, 1], [1, 2], [0, 2]] else [[0], [1], [2], [0, 1], [1, 2], [0, 2], [0, 1, 2]]
theorem short_kn : Kn (chainS 1) 3 (chainK 1) := kn_of (by decide +kernel)
theorem long_kn : Kn (chainS 3) 3 (chainK 3) := kn_of (by decide +kernel)
open PySem.Spec PyProof.Rows L2 in
/-- a call of such a def without arguments -/
theorem pe_cal0 {X : Cx} {sp : Sp} {p pos : Pos} {j k : Nat} {x : Str} {ps : List Str} (c : Cal X.prog X.w X.K X.mg X.base k x ps sp) (hr : Room j X.A) (hj : k ≤ j) (hg : Gl X x) (hn : (x == ("__debug__" : Str)) = false := by decide) :
    PE X (.Call (.Name x p) [] [] pos) (tCall sp [] E0 tNil) := by
  obtain ⟨f, fd, hm, hk, hb, F⟩ := c.ex
  exact pe_call0 F (hr.mono hj) hg hm hk hb .nil pass0 hn
end LW

set_option Elab.async false
set_option linter.all false
set_option maxRecDepth 100000
set_option maxHeartbeats 4000000
namespace LW
open PySem PySem.Spec PyProof.Rows L2
def topS (i : Nat) : Stmt := PySem.Challenge.pw_lampwires_k13_whole_known_signs.main.body.getD i (.Pass ⟨0, 0, 0, 0⟩)
--BEGIN
abbrev s_is_count : Stmt := topS 9
theorem sc_is_count : FnScope ["value", "least", "most"] ["value", "least", "most"] (defScope s_is_count) := ⟨rfl, rfl, rfl, by decide +kernel, rfl, by decide +kernel, by decide +kernel⟩
abbrev s_is_lamp : Stmt := topS 10
theorem sc_is_lamp : FnScope ["value", "wires", "wire"] ["value", "wires"] (defScope s_is_lamp) := ⟨rfl, rfl, rfl, by decide +kernel, rfl, by decide +kernel, by decide +kernel⟩
abbrev s_is_sign : Stmt := topS 11
theorem sc_is_sign : FnScope ["value", "lamps", "lamp"] ["value"] (defScope s_is_sign) := ⟨rfl, rfl, rfl, by decide +kernel, rfl, by decide +kernel, by decide +kernel⟩
abbrev s_need_sign : Stmt := topS 12
theorem sc_need_sign : FnScope ["value"] ["value"] (defScope s_need_sign) := ⟨rfl, rfl, rfl, by decide +kernel, rfl, by decide +kernel, by decide +kernel⟩
abbrev s_is_turn : Stmt := topS 13
theorem sc_is_turn : FnScope ["sign", "value", "state"] ["sign", "value"] (defScope s_is_turn) := ⟨rfl, rfl, rfl, by decide +kernel, rfl, by decide +kernel, by decide +kernel⟩
abbrev s_need_turn : Stmt := topS 14
theorem sc_need_turn : FnScope ["sign", "value"] ["sign", "value"] (defScope s_need_turn) := ⟨rfl, rfl, rfl, by decide +kernel, rfl, by decide +kernel, by decide +kernel⟩
abbrev s_chains : Stmt := topS 16
theorem sc_chains : FnScope ["sign", "turn", "lamps", "found", "open_ones", "at", "lamp", "chain", "end"] ["sign", "turn"] (defScope s_chains) := ⟨rfl, rfl, rfl, by decide +kernel, rfl, by decide +kernel, by decide +kernel⟩
abbrev s_glow_of : Stmt := topS 17
theorem sc_glow_of : FnScope ["sign", "turn"] ["sign", "turn"] (defScope s_glow_of) := ⟨rfl, rfl, rfl, by decide +kernel, rfl, by decide +kernel, by decide +kernel⟩
abbrev s_glow : Stmt := topS 18
theorem sc_glow : FnScope ["sign", "turn"] ["sign", "turn"] (defScope s_glow) := ⟨rfl, rfl, rfl, by decide +kernel, rfl, by decide +kernel, by decide +kernel⟩
/-- the module's own constants -/
structure Co (mg : Str → Option Value) : Prop extends Bi mg where
  LAMPS : ∃ t, mg "LAMPS" = some (.int 7 t)
  STATES : ∃ t, mg "STATES" = some (.str "+-0" t)
section
variable {P : Program} {w : World} {K : PySem.W.Frag} {mg : Str → Option Value} {base : Heap}
def isCountD (d : PyData) (lo hi : Int) : Bool := match d with
  | .int i => decide (lo ≤ i) && decide (i ≤ hi)
  | _ => false
theorem isCountD_ok {i lo hi : Int} (h1 : lo ≤ i) (h2 : i ≤ hi) : isCountD (.int i) lo hi = true := by
  simp [isCountD, h1, h2]
/-- the promises -/
def rIsCount : List Sl → Cs → Sl → Cs → Prop := fun args cs z cs' => ∃ (d : PyData) (lo hi : Int), args = [.dat d, .dat (.int lo), .dat (.int hi)] ∧ cs = [] ∧ cs' = [] ∧ z = .dat (.bool (isCountD d lo hi))
def rIsLamp : List Sl → Cs → Sl → Cs → Prop := fun args cs z cs' => ∃ (p : Nat × Nat) (n : Nat), args = [.dat (encL p), .dat (eI n)] ∧ (p.1 < n ∧ p.2 < n ∧ p.1 ≠ p.2) ∧ cs = [] ∧ cs' = [] ∧ z = .dat (.bool true)
def rIsSign : List Sl → Cs → Sl → Cs → Prop := fun args cs z cs' => ∃ s : Sg, args = [.dat (encS s)] ∧ OkS s ∧ cs = [] ∧ cs' = [] ∧ z = .dat (.bool true)
def rNeedSign : List Sl → Cs → Sl → Cs → Prop := fun args cs z cs' => ∃ s : Sg, args = [.dat (encS s)] ∧ OkS s ∧ cs = [] ∧ cs' = [] ∧ z = .dat .none
def rIsTurn : List Sl → Cs → Sl → Cs → Prop := fun args cs z cs' => ∃ (s : Sg) (t : List Nat), args = [.dat (encS s), .dat (encT t)] ∧ OkS s ∧ OkT s t ∧ cs = [] ∧ cs' = [] ∧ z = .dat (.bool true)
def rNeedTurn : List Sl → Cs → Sl → Cs → Prop := fun args cs z cs' => ∃ (s : Sg) (t : List Nat), args = [.dat (encS s), .dat (encT t)] ∧ OkS s ∧ OkT s t ∧ cs = [] ∧ cs' = [] ∧ z = .dat .none
theorem ok_is_count (B : Co mg) (D : Def K mg "is_count" s_is_count ["value", "least", "most"]) : Cal P w K mg base 1 "is_count" ["value", "least", "most"] (SpG K rIsCount) := by
  refine D.cal sc_is_count (fun args cs z cs' ⟨d, lo, hi, e, _⟩ => by rw [e]; rfl) fun cdv A outer s H E f hr => ⟨_, (pss_one (ps_ret (pe_and (pe_callB (isi_K K) (by rfl) B.isinstance_ (by decide +kernel) (pa_cons (pv 0) (pa_cons (pe_bltn (v := .ty "int") (by rfl) B.int_ (by decide +kernel) rfl) pa_nil))) (pe_and (pe_not (pe_callB (isi_K K) (by rfl) B.isinstance_ (by decide +kernel) (pa_cons (pv 0) (pa_cons (pe_bltn (v := .ty "bool") (by rfl) B.bool_ (by decide +kernel) rfl) pa_nil)))) (pe_one (pe_chain op_le op_le (pv 1) (pv 0) (pv 2))))))), ?_⟩
  rintro args cs z cs' ⟨d, lo, hi, rfl, rfl, rfl, rfl⟩
  refine run_ret (z := .dat (.bool (isCountD d lo hi))) ?_ ⟨rfl, List.Sublist.refl _⟩
  have h1 := ev_isi (K := K) (cs := []) (ρ := startR ["value", "least", "most"] [.dat d, .dat (.int lo), .dat (.int hi)]) (ev_vard 0 rfl) (kitB_int d)
  have h2 := ev_isi (K := K) (cs := []) (ρ := startR ["value", "least", "most"] [.dat d, .dat (.int lo), .dat (.int hi)]) (ev_vard 0 rfl) (kitB_bool d)
  cases d with
  | int i => exact ev_andT h1 (ev_andT (ev_notV h2) (ev_chainLe (ev_vard 1 rfl) (ev_vard 0 rfl) (ev_vard 2 rfl)))
  | bool b => exact ev_andT h1 (ev_andF (ev_notV h2))
  | none => exact ev_andF h1
  | str x => exact ev_andF h1
  | list x => exact ev_andF h1
  | tuple x => exact ev_andF h1
  | dict x => exact ev_andF h1
theorem ok_is_lamp (B : Co mg) (D : Def K mg "is_lamp" s_is_lamp ["value", "wires"]) (c_is_count : Cal P w K mg base 1 "is_count" ["value", "least", "most"] (SpG K rIsCount)) : Cal P w K mg base 2 "is_lamp" ["value", "wires"] (SpG K rIsLamp) := by
  refine D.cal sc_is_lamp (fun args cs z cs' ⟨d, lo, e, _⟩ => by rw [e]; rfl) fun cdv A outer s H E f hr => ⟨_, (pss_cons (ps_if (PW.pt (pw_or (pt_not (pt_val (pe_callB (isi_K K) (by rfl) B.isinstance_ (by decide +kernel) (pa_cons (pv 0) (pa_cons (pe_bltn (v := .ty "tuple") (by rfl) B.tuple_ (by decide +kernel) rfl) pa_nil))))) (pw_or (pt_cmpR (op_neK K (ru hr)) (pe_callB (len_K K) (by rfl) B.len_ (by decide +kernel) (pa_cons (pv 0) pa_nil)) pe_int (nomark _)) (pw_or1 (pt_not (pt_val (pe_callB (all_K K) (by rfl) B.all_ (by decide +kernel) (pa_cons (pe_lc (own := [("wire", 2)]) rfl sc_is_lamp.nd  (pi_K K (pv 0)) (blkOk_by (N := ["value", "wires", "wire"]) (sc := (defScope s_is_lamp)) (by decide +kernel)) (fun _ _ _ _ _ => (pg_name (i := 2) sc_is_lamp.nd rfl (by first | exact Or.inl rfl | exact Or.inr rfl))) (fun _ _ _ _ _ => pts_nil) (fun _ _ _ _ _ => (pe_cal c_is_count hr (by decide) (by rfl) (pa_cons (pv 2) (pa_cons pe_int (pa_cons (pe_op op_sub (pv 1) pe_int) pa_nil)))))) pa_nil)))))))) (pss_one (ps_ret pe_bl)) pss_nil)
      (pss_one (ps_ret (pe_cmpR (op_neK K (ru hr)) (pe_ix (ix_K K) (pv 0) pe_int (fun _ _ => rfl)) (pe_ix (ix_K K) (pv 0) pe_int (fun _ _ => rfl)) (nomark _))))), ?_⟩
  rintro args cs z cs' ⟨⟨a, b⟩, n, rfl, ⟨ha, hb, hab⟩, rfl, rfl, rfl⟩
  have ha : a < n := ha
  have hb : b < n := hb
  have hab : a ≠ b := hab
  refine run_ifS (b := false) (cs1 := []) (EvT.is (et_or (et_not (et_B (ev_isi (ev_vard 0 rfl) (kitB_tuple _)))) fun _ => et_or (et_test (ev_op (ev_cb (ea_cons (ev_vard 0 rfl) ea_nil) (cd_lenT rds_dat)) ev_int (opd_neI rds_dat rds_dat))) fun _ => et_not (et_B (ev_cb (ea_cons (EvN.ev (evn_map (xs := [a, b]) (enc := eI) (fun n' => .bool (isCountD (eI n') 0 ((n : Int) - 1))) (ei_MT (ev_vard 0 rfl)) (by show 2 ≤ 100000; decide) fun x hx => ⟨[(2, eI x)], tg_name 2, by simp, ?_⟩)) ea_nil) (cd_all (bs := [isCountD (eI a) 0 ((n : Int) - 1), isCountD (eI b) 0 ((n : Int) - 1)]) rds_dat)))) ?_) (fun z => nomatch z) fun _ => ?_
  · exact ev_call (sub := []) (ea_cons (ev_vard 2 rfl) (ea_cons ev_int (ea_cons (ev_op (ev_vard 1 rfl) ev_int (opd_sub rds_dat rds_dat)) ea_nil))) (List.nil_sublist _) ⟨_, _, _, rfl, rfl, rfl, rfl⟩
  · have e1 : isCountD (eI a) 0 ((n : Int) - 1) = true := by
      exact isCountD_ok (by omega) (by omega)
    have e2 : isCountD (eI b) 0 ((n : Int) - 1) = true := by
      exact isCountD_ok (by omega) (by omega)
    rw [e1, e2]
    rfl
  · refine run_nextS (run_ret (z := .dat (.bool true)) (Ev.is (ev_op (ev_op (ev_vard 0 rfl) ev_int (opd_ixT rds_dat rds_dat rfl)) (ev_op (ev_vard 0 rfl) ev_int (opd_ixT rds_dat rds_dat rfl)) (opd_neI (i := (a : Int)) (j := (b : Int)) rds_dat rds_dat)) ?_) ⟨rfl, List.Sublist.refl _⟩)
    rw [decide_eq_false (by omega)]
    rfl
theorem ncount_nd : ∀ {l : List (List Int)}, l.Nodup → ncount l = l
  | [], _ => rfl
  | x :: r, h => by
    have h1 := List.nodup_cons.mp h
    unfold ncount
    rw [ncount_nd h1.2, if_neg h1.1]
def lampI (p : Nat × Nat) : List Int := [(p.1 : Int), (p.2 : Int)]
theorem encL_ints (p : Nat × Nat) : encL p = .tuple ((lampI p).map PyData.int) := rfl
theorem lampI_nd : ∀ {l : List (Nat × Nat)}, l.Nodup → (l.map lampI).Nodup
  | [], _ => .nil
  | x :: r, h => by
    have h1 := List.nodup_cons.mp h
    rw [List.map_cons]
    refine List.nodup_cons.mpr ⟨fun z => ?_, lampI_nd h1.2⟩
    obtain ⟨y, hy, e⟩ := List.mem_map.mp z
    unfold lampI at e
    simp at e
    have e' : y = x := Prod.ext (by omega) (by omega)
    exact h1.1 (by rw [← e']; exact hy)
theorem ok_is_sign (B : Co mg) (D : Def K mg "is_sign" s_is_sign ["value"]) (c_is_count : Cal P w K mg base 1 "is_count" ["value", "least", "most"] (SpG K rIsCount)) (c_is_lamp : Cal P w K mg base 2 "is_lamp" ["value", "wires"] (SpG K rIsLamp)) : Cal P w K mg base 3 "is_sign" ["value"] (SpG K rIsSign) := by
  refine D.cal sc_is_sign (fun args cs z cs' ⟨d, e, _⟩ => by rw [e]; rfl) fun cdv A outer s H E f hr => ⟨_, (pss_cons (ps_if (PW.pt (pw_or (pt_not (pt_val (pe_callB (isi_K K) (by rfl) B.isinstance_ (by decide +kernel) (pa_cons (pv 0) (pa_cons (pe_bltn (v := .ty "tuple") (by rfl) B.tuple_ (by decide +kernel) rfl) pa_nil))))) (pw_or (pt_cmpR (op_neK K (ru hr)) (pe_callB (len_K K) (by rfl) B.len_ (by decide +kernel) (pa_cons (pv 0) pa_nil)) pe_int (nomark _)) (pw_or (pt_not (pt_val (pe_cal c_is_count hr (by decide) (by rfl) (pa_cons (pe_ix (ix_K K) (pv 0) pe_int (fun _ _ => rfl)) (pa_cons pe_int (pa_cons pe_int pa_nil)))))) (pw_or1 (pt_not (pt_val (pe_cal c_is_count hr (by decide) (by rfl) (pa_cons (pe_ix (ix_K K) (pv 0) pe_int (fun _ _ => rfl)) (pa_cons pe_int (pa_cons pe_int pa_nil))))))))))) (pss_one (ps_ret pe_bl)) pss_nil)
      (pss_cons (ps_set (i := 1) sc_is_sign.nd rfl (by first | exact Or.inl rfl | exact Or.inr rfl) (pe_ix (ix_K K) (pv 0) pe_int (fun _ _ => rfl)))
      (pss_cons (ps_if (PW.pt (pw_or (pt_not (pt_val (pe_callB (isi_K K) (by rfl) B.isinstance_ (by decide +kernel) (pa_cons (pv 1) (pa_cons (pe_bltn (v := .ty "tuple") (by rfl) B.tuple_ (by decide +kernel) rfl) pa_nil))))) (pw_or1 (pt_not (pt_chain op_le op_le pe_int (pe_callB (len_K K) (by rfl) B.len_ (by decide +kernel) (pa_cons (pv 1) pa_nil)) (pe_glob (v := .int 7) rfl B.LAMPS.choose_spec ⟨_, rfl⟩)))))) (pss_one (ps_ret pe_bl)) pss_nil)
      (pss_one (ps_ret (pe_and (pe_callB (all_K K) (by rfl) B.all_ (by decide +kernel) (pa_cons (pe_lc (own := [("lamp", 2)]) rfl sc_is_sign.nd  (pi_K K (pv 1)) (blkOk_by (N := ["value", "lamps", "lamp"]) (sc := (defScope s_is_sign)) (by decide +kernel)) (fun _ _ _ _ _ => (pg_name (i := 2) sc_is_sign.nd rfl (by first | exact Or.inl rfl | exact Or.inr rfl))) (fun _ _ _ _ _ => pts_nil) (fun _ _ _ _ _ => (pe_cal c_is_lamp hr (by decide) (by rfl) (pa_cons (pv 2) (pa_cons (pe_ix (ix_K K) (pv 0) pe_int (fun _ _ => rfl)) pa_nil))))) pa_nil)) (pe_one (pe_cmpR (op_eqK K (ru hr)) (pe_lenSet hr.units (by rfl) B.len_ (by rfl) B.set_ (pv 1)) (pe_callB (len_K K) (by rfl) B.len_ (by decide +kernel) (pa_cons (pv 1) pa_nil)) (nomark _))))))))), ?_⟩
  rintro args cs z cs' ⟨s, rfl, ok, rfl, rfl, rfl⟩
  obtain ⟨w2, w5, l1, l7, okp, nd, r1, r3⟩ := id ok
  refine run_ifS (b := false) (cs1 := []) (EvT.is (et_or (et_not (et_B (ev_isi (ev_vard 0 rfl) (kitB_tuple _)))) fun _ => et_or (et_test (ev_op (ev_cb (ea_cons (ev_vard 0 rfl) ea_nil) (cd_lenT rds_dat)) ev_int (opd_neI rds_dat rds_dat))) fun _ => et_or (et_not (et_B (ev_call (sub := []) (ea_cons (ev_op (ev_vard 0 rfl) ev_int (opd_ixT rds_dat rds_dat rfl)) (ea_cons ev_int (ea_cons ev_int ea_nil))) (List.nil_sublist _) ⟨_, _, _, rfl, rfl, rfl, rfl⟩))) fun _ => et_not (et_B (ev_call (sub := []) (ea_cons (ev_op (ev_vard 0 rfl) ev_int (opd_ixT rds_dat rds_dat rfl)) (ea_cons ev_int (ea_cons ev_int ea_nil))) (List.nil_sublist _) ⟨_, _, _, rfl, rfl, rfl, rfl⟩))) ?_) (fun z => nomatch z) fun _ => run_nextS ?_
  · rw [show eI s.w = .int (s.w : Int) from rfl, show eI s.r = .int (s.r : Int) from rfl, isCountD_ok (by omega) (by omega), isCountD_ok (by omega) (by omega)]
    rfl
  refine run_asg 1 (ev_op (ev_vard 0 rfl) ev_int (opd_ixT rds_dat rds_dat rfl)) ?_
  refine run_ifS (b := false) (cs1 := []) (EvT.is (et_or (et_not (et_B (ev_isi (d := .tuple (s.L.map encL)) (ev_vard 1 rfl) (kitB_tuple _)))) fun _ => et_not (et_B (ev_chainLe ev_int (ev_cb (ea_cons (ev_vard 1 rfl) ea_nil) (cd_lenT rds_dat)) ev_int))) ?_) (fun z => nomatch z) fun _ => run_nextS ?_
  · rw [List.length_map, decide_eq_true (by omega), decide_eq_true (by omega)]
    rfl
  refine run_ret (z := .dat (.bool true)) ?_ ⟨rfl, List.Sublist.refl _⟩
  refine ev_andT (Ev.is (ev_cb (ea_cons (EvN.ev (evn_map (xs := s.L) (enc := encL) (fun _ => .bool true) (ei_MT (ev_vard 1 rfl)) (by omega) fun x hx => ⟨[(2, encL x)], tg_name 2, by simp, ?_⟩)) ea_nil) (cd_all (bs := s.L.map fun _ => true) (by rw [List.map_map]; exact rds_dat))) ?_) (Ev.is (ev_op (ev_lenSet (nss := s.L.map lampI) (by rw [List.map_map]; exact ev_vard 1 rfl) (by rw [List.length_map]; omega)) (ev_cb (ea_cons (ev_vard 1 rfl) ea_nil) (cd_lenT rds_dat)) (opd_eqI rds_dat rds_dat)) ?_)
  · exact ev_call (sub := []) (ea_cons (ev_vard 2 rfl) (ea_cons (ev_op (ev_vard 0 rfl) ev_int (opd_ixT rds_dat rds_dat rfl)) ea_nil)) (List.nil_sublist _) ⟨x, s.w, rfl, okp x hx, rfl, rfl, rfl⟩
  · simp
  · rw [ncount_nd (lampI_nd nd), List.length_map, List.length_map, decide_eq_true rfl]
theorem ok_need_sign (B : Co mg) (D : Def K mg "need_sign" s_need_sign ["value"]) (c_is_sign : Cal P w K mg base 3 "is_sign" ["value"] (SpG K rIsSign)) : Cal P w K mg base 4 "need_sign" ["value"] (SpG K rNeedSign) := by
  refine D.cal sc_need_sign (fun args cs z cs' ⟨d, e, _⟩ => by rw [e]; rfl) fun cdv A outer s H E f hr => ⟨_, (pss_one (ps_if (pt_not (pt_val (pe_cal c_is_sign hr (by decide) (by rfl) (pa_cons (pv 0) pa_nil)))) (pss_one ps_never) pss_nil)), ?_⟩
  rintro args cs z cs' ⟨s, rfl, ok, rfl, rfl, rfl⟩
  refine run_if (b := false) (cs1 := []) (EvT.is (et_not (et_B (ev_call (sub := []) (ea_cons (ev_vard 0 rfl) ea_nil) (List.nil_sublist _) ⟨s, rfl, ok, rfl, rfl, rfl⟩))) rfl) (fun z => nomatch z) fun _ => run_next ⟨rfl, List.Sublist.refl _⟩
theorem ok_is_turn (B : Co mg) (D : Def K mg "is_turn" s_is_turn ["sign", "value"]) : Cal P w K mg base 1 "is_turn" ["sign", "value"] (SpG K rIsTurn) := by
  refine D.cal sc_is_turn (fun args cs z cs' ⟨d, t, e, _⟩ => by rw [e]; rfl) fun cdv A outer s H E f hr => ⟨_, (pss_one (ps_ret (pe_and (pe_callB (isi_K K) (by rfl) B.isinstance_ (by decide +kernel) (pa_cons (pv 1) (pa_cons (pe_bltn (v := .ty "str") (by rfl) B.str_ (by decide +kernel) rfl) pa_nil))) (pe_and (pe_cmpR (op_eqK K (ru hr)) (pe_callB (len_K K) (by rfl) B.len_ (by decide +kernel) (pa_cons (pv 1) pa_nil)) (pe_ix (ix_K K) (pv 0) pe_int (fun _ _ => rfl)) (nomark _)) (pe_one (pe_callB (all_K K) (by rfl) B.all_ (by decide +kernel) (pa_cons (pe_lc (own := [("state", 2)]) rfl sc_is_turn.nd  (pi_K K (pv 1)) (blkOk_by (N := ["sign", "value", "state"]) (sc := (defScope s_is_turn)) (by decide +kernel)) (fun _ _ _ _ _ => (pg_name (i := 2) sc_is_turn.nd rfl (by first | exact Or.inl rfl | exact Or.inr rfl))) (fun _ _ _ _ _ => pts_nil) (fun _ _ _ _ _ => (pe_cmpR (op_inK K (ru hr)) (pv 2) (pe_glob (v := .str "+-0") rfl B.STATES.choose_spec ⟨_, rfl⟩) rfl))) pa_nil))))))), ?_⟩
  rintro args cs z cs' ⟨s, t, rfl, ok, ht, rfl, rfl, rfl⟩
  have hlen : (tS t).length = s.w := by rw [tS_len, ht.len]
  have h5 := ok.w5
  refine run_ret (z := .dat (.bool true)) ?_ ⟨rfl, List.Sublist.refl _⟩
  refine ev_andT (ev_isi (ev_vard 1 rfl) (kitB_str _)) (ev_andT (Ev.is (ev_op (ev_cb (ea_cons (ev_vard 1 rfl) ea_nil) (cd_lenS rds_dat (by omega))) (ev_op (ev_vard 0 rfl) ev_int (opd_ixT rds_dat rds_dat rfl)) (opd_eqI (j := (s.w : Int)) rds_dat rds_dat)) ?_) (Ev.is (ev_cb (ea_cons (EvN.ev (evn_map (xs := t) (enc := fun c => .str ⟨#[c]⟩) (fun _ => .bool true) (show EvI K _ _ _ (t.map fun c => PyData.str ⟨#[c]⟩) _ from ei_MS (x := tS t) (ev_vard 1 rfl)) (by rw [ht.len]; omega) fun x hx => ⟨[(2, .str ⟨#[x]⟩)], tg_name 2, by simp, ?_⟩)) ea_nil) (cd_all (bs := t.map fun _ => true) (by rw [List.map_map]; exact rds_dat))) ?_))
  · rw [hlen, decide_eq_true rfl]
  · refine Ev.is (ev_op (ev_vard 2 rfl) ev_str (opd_inS rds_dat rds_dat)) ?_
    rcases ht.ok x hx with e | e | e <;> (subst e; exact congrArg PyData.bool (by decide +kernel))
  · simp
theorem ok_need_turn (B : Co mg) (D : Def K mg "need_turn" s_need_turn ["sign", "value"]) (c_is_turn : Cal P w K mg base 1 "is_turn" ["sign", "value"] (SpG K rIsTurn)) : Cal P w K mg base 2 "need_turn" ["sign", "value"] (SpG K rNeedTurn) := by
  refine D.cal sc_need_turn (fun args cs z cs' ⟨d, t, e, _⟩ => by rw [e]; rfl) fun cdv A outer s H E f hr => ⟨_, (pss_one (ps_if (pt_not (pt_val (pe_cal c_is_turn hr (by decide) (by rfl) (pa_cons (pv 0) (pa_cons (pv 1) pa_nil))))) (pss_one ps_never) pss_nil)), ?_⟩
  rintro args cs z cs' ⟨s, t, rfl, ok, ht, rfl, rfl, rfl⟩
  exact run_if (b := false) (cs1 := []) (EvT.is (et_not (et_B (ev_call (sub := []) (ea_cons (ev_vard 0 rfl) (ea_cons (ev_vard 1 rfl) ea_nil)) (List.nil_sublist _) ⟨s, t, rfl, ok, ht, rfl, rfl, rfl⟩))) rfl) (fun z => nomatch z) fun _ => run_next ⟨rfl, List.Sublist.refl _⟩
/-! ### chains -/
def encC (c : List Nat) : PyData := .list (c.map eI)
def rChains : List Sl → Cs → Sl → Cs → Prop := fun args cs z cs' => ∃ (s : Sg) (t : List Nat), args = [.dat (encS s), .dat (encT t)] ∧ OkS s ∧ OkT s t ∧ cs = [] ∧ cs' = [] ∧ z = .dat (.list ((chainsM s t).map encC))
theorem enum_lamps (s : Sg) : enumD (s.L.map encL) = (List.range s.L.length).map fun (i : Nat) => PyData.tuple [eI i, encL (s.L.getD i (0, 0))] := by
  unfold enumD
  refine List.ext_getElem? fun i => ?_
  rw [List.getElem?_mapIdx, List.getElem?_map, List.getElem?_map]
  by_cases h : i < s.L.length
  · have e : s.L.getD i (0, 0) = s.L[i] := by
      rw [List.getD_eq_getElem?_getD, List.getElem?_eq_getElem h]
      rfl
    rw [List.getElem?_eq_getElem h, List.getElem?_eq_getElem (by rw [List.length_range]; exact h), List.getElem_range]
    show some _ = some (PyData.tuple [eI i, encL (s.L.getD i (0, 0))])
    rw [e]
    rfl
  · rw [List.getElem?_eq_none (by omega), List.getElem?_eq_none (by rw [List.length_range]; omega)]
    rfl
theorem filterMap_if {α β : Type} (p : α → Bool) (f : α → β) : ∀ l : List α, l.filterMap (fun a => if p a then some (f a) else none) = (l.filter p).map f
  | [] => rfl
  | a :: l => by
    rw [List.filterMap_cons, List.filter_cons]
    by_cases h : p a = true
    · rw [h]
      simp [filterMap_if p f l]
    · rw [Bool.not_eq_true] at h
      rw [h]
      simp [filterMap_if p f l]
theorem sh_C (c : List Nat) : Sh 1 (encC c) := sh_list (sha_map fun _ _ => sh_int)
theorem eqv_nil (xs : List PyData) : PyData.eqv (.list xs) (.list []) = xs.isEmpty := by
  cases xs with
  | nil => simp [PyData.eqv, PyData.eqvAll]
  | cons x r => simp [PyData.eqv, PyData.eqvAll]
theorem len_wt : ∀ l : List (List Nat), l.length ≤ wt l
  | [] => Nat.le_refl _
  | c :: l => by
    show l.length + 1 ≤ wtC c + wt l
    have h := len_wt l
    have h2 := wtC_pos c
    omega
theorem ok_chains (B : Co mg) (D : Def K mg "chains" s_chains ["sign", "turn"]) : Cal P w K mg base 1 "chains" ["sign", "turn"] (SpG K rChains) := by
  refine D.cal sc_chains (fun args cs z cs' ⟨d, t, e, _⟩ => by rw [e]; rfl) fun cdv A outer s H E f hr => ⟨_, (pss_cons (ps_par (by rfl) sc_chains.nd (i := 2) (j := 3) rfl rfl (by decide) rfl rfl (pa_cons (pe_ix (ix_K K) (pv 0) pe_int (fun _ _ => rfl)) (pa_cons (pe_lst pa_nil) pa_nil)) (by rfl))
      (pss_cons (ps_setLc (i := 4) (own := [("at", 5), ("lamp", 6)]) rfl sc_chains.nd rfl rfl (sw_true rfl rfl rfl (by decide +kernel)) (pi_enumK K (by rfl) B.enumerate_ (pa_cons (pv 2) pa_nil)) (blkOk_by (N := ["sign", "turn", "lamps", "found", "open_ones", "at", "lamp", "chain", "end"]) (sc := (defScope s_chains)) (by decide +kernel)) (fun _ _ _ _ _ => (pg_tupK (n := 2) K rfl (pgs_cons (pg_name (i := 5) sc_chains.nd rfl (by first | exact Or.inl rfl | exact Or.inr rfl)) (pgs_cons (pg_name (i := 6) sc_chains.nd rfl (by first | exact Or.inl rfl | exact Or.inr rfl)) pgs_nil)))) (fun _ _ _ _ _ => (pts_one (pt_cmpR (op_eqK K (ru hr)) (pe_ix (ix_K K) (pv 1) (pe_ix (ix_K K) (pv 6) pe_int (fun _ _ => rfl)) (fun _ _ => rfl)) pe_str (nomark _)))) (fun _ _ _ _ _ => (pe_lst (pa_cons (pv 5) pa_nil))))
      (pss_cons (ps_while PassesOwn.never (pt_cmpR (op_neK K (ru hr)) (pv 4) (pe_lst pa_nil) (nomark _)) (pss_cons (ps_set (i := 7) sc_chains.nd rfl (by first | exact Or.inl rfl | exact Or.inr rfl) (pe_bm0 PySem.F.plainAttrs_list PySem.F.slot_list_pop PySem.F.type_list_pop mt_pop (pv 4)))
      (pss_cons (ps_set (i := 8) sc_chains.nd rfl (by first | exact Or.inl rfl | exact Or.inr rfl) (pe_ix (ix_K K) (pe_ix (ix_K K) (pv 2) (pe_ix (ix_K K) (pv 7) (pe_un un_neg pe_int) (fun _ _ => rfl)) (fun _ _ => rfl)) pe_int (fun _ _ => rfl)))
      (pss_one (ps_if (pt_cmpR (op_eqK K (ru hr)) (pe_ix (ix_K K) (pv 1) (pv 8) (fun _ _ => rfl)) pe_str (nomark _)) (pss_one (ps_expr (pe_bm PySem.F.plainAttrs_list PySem.F.slot_list_append PySem.F.type_list_append mt_append (pv 3) (pa_cons (pv 7) pa_nil)))) (pss_one (ps_if (PW.pt (pw_and (pt_cmpR (op_eqK K (ru hr)) (pe_ix (ix_K K) (pv 1) (pv 8) (fun _ _ => rfl)) pe_str (nomark _)) (pw_and1 (pt_cmpR op_lt (pe_callB (len_K K) (by rfl) B.len_ (by decide +kernel) (pa_cons (pv 7) pa_nil)) (pe_ix (ix_K K) (pv 0) pe_int (fun _ _ => rfl)) (nomark _))))) (pss_one (ps_expr (pe_bm PySem.F.plainAttrs_list PySem.F.slot_list_extend PySem.F.type_list_extend mt_extend (pv 4) (pa_cons (pe_lc (own := [("at", 5), ("lamp", 6)]) rfl sc_chains.nd  (pi_enumK K (by rfl) B.enumerate_ (pa_cons (pv 2) pa_nil)) (blkOk_by (N := ["sign", "turn", "lamps", "found", "open_ones", "at", "lamp", "chain", "end"]) (sc := (defScope s_chains)) (by decide +kernel)) (fun _ _ _ _ _ => (pg_tupK (n := 2) K rfl (pgs_cons (pg_name (i := 5) sc_chains.nd rfl (by first | exact Or.inl rfl | exact Or.inr rfl)) (pgs_cons (pg_name (i := 6) sc_chains.nd rfl (by first | exact Or.inl rfl | exact Or.inr rfl)) pgs_nil)))) (fun _ _ _ _ _ => (pts_one (pt_cmpR (op_eqK K (ru hr)) (pe_ix (ix_K K) (pv 6) pe_int (fun _ _ => rfl)) (pv 8) (nomark _)))) (fun _ _ _ _ _ => (pe_op (op_addK K) (pv 7) (pe_lst (pa_cons (pv 5) pa_nil))))) pa_nil)))) pss_nil)))))))
      (pss_one (ps_ret (pv 3)))))), ?_⟩
  rintro args cs z cs' ⟨s, t, rfl, ok, ht, rfl, rfl, rfl⟩
  have hl7 := ok.l7
  have hw5 := ok.w5
  have htl : (tS t).length ≤ 100000 := by rw [tS_len, ht.len]; omega
  have sp : (Str.ofString "+") = ⟨#[43]⟩ := by decide +kernel
  have sm : (Str.ofString "-") = ⟨#[45]⟩ := by decide +kernel
  have s0 : (Str.ofString "0") = ⟨#[48]⟩ := by decide +kernel
  refine run_parN 2 3 (ev_op (ev_vard 0 rfl) ev_int (opd_ixT (d := .tuple (s.L.map encL)) rds_dat rds_dat rfl)) (evn_lst ea_nil dats_nil (by decide)) fun pf => ?_
  -- open_ones
  refine run_asgN 4 (cs1 := [(pf, .lst [])]) (c := .lst ((starts s t).map encC)) (EvN.is (evn_lcE (xs := List.range s.L.length) (enc := fun (i : Nat) => PyData.tuple [eI i, encL (s.L.getD i (0, 0))]) (enc2 := encC) (fun a => if hi s t a then some [a] else none) (by rw [← enum_lamps]; exact ei_enumT (ea_cons (ev_vard 2 rfl) ea_nil)) (by rw [List.length_range]; omega) fun a ha => ⟨_, tg_pair 5 6, by simp, ?_⟩) ?_) fun po => ?_
  · have hal : a < s.L.length := List.mem_range.mp ha
    have hf := (ok.lamp hal).1
    have htest : ∀ c : Cs, EvT K (tTest (tOp (rEqM K) (tOp (rIx K) (tVar 1) (tOp (rIx K) (tVar 6) (tC (.int 0)))) (tC (.str (Str.ofString "+"))))) (setsR (wipeR [.dat (encS s), .dat (encT t), .dat (.tuple (s.L.map encL)), .raw (.ref pf), .un, .un, .un, .un, .un] [5, 6]) [(5, eI a), (6, encL (s.L.getD a (0, 0)))]) c (hi s t a) c := fun c => by
      refine EvT.is (et_test (ev_op (ev_op (ev_vard 1 rfl) (ev_op (ev_vard 6 rfl) ev_int (opd_ixT (d := eI (fw s a)) rds_dat rds_dat rfl)) (opd_ixS rds_dat rds_dat htl (stt_at (by rw [ht.len]; exact hf)))) ev_str (opd_eqS rds_dat rds_dat))) ?_
      rw [sp, sgn_eq]
      unfold hi
      rw [Bool.beq_eq_decide_eq]
    cases hh : hi s t a with
    | true =>
      refine ⟨?_, EvN.ev (evn_lst (ea_cons (ev_vard 5 rfl) ea_nil) (dats_cons dats_nil) (by show 1 ≤ 100000; decide))⟩
      have q := htest [(pf, .lst [])]
      rw [hh] at q
      exact q
    | false =>
      have q := htest [(pf, .lst [])]
      rw [hh] at q
      exact q
  · rw [filterMap_if]
    rfl
  -- the loop
  have hw0 := wt_starts ok.l7 t
  refine run_seq (fun ρ' c' => ∃ x5 x6 x7 x8, ρ' = [.dat (encS s), .dat (encT t), .dat (.tuple (s.L.map encL)), .raw (.ref pf), .raw (.ref po), x5, x6, x7, x8] ∧ c' = [(po, .lst []), (pf, .lst ((chainsM s t).map encC))]) (run_while (fun m ρ' c' => ∃ (S F : List (List Nat)) (x5 x6 x7 x8 : Sl), ρ' = [.dat (encS s), .dat (encT t), .dat (.tuple (s.L.map encL)), .raw (.ref pf), .raw (.ref po), x5, x6, x7, x8] ∧ c' = [(po, .lst (S.map encC)), (pf, .lst (F.map encC))] ∧ runC s t m S F = chainsM s t ∧ wt S ≤ m ∧ F.length + wt S ≤ 448 ∧ ∀ c ∈ S, 1 ≤ c.length ∧ c.length ≤ s.r ∧ ∀ a ∈ c, a < s.L.length) (wt (starts s t)) ⟨starts s t, [], .un, .un, .un, .un, rfl, rfl, rfl, Nat.le_refl _, by simpa using hw0, fun c hc => ?_⟩ ?_) ?_
  · unfold starts at hc
    obtain ⟨a, ha, rfl⟩ := List.mem_map.mp hc
    refine ⟨Nat.le_refl _, ok.r1, fun b hb => ?_⟩
    rw [List.mem_singleton.mp hb]
    exact List.mem_range.mp (List.mem_filter.mp ha).1
  · rintro m ρ' c' ⟨S, F, x5, x6, x7, x8, rfl, rfl, hrun, hwm, hsz, hS⟩
    have hlS := len_wt S
    refine ⟨!S.isEmpty, _, EvT.is (et_test (ev_op (ev_varr 4 rfl) (EvN.ev (evn_lst ea_nil dats_nil (by decide))) (opd_neM (rds_cell 0 rfl) rds_dat (Sh.ok (n := 2) (sh_list (sha_map fun c _ => sh_C c)) (by decide)) (Sh.ok (n := 1) (sh_list sha_nil) (by decide))))) (by rw [eqv_nil, List.isEmpty_map]), fun hne => ?_, fun he => ?_⟩
    · rcases snoc_cases S with rfl | ⟨S', c, rfl⟩
      · simp at hne
      obtain ⟨hc1, hcr, hca⟩ := hS c (by simp)
      have hS' : ∀ d ∈ S', 1 ≤ d.length ∧ d.length ≤ s.r ∧ ∀ a ∈ d, a < s.L.length := fun d hd => hS d (by simp [hd])
      rcases snoc_cases c with rfl | ⟨c', a, rfl⟩
      · simp at hc1
      have hal : a < s.L.length := hca a (by simp)
      obtain ⟨hfa, hsa⟩ := ok.lamp hal
      have hwt : wt (S' ++ [c' ++ [a]]) = wt S' + wtC (c' ++ [a]) := by
        rw [wt_append]
        rfl
      have hpos := wtC_pos (c' ++ [a])
      obtain ⟨m', rfl⟩ : ∃ m', m = m' + 1 := ⟨m - 1, by omega⟩
      rw [runC_snoc, endW_snoc] at hrun
      -- chain = open_ones.pop()
      refine run_asg 7 (ev_pop (ds := S'.map encC) (d := encC (c' ++ [a])) 0 (ev_varr 4 rfl) (by rw [List.map_append]; rfl)) ?_
      -- end = lamps[chain[-1]][1]
      refine run_asg 8 (ev_op (ev_op (ev_vard 2 rfl) (ev_op (ev_vard 7 rfl) (ev_neg ev_int) (opd_ixL (ds := (c' ++ [a]).map eI) (d := eI a) rds_dat rds_dat (by rw [List.map_append]; exact atI_last _ _))) (opd_ixT (ds := s.L.map encL) rds_dat rds_dat (atI_get (lamp_at hal)))) ev_int (opd_ixT (d := eI (sw s a)) rds_dat rds_dat rfl)) ?_
      have hat : atI (tS t).cps.toList ((sw s a : Nat) : Int) = some (stt t (sw s a)) := stt_at (by rw [ht.len]; exact hsa)
      have tst : ∀ (q : Nat) (x : Str), x = ⟨#[q]⟩ → ∀ cx, EvT K (tTest (tOp (rEqM K) (tOp (rIx K) (tVar 1) (tVar 8)) (tC (.str x)))) [.dat (encS s), .dat (encT t), .dat (.tuple (s.L.map encL)), .raw (.ref pf), .raw (.ref po), x5, x6, .dat (encC (c' ++ [a])), .dat (eI (sw s a))] cx (decide (stt t (sw s a) = q)) cx := fun q x hx cx => by
        refine EvT.is (et_test (ev_op (ev_op (ev_vard 1 rfl) (ev_vard 8 rfl) (opd_ixS rds_dat rds_dat htl hat)) ev_str (opd_eqS rds_dat rds_dat))) ?_
        rw [hx, sgn_eq]
      refine run_if (b := decide (stt t (sw s a) = 45)) (tst 45 _ sm _) (fun h45 => ?_) (fun h45 => ?_)
      · have h45 := of_decide_eq_true h45
        rw [if_pos h45] at hrun
        refine run_expr1 (ev_append 1 (ev_varr 3 rfl) rfl (ev_vard 7 rfl) rfl (by rw [List.length_map]; omega)) ⟨m', Nat.lt_succ_self _, S', F ++ [c' ++ [a]], x5, x6, _, _, rfl, by simp, hrun, by omega, ?_, hS'⟩
        rw [List.length_append, List.length_singleton]
        omega
      · have h45 := of_decide_eq_false h45
        rw [if_neg h45] at hrun
        refine run_if (b := decide (stt t (sw s a) = 48) && decide ((c' ++ [a]).length < s.r)) (et_and (tst 48 _ s0 _) fun _ => EvT.is (et_test (ev_op (ev_cb (ea_cons (ev_vard 7 rfl) ea_nil) (cd_lenL rds_dat)) (ev_op (ev_vard 0 rfl) ev_int (opd_ixT (d := eI s.r) rds_dat rds_dat rfl)) (opd_lt (i := (((c' ++ [a]).map eI).length : Int)) (j := (s.r : Int)) rds_dat rds_dat))) ?_) (fun h48 => ?_) (fun h48 => ?_)
        · rw [List.length_map]
          exact decide_eq_decide.mpr (by omega)
        · rw [Bool.and_eq_true, decide_eq_true_iff, decide_eq_true_iff] at h48
          rw [if_pos h48] at hrun
          have hr3 := ok.r3
          have hwe := wt_exts (s := s) hl7 (c := c' ++ [a]) (by omega)
          have hle := len_wt (exts s (c' ++ [a]))
          have hle2 := len_wt S'
          refine run_expr1 (ev_extend (es := (exts s (c' ++ [a])).map encC) 0 (ev_varr 4 rfl) rfl (EvN.ev (EvN.is (evn_lcE (xs := List.range s.L.length) (enc := fun (i : Nat) => PyData.tuple [eI i, encL (s.L.getD i (0, 0))]) (enc2 := encC) (fun b => if fw s b == sw s a then some (c' ++ [a] ++ [b]) else none) (by rw [← enum_lamps]; exact ei_enumT (ea_cons (ev_vard 2 rfl) ea_nil)) (by rw [List.length_range]; omega) fun b hb => ⟨_, tg_pair 5 6, by simp, ?_⟩) ?_)) rds_dat rfl (by rw [List.length_map, List.length_map]; omega)) ⟨m', Nat.lt_succ_self _, S' ++ exts s (c' ++ [a]), F, x5, x6, _, _, rfl, by simp, hrun, ?_, ?_, fun d hd => ?_⟩
          · have hbl : b < s.L.length := List.mem_range.mp hb
            have htest : ∀ cx : Cs, EvT K (tTest (tOp (rEqM K) (tOp (rIx K) (tVar 6) (tC (.int 0))) (tVar 8))) (setsR (wipeR [.dat (encS s), .dat (encT t), .dat (.tuple (s.L.map encL)), .raw (.ref pf), .raw (.ref po), x5, x6, .dat (encC (c' ++ [a])), .dat (eI (sw s a))] [5, 6]) [(5, eI b), (6, encL (s.L.getD b (0, 0)))]) cx (fw s b == sw s a) cx := fun cx => by
              refine EvT.is (et_test (ev_op (ev_op (ev_vard 6 rfl) ev_int (opd_ixT (d := eI (fw s b)) rds_dat rds_dat rfl)) (ev_vard 8 rfl) (opd_eqI (i := (fw s b : Int)) (j := (sw s a : Int)) rds_dat rds_dat))) ?_
              rw [Bool.beq_eq_decide_eq]
              exact decide_eq_decide.mpr (by omega)
            cases hh : (fw s b == sw s a) with
            | true =>
              refine ⟨?_, EvN.ev (EvN.is (evn_op (ev_vard 7 rfl) (EvN.ev (evn_lst (ea_cons (ev_vard 5 rfl) ea_nil) (dats_cons dats_nil) (by show 1 ≤ 100000; decide))) (opn_addL (a := (c' ++ [a]).map eI) rds_dat rds_dat (by rw [List.length_map]; show _ + 1 ≤ _; omega))) ?_)⟩
              · have q := htest [(po, .lst (S'.map encC)), (pf, .lst (F.map encC))]
                rw [hh] at q
                exact q
              · rw [List.map_append (l₂ := [b])]
                rfl
            | false =>
              have q := htest [(po, .lst (S'.map encC)), (pf, .lst (F.map encC))]
              rw [hh] at q
              exact q
          · rw [filterMap_if]
            unfold exts nexts
            rw [endW_snoc]
          · rw [wt_append]
            omega
          · rw [wt_append]
            omega
          · rcases List.mem_append.mp hd with z | z
            · exact hS' d z
            · have e := exts_len z
              refine ⟨by omega, by omega, fun b hb => ?_⟩
              unfold exts nexts at z
              obtain ⟨b', hb', rfl⟩ := List.mem_map.mp z
              rcases List.mem_append.mp hb with y | y
              · exact hca b y
              · rw [List.mem_singleton.mp y]
                exact List.mem_range.mp (List.mem_filter.mp hb').1
        · rw [Bool.and_eq_false_iff, decide_eq_false_iff_not, decide_eq_false_iff_not] at h48
          rw [if_neg fun z => h48.elim (fun y => y z.1) (fun y => y z.2)] at hrun
          exact run_next ⟨m', Nat.lt_succ_self _, S', F, x5, x6, _, _, rfl, rfl, hrun, by omega, by omega, hS'⟩
    · have e : S = [] := by
        cases S with
        | nil => rfl
        | cons x r => simp at he
      subst e
      have hF : F = chainsM s t := by
        rw [← hrun]
        cases m <;> rfl
      subst hF
      exact ⟨x5, x6, x7, x8, rfl, rfl⟩
  · rintro ρ' c' ⟨x5, x6, x7, x8, rfl, rfl⟩
    exact run_retL 1 (ev_varr 3 rfl) rfl ⟨rfl, List.nil_sublist _⟩
/-! ### glow -/
def rGlowOf : List Sl → Cs → Sl → Cs → Prop := fun args cs z cs' => ∃ (s : Sg) (t : List Nat), args = [.dat (encS s), .dat (encT t)] ∧ OkS s ∧ OkT s t ∧ cs = [] ∧ cs' = [] ∧ z = .dat (encP (glowM s t))
def rGlow : List Sl → Cs → Ce → Cs → Prop := fun args cs z cs' => ∃ (s : Sg) (t : List Nat), args = [.dat (encS s), .dat (encT t)] ∧ OkS s ∧ OkT s t ∧ cs = [] ∧ cs' = [] ∧ z = .lst ((glowM s t).map PyData.int)
theorem flat_enc (l : List (List Nat)) : (l.map fun c => c.map eI).flatten = (castN l.flatten).map PyData.int := by
  unfold castN
  rw [List.map_map]
  induction l with
  | nil => rfl
  | cons c l ih =>
    rw [List.map_cons, List.flatten_cons, List.flatten_cons, List.map_append, ih]
    rfl
theorem ok_glow_of (B : Co mg) (D : Def K mg "glow_of" s_glow_of ["sign", "turn"]) (c_chains : Cal P w K mg base 1 "chains" ["sign", "turn"] (SpG K rChains)) : Cal P w K mg base 2 "glow_of" ["sign", "turn"] (SpG K rGlowOf) := by
  refine D.cal sc_glow_of (fun args cs z cs' ⟨d, t, e, _⟩ => by rw [e]; rfl) fun cdv A outer s H E f hr => ⟨_, (pss_one (ps_ret (pe_callTy (tuple_K K) (by rfl) B.tuple_ (by decide +kernel) (pa_cons (pe_callB (sortedSet_K w) (by rfl) B.sorted_ (by decide +kernel) (pa_cons (pe_callTy (setI_K K w) (by rfl) B.set_ (by decide +kernel) (pa_cons (pe_callB (cr_sumL rfl) (by rfl) B.sum_ (by decide +kernel) (pa_cons (pe_cal c_chains hr (by decide) (by rfl) (pa_cons (pv 0) (pa_cons (pv 1) pa_nil))) (pa_cons (pe_lst pa_nil) pa_nil))) pa_nil)) pa_nil)) pa_nil)))), ?_⟩
  rintro args cs z cs' ⟨s, t, rfl, ok, ht, rfl, rfl, rfl⟩
  have hsm := chains_small ok.l7 ok.r1 ok.r3 t
  have hfl : ((chainsM s t).map fun c => c.map eI).flatten.length ≤ 1344 := by
    rw [flat_enc, List.length_map, castN, List.length_map]
    exact hsm
  refine run_ret (z := .dat (encP (glowM s t))) ?_ ⟨rfl, List.Sublist.refl _⟩
  refine Ev.is (ev_cb (ea_cons (EvN.ev (evn_sortedSet (ns := castN (chainsM s t).flatten) (cs1 := []) (ev_sumL (nss := (chainsM s t).map fun c => c.map eI) (ea_cons ?_ (ea_cons (EvN.ev (evn_lst ea_nil dats_nil (by decide))) ea_nil)) (by omega)) (.inl (by rw [flat_enc]; exact rds_dat)) ?_ ?_)) ea_nil) (cd_tupleL rds_dat)) ?_
  · rw [List.map_map]
    exact ev_call (sub := []) (ea_cons (ev_vard 0 rfl) (ea_cons (ev_vard 1 rfl) ea_nil)) (List.nil_sublist _) ⟨s, t, rfl, ok, ht, rfl, rfl, rfl⟩
  · rw [castN, List.length_map]
    omega
  · refine ⟨castN (List.range s.L.length), ?_, fun k hk => ?_⟩
    · rw [castN, List.length_map, List.length_range]
      have q := ok.l7
      omega
    · obtain ⟨i, rfl, hi'⟩ := mem_castN.mp hk
      exact mem_castN.mpr ⟨i, rfl, List.mem_range.mpr (((mem_flat_chains ok).mp hi').lt)⟩
  · rw [sd_chains ok]
    rfl
theorem ok_glow (B : Co mg) (D : Def K mg "glow" s_glow ["sign", "turn"]) (c_need_sign : Cal P w K mg base 4 "need_sign" ["value"] (SpG K rNeedSign)) (c_need_turn : Cal P w K mg base 2 "need_turn" ["sign", "value"] (SpG K rNeedTurn)) (c_glow_of : Cal P w K mg base 2 "glow_of" ["sign", "turn"] (SpG K rGlowOf)) : Cal P w K mg base 5 "glow" ["sign", "turn"] (SpN K rGlow) := by
  refine D.calN sc_glow (fun args cs z cs' ⟨d, t, e, _⟩ => by rw [e]; rfl) (fun args cs z cs' ⟨d, t, e, _, _, e1, e2, _⟩ => by rw [e1, e2]) fun cdv A outer s H E f hr => ⟨_, (pss_cons (ps_expr (pe_cal c_need_sign hr (by decide) (by rfl) (pa_cons (pv 0) pa_nil)))
      (pss_cons (ps_expr (pe_cal c_need_turn hr (by decide) (by rfl) (pa_cons (pv 0) (pa_cons (pv 1) pa_nil))))
      (pss_one (ps_ret (pe_callTy (list_K K) (by rfl) B.list_ (by decide +kernel) (pa_cons (pe_cal c_glow_of hr (by decide) (by rfl) (pa_cons (pv 0) (pa_cons (pv 1) pa_nil))) pa_nil)))))), ?_⟩
  rintro args cs z cs' ⟨s, t, rfl, ok, ht, rfl, rfl, rfl⟩
  refine run_expr (ev_call (sub := []) (ea_cons (ev_vard 0 rfl) ea_nil) (List.nil_sublist _) ⟨s, rfl, ok, rfl, rfl, rfl⟩) ?_
  refine run_expr (ev_call (sub := []) (ea_cons (ev_vard 0 rfl) (ea_cons (ev_vard 1 rfl) ea_nil)) (List.nil_sublist _) ⟨s, t, rfl, ok, ht, rfl, rfl, rfl⟩) ?_
  exact run_retC (evn_cb (ea_cons (ev_call (sub := []) (ea_cons (ev_vard 0 rfl) (ea_cons (ev_vard 1 rfl) ea_nil)) (List.nil_sublist _) ⟨s, t, rfl, ok, ht, rfl, rfl, rfl⟩) ea_nil) (cn_listT rds_dat)) fun p => ⟨p, rfl, List.Sublist.refl _⟩
end
--END
end LW

set_option Elab.async false
set_option linter.all false
set_option maxRecDepth 100000
set_option maxHeartbeats 4000000
namespace LW
open PySem PySem.Spec PyProof.Rows L2
--BEGIN
abbrev s__law_draw : Stmt := topS 47
theorem sc__law_draw : FnScope ["script", "town", "many", "one", "at", "mixed"] ["script", "town", "many"] (defScope s__law_draw) := ⟨rfl, rfl, rfl, by decide +kernel, rfl, by decide +kernel, by decide +kernel⟩
abbrev s__law_pick : Stmt := topS 48
theorem sc__law_pick : FnScope ["script", "town", "some"] ["script", "town", "some"] (defScope s__law_pick) := ⟨rfl, rfl, rfl, by decide +kernel, rfl, by decide +kernel, by decide +kernel⟩
section
variable {P : Program} {w : World} {K : PySem.W.Frag} {mg : Str → Option Value} {base : Heap}
def twC (t : Addr) (tw : Tw) : Addr × Ce := (t, .lst [eI tw.1, eI tw.2])
def rDraw (K : PySem.W.Frag) : List Sl → Cs → Sl → Cs → Prop := fun args cs z cs' => ∃ (sc : Cs) (ns : List Int) (a t : Addr) (tw : Tw) (m : Nat), args = [.raw (.ref a), .raw (.ref t), .dat (eI m)] ∧ Scr K a ns sc ∧ (0 < m ∧ m < 1000000) ∧ cs = (twC t tw :: sc) ∧ cs' = (twC t (drawM ns tw m).2 :: sc) ∧ z = .dat (eI (drawM ns tw m).1)
theorem mix_eq (x : Int) (m : Nat) : eI ((x % 2147483647).toNat ^ 5 % 2147483647 % 999983 % m) = .int ((x % 2147483647) ^ 5 % 2147483647 % 999983 % (m : Int)) := by
  have e : (x % 2147483647) = (((x % 2147483647).toNat : Nat) : Int) := (Int.toNat_of_nonneg (by omega)).symm
  unfold eI
  congr 1
  rw [Int.natCast_emod, Int.natCast_emod, Int.natCast_emod, Int.natCast_pow, ← e]
  rfl
theorem ok_law_draw (B : Co mg) (D : Def K mg "_law_draw" s__law_draw ["script", "town", "many"]) : Cal P w K mg base 1 "_law_draw" ["script", "town", "many"] (SpG K (rDraw K)) := by
  refine D.cal sc__law_draw (fun args cs z cs' ⟨_, _, _, _, _, _, e, _⟩ => by rw [e]; rfl) fun cdv A outer s H E f hr => ⟨_, (pss_cons (ps_if (pt_cmpR op_gt (pe_ix (ix_K K) (pv 1) pe_int (fun _ _ => rfl)) pe_int (nomark _)) (pss_cons (ps_set (i := 3) sc__law_draw.nd rfl (by first | exact Or.inl rfl | exact Or.inr rfl) (pe_op op_mod (pe_ix (ix_K K) (pv 1) pe_int (fun _ _ => rfl)) (pv 2)))
      (pss_cons (ps_asg (pe_op op_fdiv (pe_ix (ix_K K) (pv 1) pe_int (fun _ _ => rfl)) (pv 2)) (pg_sub (pv 1) pe_int set_list))
      (pss_one (ps_ret (pv 3))))) pss_nil)
      (pss_cons (ps_set (i := 4) sc__law_draw.nd rfl (by first | exact Or.inl rfl | exact Or.inr rfl) (pe_ix (ix_K K) (pv 1) pe_int (fun _ _ => rfl)))
      (pss_cons (ps_augS (pv 1) pe_int (get_K K) pe_int ip_add set_list)
      (pss_cons (ps_if (pt_cmpR (op_eqK K (ru hr)) (pv 0) (pe_lst pa_nil) (nomark _)) (pss_one (ps_ret (pe_op op_mod (pv 4) (pv 2)))) pss_nil)
      (pss_cons (ps_if (PW.pt (pw_and (pt_cmpR op_lt (pv 4) (pe_callB (len_K K) (by rfl) B.len_ (by decide +kernel) (pa_cons (pv 0) pa_nil)) (nomark _)) (pw_and1 (pt_cmpR op_ge (pe_ix (ix_K K) (pv 0) (pv 4) (fun _ _ => rfl)) (pe_op op_pow pe_int pe_int) (nomark _))))) (pss_cons (ps_asg (pe_op op_mod (pe_op op_fdiv (pe_ix (ix_K K) (pv 0) (pv 4) (fun _ _ => rfl)) (pv 2)) (pe_op op_mulM (pe_op op_pow pe_int pe_int) (pe_op op_pow pe_int pe_int))) (pg_sub (pv 1) pe_int set_list))
      (pss_one (ps_ret (pe_op op_mod (pe_ix (ix_K K) (pv 0) (pv 4) (fun _ _ => rfl)) (pv 2))))) pss_nil)
      (pss_cons (ps_set (i := 5) sc__law_draw.nd rfl (by first | exact Or.inl rfl | exact Or.inr rfl) (pe_op op_mod (pe_op (op_addK K) (pe_op (op_addK K) (pe_op op_mulM (pe_ix (ix_K K) (pv 0) (pe_op op_mod (pv 4) (pe_callB (len_K K) (by rfl) B.len_ (by decide +kernel) (pa_cons (pv 0) pa_nil))) (fun _ _ => rfl)) pe_int) (pe_op op_mulM pe_int (pv 4))) pe_int) pe_int))
      (pss_one (ps_ret (pe_op op_mod (pe_op op_mod (pe_op op_mod (pe_op op_pow (pv 5) pe_int) pe_int) pe_int) (pv 2)))))))))), ?_⟩
  rintro args cs z cs' ⟨sc, ns, a, t, ⟨n, q⟩, m, rfl, hS, ⟨hm0, hm⟩, rfl, rfl, rfl⟩
  have hmi : (0 : Int) < (m : Int) := by omega
  have hdv : ∀ i : Int, CDiv i (m : Int) := fun i => ⟨hmi, by omega⟩
  have t1 : ∀ (ρ' : List Sl), ρ'[1]? = some (.raw (.ref t)) → Ev K (tOp (rIx K) (tVar 1) (tC (.int 1))) ρ' (twC t (n, q) :: sc) (.dat (eI q)) (twC t (n, q) :: sc) := fun ρ' h => ev_op (ev_varr 1 h) ev_int (opd_ixL (ds := [eI n, eI q]) (rds_cell 0 rfl) rds_dat rfl)
  refine run_ifS (b := decide (0 < q)) (EvT.is (et_test (ev_op (t1 _ rfl) ev_int (opd_gt (i := (q : Int)) (j := 0) rds_dat rds_dat))) (decide_eq_decide.mpr (by omega))) (fun h => ?_) (fun h => run_nextS ?_)
  · have h := of_decide_eq_true h
    have ed : drawM ns (n, q) m = (q % m, (n, q / m)) := by
      unfold drawM
      rw [if_pos h]
    rw [ed]
    refine run_assoc (run_asg 3 (Ev.is (e := eI (q % m)) (ev_op (t1 _ rfl) (ev_vard 2 rfl) (opd_mod (i := (q : Int)) (j := (m : Int)) rds_dat rds_dat hmi)) (by unfold eI; rw [Int.natCast_emod])) ?_)
    refine run_assoc (run_setL 0 (n := 1) (Ev.is (e := eI (q / m)) (ev_op (t1 _ rfl) (ev_vard 2 rfl) (opd_fdiv (i := (q : Int)) (j := (m : Int)) rds_dat rds_dat (hdv _))) (by unfold eI; rw [Int.natCast_ediv])) (ev_varr 1 rfl) ev_int rfl (by show 1 < 2; decide) ?_)
    exact run_retS (run_ret (ev_vard 3 rfl) ⟨rfl, List.Sublist.refl _⟩)
  have h := of_decide_eq_false h
  have hq : q = 0 := by omega
  subst hq
  refine run_asg 4 (ev_op (ev_varr 1 rfl) ev_int (opd_ixL (ds := [eI n, eI 0]) (rds_cell 0 rfl) rds_dat rfl)) ?_
  refine run_augL 0 (n := 0) (i := (n : Int)) (j := 1) (ev_varr 1 rfl) ev_int ev_int rfl rfl (by show 2 ≤ 100000; decide) ?_
  refine run_ifS (b := decide (ns = [])) (et_test (ev_op (ev_varr 0 rfl) (EvN.ev (evn_lst ea_nil dats_nil (by decide))) (opd_eqScr (hS.inn 1 rfl)))) (fun h => ?_) (fun h => run_nextS ?_)
  · have h := of_decide_eq_true h
    subst h
    have ed : drawM [] (n, 0) m = (n % m, (n + 1, 0)) := rfl
    rw [ed]
    exact run_retS (run_ret (z := .dat (eI (n % m))) (Ev.is (ev_op (ev_vard 4 rfl) (ev_vard 2 rfl) (opd_mod (i := (n : Int)) (j := (m : Int)) rds_dat rds_dat hmi)) (by unfold eI; rw [Int.natCast_emod])) ⟨rfl, List.Sublist.refl _⟩)
  have h := of_decide_eq_false h
  have hlen : 0 < ns.length := List.length_pos_iff.mpr h
  have p18 : (10 : Int) ^ (18 : Int).toNat = 1000000000000000000 := by decide
  refine run_ifS (b := decide (n < ns.length) && decide (10 ^ 18 ≤ ns.getD n 0)) (et_and (EvT.is (et_test (ev_op (ev_vard 4 rfl) (ev_cb (ea_cons (ev_varr 0 rfl) ea_nil) (cd_lenScr (hS.inn 1 rfl))) (opd_lt (i := (n : Int)) (j := (ns.length : Int)) rds_dat rds_dat))) (decide_eq_decide.mpr (by omega))) fun hn => EvT.is (et_test (ev_op (ev_op (ev_varr 0 rfl) (ev_vard 4 rfl) (opd_ixScr (hS.inn 1 rfl) (of_decide_eq_true hn))) (ev_op ev_int ev_int (opd_pow rds_dat rds_dat ⟨by decide, by decide, by decide⟩)) (opd_ge rds_dat rds_dat))) (by rw [p18, show (10 : Int) ^ 18 = 1000000000000000000 from by decide])) (fun h2 => ?_) (fun h2 => run_nextS ?_)
  · rw [Bool.and_eq_true, decide_eq_true_iff, decide_eq_true_iff] at h2
    obtain ⟨hn, hbig⟩ := h2
    have ed : drawM ns (n, 0) m = ((ns.getD n 0).toNat % m, (n + 1, (ns.getD n 0).toNat / m % bigN)) := by
      unfold drawM
      rw [if_neg (Nat.lt_irrefl 0), if_neg h, if_pos ⟨hn, hbig⟩]
    rw [ed]
    have hx : (((ns.getD n 0).toNat : Nat) : Int) = ns.getD n 0 := Int.toNat_of_nonneg (by omega)
    have eb : (10 : Int) ^ (60 : Int).toNat * 10 ^ (60 : Int).toNat = (bigN : Int) := by decide
    have hb0 : (0 : Int) < (10 : Int) ^ (60 : Int).toNat * 10 ^ (60 : Int).toNat := by decide
    have hmul : IntMulOk ((10 : Int) ^ (60 : Int).toNat) ((10 : Int) ^ (60 : Int).toNat) := by
      unfold IntMulOk
      decide +kernel
    refine run_assoc (run_setL 0 (n := 1) (Ev.is (e := eI ((ns.getD n 0).toNat / m % bigN)) (ev_op (ev_op (ev_op (ev_varr 0 rfl) (ev_vard 4 rfl) (opd_ixScr (hS.inn 1 rfl) hn)) (ev_vard 2 rfl) (opd_fdiv (j := (m : Int)) rds_dat rds_dat (hdv _))) (ev_op (ev_op ev_int ev_int (opd_pow rds_dat rds_dat ⟨by decide, by decide, by decide⟩)) (ev_op ev_int ev_int (opd_pow rds_dat rds_dat ⟨by decide, by decide, by decide⟩)) (opd_mulI rds_dat rds_dat hmul)) (opd_mod rds_dat rds_dat hb0)) ?_) (ev_varr 1 rfl) ev_int rfl (by show 1 < 2; decide) ?_)
    · rw [eb]
      unfold eI
      rw [Int.natCast_emod, Int.natCast_ediv, hx]
    · exact run_retS (run_ret (z := .dat (eI ((ns.getD n 0).toNat % m))) (Ev.is (ev_op (ev_op (ev_varr 0 rfl) (ev_vard 4 rfl) (opd_ixScr (hS.inn 1 rfl) hn)) (ev_vard 2 rfl) (opd_mod (j := (m : Int)) rds_dat rds_dat hmi)) (by unfold eI; rw [Int.natCast_emod, hx])) ⟨rfl, List.Sublist.refl _⟩)
  have ed : drawM ns (n, 0) m = (((ns.getD (n % ns.length) 0 * 1103515245 + 7919 * (n : Int) + 12345) % 2147483647).toNat ^ 5 % 2147483647 % 999983 % m, (n + 1, 0)) := by
    unfold drawM
    rw [if_neg (Nat.lt_irrefl 0), if_neg h, if_neg fun z => ?_]
    rw [decide_eq_true z.1, decide_eq_true z.2] at h2
    cases h2
  rw [ed]
  refine run_asg 5 (ev_op (ev_op (ev_op (ev_op (ev_op (ev_varr 0 rfl) (Ev.is (e := eI (n % ns.length)) (ev_op (ev_vard 4 rfl) (ev_cb (ea_cons (ev_varr 0 rfl) ea_nil) (cd_lenScr (hS.inn 1 rfl))) (opd_mod (i := (n : Int)) (j := (ns.length : Int)) rds_dat rds_dat (by omega))) (by unfold eI; rw [Int.natCast_emod])) (opd_ixScr (hS.inn 1 rfl) (Nat.mod_lt _ hlen))) ev_int (opd_mulI rds_dat rds_dat (.of_right (by decide +kernel)))) (ev_op ev_int (ev_vard 4 rfl) (opd_mulI (j := (n : Int)) rds_dat rds_dat (.of_left (by decide +kernel)))) (opd_addI rds_dat rds_dat)) ev_int (opd_addI rds_dat rds_dat)) ev_int (opd_mod rds_dat rds_dat (by decide))) ?_
  refine run_ret (z := .dat (eI _)) (Ev.is (ev_op (ev_op (ev_op (ev_op (ev_vard 5 rfl) ev_int (opd_pow rds_dat rds_dat ⟨by decide, by decide, ?_⟩)) ev_int (opd_mod rds_dat rds_dat (by decide))) ev_int (opd_mod rds_dat rds_dat (by decide))) (ev_vard 2 rfl) (opd_mod (j := (m : Int)) rds_dat rds_dat hmi)) ?_) ⟨rfl, List.Sublist.refl _⟩
  · generalize ns.getD (n % ns.length) 0 * 1103515245 + 7919 * (n : Int) + 12345 = x
    omega
  · rw [mix_eq]
    rfl
theorem ev_town {R : List Sl → Cs → Sl → Cs → Prop} {tr : TA} {ρ : List Sl} {cs cs1 sc : Cs} {zs : List Sl} {z : Sl} {E : XK} {t a : Addr} {tw tw' : Tw} {ns : List Int} (k : Nat) (hS : Scr K a ns sc) (h : EvA K tr ρ cs zs cs1) (hk : cs1[k]? = some (twC t tw)) (hd : cs1.drop (k + 1) = sc) (hR : R zs (twC t tw :: sc) z (twC t tw' :: sc)) : Ev K (tCall (SpG K R) [] E tr) ρ cs z (cs1.set k (twC t tw')) :=
  ev_callM k (ro := sc) h hk (sc_at k hd) hS.nd hR
def PickOk (d : PyData) (n : Nat) (f : Nat → PyData) : Prop := (∃ xs, d = .list xs ∧ n = xs.length ∧ f = fun i => xs.getD i .none) ∨ (∃ xs, d = .tuple xs ∧ n = xs.length ∧ f = fun i => xs.getD i .none) ∨ (∃ x : Str, d = .str x ∧ n = x.length ∧ f = fun i => .str ⟨#[x.cps.toList.getD i 0]⟩)
def rPick (K : PySem.W.Frag) : List Sl → Cs → Sl → Cs → Prop := fun args cs z cs' => ∃ (sc : Cs) (ns : List Int) (a t : Addr) (tw : Tw) (d : PyData) (n : Nat) (f : Nat → PyData), args = [.raw (.ref a), .raw (.ref t), .dat d] ∧ Scr K a ns sc ∧ PickOk d n f ∧ (0 < n ∧ n < 100000) ∧ cs = (twC t tw :: sc) ∧ cs' = (twC t (drawM ns tw n).2 :: sc) ∧ z = .dat (f (drawM ns tw n).1)
theorem getD_at {α : Type} {xs : List α} {i : Nat} {x : α} (h : i < xs.length) : atI xs (i : Int) = some (xs.getD i x) := by
  refine atI_get ?_
  rw [List.getD_eq_getElem?_getD, List.getElem?_eq_getElem h]
  rfl
theorem ok_law_pick (B : Co mg) (D : Def K mg "_law_pick" s__law_pick ["script", "town", "some"]) (c_law_draw : Cal P w K mg base 1 "_law_draw" ["script", "town", "many"] (SpG K (rDraw K))) : Cal P w K mg base 2 "_law_pick" ["script", "town", "some"] (SpG K (rPick K)) := by
  refine D.cal sc__law_pick (fun args cs z cs' ⟨_, _, _, _, _, _, _, _, e, _⟩ => by rw [e]; rfl) fun cdv A outer s H E f hr => ⟨_, (pss_one (ps_ret (pe_ix (ix_K K) (pv 2) (pe_cal c_law_draw hr (by decide) (by rfl) (pa_cons (pv 0) (pa_cons (pv 1) (pa_cons (pe_callB (len_K K) (by rfl) B.len_ (by decide +kernel) (pa_cons (pv 2) pa_nil)) pa_nil)))) (fun _ _ => rfl)))), ?_⟩
  rintro args cs z cs' ⟨sc, ns, a, t, tw, d, n, f, rfl, hS, hp, ⟨hn0, hn⟩, rfl, rfl, rfl⟩
  have hlt := drawM_lt ns tw hn0
  have key : ∀ {tl : TE}, Ev K tl (startR ["script", "town", "some"] [.raw (.ref a), .raw (.ref t), .dat d]) (twC t tw :: sc) (.dat (eI n)) (twC t tw :: sc) → ∀ {E : XK}, Ev K (tCall (SpG K (rDraw K)) [] E (tCons (tVar 0) (tCons (tVar 1) (tCons tl tNil)))) (startR ["script", "town", "some"] [.raw (.ref a), .raw (.ref t), .dat d]) (twC t tw :: sc) (.dat (eI (drawM ns tw n).1)) (twC t (drawM ns tw n).2 :: sc) := fun h E =>
    ev_town 0 hS (ea_cons (ev_varr 0 rfl) (ea_cons (ev_varr 1 rfl) (ea_cons h ea_nil))) rfl rfl ⟨sc, ns, a, t, tw, n, rfl, hS, ⟨hn0, by omega⟩, rfl, rfl, rfl⟩
  rcases hp with ⟨xs, rfl, rfl, rfl⟩ | ⟨xs, rfl, rfl, rfl⟩ | ⟨x, rfl, rfl, rfl⟩
  · exact run_ret (ev_op (ev_vard 2 rfl) (key (ev_cb (ea_cons (ev_vard 2 rfl) ea_nil) (cd_lenL rds_dat))) (opd_ixL rds_dat rds_dat (getD_at hlt))) ⟨rfl, List.Sublist.refl _⟩
  · exact run_ret (ev_op (ev_vard 2 rfl) (key (ev_cb (ea_cons (ev_vard 2 rfl) ea_nil) (cd_lenT rds_dat))) (opd_ixT rds_dat rds_dat (getD_at hlt))) ⟨rfl, List.Sublist.refl _⟩
  · exact run_ret (ev_op (ev_vard 2 rfl) (key (ev_cb (ea_cons (ev_vard 2 rfl) ea_nil) (cd_lenS rds_dat (by omega)))) (opd_ixS rds_dat rds_dat (by omega) (getD_at hlt))) ⟨rfl, List.Sublist.refl _⟩
theorem rangeD0 (n : Nat) : rangeD 0 n = (List.range n).map eI := by
  unfold rangeD eI
  refine List.map_congr_left fun i _ => ?_
  rw [Int.zero_add]
theorem erase_map {α β : Type} (f : α → β) : ∀ (l : List α) (i : Nat), (l.map f).eraseIdx i = (l.eraseIdx i).map f
  | [], _ => rfl
  | x :: l, 0 => rfl
  | x :: l, i + 1 => by
    show f x :: (l.map f).eraseIdx i = f x :: (l.eraseIdx i).map f
    rw [erase_map f l i]
/-! ### a sign is drawn -/
def rSign (K : PySem.W.Frag) : List Sl → Cs → Sl → Cs → Prop := fun args cs z cs' => ∃ (sc : Cs) (ns : List Int) (a t : Addr) (tw : Tw) (most : Nat), args = [.raw (.ref a), .raw (.ref t), .dat (eI most)] ∧ Scr K a ns sc ∧ (1 ≤ most ∧ most ≤ 7) ∧ cs = (twC t tw :: sc) ∧ cs' = (twC t (signM ns tw most).2 :: sc) ∧ z = .dat (encS (signM ns tw most).1)
theorem sh_L (p : Nat × Nat) : Sh 1 (encL p) := sh_tuple (sha_cons sh_int (sha_cons sh_int sha_nil))
theorem wires_get (i : Nat) (h : i < 6) : ([.int 2, .int 3, .int 3, .int 4, .int 4, .int 5] : List PyData).getD i .none = eI (([2, 3, 3, 4, 4, 5] : List Nat).getD i 0) := by
  match i, h with
  | 0, _ => rfl
  | 1, _ => rfl
  | 2, _ => rfl
  | 3, _ => rfl
  | 4, _ => rfl
  | 5, _ => rfl
theorem mul_small {i j : Int} (h : -(2 ^ 64) < i) (h' : i < 2 ^ 64) : IntMulOk i j := .of_left (intBits_le_64 h h')
/-! ### a turn is drawn -/
theorem join_chars : ∀ l : List Nat, Txt.join (⟨#[]⟩ : Str) (l.map fun c => (⟨#[c]⟩ : Str)) = tS l := fun l => by
  rw [TL.join_eq]
  induction l with
  | nil => rfl
  | cons c l ih =>
    cases l with
    | nil => rfl
    | cons d l =>
      show (⟨#[c]⟩ : Str) ++ (⟨#[]⟩ : Str) ++ Str.join (⟨#[]⟩ : Str) ((d :: l).map fun c => (⟨#[c]⟩ : Str)) = _
      rw [ih]
      show tS [c] ++ tS [] ++ tS (d :: l) = _
      rw [tS_append, tS_append]
      rfl
def rTurn (K : PySem.W.Frag) : List Sl → Cs → Sl → Cs → Prop := fun args cs z cs' => ∃ (sc : Cs) (ns : List Int) (a t : Addr) (tw : Tw) (s : Sg), args = [.raw (.ref a), .raw (.ref t), .dat (encS s)] ∧ Scr K a ns sc ∧ OkS s ∧ cs = (twC t tw :: sc) ∧ cs' = (twC t (turnM ns s.w tw).2 :: sc) ∧ z = .dat (encT (turnM ns s.w tw).1)
end
--END
end LW

set_option Elab.async false
set_option linter.all false
set_option maxRecDepth 100000
set_option maxHeartbeats 4000000
namespace LW
open PySem PySem.Spec PyProof.Rows L2
--BEGIN

section
variable {P : Program} {w : World} {K : PySem.W.Frag} {mg : Str → Option Value} {base : Heap}
/-- a comprehension with a test -/
theorem evn_flt {α : Type} {ρ : List Sl} {cs cs1 : Cs} {te : TE} {wi : TI} {g : TG} {tt : TT} {vs : List Nat} {xs : List α} {enc : α → PyData} (p : α → Bool) (f : α → PyData) (hi : EvI K wi ρ cs (xs.map enc) cs1) (hl : xs.length ≤ 100000)
    (hs : ∀ x ∈ xs, ∃ as, Tg g (enc x) as ∧ (∀ a ∈ as.map (·.1), a ∈ vs) ∧ EvT K tt (setsR (wipeR ρ vs) as) cs1 (p x) cs1 ∧ Ev K te (setsR (wipeR ρ vs) as) cs1 (.dat (f x)) cs1) : EvN K (tLc wi g tt te vs) ρ cs (.lst ((xs.filter p).map f)) cs1 := by
  refine (evn_lcE (enc2 := id) (fun x => if p x then some (f x) else none) hi hl fun x hx => ?_).is (by rw [List.map_id, filterMap_if])
  obtain ⟨as, h1, h2, h3, h4⟩ := hs x hx
  refine ⟨as, h1, h2, ?_⟩
  cases hp : p x with
  | true =>
    rw [hp] at h3
    exact ⟨h3, h4⟩
  | false =>
    rw [hp] at h3
    exact h3
def rLGlow : List Sl → Cs → Sl → Cs → Prop := fun args cs z cs' => ∃ (s : Sg) (t : List Nat), args = [.dat (encS s), .dat (encT t)] ∧ OkS s ∧ OkT s t ∧ cs = [] ∧ cs' = [] ∧ z = .dat (encP (glowM s t))
theorem last_len {s : Sg} (h7 : s.L.length ≤ 7) (t : List Nat) : (lastM s t).length ≤ 7 := by
  unfold lastM
  refine Nat.le_trans (List.length_filter_le _ _) ?_
  rw [List.length_range]
  exact h7
theorem first_len {s : Sg} (h7 : s.L.length ≤ 7) (t : List Nat) : (firstM s t).length ≤ 7 := by
  unfold firstM
  refine Nat.le_trans (List.length_filter_le _ _) ?_
  rw [List.length_range]
  exact h7
theorem rest_len {s : Sg} (h7 : s.L.length ≤ 7) (t : List Nat) (b : Nat) : (restM s t b).length ≤ 7 := Nat.le_trans (List.length_filter_le _ _) (last_len h7 t)
theorem in_cast (b : Nat) (l : List Nat) : decide ((b : Int) ∈ castN l) = decide (b ∈ l) := by
  refine decide_eq_decide.mpr ?_
  rw [mem_castN]
  exact ⟨fun ⟨i, e, h⟩ => by
    have : b = i := by omega
    rw [this]
    exact h, fun h => ⟨b, rfl, h⟩⟩
theorem map_eI (l : List Nat) : l.map eI = (castN l).map PyData.int := by
  unfold castN
  rw [List.map_map]
  rfl
theorem step_len {s : Sg} (h7 : s.L.length ≤ 7) (t : List Nat) (a b : Nat) : (stepM s t a b).length ≤ 11 := by
  have q := rest_len h7 t b
  unfold stepM
  split
  · rw [List.length_append]
    split <;> split <;> (try rw [List.length_append]) <;> (try split) <;> simp <;> omega
  · exact Nat.zero_le _
theorem lawF_len {s : Sg} (hl7 : s.L.length ≤ 7) (t : List Nat) : (lawF s t).length ≤ 4000 := by
  unfold lawF
  rw [List.length_append]
  have q0 : ((firstM s t).filter fun a => decide (a ∈ lastM s t)).length ≤ 7 := Nat.le_trans (List.length_filter_le _ _) (first_len hl7 t)
  have q2 : ∀ (a : Nat) (l : List Nat), (l.flatMap (stepM s t a)).length ≤ 11 * l.length := fun a l => by
    induction l with
    | nil => exact Nat.le_refl _
    | cons b l ih =>
      rw [List.flatMap_cons, List.length_append, List.length_cons]
      have := step_len hl7 t a b
      omega
  have q3 : ∀ (l : List Nat), (l.flatMap fun a => (List.range s.L.length).flatMap (stepM s t a)).length ≤ 77 * l.length := fun l => by
    induction l with
    | nil => exact Nat.le_refl _
    | cons b l ih =>
      rw [List.flatMap_cons, List.length_append, List.length_cons]
      have h := q2 b (List.range s.L.length)
      rw [List.length_range] at h
      omega
  have q4 := q3 (firstM s t)
  have q5 := first_len hl7 t
  split
  · omega
  · rw [List.length_nil]
    omega
end
--END
end LW

set_option Elab.async false
set_option linter.all false
set_option maxRecDepth 100000
set_option maxHeartbeats 4000000
namespace LW
open PySem PySem.Spec PyProof.Rows L2
--BEGIN
abbrev s_turns_of : Stmt := topS 19
theorem sc_turns_of : FnScope ["sign", "found", "wire", "turn", "state"] ["sign"] (defScope s_turns_of) := ⟨rfl, rfl, rfl, by decide +kernel, rfl, by decide +kernel, by decide +kernel⟩
abbrev s_glows_of : Stmt := topS 20
theorem sc_glows_of : FnScope ["sign", "found", "turn", "picture"] ["sign"] (defScope s_glows_of) := ⟨rfl, rfl, rfl, by decide +kernel, rfl, by decide +kernel, by decide +kernel⟩
abbrev s_within : Stmt := topS 22
theorem sc_within : FnScope ["small", "large", "lamp"] ["small", "large"] (defScope s_within) := ⟨rfl, rfl, rfl, by decide +kernel, rfl, by decide +kernel, by decide +kernel⟩
abbrev s_join : Stmt := topS 23
theorem sc_join : FnScope ["one", "two"] ["one", "two"] (defScope s_join) := ⟨rfl, rfl, rfl, by decide +kernel, rfl, by decide +kernel, by decide +kernel⟩
abbrev s_clean_glows : Stmt := topS 24
theorem sc_clean_glows : FnScope ["glows", "picture", "one"] ["glows", "picture"] (defScope s_clean_glows) := ⟨rfl, rfl, rfl, by decide +kernel, rfl, by decide +kernel, by decide +kernel⟩
abbrev s_largest_glows : Stmt := topS 25
theorem sc_largest_glows : FnScope ["glows", "picture", "clean", "one", "two"] ["glows", "picture"] (defScope s_largest_glows) := ⟨rfl, rfl, rfl, by decide +kernel, rfl, by decide +kernel, by decide +kernel⟩
abbrev s_cover : Stmt := topS 26
theorem sc_cover : FnScope ["glows", "picture", "parts", "sources", "level", "later", "seen", "part", "reached", "found"] ["glows", "picture"] (defScope s_cover) := ⟨rfl, rfl, rfl, by decide +kernel, rfl, by decide +kernel, by decide +kernel⟩
abbrev s_need_picture : Stmt := topS 15
theorem sc_need_picture : FnScope ["sign", "value", "lamp"] ["sign", "value"] (defScope s_need_picture) := ⟨rfl, rfl, rfl, by decide +kernel, rfl, by decide +kernel, by decide +kernel⟩
abbrev s_fewest : Stmt := topS 27
theorem sc_fewest : FnScope ["sign", "picture", "glows", "found", "part"] ["sign", "picture"] (defScope s_fewest) := ⟨rfl, rfl, rfl, by decide +kernel, rfl, by decide +kernel, by decide +kernel⟩
section
variable {P : Program} {w : World} {K : PySem.W.Frag} {mg : Str → Option Value} {base : Heap}
def rTurnsOf : List Sl → Cs → Sl → Cs → Prop := fun args cs z cs' => ∃ s : Sg, args = [.dat (encS s)] ∧ OkS s ∧ cs = [] ∧ cs' = [] ∧ z = .dat (.list ((turnsM s.w).map encT))
theorem ok_turns_of (B : Co mg) (D : Def K mg "turns_of" s_turns_of ["sign"]) : Cal P w K mg base 1 "turns_of" ["sign"] (SpG K rTurnsOf) := by
  refine D.cal sc_turns_of (fun args cs z cs' ⟨_, e, _⟩ => by rw [e]; rfl) fun cdv A outer s H E f hr => ⟨_, (pss_cons (ps_set (i := 1) sc_turns_of.nd rfl (by first | exact Or.inl rfl | exact Or.inr rfl) (pe_lst (pa_cons pe_str pa_nil)))
      (pss_cons (ps_for PassesOwn.never rfl (pi_range1 (by rfl) B.range_ (pa_cons (pe_ix (ix_K K) (pv 0) pe_int (fun _ _ => rfl)) pa_nil)) (pg_name (i := 2) sc_turns_of.nd rfl (by first | exact Or.inl rfl | exact Or.inr rfl)) (pss_one (ps_setLc2 (i := 1) (own := [("turn", 3), ("state", 4)]) (vs1 := [4]) rfl sc_turns_of.nd rfl rfl (sw_true rfl rfl rfl (by decide +kernel)) (pi_K K (pv 1)) (blkOk_by (N := ["sign", "found", "wire", "turn", "state"]) (sc := (defScope s_turns_of)) (by decide +kernel)) (by decide) (fun _ _ _ _ _ => (pg_name (i := 3) sc_turns_of.nd rfl (by first | exact Or.inl rfl | exact Or.inr rfl))) (fun _ _ _ _ _ => pts_nil) (fun _ _ _ _ _ => (pi_K K (pe_glob (v := .str "+-0") rfl B.STATES.choose_spec ⟨_, rfl⟩))) (fun _ _ _ _ _ => (pg_name (i := 4) sc_turns_of.nd rfl (by first | exact Or.inl rfl | exact Or.inr rfl))) (fun _ _ _ _ _ => pts_nil) (fun _ _ _ _ _ => (pe_op (op_addK K) (pv 3) (pv 4))))))
      (pss_one (ps_ret (pv 1))))), ?_⟩
  rintro args cs z cs' ⟨s, rfl, ok, rfl, rfl, rfl⟩
  have h5 := ok.w5
  have es : signsD (Str.ofString "+-0") = [43, 45, 48].map fun c => PyData.str ⟨#[c]⟩ := by
    rw [show Str.ofString "+-0" = ⟨#[43, 45, 48]⟩ from by decide +kernel]
    rfl
  have e0 : (Str.ofString "") = tS [] := by decide +kernel
  refine run_asg 1 (Ev.is (e := .list ((turnsM 0).map encT)) (EvN.ev (evn_lst (ea_cons ev_str ea_nil) (dats_cons dats_nil) (by show 1 ≤ 100000; decide))) (by rw [e0]; rfl)) ?_
  refine run_seq (fun ρ' c => ∃ x2 x3 x4 : Sl, ρ' = [.dat (encS s), .dat (.list ((turnsM s.w).map encT)), x2, x3, x4] ∧ c = []) (run_for (items := rangeD 0 (s.w : Int).toNat) (fun i ρ' c => i ≤ s.w ∧ ∃ x2 x3 x4 : Sl, ρ' = [.dat (encS s), .dat (.list ((turnsM i).map encT)), x2, x3, x4] ∧ c = []) (ei_range1 (n := (s.w : Int)) (ea_cons (ev_op (ev_vard 0 rfl) ev_int (opd_ixT rds_dat rds_dat rfl)) ea_nil) (by omega) (by omega)) ⟨Nat.zero_le _, _, _, _, rfl, rfl⟩ ?_ ?_) ?_
  · rintro i d ρ' c hi ⟨hi5, x2, x3, x4, rfl, rfl⟩
    obtain ⟨hi', rfl⟩ := rangeD_get hi
    rw [Int.toNat_natCast] at hi'
    refine ⟨_, tg_name 2, ?_⟩
    have hlen : (turnsM i).length ≤ 243 := turnsM_small (by omega)
    have hlen2 : (turnsM (i + 1)).length ≤ 243 := turnsM_small (by omega)
    have ef : ((turnsM i).flatMap fun t => [43, 45, 48].map fun c => encT (t ++ [c])) = (turnsM (i + 1)).map encT := by
      show _ = ((turnsM i).flatMap fun t => [t ++ [43], t ++ [45], t ++ [48]]).map encT
      rw [List.map_flatMap]
      rfl
    refine run_asg1 1 (Ev.is (EvN.ev (evn_lc2 (xs := turnsM i) (enc := encT) (fun _ => [43, 45, 48]) (encB := fun c => PyData.str ⟨#[c]⟩) (fun t c => encT (t ++ [c])) (ei_ML (ev_vard 1 rfl)) (by rw [ef, List.length_map]; omega) fun t ht => ⟨_, tg_name 3, by simp, by rw [← es]; exact ei_MS ev_str, fun q hq => ⟨_, tg_name 4, by simp, Ev.is (ev_op (ev_vard 3 rfl) (ev_vard 4 rfl) (opd_addS (a := tS t) (b := tS [q]) rds_dat rds_dat ?_)) ?_⟩⟩)) (by rw [ef])) ⟨by omega, _, _, _, rfl, rfl⟩
    · have := ((mem_turnsM i t).mp ht).1
      rw [tS_len, tS_len, this]
      show i + 1 ≤ 100000
      omega
    · rw [tS_append]
      rfl
  · rintro ρ' c ⟨_, x2, x3, x4, rfl, rfl⟩
    refine ⟨x2, x3, x4, ?_, rfl⟩
    rw [rangeD_len, Int.toNat_natCast]
  · rintro ρ' c ⟨x2, x3, x4, rfl, rfl⟩
    exact run_ret (ev_vard 1 rfl) ⟨rfl, List.Sublist.refl _⟩
/-! ### the glows -/
def encG (g : GL) : KD := g.map fun x => (x.1, encT x.2)
theorem encG_keys (g : GL) : (encG g).map (·.1) = keysG g := by
  unfold encG keysG
  rw [List.map_map]
  rfl
theorem encG_in (g : GL) (p : List Int) : (lookD (encG g) p).isSome = decide (p ∈ keysG g) := by
  rw [lookD_some, Bool.eq_iff_iff, List.any_eq_true, decide_eq_true_iff, ← encG_keys]
  exact ⟨fun ⟨x, h1, h2⟩ => List.mem_map.mpr ⟨x, h1, of_decide_eq_true h2⟩, fun h => by
    obtain ⟨x, h1, h2⟩ := List.mem_map.mp h
    exact ⟨x, h1, decide_eq_true h2⟩⟩
theorem encG_put {g : GL} {p : List Int} {t : List Nat} (h : p ∉ keysG g) : putD (encG g) p (encT t) = encG (g ++ [(p, t)]) := by
  unfold putD
  have e : ((encG g).any fun x => decide (x.1 = p)) = false := by
    rw [← lookD_some, encG_in]
    exact decide_eq_false h
  rw [e, if_neg (by decide)]
  unfold encG
  rw [List.map_append]
  rfl
theorem encG_len (g : GL) : (encG g).length = g.length := by
  unfold encG
  rw [List.length_map]
def rGlowsOf : List Sl → Cs → Ce → Cs → Prop := fun args cs z cs' => ∃ s : Sg, args = [.dat (encS s)] ∧ OkS s ∧ cs = [] ∧ cs' = [] ∧ z = .dic (encG (glowsM s))
theorem eqv_tup0 (p : List Int) : PyData.eqv (encP p) (.tuple []) = p.isEmpty := by
  rw [show PyData.eqv (encP p) (.tuple []) = decide (p = []) from eqv_tup p []]
  cases p <;> simp
theorem ok_glows_of (B : Co mg) (D : Def K mg "glows_of" s_glows_of ["sign"]) (c_turns_of : Cal P w K mg base 1 "turns_of" ["sign"] (SpG K rTurnsOf)) (c_glow_of : Cal P w K mg base 2 "glow_of" ["sign", "turn"] (SpG K rGlowOf)) : Cal P w K mg base 3 "glows_of" ["sign"] (SpN K rGlowsOf) := by
  refine D.calN sc_glows_of (fun args cs z cs' ⟨_, e, _⟩ => by rw [e]; rfl) (fun args cs z cs' ⟨_, _, _, e1, e2, _⟩ => by rw [e1, e2]) fun cdv A outer s H E f hr => ⟨_, (pss_cons (ps_set (i := 1) sc_glows_of.nd rfl (by first | exact Or.inl rfl | exact Or.inr rfl) pe_dnewT)
      (pss_cons (ps_for PassesOwn.never rfl (pi_K K (pe_cal c_turns_of hr (by decide) (by rfl) (pa_cons (pv 0) pa_nil))) (pg_name (i := 2) sc_glows_of.nd rfl (by first | exact Or.inl rfl | exact Or.inr rfl)) (pss_cons (ps_set (i := 3) sc_glows_of.nd rfl (by first | exact Or.inl rfl | exact Or.inr rfl) (pe_cal c_glow_of hr (by decide) (by rfl) (pa_cons (pv 0) (pa_cons (pv 2) pa_nil))))
      (pss_one (ps_if (PW.pt (pw_and (pt_cmpR (op_neK K (ru hr)) (pv 3) (pe_tup pa_nil) (nomark _)) (pw_and1 (pt_cmp (pc_dnotin (hu_of hr) (pv 3) (pv 1)))))) (pss_one (ps_dput (hu_of hr) (pv 1) (pv 3) (pv 2) rfl)) pss_nil))))
      (pss_one (ps_ret (pv 1))))), ?_⟩
  rintro args cs z cs' ⟨s, rfl, ok, rfl, rfl, rfl⟩
  have h5 := ok.w5
  have hlen : (turnsM s.w).length ≤ 243 := turnsM_small h5
  refine run_asgN 1 evn_dnew fun pf => ?_
  refine run_seq (fun ρ' c => ∃ x2 x3 : Sl, ρ' = [.dat (encS s), .raw (.ref pf), x2, x3] ∧ c = [(pf, .dic (encG (glowsM s)))]) (run_for (items := (turnsM s.w).map encT) (cs1 := [(pf, .dic [])]) (fun i ρ' c => ∃ x2 x3 : Sl, ρ' = [.dat (encS s), .raw (.ref pf), x2, x3] ∧ c = [(pf, .dic (encG (((turnsM s.w).take i).foldl (addG s) [])))]) (ei_ML (ev_call (sub := []) (ea_cons (ev_vard 0 rfl) ea_nil) (List.nil_sublist _) ⟨s, rfl, ok, rfl, rfl, rfl⟩)) ⟨_, _, rfl, rfl⟩ ?_ ?_) ?_
  · rintro i d ρ' c hi ⟨x2, x3, rfl, rfl⟩
    rw [List.getElem?_map] at hi
    obtain ⟨t, ht, rfl⟩ := Option.map_eq_some_iff.mp hi
    have okT := turns_okT.mp (List.mem_of_getElem? ht)
    refine ⟨_, tg_name 2, ?_⟩
    have hnext : ((turnsM s.w).take (i + 1)).foldl (addG s) [] = addG s (((turnsM s.w).take i).foldl (addG s) []) t := by
      rw [List.take_add_one, ht, List.foldl_append]
      rfl
    rw [hnext]
    have hg : GlOk s ((turnsM s.w).take i) (((turnsM s.w).take i).foldl (addG s) []) := by
      have h := glows_fold (s := s) ((turnsM s.w).take i) [] [] ⟨List.nodup_nil, fun p hp => (nomatch hp), fun t ht => (nomatch ht), Nat.le_refl _⟩
      exact h
    have hgl := hg.len
    rw [List.length_take] at hgl
    generalize (((turnsM s.w).take i).foldl (addG s) []) = g at hg hgl
    refine run_asg 3 (ev_call (sub := []) (ea_cons (ev_vard 0 rfl) (ea_cons (ev_vard 2 rfl) ea_nil)) (List.nil_sublist _) ⟨s, t, rfl, ok, okT, rfl, rfl, rfl⟩) ?_
    refine run_if (b := decide (glowM s t ≠ []) && decide (glowM s t ∉ keysG g)) (et_and (EvT.is (et_test (ev_op (ev_vard 3 rfl) (ev_tup ea_nil dats_nil (by decide)) (opd_neM rds_dat rds_dat (Sh.ok (n := 1) (sh_P _) (by decide)) (Sh.ok (n := 1) (sh_tuple sha_nil) (by decide))))) ?_) fun _ => EvT.is (et_B (ev_dnotin 0 (ev_vard 3 rfl) (ev_varr 1 rfl) rfl)) ?_) (fun hc => ?_) (fun hc => ?_)
    · rw [eqv_tup0]
      cases glowM s t <;> simp
    · rw [encG_in]
      by_cases h : glowM s t ∈ keysG g
      · simp [h]
      · simp [h]
    · rw [Bool.and_eq_true, decide_eq_true_iff, decide_eq_true_iff] at hc
      refine run_dput1 0 (ev_vard 2 rfl) (ev_varr 1 rfl) (ev_vard 3 rfl) rfl (by rw [encG_len]; omega) ⟨_, _, rfl, ?_⟩
      unfold addG
      rw [if_pos (show glowM s t ≠ [] ∧ glowM s t ∉ g.map (·.1) from hc), encG_put hc.2]
      rfl
    · refine run_next ⟨_, _, rfl, ?_⟩
      unfold addG
      rw [if_neg (show ¬ (glowM s t ≠ [] ∧ glowM s t ∉ g.map (·.1)) from fun z => by
        rw [decide_eq_true z.1, decide_eq_true (show glowM s t ∉ keysG g from z.2)] at hc
        cases hc)]
  · rintro ρ' c ⟨x2, x3, rfl, rfl⟩
    refine ⟨x2, x3, rfl, ?_⟩
    rw [List.length_map, List.take_length]
    rfl
  · rintro ρ' c ⟨x2, x3, rfl, rfl⟩
    exact run_ret (ev_varr 1 rfl) ⟨pf, rfl, List.Sublist.refl _⟩
/-! ### pictures -/
theorem glow_pic {s : Sg} (ok : OkS s) (t : List Nat) : Pic (glowM s t) := ⟨glowM_sorted s t, fun x hx => by
  have h := glowM_lt hx
  have q := ok.l7
  omega⟩
def rWithin : List Sl → Cs → Sl → Cs → Prop := fun args cs z cs' => ∃ a b : List Int, args = [.dat (encP a), .dat (encP b)] ∧ a.length ≤ 1000 ∧ cs = [] ∧ cs' = [] ∧ z = .dat (.bool (withinM a b))
theorem ok_within (B : Co mg) (D : Def K mg "within" s_within ["small", "large"]) : Cal P w K mg base 1 "within" ["small", "large"] (SpG K rWithin) := by
  refine D.cal sc_within (fun args cs z cs' ⟨_, _, e, _⟩ => by rw [e]; rfl) fun cdv A outer s H E f hr => ⟨_, (pss_one (ps_ret (pe_callB (all_K K) (by rfl) B.all_ (by decide +kernel) (pa_cons (pe_lc (own := [("lamp", 2)]) rfl sc_within.nd  (pi_K K (pv 0)) (blkOk_by (N := ["small", "large", "lamp"]) (sc := (defScope s_within)) (by decide +kernel)) (fun _ _ _ _ _ => (pg_name (i := 2) sc_within.nd rfl (by first | exact Or.inl rfl | exact Or.inr rfl))) (fun _ _ _ _ _ => pts_nil) (fun _ _ _ _ _ => (pe_cmpR (op_inK K (ru hr)) (pv 2) (pv 1) rfl))) pa_nil)))), ?_⟩
  rintro args cs z cs' ⟨a, b, rfl, hl, rfl, rfl, rfl⟩
  refine run_ret (z := .dat (.bool (withinM a b))) (Ev.is (ev_cb (ea_cons (EvN.ev (evn_map (xs := a) (enc := PyData.int) (fun x => .bool (decide (x ∈ b))) (ei_MT (ev_vard 0 rfl)) (by omega) fun x hx => ⟨_, tg_name 2, by simp, ev_op (ev_vard 2 rfl) (ev_vard 1 rfl) (opd_inT rds_dat rds_dat)⟩)) ea_nil) (cd_all (bs := a.map fun x => decide (x ∈ b)) (by rw [List.map_map]; exact rds_dat))) ?_) ⟨rfl, List.Sublist.refl _⟩
  unfold withinM
  rw [List.all_map]
  rfl
def rJoinP : List Sl → Cs → Sl → Cs → Prop := fun args cs z cs' => ∃ a b : List Int, args = [.dat (encP a), .dat (encP b)] ∧ Pic a ∧ Pic b ∧ cs = [] ∧ cs' = [] ∧ z = .dat (encP (joinM a b))
theorem ok_join (B : Co mg) (D : Def K mg "join" s_join ["one", "two"]) : Cal P w K mg base 1 "join" ["one", "two"] (SpG K rJoinP) := by
  refine D.cal sc_join (fun args cs z cs' ⟨_, _, e, _⟩ => by rw [e]; rfl) fun cdv A outer s H E f hr => ⟨_, (pss_one (ps_ret (pe_callTy (tuple_K K) (by rfl) B.tuple_ (by decide +kernel) (pa_cons (pe_callB (sortedSet_K w) (by rfl) B.sorted_ (by decide +kernel) (pa_cons (pe_callTy (setI_K K w) (by rfl) B.set_ (by decide +kernel) (pa_cons (pe_op (op_addK K) (pv 0) (pv 1)) pa_nil)) pa_nil)) pa_nil)))), ?_⟩
  rintro args cs z cs' ⟨a, b, rfl, ha, hb, rfl, rfl, rfl⟩
  have la := ha.len
  have lb := hb.len
  refine run_ret (z := .dat (encP (joinM a b))) (Ev.is (ev_cb (ea_cons (EvN.ev (evn_sortedSet (ns := a ++ b) (cs1 := []) (ev_op (ev_vard 0 rfl) (ev_vard 1 rfl) (opd_addT rds_dat rds_dat (by rw [List.length_map, List.length_map]; omega))) (.inr (by rw [List.map_append]; exact rds_dat)) (by rw [List.length_append]; omega) ⟨castN (List.range 7), by decide, fun x hx => ?_⟩)) ea_nil) (cd_tupleL rds_dat)) rfl) ⟨rfl, List.Sublist.refl _⟩
  have h : 0 ≤ x ∧ x < 7 := (List.mem_append.mp hx).elim (ha.lt x) (hb.lt x)
  exact mem_castN.mpr ⟨x.toNat, by omega, List.mem_range.mpr (by omega)⟩
/-- a table of glows -/
structure GlP (g : GL) : Prop where
  pic : ∀ k ∈ keysG g, Pic k
  len : g.length ≤ 243
  nd : (keysG g).Nodup
theorem glows_glp {s : Sg} (ok : OkS s) : GlP (glowsM s) := by
  have h := glowsM_ok s
  refine ⟨fun k hk => ?_, Nat.le_trans h.len (turnsM_small ok.w5), h.nd⟩
  obtain ⟨x, hx, e⟩ := List.mem_map.mp hk
  obtain ⟨h1, _, _⟩ := h.is x hx
  have e : x.1 = k := e
  rw [← e, h1]
  exact glow_pic ok _
theorem GlP.klen {g : GL} (h : GlP g) : (keysG g).length ≤ 243 := by
  unfold keysG
  rw [List.length_map]
  exact h.len
def rClean : List Sl → Cs → Sl → Cs → Prop := fun args cs z cs' => ∃ (d : Addr) (g : GL) (p : List Int), args = [.raw (.ref d), .dat (encP p)] ∧ GlP g ∧ cs = [(d, .dic (encG g))] ∧ cs' = cs ∧ z = .dat (.list ((cleanM (keysG g) p).map encP))
theorem ok_clean_glows (B : Co mg) (D : Def K mg "clean_glows" s_clean_glows ["glows", "picture"]) (c_within : Cal P w K mg base 1 "within" ["small", "large"] (SpG K rWithin)) : Cal P w K mg base 2 "clean_glows" ["glows", "picture"] (SpG K rClean) := by
  refine D.cal sc_clean_glows (fun args cs z cs' ⟨_, _, _, e, _⟩ => by rw [e]; rfl) fun cdv A outer s H E f hr => ⟨_, (pss_one (ps_ret (pe_lock (pe_lc (own := [("one", 2)]) rfl sc_clean_glows.nd  (pi_keys (pv 0)) (blkOk_by (N := ["glows", "picture", "one"]) (sc := (defScope s_clean_glows)) (by decide +kernel)) (fun _ _ _ _ _ => (pg_name (i := 2) sc_clean_glows.nd rfl (by first | exact Or.inl rfl | exact Or.inr rfl))) (fun _ _ _ _ _ => (pts_one (pt_val (pe_cal c_within hr (by decide) (by rfl) (pa_cons (pv 2) (pa_cons (pv 1) pa_nil)))))) (fun _ _ _ _ _ => (pv 2)))))), ?_⟩
  rintro args cs z cs' ⟨d, g, p, rfl, hg, rfl, rfl, rfl⟩
  refine run_ret (EvN.ev (evn_lockD 0 0 rfl rfl ?_)) ⟨rfl, List.Sublist.refl _⟩
  rw [encG_keys]
  refine evn_flt (xs := keysG g) (enc := encP) (fun k => withinM k p) encP (ei_fd (ev_var 0 rfl (fun z => nomatch z))) (by have := hg.klen; omega) fun k hk => ⟨_, tg_name 2, by simp, et_B (ev_call (sub := []) (ea_cons (ev_vard 2 rfl) (ea_cons (ev_vard 1 rfl) ea_nil)) (List.nil_sublist _) ⟨k, p, rfl, ?_, rfl, rfl, rfl⟩), ev_vard 2 rfl⟩
  have := (hg.pic k hk).len
  omega
def rLargest : List Sl → Cs → Sl → Cs → Prop := fun args cs z cs' => ∃ (d : Addr) (g : GL) (p : List Int), args = [.raw (.ref d), .dat (encP p)] ∧ GlP g ∧ cs = [(d, .dic (encG g))] ∧ cs' = cs ∧ z = .dat (.list ((largestM (keysG g) p).map encP))
theorem ok_largest_glows (B : Co mg) (D : Def K mg "largest_glows" s_largest_glows ["glows", "picture"]) (c_within : Cal P w K mg base 1 "within" ["small", "large"] (SpG K rWithin)) (c_clean_glows : Cal P w K mg base 2 "clean_glows" ["glows", "picture"] (SpG K rClean)) : Cal P w K mg base 3 "largest_glows" ["glows", "picture"] (SpG K rLargest) := by
  refine D.cal sc_largest_glows (fun args cs z cs' ⟨_, _, _, e, _⟩ => by rw [e]; rfl) fun cdv A outer s H E f hr => ⟨_, (pss_cons (ps_set (i := 2) sc_largest_glows.nd rfl (by first | exact Or.inl rfl | exact Or.inr rfl) (pe_cal c_clean_glows hr (by decide) (by rfl) (pa_cons (pv 0) (pa_cons (pv 1) pa_nil))))
      (pss_one (ps_ret (pe_lc (own := [("one", 3)]) rfl sc_largest_glows.nd  (pi_K K (pv 2)) (blkOk_by (N := ["glows", "picture", "clean", "one", "two"]) (sc := (defScope s_largest_glows)) (by decide +kernel)) (fun _ _ _ _ _ => (pg_name (i := 3) sc_largest_glows.nd rfl (by first | exact Or.inl rfl | exact Or.inr rfl))) (fun _ _ _ _ _ => (pts_one (pt_not (pt_val (pe_callB (any_K K) (by rfl) B.any_ (by decide +kernel) (pa_cons (pe_lc (own := [("two", 4)]) rfl sc_largest_glows.nd  (pi_K K (pv 2)) (blkOk_by (N := ["glows", "picture", "clean", "one", "two"]) (sc := _) (by kernel_rfl)) (fun _ _ _ _ _ => (pg_name (i := 4) sc_largest_glows.nd rfl (by first | exact Or.inl rfl | exact Or.inr rfl))) (fun _ _ _ _ _ => pts_nil) (fun _ _ _ _ _ => (pe_and (pe_cmpR (op_neK K (ru hr)) (pv 3) (pv 4) (nomark _)) (pe_one (pe_cal c_within hr (by decide) (by rfl) (pa_cons (pv 3) (pa_cons (pv 4) pa_nil))))))) pa_nil)))))) (fun _ _ _ _ _ => (pv 3)))))), ?_⟩
  rintro args cs z cs' ⟨d, g, p, rfl, hg, rfl, rfl, rfl⟩
  refine run_asg 2 (ev_call (sub := [(d, .dic (encG g))]) (ea_cons (ev_varr 0 rfl) (ea_cons (ev_vard 1 rfl) ea_nil)) (List.Sublist.refl _) ⟨d, g, p, rfl, hg, rfl, rfl, rfl⟩) ?_
  have hcl : ∀ k ∈ cleanM (keysG g) p, Pic k := fun k hk => hg.pic k (clean_mem.mp hk).1
  have hlen : (cleanM (keysG g) p).length ≤ 243 := Nat.le_trans (List.length_filter_le _ _) hg.klen
  refine run_ret (EvN.ev (evn_flt (xs := cleanM (keysG g) p) (enc := encP) (fun one => !((cleanM (keysG g) p).any fun two => decide (one ≠ two) && withinM one two)) encP (ei_ML (ev_vard 2 rfl)) (by omega) fun one h1 => ⟨_, tg_name 3, by simp, ?_, ev_vard 3 rfl⟩)) ⟨rfl, List.Sublist.refl _⟩
  refine et_not (EvT.is (et_B (ev_cb (ea_cons (EvN.ev (evn_map (xs := cleanM (keysG g) p) (enc := encP) (fun two => .bool (decide (one ≠ two) && withinM one two)) (ei_ML (ev_vard 2 rfl)) (by omega) fun two h2 => ⟨_, tg_name 4, by simp, ev_andV (Ev.is (ev_op (ev_vard 3 rfl) (ev_vard 4 rfl) (opd_neM rds_dat rds_dat (Sh.ok (n := 1) (sh_P _) (by decide)) (Sh.ok (n := 1) (sh_P _) (by decide)))) ?_) fun _ => ev_call (sub := []) (ea_cons (ev_vard 3 rfl) (ea_cons (ev_vard 4 rfl) ea_nil)) (List.nil_sublist _) ⟨one, two, rfl, ?_, rfl, rfl, rfl⟩⟩)) ea_nil) (cd_any (bs := (cleanM (keysG g) p).map fun two => decide (one ≠ two) && withinM one two) (by rw [List.map_map]; exact rds_dat)))) ?_)
  · rw [show PyData.eqv (encP one) (encP two) = decide (one = two) from eqv_tup one two]
    by_cases h : one = two <;> simp [h]
  · have := (hcl one h1).len
    omega
  · rw [List.any_map]
    rfl
/-! ### cover -/
def encO (o : Option (List (List Int))) : PyData := match o with
  | none => .none
  | some l => .list (l.map encP)
def rCover : List Sl → Cs → Sl → Cs → Prop := fun args cs z cs' => ∃ (d : Addr) (g : GL) (p : List Int), args = [.raw (.ref d), .dat (encP p)] ∧ GlP g ∧ Pic p ∧ cs = [(d, .dic (encG g))] ∧ cs' = cs ∧ z = .dat (encO (coverM (keysG g) p))
theorem ok_cover (B : Co mg) (D : Def K mg "cover" s_cover ["glows", "picture"]) (c_join : Cal P w K mg base 1 "join" ["one", "two"] (SpG K rJoinP)) (c_largest_glows : Cal P w K mg base 3 "largest_glows" ["glows", "picture"] (SpG K rLargest)) : Cal P w K mg base 4 "cover" ["glows", "picture"] (SpG K rCover) := by
  refine D.cal sc_cover (fun args cs z cs' ⟨_, _, _, e, _⟩ => by rw [e]; rfl) fun cdv A outer s H E f hr => ⟨_, (pss_cons (ps_set (i := 2) sc_cover.nd rfl (by first | exact Or.inl rfl | exact Or.inr rfl) (pe_cal c_largest_glows hr (by decide) (by rfl) (pa_cons (pv 0) (pa_cons (pv 1) pa_nil))))
      (pss_cons (ps_par (by rfl) sc_cover.nd (i := 3) (j := 4) rfl rfl (by decide) rfl rfl (pa_cons (pe_disp1 (ru hr) (pe_tup pa_nil) pe_non) (pa_cons (pe_lst (pa_cons (pe_tup pa_nil) pa_nil)) pa_nil)) (by rfl))
      (pss_cons (ps_while PassesOwn.never (PW.pt (pw_and (pt_cmpR (op_neK K (ru hr)) (pv 4) (pe_lst pa_nil) (nomark _)) (pw_and1 (pt_cmp (pc_dnotin (hu_of hr) (pv 1) (pv 3)))))) (pss_cons (ps_set (i := 5) sc_cover.nd rfl (by first | exact Or.inl rfl | exact Or.inr rfl) (pe_lst pa_nil))
      (pss_cons (ps_for PassesOwn.never rfl (pi_K K (pv 4)) (pg_name (i := 6) sc_cover.nd rfl (by first | exact Or.inl rfl | exact Or.inr rfl)) (pss_one (ps_for PassesOwn.never rfl (pi_K K (pv 2)) (pg_name (i := 7) sc_cover.nd rfl (by first | exact Or.inl rfl | exact Or.inr rfl)) (pss_cons (ps_set (i := 8) sc_cover.nd rfl (by first | exact Or.inl rfl | exact Or.inr rfl) (pe_cal c_join hr (by decide) (by rfl) (pa_cons (pv 6) (pa_cons (pv 7) pa_nil))))
      (pss_one (ps_if (pt_cmp (pc_dnotin (hu_of hr) (pv 8) (pv 3))) (pss_cons (ps_dput (hu_of hr) (pv 3) (pv 8) (pe_tup (pa_cons (pv 6) (pa_cons (pv 7) pa_nil))) rfl)
      (pss_one (ps_expr (pe_bm PySem.F.plainAttrs_list PySem.F.slot_list_append PySem.F.type_list_append mt_append (pv 5) (pa_cons (pv 8) pa_nil))))) pss_nil))))))
      (pss_one (ps_set (i := 4) sc_cover.nd rfl (by first | exact Or.inl rfl | exact Or.inr rfl) (pv 5))))))
      (pss_cons (ps_if (pt_cmp (pc_dnotin (hu_of hr) (pv 1) (pv 3))) (pss_one (ps_ret pe_non)) pss_nil)
      (pss_cons (ps_par (by rfl) sc_cover.nd (i := 9) (j := 6) rfl rfl (by decide) rfl rfl (pa_cons (pe_lst pa_nil) (pa_cons (pv 1) pa_nil)) (by rfl))
      (pss_cons (ps_while PassesOwn.never (pt_cmpR (op_neK K (ru hr)) (pv 6) (pe_tup pa_nil) (nomark _)) (pss_cons (ps_asg (pe_dget (hu_of hr) (pv 3) (pv 6) (fun _ _ => rfl)) (pg_tupK (n := 2) K rfl (pgs_cons (pg_name (i := 6) sc_cover.nd rfl (by first | exact Or.inl rfl | exact Or.inr rfl)) (pgs_cons (pg_name (i := 7) sc_cover.nd rfl (by first | exact Or.inl rfl | exact Or.inr rfl)) pgs_nil))))
      (pss_one (ps_expr (pe_bm PySem.F.plainAttrs_list PySem.F.slot_list_append PySem.F.type_list_append mt_append (pv 9) (pa_cons (pv 7) pa_nil))))))
      (pss_one (ps_ret (rev_K K (pv 9)))))))))), ?_⟩
  rintro args cs z cs' ⟨d, g, p, rfl, hg, hp, rfl, rfl, rfl⟩
  have hpl := hp.len
  have shP : ∀ q : List Int, SeqAt.shaped (encP q) = true := fun q => Sh.ok (n := 1) (sh_P q) (by decide)
  have shPs : ∀ l : List (List Int), SeqAt.shaped (.list (l.map encP)) = true := fun l => Sh.ok (n := 2) (sh_list (sha_map fun q _ => sh_P q)) (by decide)
  have sh0 : SeqAt.shaped (.list []) = true := Sh.ok (n := 1) (sh_list sha_nil) (by decide)
  have shT0 : SeqAt.shaped (.tuple []) = true := Sh.ok (n := 1) (sh_tuple sha_nil) (by decide)
  refine run_asg 2 (ev_call (sub := [(d, .dic (encG g))]) (ea_cons (ev_varr 0 rfl) (ea_cons (ev_vard 1 rfl) ea_nil)) (List.Sublist.refl _) ⟨d, g, p, rfl, hg, rfl, rfl, rfl⟩) ?_
  have eC : coverM (keysG g) p = if p ∈ keysS (srcM (largestM (keysG g) p) p) then some (pathB (srcM (largestM (keysG g) p) p) (p.length + 1) p).reverse else none := rfl
  rw [eC]
  have hQ : ∀ q ∈ largestM (keysG g) p, Pic q ∧ ∀ z ∈ q, z ∈ p := fun q hq => by
    have h := clean_mem.mp (largest_sub hq)
    exact ⟨hg.pic q h.1, h.2⟩
  have hQl : (largestM (keysG g) p).length ≤ 243 := Nat.le_trans (List.length_filter_le _ _) (Nat.le_trans (List.length_filter_le _ _) hg.klen)
  obtain ⟨⟨kE, lvE, hE⟩, _⟩ := srcM_ok (largestM (keysG g) p) p
  have eS : srcM (largestM (keysG g) p) p = bfsB (largestM (keysG g) p) p (p.length + 1) [([], none)] [[]] := rfl
  generalize hQe : largestM (keysG g) p = Q at hQ hQl hE eS
  have inP : ∀ {k X}, Rch Q k X → ∀ z ∈ X, z ∈ p := fun {k X} h z hz => by
    obtain ⟨l, _, h2, h3⟩ := h
    rw [h3, mem_sd] at hz
    obtain ⟨q, hq, hzq⟩ := List.mem_flatten.mp hz
    exact (hQ q (h2 q hq)).2 z hzq
  refine run_parNN 3 4 (evn_disp1 (k := []) (Ev.is (ev_tup ea_nil dats_nil (by decide)) rfl) ev_non) (fun ps => evn_lst (ea_cons (ev_tup ea_nil dats_nil (by decide)) ea_nil) (dats_cons dats_nil) (by show 1 ≤ 100000; decide)) fun ps pl0 => ?_
  refine run_frz 4 0 rfl rfl ?_
  show Run K _ [.raw (.ref d), .dat (encP p), .dat (.list (Q.map encP)), .raw (.ref ps), .dat (.list [.tuple []]), .un, .un, .un, .un, .un] [(ps, .dic [([], .none)]), (d, .dic (encG g))] _
  -- the search
  generalize hF : srcM Q p = F at hE eS
  have hFp : SrP F := ⟨hE.nd, fun X hX => by
    obtain ⟨j, _, hj⟩ := (hE.keys X).mp hX
    exact ⟨hj.srt, fun x hx => hp.lt x (inP hj x hx)⟩⟩
  refine run_seq (fun ρ' c => ∃ x4 x5 x6 x7 x8 x9 : Sl, ρ' = [.raw (.ref d), .dat (encP p), .dat (.list (Q.map encP)), .raw (.ref ps), x4, x5, x6, x7, x8, x9] ∧ c = [(ps, .dic (encB F)), (d, .dic (encG g))]) (run_while (fun m ρ' c => ∃ (k : Nat) (src : Src) (lv : List (List Int)) (x5 x6 x7 x8 x9 : Sl), ρ' = [.raw (.ref d), .dat (encP p), .dat (.list (Q.map encP)), .raw (.ref ps), .dat (.list (lv.map encP)), x5, x6, x7, x8, x9] ∧ c = [(ps, .dic (encB src)), (d, .dic (encG g))] ∧ bfsB Q p m src lv = F ∧ LevOk Q k src lv ∧ k + m = p.length + 1) (p.length + 1) ⟨0, [([], none)], [[]], .un, .un, .un, .un, .un, rfl, rfl, eS.symm, lev0 Q, by omega⟩ ?_) ?_
  · rintro m ρ' c ⟨k, src, lv, x5, x6, x7, x8, x9, rfl, rfl, hb, hL, hkm⟩
    have hSp : SrP src := ⟨hL.nd, fun X hX => by
      obtain ⟨j, _, hj⟩ := (hL.keys X).mp hX
      exact ⟨hj.srt, fun x hx => hp.lt x (inP hj x hx)⟩⟩
    have hLv : ∀ X ∈ lv, Pic X := fun X hX => by
      have hj := ((hL.lev X).mp hX).1
      exact ⟨hj.srt, fun x hx => hp.lt x (inP hj x hx)⟩
    refine ⟨decide (lv ≠ []) && decide (p ∉ keysS src), _, et_and (EvT.is (et_test (ev_op (ev_vard 4 rfl) (EvN.ev (evn_lst ea_nil dats_nil (by decide))) (opd_neM rds_dat rds_dat (shPs _) sh0))) ?_) (fun _ => EvT.is (et_B (ev_dnotin 0 (ev_vard 1 rfl) (ev_varr 3 rfl) rfl)) ?_), fun hc => ?_, fun hc => ?_⟩
    · rw [eqv_nil, List.isEmpty_map]
      cases lv <;> simp
    · rw [encB_in]
      by_cases h : p ∈ keysS src <;> simp [h]
    · rw [Bool.and_eq_true, decide_eq_true_iff, decide_eq_true_iff] at hc
      have hm : m ≠ 0 := fun e => by
        obtain ⟨X, hX⟩ := List.exists_mem_of_ne_nil _ hc.1
        have hR := (hL.lev X).mp hX
        have h1 := hR.le
        have h2 := nodup_le (srt_nd hR.1.srt) (ks := p) (inP hR.1)
        omega
      obtain ⟨m', rfl⟩ : ∃ m', m = m' + 1 := ⟨m - 1, by omega⟩
      have eB : bfsB Q p (m' + 1) src lv = if lv ≠ [] ∧ p ∉ keysS src then bfsB Q p m' (roundB Q src lv).1 (roundB Q src lv).2 else src := rfl
      rw [eB, if_pos hc] at hb
      refine run_asgN 5 (evn_lst ea_nil dats_nil (by decide)) fun pl => ?_
      have hlvl : lv.length ≤ 100000 ∨ True := .inr trivial
      refine run_seq (fun ρ' c => ∃ x6 x7 x8 : Sl, ρ' = [.raw (.ref d), .dat (encP p), .dat (.list (Q.map encP)), .raw (.ref ps), .dat (.list (lv.map encP)), .raw (.ref pl), x6, x7, x8, x9] ∧ c = [(pl, .lst ((roundB Q src lv).2.map encP)), (ps, .dic (encB (roundB Q src lv).1)), (d, .dic (encG g))]) (run_for (items := lv.map encP) (fun i ρ' c => ∃ (x6 x7 x8 : Sl) (st : Src × List (List Int)), ρ' = [.raw (.ref d), .dat (encP p), .dat (.list (Q.map encP)), .raw (.ref ps), .dat (.list (lv.map encP)), .raw (.ref pl), x6, x7, x8, x9] ∧ c = [(pl, .lst (st.2.map encP)), (ps, .dic (encB st.1)), (d, .dic (encG g))] ∧ st = (pairsB (lv.take i) Q).foldl stepB (src, []) ∧ SrP st.1 ∧ st.2.length ≤ st.1.length) (ei_ML (ev_vard 4 rfl)) ⟨_, _, _, (src, []), rfl, rfl, rfl, hSp, Nat.zero_le _⟩ ?_ ?_) ?_
      · rintro i e ρ' c hi ⟨x6, x7, x8, st, rfl, rfl, hst, hsp, hsl⟩
        rw [List.getElem?_map] at hi
        obtain ⟨X, hX, rfl⟩ := Option.map_eq_some_iff.mp hi
        have hXp := hLv X (List.mem_of_getElem? hX)
        refine ⟨_, tg_name 6, ?_⟩
        refine run_for (items := Q.map encP) (fun j ρ' c => ∃ (x7 x8 : Sl) (st' : Src × List (List Int)), ρ' = [.raw (.ref d), .dat (encP p), .dat (.list (Q.map encP)), .raw (.ref ps), .dat (.list (lv.map encP)), .raw (.ref pl), .dat (encP X), x7, x8, x9] ∧ c = [(pl, .lst (st'.2.map encP)), (ps, .dic (encB st'.1)), (d, .dic (encG g))] ∧ st' = ((Q.take j).map fun q => (X, q)).foldl stepB st ∧ SrP st'.1 ∧ st'.2.length ≤ st'.1.length) (ei_ML (ev_vard 2 rfl)) ⟨_, _, st, rfl, rfl, rfl, hsp, hsl⟩ ?_ ?_
        · rintro j e ρ' c hj ⟨x7, x8, st', rfl, rfl, hst', hsp', hsl'⟩
          rw [List.getElem?_map] at hj
          obtain ⟨q, hq, rfl⟩ := Option.map_eq_some_iff.mp hj
          have hqp := (hQ q (List.mem_of_getElem? hq)).1
          refine ⟨_, tg_name 7, ?_⟩
          have hn : ((Q.take (j + 1)).map fun q => (X, q)).foldl stepB st = stepB st' (X, q) := by
            rw [List.take_add_one, hq, List.map_append, List.foldl_append, ← hst']
            rfl
          have hpi := stepB_pic (sp := (X, q)) hsp' hsl' hXp hqp
          have h128 := hsp'.len
          refine run_asg 8 (ev_call (sub := []) (ea_cons (ev_vard 6 rfl) (ea_cons (ev_vard 7 rfl) ea_nil)) (List.nil_sublist _) ⟨X, q, rfl, hXp, hqp, rfl, rfl, rfl⟩) ?_
          refine run_if (b := decide (joinM X q ∉ keysS st'.1)) (EvT.is (et_B (ev_dnotin 1 (ev_vard 8 rfl) (ev_varr 3 rfl) rfl)) ?_) (fun hc2 => ?_) (fun hc2 => ?_)
          · rw [encB_in]
            by_cases h : joinM X q ∈ keysS st'.1 <;> simp [h]
          · have hc2 := of_decide_eq_true hc2
            have es : stepB st' (X, q) = (st'.1 ++ [(joinM X q, some (X, q))], st'.2 ++ [joinM X q]) := by
              unfold stepB
              rw [if_neg hc2]
            refine run_dput 1 (ev_tup (ea_cons (ev_vard 6 rfl) (ea_cons (ev_vard 7 rfl) ea_nil)) (dats_cons (dats_cons dats_nil)) (by show 2 ≤ 100000; decide)) (ev_varr 3 rfl) (ev_vard 8 rfl) rfl (by rw [encB_len]; omega) ?_
            refine run_expr1 (ev_append 0 (ev_varr 5 rfl) rfl (ev_vard 8 rfl) rfl (by rw [List.length_map]; omega)) ⟨_, _, stepB st' (X, q), rfl, ?_, hn.symm, hpi.1, hpi.2⟩
            rw [es, encB_put hc2, List.map_append]
            rfl
          · have hc2 : joinM X q ∈ keysS st'.1 := Classical.byContradiction fun z => by
              rw [decide_eq_true z] at hc2
              cases hc2
            have es : stepB st' (X, q) = st' := by
              unfold stepB
              rw [if_pos hc2]
            exact run_next ⟨_, _, st', rfl, rfl, by rw [hn, es], hsp', hsl'⟩
        · rintro ρ' c ⟨x7, x8, st', rfl, rfl, hst', hsp', hsl'⟩
          refine ⟨_, x7, x8, st', rfl, rfl, ?_, hsp', hsl'⟩
          rw [hst', hst, List.length_map, List.take_length, List.take_add_one, hX]
          unfold pairsB
          rw [List.flatMap_append, List.foldl_append]
          simp
      · rintro ρ' c ⟨x6, x7, x8, st, rfl, rfl, hst, hsp, hsl⟩
        refine ⟨x6, x7, x8, rfl, ?_⟩
        rw [List.length_map, List.take_length] at hst
        have e : st = roundB Q src lv := hst
        rw [e]
      · rintro ρ' c ⟨x6, x7, x8, rfl, rfl⟩
        exact run_asg1 4 (ev_frz 0 (ev_varr 5 rfl) rfl) ⟨m', Nat.lt_succ_self _, k + 1, _, _, _, _, _, _, _, rfl, rfl, hb, levS hL, by omega⟩
    · have hc : ¬ (lv ≠ [] ∧ p ∉ keysS src) := fun z => by
        rw [decide_eq_true z.1, decide_eq_true z.2] at hc
        cases hc
      have e : bfsB Q p m src lv = src := by
        cases m with
        | zero => rfl
        | succ m =>
          show (if lv ≠ [] ∧ p ∉ keysS src then _ else _) = _
          rw [if_neg hc]
      rw [e] at hb
      subst hb
      exact ⟨_, _, _, _, _, _, rfl, rfl⟩
  · rintro ρ' c ⟨x4, x5, x6, x7, x8, x9, rfl, rfl⟩
    refine run_ifS (b := decide (p ∉ keysS F)) (EvT.is (et_B (ev_dnotin 0 (ev_vard 1 rfl) (ev_varr 3 rfl) rfl)) ?_) (fun hc => ?_) (fun hc => run_nextS ?_)
    · rw [encB_in]
      by_cases h : p ∈ keysS F <;> simp [h]
    · have hc := of_decide_eq_true hc
      rw [if_neg hc]
      exact run_retS (run_ret ev_non ⟨rfl, List.Sublist.cons _ (List.Sublist.refl _)⟩)
    · have hc : p ∈ keysS F := Classical.byContradiction fun z => by
        rw [decide_eq_true z] at hc
        cases hc
      rw [if_pos hc]
      obtain ⟨jR, _, hjR⟩ := (hE.keys p).mp hc
      obtain ⟨r, _, hR⟩ := rank_of hjR
      have hrl := hR.le
      refine run_parNE 9 6 (evn_lst ea_nil dats_nil (by decide)) (fun pf => ev_vard 1 rfl) fun pf => ?_
      refine run_seq (fun ρ' c => ∃ x6 x7 : Sl, ρ' = [.raw (.ref d), .dat (encP p), .dat (.list (Q.map encP)), .raw (.ref ps), x4, x5, x6, x7, x8, .raw (.ref pf)] ∧ c = [(pf, .lst ((pathB F (p.length + 1) p).map encP)), (ps, .dic (encB F)), (d, .dic (encG g))]) (run_while (fun m ρ' c => ∃ (X : List Int) (acc : List (List Int)) (n : Nat) (x7 : Sl), ρ' = [.raw (.ref d), .dat (encP p), .dat (.list (Q.map encP)), .raw (.ref ps), x4, x5, .dat (encP X), x7, x8, .raw (.ref pf)] ∧ c = [(pf, .lst (acc.map encP)), (ps, .dic (encB F)), (d, .dic (encG g))] ∧ acc ++ pathB F (n + 1) X = pathB F (p.length + 1) p ∧ X ∈ keysS F ∧ Rank Q m X ∧ m ≤ n ∧ acc.length + m ≤ 7) r ⟨p, [], p.length, _, rfl, rfl, rfl, hc, hR, hrl, by simp; omega⟩ ?_) ?_
      · rintro m ρ' c ⟨X, acc, n, x7, rfl, rfl, hpa, hX, hRm, hmn, hal⟩
        refine ⟨decide (X ≠ []), _, EvT.is (et_test (ev_op (ev_vard 6 rfl) (ev_tup ea_nil dats_nil (by decide)) (opd_neM rds_dat rds_dat (shP _) shT0))) ?_, fun hne => ?_, fun hne => ?_⟩
        · rw [eqv_tup0]
          cases X <;> simp
        · have hne := of_decide_eq_true hne
          obtain ⟨Y, q, i, ei, hl, hq, hRi, hY, e3⟩ := hE.step hX hne hRm
          subst ei
          obtain ⟨n', rfl⟩ : ∃ n', n = n' + 1 := ⟨n - 1, by omega⟩
          have e2 : pathB F (n' + 1 + 1) X = q :: pathB F (n' + 1) Y := by
            show (if _ then _ else _) = _
            rw [if_neg hne, hl]
          refine run_asgT (ev_dget 1 (ev_varr 3 rfl) (ev_vard 6 rfl) rfl (encB_look F X hl)) (tg_pair 6 7) ?_
          refine run_expr1 (ev_append 0 (ev_varr 9 rfl) rfl (ev_vard 7 rfl) rfl (by rw [List.length_map]; omega)) ⟨i, Nat.lt_succ_self _, Y, acc ++ [q], n', _, rfl, by rw [List.map_append]; rfl, ?_, hY, hRi, by omega, by rw [List.length_append, List.length_singleton]; omega⟩
          rw [← hpa, e2, List.append_assoc]
          rfl
        · have hX0 : X = [] := Classical.byContradiction fun z => by
            rw [decide_eq_true z] at hne
            cases hne
          subst hX0
          have e2 : pathB F (n + 1) [] = [] := by
            show (if _ then _ else _) = _
            rw [if_pos rfl]
          rw [e2, List.append_nil] at hpa
          subst hpa
          exact ⟨_, _, rfl, rfl⟩
      · rintro ρ' c ⟨x6, x7, rfl, rfl⟩
        refine run_ret (z := .dat (.list ((pathB F (p.length + 1) p).reverse.map encP))) (Ev.is (EvN.ev (evn_rev (ev_varr 9 rfl) (rds_cell 0 rfl))) (by rw [List.map_reverse])) ⟨rfl, List.Sublist.cons _ (List.Sublist.cons _ (List.Sublist.refl _))⟩
/-! ### fewest, shows -/
def rNeedPic : List Sl → Cs → Sl → Cs → Prop := fun args cs z cs' => ∃ (s : Sg) (p : List Int), args = [.dat (encS s), .dat (encP p)] ∧ OkS s ∧ PicOf s p ∧ cs = [] ∧ cs' = [] ∧ z = .dat .none
theorem ok_need_picture (B : Co mg) (D : Def K mg "need_picture" s_need_picture ["sign", "value"]) (c_is_count : Cal P w K mg base 1 "is_count" ["value", "least", "most"] (SpG K rIsCount)) : Cal P w K mg base 2 "need_picture" ["sign", "value"] (SpG K rNeedPic) := by
  refine D.cal sc_need_picture (fun args cs z cs' ⟨_, _, e, _⟩ => by rw [e]; rfl) fun cdv A outer s H E f hr => ⟨_, (pss_cons (ps_if (PW.pt (pw_or (pt_not (pt_val (pe_callB (isi_K K) (by rfl) B.isinstance_ (by decide +kernel) (pa_cons (pv 1) (pa_cons (pe_bltn (v := .ty "tuple") (by rfl) B.tuple_ (by decide +kernel) rfl) pa_nil))))) (pw_or1 (pt_not (pt_val (pe_callB (all_K K) (by rfl) B.all_ (by decide +kernel) (pa_cons (pe_lc (own := [("lamp", 2)]) rfl sc_need_picture.nd  (pi_K K (pv 1)) (blkOk_by (N := ["sign", "value", "lamp"]) (sc := (defScope s_need_picture)) (by decide +kernel)) (fun _ _ _ _ _ => (pg_name (i := 2) sc_need_picture.nd rfl (by first | exact Or.inl rfl | exact Or.inr rfl))) (fun _ _ _ _ _ => pts_nil) (fun _ _ _ _ _ => (pe_cal c_is_count hr (by decide) (by rfl) (pa_cons (pv 2) (pa_cons pe_int (pa_cons (pe_op op_sub (pe_callB (len_K K) (by rfl) B.len_ (by decide +kernel) (pa_cons (pe_ix (ix_K K) (pv 0) pe_int (fun _ _ => rfl)) pa_nil)) pe_int) pa_nil)))))) pa_nil))))))) (pss_one ps_never) pss_nil)
      (pss_one (ps_if (pt_cmpR (op_neK K (ru hr)) (pe_callTy (list_K K) (by rfl) B.list_ (by decide +kernel) (pa_cons (pv 1) pa_nil)) (pe_callB (sortedSet_K w) (by rfl) B.sorted_ (by decide +kernel) (pa_cons (pe_callTy (setI_K K w) (by rfl) B.set_ (by decide +kernel) (pa_cons (pv 1) pa_nil)) pa_nil)) (nomark _)) (pss_one ps_never) pss_nil))), ?_⟩
  rintro args cs z cs' ⟨s, p, rfl, ok, hp, rfl, rfl, rfl⟩
  have hpl := (hp.pic ok).len
  refine run_ifS (b := false) (cs1 := []) (EvT.is (et_or (et_not (et_B (ev_isi (ev_vard 1 rfl) (kitB_tuple _)))) fun _ => et_not (et_B (ev_cb (ea_cons (EvN.ev (evn_map (xs := p) (enc := PyData.int) (fun _ => .bool true) (ei_MT (ev_vard 1 rfl)) (by omega) fun x hx => ⟨_, tg_name 2, by simp, Ev.is (ev_call (sub := []) (ea_cons (ev_vard 2 rfl) (ea_cons ev_int (ea_cons (ev_op (ev_cb (ea_cons (ev_op (ev_vard 0 rfl) ev_int (opd_ixT (d := .tuple (s.L.map encL)) rds_dat rds_dat rfl)) ea_nil) (cd_lenT rds_dat)) ev_int (opd_sub rds_dat rds_dat)) ea_nil))) (List.nil_sublist _) ⟨_, _, _, rfl, rfl, rfl, rfl⟩) ?_⟩)) ea_nil) (cd_all (bs := p.map fun _ => true) (by rw [List.map_map]; exact rds_dat))))) ?_) (fun z => nomatch z) fun _ => run_nextS ?_
  · have q := hp.lt x hx
    rw [isCountD_ok q.1 (by rw [List.length_map]; omega)]
  · simp [isTupB, encP]
  refine run_if (b := false) (cs1 := []) (EvT.is (et_test (ev_op (EvN.ev (evn_cb (ea_cons (ev_vard 1 rfl) ea_nil) (cn_listT rds_dat))) (EvN.ev (evn_sortedSet (ns := p) (ev_vard 1 rfl) (.inr rds_dat) (by omega) ⟨castN (List.range 7), by decide, fun x hx => ?_⟩)) (opd_neM rds_dat rds_dat (Sh.ok (n := 1) (sh_list (sha_ints _)) (by decide)) (Sh.ok (n := 1) (sh_list (sha_ints _)) (by decide))))) ?_) (fun z => nomatch z) fun _ => run_next ⟨rfl, List.Sublist.refl _⟩
  · have h := (hp.pic ok).lt x hx
    exact mem_castN.mpr ⟨x.toNat, by omega, List.mem_range.mpr (by omega)⟩
  · rw [sd_self hp.srt, eqv_list, decide_eq_true rfl]
    rfl
theorem turnFor_look {g : GL} {k : List Int} (h : k ∈ keysG g) : lookD (encG g) k = some (encT (turnFor g k)) ∧ (k, turnFor g k) ∈ g := by
  unfold turnFor lookD encG
  induction g with
  | nil => cases h
  | cons y r ih =>
    rw [List.map_cons, List.find?_cons, List.find?_cons]
    by_cases e : y.1 = k
    · rw [decide_eq_true e]
      exact ⟨rfl, by rw [← e]; exact List.mem_cons_self⟩
    · rw [decide_eq_false e]
      have h' : k ∈ keysG r := by
        rcases List.mem_cons.mp (show k ∈ y.1 :: keysG r from h) with z | z
        · exact absurd z.symm e
        · exact z
      obtain ⟨h1, h2⟩ := ih h'
      exact ⟨h1, List.mem_cons_of_mem _ h2⟩
def rFewest : List Sl → Cs → Sl → Cs → Prop := fun args cs z cs' => ∃ (s : Sg) (p : List Int), args = [.dat (encS s), .dat (encP p)] ∧ OkS s ∧ PicOf s p ∧ cs = [] ∧ cs' = [] ∧ z = .dat (encF (fewestM s p))
theorem ok_fewest (B : Co mg) (D : Def K mg "fewest" s_fewest ["sign", "picture"]) (c_need_sign : Cal P w K mg base 4 "need_sign" ["value"] (SpG K rNeedSign)) (c_need_picture : Cal P w K mg base 2 "need_picture" ["sign", "value"] (SpG K rNeedPic)) (c_glows_of : Cal P w K mg base 3 "glows_of" ["sign"] (SpN K rGlowsOf)) (c_cover : Cal P w K mg base 4 "cover" ["glows", "picture"] (SpG K rCover)) : Cal P w K mg base 5 "fewest" ["sign", "picture"] (SpG K rFewest) := by
  refine D.cal sc_fewest (fun args cs z cs' ⟨_, _, e, _⟩ => by rw [e]; rfl) fun cdv A outer s H E f hr => ⟨_, (pss_cons (ps_expr (pe_cal c_need_sign hr (by decide) (by rfl) (pa_cons (pv 0) pa_nil)))
      (pss_cons (ps_expr (pe_cal c_need_picture hr (by decide) (by rfl) (pa_cons (pv 0) (pa_cons (pv 1) pa_nil))))
      (pss_cons (ps_set (i := 2) sc_fewest.nd rfl (by first | exact Or.inl rfl | exact Or.inr rfl) (pe_cal c_glows_of hr (by decide) (by rfl) (pa_cons (pv 0) pa_nil)))
      (pss_cons (ps_set (i := 3) sc_fewest.nd rfl (by first | exact Or.inl rfl | exact Or.inr rfl) (pe_cal c_cover hr (by decide) (by rfl) (pa_cons (pv 2) (pa_cons (pv 1) pa_nil))))
      (pss_one (ps_ret (pe_ifExp (pt_cmpR op_isN (pv 3) pe_non (nomark _)) pe_non (pe_lc (own := [("part", 4)]) rfl sc_fewest.nd  (pi_K K (pv 3)) (blkOk_by (N := ["sign", "picture", "glows", "found", "part"]) (sc := (defScope s_fewest)) (by decide +kernel)) (fun _ _ _ _ _ => (pg_name (i := 4) sc_fewest.nd rfl (by first | exact Or.inl rfl | exact Or.inr rfl))) (fun _ _ _ _ _ => pts_nil) (fun _ _ _ _ _ => (pe_dget (hu_of hr) (pv 2) (pv 4) (fun _ _ => rfl))))))))))), ?_⟩
  rintro args cs z cs' ⟨s, p, rfl, ok, hp, rfl, rfl, rfl⟩
  have hg := glows_glp ok
  refine run_expr (ev_call (sub := []) (ea_cons (ev_vard 0 rfl) ea_nil) (List.nil_sublist _) ⟨s, rfl, ok, rfl, rfl, rfl⟩) ?_
  refine run_expr (ev_call (sub := []) (ea_cons (ev_vard 0 rfl) (ea_cons (ev_vard 1 rfl) ea_nil)) (List.nil_sublist _) ⟨s, p, rfl, ok, hp, rfl, rfl, rfl⟩) ?_
  refine run_asgN 2 (evn_call (sub := []) (ea_cons (ev_vard 0 rfl) ea_nil) (List.nil_sublist _) ⟨s, rfl, ok, rfl, rfl, rfl⟩) fun d => ?_
  refine run_asg 3 (ev_call (sub := [(d, .dic (encG (glowsM s)))]) (ea_cons (ev_varr 2 rfl) (ea_cons (ev_vard 1 rfl) ea_nil)) (List.Sublist.refl _) ⟨d, glowsM s, p, rfl, hg, hp.pic ok, rfl, rfl, rfl⟩) ?_
  have hcov := cover_ok (ks := keysG (glowsM s)) (p := p) (fun k hk => (hg.pic k hk).srt) hp.srt
  unfold fewestM
  cases hC : coverM (keysG (glowsM s)) p with
  | none =>
    exact run_ret (ev_if (b := true) (EvT.is (et_test (ev_op (ev_vard 3 rfl) ev_non opd_isN)) rfl) (fun _ => ev_non) (fun z => nomatch z)) ⟨rfl, List.nil_sublist _⟩
  | some l =>
    rw [hC] at hcov
    obtain ⟨h1, h2, h3⟩ := hcov
    have hl := h1.le
    have hpl := (hp.pic ok).len
    refine run_ret (z := .dat (encF (some (l.map (turnFor (glowsM s)))))) (ev_if (b := false) (EvT.is (et_test (ev_op (ev_vard 3 rfl) ev_non opd_isN)) rfl) (fun z => nomatch z) (fun _ => Ev.is (EvN.ev (evn_map (xs := l) (enc := encP) (fun k => encT (turnFor (glowsM s) k)) (ei_ML (ev_vard 3 rfl)) (by omega) fun k hk => ⟨_, tg_name 4, by simp, ev_dget 0 (ev_varr 2 rfl) (ev_vard 4 rfl) rfl (turnFor_look (clean_mem.mp (h2 k hk)).1).1⟩)) ?_)) ⟨rfl, List.nil_sublist _⟩
    show PyData.list _ = .list ((l.map (turnFor (glowsM s))).map encT)
    rw [List.map_map]
    rfl
end
--END
end LW

set_option Elab.async false
set_option linter.all false
set_option maxRecDepth 100000
set_option maxHeartbeats 4000000
namespace LW
open PySem PySem.Spec PyProof.Rows L2
--BEGIN
abbrev s_all_pictures : Stmt := topS 28
theorem sc_all_pictures : FnScope ["lamps", "found", "lamp", "picture", "pair"] ["lamps"] (defScope s_all_pictures) := ⟨rfl, rfl, rfl, by decide +kernel, rfl, by decide +kernel, by decide +kernel⟩
abbrev s_needs_of : Stmt := topS 42
theorem sc_needs_of : FnScope ["sign", "glows", "found", "picture", "parts"] ["sign"] (defScope s_needs_of) := ⟨rfl, rfl, rfl, by decide +kernel, rfl, by decide +kernel, by decide +kernel⟩
abbrev s_blocked : Stmt := topS 43
theorem sc_blocked : FnScope ["sign", "picture", "need"] ["sign"] (defScope s_blocked) := ⟨rfl, rfl, rfl, by decide +kernel, rfl, by decide +kernel, by decide +kernel⟩
abbrev s_hardest : Stmt := topS 44
theorem sc_hardest : FnScope ["sign", "best", "picture", "need"] ["sign"] (defScope s_hardest) := ⟨rfl, rfl, rfl, by decide +kernel, rfl, by decide +kernel, by decide +kernel⟩
abbrev s_count : Stmt := topS 45
theorem sc_count : FnScope ["sign", "many", "picture", "need"] ["sign", "many"] (defScope s_count) := ⟨rfl, rfl, rfl, by decide +kernel, rfl, by decide +kernel, by decide +kernel⟩
section
variable {P : Program} {w : World} {K : PySem.W.Frag} {mg : Str → Option Value} {base : Heap}
def rAllPics : List Sl → Cs → Sl → Cs → Prop := fun args cs z cs' => ∃ xs : List Int, args = [.dat (encP xs)] ∧ xs.length ≤ 7 ∧ cs = [] ∧ cs' = [] ∧ z = .dat (.list ((picsM xs).map encP))
theorem ok_all_pictures (B : Co mg) (D : Def K mg "all_pictures" s_all_pictures ["lamps"]) : Cal P w K mg base 1 "all_pictures" ["lamps"] (SpG K rAllPics) := by
  refine D.cal sc_all_pictures (fun args cs z cs' ⟨_, e, _⟩ => by rw [e]; rfl) fun cdv A outer s H E f hr => ⟨_, (pss_cons (ps_set (i := 1) sc_all_pictures.nd rfl (by first | exact Or.inl rfl | exact Or.inr rfl) (pe_lst (pa_cons (pe_tup pa_nil) pa_nil)))
      (pss_cons (ps_for PassesOwn.never rfl (pi_K K (pv 0)) (pg_name (i := 2) sc_all_pictures.nd rfl (by first | exact Or.inl rfl | exact Or.inr rfl)) (pss_one (ps_expr (pe_bm PySem.F.plainAttrs_list PySem.F.slot_list_extend PySem.F.type_list_extend mt_extend (pv 1) (pa_cons (pe_lock (pe_lc (own := [("picture", 3)]) rfl sc_all_pictures.nd  (pi_K K (pv 1)) (blkOk_by (N := ["lamps", "found", "lamp", "picture", "pair"]) (sc := (defScope s_all_pictures)) (by decide +kernel)) (fun _ _ _ _ _ => (pg_name (i := 3) sc_all_pictures.nd rfl (by first | exact Or.inl rfl | exact Or.inr rfl))) (fun _ _ _ _ _ => pts_nil) (fun _ _ _ _ _ => (pe_op (op_addK K) (pv 3) (pe_tup (pa_cons (pv 2) pa_nil)))))) pa_nil)))))
      (pss_one (ps_ret (pe_lc (own := [("pair", 4)]) rfl sc_all_pictures.nd  (pi_K K (pe_callB (sort_K K (ru hr)) (by rfl) B.sorted_ (by decide +kernel) (pa_cons (pe_lock (pe_lc (own := [("picture", 3)]) rfl sc_all_pictures.nd  (pi_K K (pv 1)) (blkOk_by (N := ["lamps", "found", "lamp", "picture", "pair"]) (sc := (defScope s_all_pictures)) (by decide +kernel)) (fun _ _ _ _ _ => (pg_name (i := 3) sc_all_pictures.nd rfl (by first | exact Or.inl rfl | exact Or.inr rfl))) (fun _ _ _ _ _ => pts_nil) (fun _ _ _ _ _ => (pe_tup (pa_cons (pe_callB (len_K K) (by rfl) B.len_ (by decide +kernel) (pa_cons (pv 3) pa_nil)) (pa_cons (pv 3) pa_nil)))))) pa_nil))) (blkOk_by (N := ["lamps", "found", "lamp", "picture", "pair"]) (sc := (defScope s_all_pictures)) (by decide +kernel)) (fun _ _ _ _ _ => (pg_name (i := 4) sc_all_pictures.nd rfl (by first | exact Or.inl rfl | exact Or.inr rfl))) (fun _ _ _ _ _ => pts_nil) (fun _ _ _ _ _ => (pe_ix (ix_K K) (pv 4) pe_int (fun _ _ => rfl)))))))), ?_⟩
  rintro args cs z cs' ⟨xs, rfl, hl, rfl, rfl, rfl⟩
  have hpw : ∀ i, (powF (xs.take i)).length ≤ 128 := fun i => by
    rw [powF_len]
    exact Nat.pow_le_pow_right (n := 2) (by decide) (show (xs.take i).length ≤ 7 by rw [List.length_take]; omega)
  have hmem : ∀ i, ∀ q ∈ powF (xs.take i), q.length ≤ 7 := fun i q hq => by
    have := (mem_powF.mp hq).length_le
    rw [List.length_take] at this
    omega
  refine run_asgN 1 (evn_lst (ea_cons (Ev.is (e := encP []) (ev_tup ea_nil dats_nil (by decide)) rfl) ea_nil) (dats_cons dats_nil) (by show 1 ≤ 100000; decide)) fun pf => ?_
  refine run_seq (fun ρ' c => ∃ x2 x3 x4 : Sl, ρ' = [.dat (encP xs), .raw (.ref pf), x2, x3, x4] ∧ c = [(pf, .lst ((powF xs).map encP))]) (run_for (items := xs.map PyData.int) (fun i ρ' c => ∃ x2 x3 x4 : Sl, ρ' = [.dat (encP xs), .raw (.ref pf), x2, x3, x4] ∧ c = [(pf, .lst ((powF (xs.take i)).map encP))]) (ei_MT (ev_vard 0 rfl)) ⟨_, _, _, rfl, rfl⟩ ?_ ?_) ?_
  · rintro i d ρ' c hi ⟨x2, x3, x4, rfl, rfl⟩
    rw [List.getElem?_map] at hi
    obtain ⟨x, hx, rfl⟩ := Option.map_eq_some_iff.mp hi
    refine ⟨_, tg_name 2, ?_⟩
    have hp := hpw i
    refine run_expr1 (ev_extend 0 (ev_varr 1 rfl) rfl (EvN.ev (evn_lockL 1 0 rfl rfl (evn_map (xs := powF (xs.take i)) (enc := encP) (fun q => encP (q ++ [x])) (ei_fl (ev_var 1 rfl (fun z => nomatch z))) (by omega) fun q hq => ⟨_, tg_name 3, by simp, Ev.is (ev_op (ev_vard 3 rfl) (ev_tup (ea_cons (ev_vard 2 rfl) ea_nil) (dats_cons dats_nil) (by show 1 ≤ 100000; decide)) (opd_addT rds_dat rds_dat ?_)) ?_⟩))) rds_dat rfl ?_) ⟨_, _, _, rfl, ?_⟩
    · have := hmem i q hq
      rw [List.length_map]
      show q.length + 1 ≤ 100000
      omega
    · unfold encP
      rw [List.map_append]
      rfl
    · rw [List.length_map, List.length_map]
      omega
    · rw [List.take_add_one, hx, Option.toList_some, powF_snoc, List.map_append, List.map_map]
      rfl
  · rintro ρ' c ⟨x2, x3, x4, rfl, rfl⟩
    exact ⟨x2, x3, x4, rfl, by rw [List.length_map, List.take_length]⟩
  · rintro ρ' c ⟨x2, x3, x4, rfl, rfl⟩
    have hp := hpw xs.length
    rw [List.take_length] at hp
    have hpl := picsM_len xs
    rw [← powF_len] at hpl
    refine run_ret (z := .dat (.list ((picsM xs).map encP))) (EvN.ev (evn_map (xs := picsM xs) (enc := encLP) encP (ei_ML (Ev.is (EvN.ev (evn_sort (EvN.ev (evn_lockL 1 0 rfl rfl (evn_map (xs := powF xs) (enc := encP) encLP (ei_fl (ev_var 1 rfl (fun z => nomatch z))) (by omega) fun q hq => ⟨_, tg_name 3, by simp, Ev.is (ev_tup (ea_cons (ev_cb (ea_cons (ev_vard 3 rfl) ea_nil) (cd_lenT (ds := q.map PyData.int) rds_dat)) (ea_cons (ev_vard 3 rfl) ea_nil)) (dats_cons (dats_cons dats_nil)) (by show 2 ≤ 100000; decide)) ?_⟩))) rds_dat (sortOk_LP _))) (by rw [sortD_LP]; rfl))) (by omega) fun q hq => ⟨_, tg_name 4, by simp, ev_op (ev_vard 4 rfl) ev_int (opd_ixT rds_dat rds_dat rfl)⟩)) ⟨rfl, List.nil_sublist _⟩
    rw [List.length_map]
    rfl
def rNeedsOf : List Sl → Cs → Sl → Cs → Prop := fun args cs z cs' => ∃ s : Sg, args = [.dat (encS s)] ∧ OkS s ∧ cs = [] ∧ cs' = [] ∧ z = .dat (.list ((needsM s).map encNP))
theorem ok_needs_of (B : Co mg) (D : Def K mg "needs_of" s_needs_of ["sign"]) (c_glows_of : Cal P w K mg base 3 "glows_of" ["sign"] (SpN K rGlowsOf)) (c_cover : Cal P w K mg base 4 "cover" ["glows", "picture"] (SpG K rCover)) (c_all_pictures : Cal P w K mg base 1 "all_pictures" ["lamps"] (SpG K rAllPics)) : Cal P w K mg base 5 "needs_of" ["sign"] (SpG K rNeedsOf) := by
  refine D.cal sc_needs_of (fun args cs z cs' ⟨_, e, _⟩ => by rw [e]; rfl) fun cdv A outer s H E f hr => ⟨_, (pss_cons (ps_par (by rfl) sc_needs_of.nd (i := 1) (j := 2) rfl rfl (by decide) rfl rfl (pa_cons (pe_cal c_glows_of hr (by decide) (by rfl) (pa_cons (pv 0) pa_nil)) (pa_cons (pe_lst pa_nil) pa_nil)) (by rfl))
      (pss_cons (ps_for PassesOwn.never rfl (pi_K K (pe_cal c_all_pictures hr (by decide) (by rfl) (pa_cons (pe_tupRg rfl (by rfl) B.tuple_ (prg_1 (by rfl) B.range_ (pe_callB (len_K K) (by rfl) B.len_ (by decide +kernel) (pa_cons (pe_ix (ix_K K) (pv 0) pe_int (fun _ _ => rfl)) pa_nil)))) pa_nil))) (pg_name (i := 3) sc_needs_of.nd rfl (by first | exact Or.inl rfl | exact Or.inr rfl)) (pss_cons (ps_set (i := 4) sc_needs_of.nd rfl (by first | exact Or.inl rfl | exact Or.inr rfl) (pe_cal c_cover hr (by decide) (by rfl) (pa_cons (pv 1) (pa_cons (pv 3) pa_nil))))
      (pss_one (ps_expr (pe_bm PySem.F.plainAttrs_list PySem.F.slot_list_append PySem.F.type_list_append mt_append (pv 2) (pa_cons (pe_tup (pa_cons (pv 3) (pa_cons (pe_ifExp (pt_cmpR op_isN (pv 4) pe_non (nomark _)) pe_non (pe_callB (len_K K) (by rfl) B.len_ (by decide +kernel) (pa_cons (pv 4) pa_nil))) pa_nil))) pa_nil))))))
      (pss_one (ps_ret (pv 2))))), ?_⟩
  rintro args cs z cs' ⟨s, rfl, ok, rfl, rfl, rfl⟩
  have hg := glows_glp ok
  have h7 := ok.l7
  have hN := needsM_small ok
  refine run_parNN 1 2 (evn_call (sub := []) (ea_cons (ev_vard 0 rfl) ea_nil) (List.nil_sublist _) ⟨s, rfl, ok, rfl, rfl, rfl⟩) (fun d => evn_lst ea_nil dats_nil (by decide)) fun d pf => ?_
  refine run_seq (fun ρ' c => ∃ x3 x4 : Sl, ρ' = [.dat (encS s), .raw (.ref d), .raw (.ref pf), x3, x4] ∧ c = [(pf, .lst ((needsM s).map encNP)), (d, .dic (encG (glowsM s)))]) (run_for (items := (picsM (rgM s.L.length)).map encP) (cs1 := [(pf, .lst []), (d, .dic (encG (glowsM s)))]) (fun i ρ' c => ∃ x3 x4 : Sl, ρ' = [.dat (encS s), .raw (.ref d), .raw (.ref pf), x3, x4] ∧ c = [(pf, .lst (((needsM s).take i).map encNP)), (d, .dic (encG (glowsM s)))]) (ei_ML (ev_call (sub := []) (ea_cons (ev_tupRg1 (n := s.L.length) (Ev.is (ev_cb (ea_cons (ev_op (ev_vard 0 rfl) ev_int (opd_ixT (d := .tuple (s.L.map encL)) rds_dat rds_dat rfl)) ea_nil) (cd_lenT rds_dat)) (by rw [List.length_map])) (by omega)) ea_nil) (List.nil_sublist _) ⟨rgM s.L.length, rfl, by rw [rgM_len]; exact h7, rfl, rfl, rfl⟩)) ⟨_, _, rfl, rfl⟩ ?_ ?_) ?_
  · rintro i e ρ' c hi ⟨x3, x4, rfl, rfl⟩
    rw [List.getElem?_map] at hi
    obtain ⟨p, hp, rfl⟩ := Option.map_eq_some_iff.mp hi
    have hpo : PicOf s p := mem_pics.mp (List.mem_of_getElem? hp)
    refine ⟨_, tg_name 3, ?_⟩
    refine run_asg 4 (ev_call (sub := [(d, .dic (encG (glowsM s)))]) (ea_cons (ev_varr 1 rfl) (ea_cons (ev_vard 3 rfl) ea_nil)) (List.sublist_cons_self _ _) ⟨d, glowsM s, p, rfl, hg, hpo.pic ok, rfl, rfl, rfl⟩) ?_
    have hn := cover_need (ks := keysG (glowsM s)) (p := p) (keys_srt s) hpo.srt
    have hnx : (needsM s)[i]? = some (p, needO (keysG (glowsM s)) p) := by
      unfold needsM
      rw [List.getElem?_map, hp]
      rfl
    refine run_expr1 (ev_append 0 (cs1 := [(pf, .lst (((needsM s).take i).map encNP)), (d, .dic (encG (glowsM s)))]) (ev_varr 2 rfl) rfl (d := encNP (p, needO (keysG (glowsM s)) p)) (ev_tup (ea_cons (ev_vard 3 rfl) (ea_cons (z := .dat (encNO (needO (keysG (glowsM s)) p))) ?_ ea_nil)) (dats_cons (dats_cons dats_nil)) (by show 2 ≤ 100000; decide)) rfl ?_) ⟨_, _, rfl, ?_⟩
    · rw [← hn]
      cases hC : coverM (keysG (glowsM s)) p with
      | none => exact ev_if (b := true) (EvT.is (et_test (ev_op (ev_vard 4 rfl) ev_non opd_isN)) rfl) (fun _ => ev_non) (fun z => nomatch z)
      | some l => exact ev_if (b := false) (EvT.is (et_test (ev_op (ev_vard 4 rfl) ev_non opd_isN)) rfl) (fun z => nomatch z) (fun _ => Ev.is (ev_cb (ea_cons (ev_vard 4 rfl) ea_nil) (cd_lenL (ds := l.map encP) rds_dat)) (by rw [List.length_map]; rfl))
    · rw [List.length_map, List.length_take]
      omega
    · rw [List.take_add_one, hnx, List.map_append]
      rfl
  · rintro ρ' c ⟨x3, x4, rfl, rfl⟩
    refine ⟨x3, x4, rfl, ?_⟩
    have e : (picsM (rgM s.L.length)).length = (needsM s).length := by
      unfold needsM
      rw [List.length_map]
    rw [List.length_map, e, List.take_length]
  · rintro ρ' c ⟨x3, x4, rfl, rfl⟩
    exact run_retL 0 (ev_varr 2 rfl) rfl ⟨rfl, List.nil_sublist _⟩
def rBlocked : List Sl → Cs → Sl → Cs → Prop := fun args cs z cs' => ∃ s : Sg, args = [.dat (encS s)] ∧ OkS s ∧ cs = [] ∧ cs' = [] ∧ z = .dat (hdO (nonesM (needsM s)))
theorem hdO_at (l : List (List Int)) : atI (l.map encP ++ [PyData.none]) 0 = some (hdO l) := by
  cases l <;> exact atI_get (i := 0) rfl
theorem ok_blocked (B : Co mg) (D : Def K mg "blocked" s_blocked ["sign"]) (c_need_sign : Cal P w K mg base 4 "need_sign" ["value"] (SpG K rNeedSign)) (c_needs_of : Cal P w K mg base 5 "needs_of" ["sign"] (SpG K rNeedsOf)) : Cal P w K mg base 6 "blocked" ["sign"] (SpG K rBlocked) := by
  refine D.cal sc_blocked (fun args cs z cs' ⟨_, e, _⟩ => by rw [e]; rfl) fun cdv A outer s H E f hr => ⟨_, (pss_cons (ps_expr (pe_cal c_need_sign hr (by decide) (by rfl) (pa_cons (pv 0) pa_nil)))
      (pss_one (ps_ret (pe_ix (ix_K K) (pe_op (op_addK K) (pe_lc (own := [("picture", 1), ("need", 2)]) rfl sc_blocked.nd  (pi_K K (pe_cal c_needs_of hr (by decide) (by rfl) (pa_cons (pv 0) pa_nil))) (blkOk_by (N := ["sign", "picture", "need"]) (sc := (defScope s_blocked)) (by decide +kernel)) (fun _ _ _ _ _ => (pg_tupK (n := 2) K rfl (pgs_cons (pg_name (i := 1) sc_blocked.nd rfl (by first | exact Or.inl rfl | exact Or.inr rfl)) (pgs_cons (pg_name (i := 2) sc_blocked.nd rfl (by first | exact Or.inl rfl | exact Or.inr rfl)) pgs_nil)))) (fun _ _ _ _ _ => (pts_one (pt_cmpR op_isN (pv 2) pe_non (nomark _)))) (fun _ _ _ _ _ => (pv 1))) (pe_lst (pa_cons pe_non pa_nil))) pe_int (fun _ _ => rfl))))), ?_⟩
  rintro args cs z cs' ⟨s, rfl, ok, rfl, rfl, rfl⟩
  have hN := needsM_small ok
  refine run_expr (ev_call (sub := []) (ea_cons (ev_vard 0 rfl) ea_nil) (List.nil_sublist _) ⟨s, rfl, ok, rfl, rfl, rfl⟩) ?_
  refine run_ret (z := .dat (hdO (nonesM (needsM s)))) (ev_op (EvN.ev (evn_op (Ev.is (e := .list ((nonesM (needsM s)).map encP)) (EvN.ev (evn_flt (xs := needsM s) (enc := encNP) (fun x => x.2.isNone) (fun x => encP x.1) (ei_ML (ev_call (sub := []) (ea_cons (ev_vard 0 rfl) ea_nil) (List.nil_sublist _) ⟨s, rfl, ok, rfl, rfl, rfl⟩)) (by omega) fun x hx => ⟨_, tg_pair 1 2, by simp, EvT.is (et_test (ev_op (ev_vard 2 rfl) ev_non opd_isN)) ?_, ev_vard 1 rfl⟩)) ?_) (EvN.ev (evn_lst (ea_cons ev_non ea_nil) (dats_cons dats_nil) (by show 1 ≤ 100000; decide))) (opn_addL rds_dat rds_dat ?_))) ev_int (opd_ixL rds_dat rds_dat (hdO_at _))) ⟨rfl, List.nil_sublist _⟩
  · cases x.2 <;> rfl
  · unfold nonesM
    rw [List.map_map]
    rfl
  · rw [List.length_map]
    unfold nonesM
    have := List.length_filter_le (fun x : List Int × Option Nat => x.2.isNone) (needsM s)
    rw [List.length_map]
    show _ + 1 ≤ 100000
    omega
def encH (b : Nat × List Int) : PyData := .tuple [eI b.1, encP b.2]
def rHardest : List Sl → Cs → Sl → Cs → Prop := fun args cs z cs' => ∃ s : Sg, args = [.dat (encS s)] ∧ OkS s ∧ cs = [] ∧ cs' = [] ∧ z = .dat (encH (hardM (needsM s)))
def hardS (b : Nat × List Int) (p : List Int) : Option Nat → Nat × List Int
  | none => b
  | some k => if b.1 < k then (k, p) else b
theorem hard_snoc (l : List (List Int × Option Nat)) (p : List Int) (o : Option Nat) : hardM (l ++ [(p, o)]) = hardS (hardM l) p o := by
  unfold hardM
  rw [List.foldl_append]
  cases o <;> rfl
theorem ok_hardest (B : Co mg) (D : Def K mg "hardest" s_hardest ["sign"]) (c_need_sign : Cal P w K mg base 4 "need_sign" ["value"] (SpG K rNeedSign)) (c_needs_of : Cal P w K mg base 5 "needs_of" ["sign"] (SpG K rNeedsOf)) : Cal P w K mg base 6 "hardest" ["sign"] (SpG K rHardest) := by
  refine D.cal sc_hardest (fun args cs z cs' ⟨_, e, _⟩ => by rw [e]; rfl) fun cdv A outer s H E f hr => ⟨_, (pss_cons (ps_expr (pe_cal c_need_sign hr (by decide) (by rfl) (pa_cons (pv 0) pa_nil)))
      (pss_cons (ps_set (i := 1) sc_hardest.nd rfl (by first | exact Or.inl rfl | exact Or.inr rfl) (pe_tup (pa_cons pe_int (pa_cons (pe_tup pa_nil) pa_nil))))
      (pss_cons (ps_for PassesOwn.never rfl (pi_K K (pe_cal c_needs_of hr (by decide) (by rfl) (pa_cons (pv 0) pa_nil))) (pg_tupK (n := 2) K rfl (pgs_cons (pg_name (i := 2) sc_hardest.nd rfl (by first | exact Or.inl rfl | exact Or.inr rfl)) (pgs_cons (pg_name (i := 3) sc_hardest.nd rfl (by first | exact Or.inl rfl | exact Or.inr rfl)) pgs_nil))) (pss_one (ps_if (PW.pt (pw_and (pt_cmpR op_notN (pv 3) pe_non (nomark _)) (pw_and1 (pt_cmpR op_gt (pv 3) (pe_ix (ix_K K) (pv 1) pe_int (fun _ _ => rfl)) (nomark _))))) (pss_one (ps_set (i := 1) sc_hardest.nd rfl (by first | exact Or.inl rfl | exact Or.inr rfl) (pe_tup (pa_cons (pv 3) (pa_cons (pv 2) pa_nil))))) pss_nil)))
      (pss_one (ps_ret (pv 1)))))), ?_⟩
  rintro args cs z cs' ⟨s, rfl, ok, rfl, rfl, rfl⟩
  refine run_expr (ev_call (sub := []) (ea_cons (ev_vard 0 rfl) ea_nil) (List.nil_sublist _) ⟨s, rfl, ok, rfl, rfl, rfl⟩) ?_
  refine run_asg 1 (Ev.is (e := encH (0, [])) (ev_tup (ea_cons ev_int (ea_cons (Ev.is (e := encP []) (ev_tup ea_nil dats_nil (by decide)) rfl) ea_nil)) (dats_cons (dats_cons dats_nil)) (by show 2 ≤ 100000; decide)) rfl) ?_
  refine run_seq (fun ρ' c => ∃ x2 x3 : Sl, ρ' = [.dat (encS s), .dat (encH (hardM (needsM s))), x2, x3] ∧ c = []) (run_for (items := (needsM s).map encNP) (fun i ρ' c => ∃ x2 x3 : Sl, ρ' = [.dat (encS s), .dat (encH (hardM ((needsM s).take i))), x2, x3] ∧ c = []) (ei_ML (ev_call (sub := []) (ea_cons (ev_vard 0 rfl) ea_nil) (List.nil_sublist _) ⟨s, rfl, ok, rfl, rfl, rfl⟩)) ⟨_, _, rfl, rfl⟩ ?_ ?_) ?_
  · rintro i e ρ' c hi ⟨x2, x3, rfl, rfl⟩
    rw [List.getElem?_map] at hi
    obtain ⟨⟨p, o⟩, hx, rfl⟩ := Option.map_eq_some_iff.mp hi
    refine ⟨_, tg_pair 2 3, ?_⟩
    have hnx : hardM ((needsM s).take (i + 1)) = hardS (hardM ((needsM s).take i)) p o := by
      rw [List.take_add_one, hx, Option.toList_some, hard_snoc]
    rw [hnx]
    generalize hardM ((needsM s).take i) = b
    cases o with
    | none => exact run_if (b := false) (EvT.is (et_and (a := false) (b := false) (EvT.is (et_test (ev_op (ev_vard 3 rfl) ev_non opd_notN)) rfl) (fun z => nomatch z)) rfl) (fun z => nomatch z) fun _ => run_next ⟨_, _, rfl, rfl⟩
    | some k =>
      refine run_if (b := decide (b.1 < k)) (EvT.is (et_and (a := true) (b := decide ((b.1 : Int) < (k : Int))) (EvT.is (et_test (ev_op (ev_vard 3 rfl) ev_non opd_notN)) rfl) (fun _ => et_test (ev_op (ev_vard 3 rfl) (ev_op (ev_vard 1 rfl) ev_int (opd_ixT (d := eI b.1) rds_dat rds_dat rfl)) (opd_gt rds_dat rds_dat)))) ?_) (fun hc => ?_) (fun hc => ?_)
      · rw [Bool.true_and]
        exact decide_eq_decide.mpr (by omega)
      · rw [show hardS b p (some k) = (k, p) from if_pos (of_decide_eq_true hc)]
        exact run_asg1 1 (ev_tup (ea_cons (ev_vard 3 rfl) (ea_cons (ev_vard 2 rfl) ea_nil)) (dats_cons (dats_cons dats_nil)) (by show 2 ≤ 100000; decide)) ⟨_, _, rfl, rfl⟩
      · rw [show hardS b p (some k) = b from if_neg (of_decide_eq_false hc)]
        exact run_next ⟨_, _, rfl, rfl⟩
  · rintro ρ' c ⟨x2, x3, rfl, rfl⟩
    exact ⟨x2, x3, by rw [List.length_map, List.take_length], rfl⟩
  · rintro ρ' c ⟨x2, x3, rfl, rfl⟩
    exact run_ret (ev_vard 1 rfl) ⟨rfl, List.nil_sublist _⟩
def rCount : List Sl → Cs → Sl → Cs → Prop := fun args cs z cs' => ∃ (s : Sg) (m : Nat), args = [.dat (encS s), .dat (eI m)] ∧ OkS s ∧ m ≤ 8 ∧ cs = [] ∧ cs' = [] ∧ z = .dat (eI (uptoM (needsM s) m).length)
theorem ev_upto {ρ : List Sl} {c : Cs} {ta tb : TE} (o : Option Nat) (m : Nat) (h1 : Ev K ta ρ c (.dat (encNO o)) c) (h2 : Ev K tb ρ c (.dat (eI m)) c) : EvT K (tAnd (tTest (tOp (fun x y H Q => y = .non ∧ Q (.bl (!decide (x = .non))) H) ta (tC .non))) (tTest (tOp (rI0 fun i j => .bl (decide (i ≤ j))) ta tb))) ρ c (leO o m) c := by
  cases o with
  | none => exact EvT.is (et_and (a := false) (b := false) (EvT.is (et_test (ev_op h1 ev_non opd_notN)) rfl) (fun z => nomatch z)) rfl
  | some k => exact EvT.is (et_and (a := true) (b := decide ((k : Int) ≤ (m : Int))) (EvT.is (et_test (ev_op h1 ev_non opd_notN)) rfl) (fun _ => et_test (ev_op h1 h2 (opd_le rds_dat rds_dat)))) (by
      rw [Bool.true_and]
      show decide _ = decide (k ≤ m)
      exact decide_eq_decide.mpr (by omega))
theorem ok_count (B : Co mg) (D : Def K mg "count" s_count ["sign", "many"]) (c_need_sign : Cal P w K mg base 4 "need_sign" ["value"] (SpG K rNeedSign)) (c_is_count : Cal P w K mg base 1 "is_count" ["value", "least", "most"] (SpG K rIsCount)) (c_needs_of : Cal P w K mg base 5 "needs_of" ["sign"] (SpG K rNeedsOf)) : Cal P w K mg base 6 "count" ["sign", "many"] (SpG K rCount) := by
  refine D.cal sc_count (fun args cs z cs' ⟨_, _, e, _⟩ => by rw [e]; rfl) fun cdv A outer s H E f hr => ⟨_, (pss_cons (ps_expr (pe_cal c_need_sign hr (by decide) (by rfl) (pa_cons (pv 0) pa_nil)))
      (pss_cons (ps_if (pt_not (pt_val (pe_cal c_is_count hr (by decide) (by rfl) (pa_cons (pv 1) (pa_cons pe_int (pa_cons pe_int pa_nil)))))) (pss_one ps_never) pss_nil)
      (pss_one (ps_ret (pe_callB (len_K K) (by rfl) B.len_ (by decide +kernel) (pa_cons (pe_lc (own := [("picture", 2), ("need", 3)]) rfl sc_count.nd  (pi_K K (pe_cal c_needs_of hr (by decide) (by rfl) (pa_cons (pv 0) pa_nil))) (blkOk_by (N := ["sign", "many", "picture", "need"]) (sc := (defScope s_count)) (by decide +kernel)) (fun _ _ _ _ _ => (pg_tupK (n := 2) K rfl (pgs_cons (pg_name (i := 2) sc_count.nd rfl (by first | exact Or.inl rfl | exact Or.inr rfl)) (pgs_cons (pg_name (i := 3) sc_count.nd rfl (by first | exact Or.inl rfl | exact Or.inr rfl)) pgs_nil)))) (fun _ _ _ _ _ => (pts_one (PW.pt (pw_and (pt_cmpR op_notN (pv 3) pe_non (nomark _)) (pw_and1 (pt_cmpR op_le (pv 3) (pv 1) (nomark _))))))) (fun _ _ _ _ _ => (pv 2))) pa_nil)))))), ?_⟩
  rintro args cs z cs' ⟨s, m, rfl, ok, hm, rfl, rfl, rfl⟩
  have hN := needsM_small ok
  refine run_expr (ev_call (sub := []) (ea_cons (ev_vard 0 rfl) ea_nil) (List.nil_sublist _) ⟨s, rfl, ok, rfl, rfl, rfl⟩) ?_
  refine run_ifS (b := false) (EvT.is (et_not (et_B (ev_call (sub := []) (ea_cons (ev_vard 1 rfl) (ea_cons ev_int (ea_cons ev_int ea_nil))) (List.nil_sublist _) ⟨_, _, _, rfl, rfl, rfl, rfl⟩))) ?_) (fun z => nomatch z) fun _ => run_nextS ?_
  · rw [show isCountD (eI m) 0 8 = true from isCountD_ok (by omega) (by omega)]
    rfl
  refine run_ret (z := .dat (eI (uptoM (needsM s) m).length)) (Ev.is (ev_cb (ea_cons (EvN.ev (evn_flt (xs := needsM s) (enc := encNP) (fun x => leO x.2 m) (fun x => encP x.1) (ei_ML (ev_call (sub := []) (ea_cons (ev_vard 0 rfl) ea_nil) (List.nil_sublist _) ⟨s, rfl, ok, rfl, rfl, rfl⟩)) (by omega) fun x hx => ⟨_, tg_pair 2 3, by simp, ev_upto x.2 m (ev_vard 3 rfl) (ev_vard 1 rfl), ev_vard 2 rfl⟩)) ea_nil) (cd_lenL rds_dat)) ?_) ⟨rfl, List.nil_sublist _⟩
  rw [List.length_map]
  rfl
end
--END
end LW

set_option Elab.async false
set_option linter.all false
set_option maxRecDepth 100000
set_option maxHeartbeats 4000000
namespace LW
open PySem PySem.Spec PyProof.Rows L2
--BEGIN
abbrev s_apart : Stmt := topS 29
theorem sc_apart : FnScope ["sign", "picture", "clean", "best", "part", "lamp", "one"] ["sign", "picture"] (defScope s_apart) := ⟨rfl, rfl, rfl, by decide +kernel, rfl, by decide +kernel, by decide +kernel⟩
section
variable {P : Program} {w : World} {K : PySem.W.Frag} {mg : Str → Option Value} {base : Heap}
def rApart : List Sl → Cs → Sl → Cs → Prop := fun args cs z cs' => ∃ (s : Sg) (p : List Int), args = [.dat (encS s), .dat (encP p)] ∧ OkS s ∧ PicOf s p ∧ cs = [] ∧ cs' = [] ∧ z = .dat (encP (apartM (keysG (glowsM s)) p))
theorem ok_apart (B : Co mg) (D : Def K mg "apart" s_apart ["sign", "picture"]) (c_need_sign : Cal P w K mg base 4 "need_sign" ["value"] (SpG K rNeedSign)) (c_need_picture : Cal P w K mg base 2 "need_picture" ["sign", "value"] (SpG K rNeedPic)) (c_glows_of : Cal P w K mg base 3 "glows_of" ["sign"] (SpN K rGlowsOf)) (c_clean_glows : Cal P w K mg base 2 "clean_glows" ["glows", "picture"] (SpG K rClean)) (c_all_pictures : Cal P w K mg base 1 "all_pictures" ["lamps"] (SpG K rAllPics)) : Cal P w K mg base 5 "apart" ["sign", "picture"] (SpG K rApart) := by
  refine D.cal sc_apart (fun args cs z cs' ⟨_, _, e, _⟩ => by rw [e]; rfl) fun cdv A outer s H E f hr => ⟨_, (pss_cons (ps_expr (pe_cal c_need_sign hr (by decide) (by rfl) (pa_cons (pv 0) pa_nil)))
      (pss_cons (ps_expr (pe_cal c_need_picture hr (by decide) (by rfl) (pa_cons (pv 0) (pa_cons (pv 1) pa_nil))))
      (pss_cons (ps_par (by rfl) sc_apart.nd (i := 2) (j := 3) rfl rfl (by decide) rfl rfl (pa_cons (pe_cal c_clean_glows hr (by decide) (by rfl) (pa_cons (pe_cal c_glows_of hr (by decide) (by rfl) (pa_cons (pv 0) pa_nil)) (pa_cons (pv 1) pa_nil))) (pa_cons (pe_tup pa_nil) pa_nil)) (by rfl))
      (pss_cons (ps_for PassesOwn.never rfl (pi_K K (pe_cal c_all_pictures hr (by decide) (by rfl) (pa_cons (pv 1) pa_nil))) (pg_name (i := 4) sc_apart.nd rfl (by first | exact Or.inl rfl | exact Or.inr rfl)) (pss_one (ps_if (PW.pt (pw_and (pt_cmpR op_gt (pe_callB (len_K K) (by rfl) B.len_ (by decide +kernel) (pa_cons (pv 4) pa_nil)) (pe_callB (len_K K) (by rfl) B.len_ (by decide +kernel) (pa_cons (pv 3) pa_nil)) (nomark _)) (pw_and1 (pt_not (pt_val (pe_callB (any_K K) (by rfl) B.any_ (by decide +kernel) (pa_cons (pe_lc (own := [("one", 6)]) rfl sc_apart.nd  (pi_K K (pv 2)) (blkOk_by (N := ["sign", "picture", "clean", "best", "part", "lamp", "one"]) (sc := (defScope s_apart)) (by decide +kernel)) (fun _ _ _ _ _ => (pg_name (i := 6) sc_apart.nd rfl (by first | exact Or.inl rfl | exact Or.inr rfl))) (fun _ _ _ _ _ => pts_nil) (fun _ _ _ _ _ => (pe_cmpR op_gt (pe_callB (len_K K) (by rfl) B.len_ (by decide +kernel) (pa_cons (pe_lc (own := [("lamp", 5)]) rfl sc_apart.nd  (pi_K K (pv 4)) (blkOk_by (N := ["sign", "picture", "clean", "best", "part", "lamp", "one"]) (sc := _) (by kernel_rfl)) (fun _ _ _ _ _ => (pg_name (i := 5) sc_apart.nd rfl (by first | exact Or.inl rfl | exact Or.inr rfl))) (fun _ _ _ _ _ => (pts_one (pt_cmpR (op_inK K (ru hr)) (pv 5) (pv 6) rfl))) (fun _ _ _ _ _ => (pv 5))) pa_nil)) pe_int (nomark _)))) pa_nil))))))) (pss_one (ps_set (i := 3) sc_apart.nd rfl (by first | exact Or.inl rfl | exact Or.inr rfl) (pv 4))) pss_nil)))
      (pss_one (ps_ret (pv 3))))))), ?_⟩
  rintro args cs z cs' ⟨s, p, rfl, ok, hp, rfl, rfl, rfl⟩
  have hg := glows_glp ok
  have hpl := (hp.pic ok).len
  have hcl : (cleanM (keysG (glowsM s)) p).length ≤ 243 := Nat.le_trans (List.length_filter_le _ _) hg.klen
  refine run_expr (ev_call (sub := []) (ea_cons (ev_vard 0 rfl) ea_nil) (List.nil_sublist _) ⟨s, rfl, ok, rfl, rfl, rfl⟩) ?_
  refine run_expr (ev_call (sub := []) (ea_cons (ev_vard 0 rfl) (ea_cons (ev_vard 1 rfl) ea_nil)) (List.nil_sublist _) ⟨s, p, rfl, ok, hp, rfl, rfl, rfl⟩) ?_
  refine run_par 2 3 (ea_cons (ev_callN1 (cs1 := []) (cs2 := []) (evn_call (sub := []) (ea_cons (ev_vard 0 rfl) ea_nil) (List.nil_sublist _) ⟨s, rfl, ok, rfl, rfl, rfl⟩) (fun d => ea_cons (ev_vard 1 rfl) ea_nil) (fun d => ⟨d, glowsM s, p, rfl, hg, rfl, rfl, rfl⟩)) (ea_cons (Ev.is (e := encP []) (ev_tup ea_nil dats_nil (by decide)) rfl) ea_nil)) ?_
  refine run_seq (fun ρ' c => ∃ x4 x5 x6 : Sl, ρ' = [.dat (encS s), .dat (encP p), .dat (.list ((cleanM (keysG (glowsM s)) p).map encP)), .dat (encP (apartM (keysG (glowsM s)) p)), x4, x5, x6] ∧ c = []) (run_for (items := (picsM p).map encP) (fun i ρ' c => ∃ x4 x5 x6 : Sl, ρ' = [.dat (encS s), .dat (encP p), .dat (.list ((cleanM (keysG (glowsM s)) p).map encP)), .dat (encP (((picsM p).take i).foldl (apS (cleanM (keysG (glowsM s)) p)) [])), x4, x5, x6] ∧ c = []) (ei_ML (ev_call (sub := []) (ea_cons (ev_vard 1 rfl) ea_nil) (List.nil_sublist _) ⟨p, rfl, hpl, rfl, rfl, rfl⟩)) ⟨_, _, _, rfl, rfl⟩ ?_ ?_) ?_
  · rintro i e ρ' c hi ⟨x4, x5, x6, rfl, rfl⟩
    rw [List.getElem?_map] at hi
    obtain ⟨q, hq, rfl⟩ := Option.map_eq_some_iff.mp hi
    have hqp := (mem_picsM hp.srt).mp (List.mem_of_getElem? hq)
    have hql : q.length ≤ 7 := by
      have := nodup_le (srt_nd hqp.1) (ks := p) hqp.2
      omega
    refine ⟨_, tg_name 4, ?_⟩
    have hnx : ((picsM p).take (i + 1)).foldl (apS (cleanM (keysG (glowsM s)) p)) [] = apS (cleanM (keysG (glowsM s)) p) (((picsM p).take i).foldl (apS (cleanM (keysG (glowsM s)) p)) []) q := by
      rw [List.take_add_one, hq, List.foldl_append]
      rfl
    rw [hnx]
    generalize ((picsM p).take i).foldl (apS (cleanM (keysG (glowsM s)) p)) [] = b
    generalize cleanM (keysG (glowsM s)) p = cl at hcl
    refine run_if (b := decide (b.length < q.length) && okA cl q) (et_and (EvT.is (et_test (ev_op (ev_cb (ea_cons (ev_vard 4 rfl) ea_nil) (cd_lenT (ds := q.map PyData.int) rds_dat)) (ev_cb (ea_cons (ev_vard 3 rfl) ea_nil) (cd_lenT (ds := b.map PyData.int) rds_dat)) (opd_gt rds_dat rds_dat))) ?_) fun _ => et_not (EvT.is (et_B (ev_cb (ea_cons (EvN.ev (evn_map (xs := cl) (enc := encP) (fun one => .bool (decide (1 < meetN q one))) (ei_ML (ev_vard 2 rfl)) (by omega) fun one ho => ⟨_, tg_name 6, by simp, Ev.is (ev_op (ev_cb (ea_cons (EvN.ev (evn_flt (xs := q) (enc := PyData.int) (fun x => decide (x ∈ one)) PyData.int (ei_MT (ev_vard 4 rfl)) (by omega) fun x hx => ⟨_, tg_name 5, by simp, et_test (ev_op (ev_vard 5 rfl) (ev_vard 6 rfl) (opd_inT rds_dat rds_dat)), ev_vard 5 rfl⟩)) ea_nil) (cd_lenL rds_dat)) ev_int (opd_gt rds_dat rds_dat)) ?_⟩)) ea_nil) (cd_any (bs := cl.map fun one => decide (1 < meetN q one)) (by rw [List.map_map]; exact rds_dat)))) ?_)) (fun hc => ?_) (fun hc => ?_)
    · rw [List.length_map, List.length_map]
      exact decide_eq_decide.mpr (by omega)
    · rw [List.length_map]
      refine congrArg PyData.bool (decide_eq_decide.mpr ?_)
      unfold meetN
      omega
    · rw [List.any_map]
      rfl
    · rw [show apS cl b q = q from if_pos hc]
      exact run_asg1 3 (ev_vard 4 rfl) ⟨_, _, _, rfl, rfl⟩
    · rw [show apS cl b q = b from if_neg (by rw [hc]; decide)]
      exact run_next ⟨_, _, _, rfl, rfl⟩
  · rintro ρ' c ⟨x4, x5, x6, rfl, rfl⟩
    exact ⟨x4, x5, x6, by rw [List.length_map, List.take_length]; rfl, rfl⟩
  · rintro ρ' c ⟨x4, x5, x6, rfl, rfl⟩
    exact run_ret (ev_vard 3 rfl) ⟨rfl, List.nil_sublist _⟩
end
--END
end LW

set_option Elab.async false
set_option linter.all false
set_option maxRecDepth 100000
set_option maxHeartbeats 4000000
namespace LW
open PySem PySem.Spec PyProof.Rows L2
--BEGIN
abbrev s_lowest : Stmt := topS 31
theorem sc_lowest : FnScope ["numerator", "denominator", "one", "two"] ["numerator", "denominator"] (defScope s_lowest) := ⟨rfl, rfl, rfl, by decide +kernel, rfl, by decide +kernel, by decide +kernel⟩
section
variable {P : Program} {w : World} {K : PySem.W.Frag} {mg : Str → Option Value} {base : Heap}
def rLowest : List Sl → Cs → Sl → Cs → Prop := fun args cs z cs' => ∃ n d : Int, args = [.dat (.int n), .dat (.int d)] ∧ 0 < d ∧ d.natAbs.log2 < 9000 ∧ cs = [] ∧ cs' = [] ∧ z = .dat (encQ (lowM n d))
theorem ok_lowest (B : Co mg) (D : Def K mg "lowest" s_lowest ["numerator", "denominator"]) : Cal P w K mg base 1 "lowest" ["numerator", "denominator"] (SpG K rLowest) := by
  refine D.cal sc_lowest (fun args cs z cs' ⟨_, _, e, _⟩ => by rw [e]; rfl) fun cdv A outer s H E f hr => ⟨_, (pss_cons (ps_par (by rfl) sc_lowest.nd (i := 2) (j := 3) rfl rfl (by decide) rfl rfl (pa_cons (pe_callB call_abs (by rfl) B.abs_ (by decide +kernel) (pa_cons (pv 0) pa_nil)) (pa_cons (pe_callB call_abs (by rfl) B.abs_ (by decide +kernel) (pa_cons (pv 1) pa_nil)) pa_nil)) (by rfl))
      (pss_cons (ps_while PassesOwn.never (pt_cmpR op_gt (pv 3) pe_int (nomark _)) (pss_one (ps_par (by rfl) sc_lowest.nd (i := 2) (j := 3) rfl rfl (by decide) rfl rfl (pa_cons (pv 3) (pa_cons (pe_op op_mod (pv 2) (pv 3)) pa_nil)) (by rfl))))
      (pss_cons (ps_set (i := 2) sc_lowest.nd rfl (by first | exact Or.inl rfl | exact Or.inr rfl) (pe_ifExp (pt_cmpR op_lt (pv 1) pe_int (nomark _)) (pe_un un_neg (pv 2)) (pv 2)))
      (pss_one (ps_ret (pe_tup (pa_cons (pe_op op_fdivW (pv 0) (pv 2)) (pa_cons (pe_op op_fdivW (pv 1) (pv 2)) pa_nil)))))))), ?_⟩
  rintro args cs z cs' ⟨n, d, rfl, hd, hd2, rfl, rfl, rfl⟩
  refine run_par 2 3 (ea_cons (ev_cb (ea_cons (ev_vard 0 rfl) ea_nil) (cd_abs rds_dat)) (ea_cons (ev_cb (ea_cons (ev_vard 1 rfl) ea_nil) (cd_abs rds_dat)) ea_nil)) ?_
  refine run_seq (fun ρ' c => ρ' = [.dat (.int n), .dat (.int d), .dat (.int (Int.gcd n d : Int)), .dat (.int 0)] ∧ c = []) (run_while (fun m ρ' c => ∃ a b : Int, 0 ≤ a ∧ 0 ≤ b ∧ b.toNat = m ∧ Int.gcd a b = Int.gcd n d ∧ ρ' = [.dat (.int n), .dat (.int d), .dat (.int a), .dat (.int b)] ∧ c = []) d.natAbs ⟨n.natAbs, d.natAbs, by omega, by omega, by omega, ?_, rfl, rfl⟩ ?_) ?_
  · rfl
  · rintro m ρ' c ⟨a, b, ha, hb, hm, hg, rfl, rfl⟩
    refine ⟨decide (0 < b), [], EvT.is (et_test (ev_op (ev_vard 3 rfl) ev_int (opd_gt (i := b) (j := 0) rds_dat rds_dat))) rfl, fun h => ?_, fun h => ?_⟩
    · have h := of_decide_eq_true h
      have h1 := Int.emod_nonneg a (b := b) (by omega)
      have h2 := Int.emod_lt_of_pos a h
      refine run_par1 2 3 (ea_cons (ev_vard 3 rfl) (ea_cons (ev_op (ev_vard 2 rfl) (ev_vard 3 rfl) (opd_mod rds_dat rds_dat h)) ea_nil)) ⟨(a % b).toNat, by omega, b, a % b, hb, h1, rfl, ?_, rfl, rfl⟩
      rw [gcd_step ha h, hg]
    · have h := of_decide_eq_false h
      have h0 : b = 0 := by omega
      subst h0
      refine ⟨?_, rfl⟩
      have e : (Int.gcd n d : Int) = a := by
        rw [← hg, Int.gcd_zero_right]
        omega
      rw [e]
  · rintro ρ' c ⟨rfl, rfl⟩
    have hg := gcd_pos (n := n) hd
    have hle := gcd_le (n := n) hd
    refine run_asg 2 (ev_if (b := false) (EvT.is (et_test (ev_op (ev_vard 1 rfl) ev_int (opd_lt (i := d) (j := 0) rds_dat rds_dat))) (decide_eq_false (by omega))) (fun z => nomatch z) (fun _ => ev_vard 2 rfl)) ?_
    have hc : ∀ x : Int, CDivW x (Int.gcd n d : Int) := fun x => ⟨by omega, by
      show (Int.gcd n d).log2 < 9000
      exact Nat.lt_of_le_of_lt (log2_mono hle) hd2⟩
    exact run_ret (z := .dat (encQ (lowM n d))) (ev_tup (ea_cons (ev_op (ev_vard 0 rfl) (ev_vard 2 rfl) (opd_fdivW rds_dat rds_dat (hc n))) (ea_cons (ev_op (ev_vard 1 rfl) (ev_vard 2 rfl) (opd_fdivW rds_dat rds_dat (hc d))) ea_nil)) (dats_cons (dats_cons dats_nil)) (by show 2 ≤ 100000; decide)) ⟨rfl, List.Sublist.refl _⟩
end
--END
end LW

set_option Elab.async false
set_option linter.all false
set_option maxRecDepth 100000
set_option maxHeartbeats 4000000
namespace LW
open PySem PySem.Spec PyProof.Rows L2
--BEGIN
abbrev s_times : Stmt := topS 32
theorem sc_times : FnScope ["one", "two"] ["one", "two"] (defScope s_times) := ⟨rfl, rfl, rfl, by decide +kernel, rfl, by decide +kernel, by decide +kernel⟩
abbrev s_minus : Stmt := topS 33
theorem sc_minus : FnScope ["one", "two"] ["one", "two"] (defScope s_minus) := ⟨rfl, rfl, rfl, by decide +kernel, rfl, by decide +kernel, by decide +kernel⟩
abbrev s_table_of : Stmt := topS 34
theorem sc_table_of : FnScope ["parts", "picture", "rows", "at", "part", "row", "lamp", "other", "last"] ["parts", "picture"] (defScope s_table_of) := ⟨rfl, rfl, rfl, by decide +kernel, rfl, by decide +kernel, by decide +kernel⟩
abbrev s_leaving_row : Stmt := topS 35
theorem sc_leaving_row : FnScope ["rows", "basis", "column", "best", "at", "ratio", "key"] ["rows", "basis", "column"] (defScope s_leaving_row) := ⟨rfl, rfl, rfl, by decide +kernel, rfl, by decide +kernel, by decide +kernel⟩
abbrev s_turned : Stmt := topS 36
theorem sc_turned : FnScope ["rows", "at", "column", "own", "value", "made", "place", "row", "part"] ["rows", "at", "column"] (defScope s_turned) := ⟨rfl, rfl, rfl, by decide +kernel, rfl, by decide +kernel, by decide +kernel⟩
abbrev s_solved : Stmt := topS 37
theorem sc_solved : FnScope ["parts", "picture", "rows", "many", "basis", "at", "value", "column", "weights", "taken"] ["parts", "picture"] (defScope s_solved) := ⟨rfl, rfl, rfl, by decide +kernel, rfl, by decide +kernel, by decide +kernel⟩
abbrev s_need_lamps : Stmt := topS 38
theorem sc_need_lamps : FnScope ["sign", "picture"] ["sign", "picture"] (defScope s_need_lamps) := ⟨rfl, rfl, rfl, by decide +kernel, rfl, by decide +kernel, by decide +kernel⟩
abbrev s_solution : Stmt := topS 39
theorem sc_solution : FnScope ["sign", "picture", "glows", "parts"] ["sign", "picture"] (defScope s_solution) := ⟨rfl, rfl, rfl, by decide +kernel, rfl, by decide +kernel, by decide +kernel⟩
abbrev s_brightness : Stmt := topS 40
theorem sc_brightness : FnScope ["sign", "picture", "found"] ["sign", "picture"] (defScope s_brightness) := ⟨rfl, rfl, rfl, by decide +kernel, rfl, by decide +kernel, by decide +kernel⟩
def encRow (r : List Rat) : PyData := .list (r.map encR)
def encTb (T : List (List Rat)) : PyData := .list (T.map encRow)
def big : Nat := 1152921504606846976
theorem mul_big {a b : Int} (h : b.natAbs ≤ big) : IntMulOk a b := CMul.ok (.inr (by unfold big at h; constructor <;> omega))
theorem den_big {a b : Nat} (ha : a ≤ big) (hb : b ≤ big) : (((a : Int) * (b : Int)).natAbs).log2 < 9000 := by
  rw [Int.natAbs_mul, Int.natAbs_natCast, Int.natAbs_natCast]
  exact Nat.lt_of_le_of_lt (log2_mono (Nat.mul_le_mul ha hb)) (by decide +kernel)
section
variable {P : Program} {w : World} {K : PySem.W.Frag} {mg : Str → Option Value} {base : Heap}
def rTimes : List Sl → Cs → Sl → Cs → Prop := fun args cs z cs' => ∃ a b : Rat, args = [.dat (encR a), .dat (encR b)] ∧ Szz big a ∧ Szz big b ∧ cs = [] ∧ cs' = [] ∧ z = .dat (encR (a * b))
def rMinus : List Sl → Cs → Sl → Cs → Prop := fun args cs z cs' => ∃ a b : Rat, args = [.dat (encR a), .dat (encR b)] ∧ Szz big a ∧ Szz big b ∧ cs = [] ∧ cs' = [] ∧ z = .dat (encR (a - b))
theorem ev_num {ρ : List Sl} {cs cs1 : Cs} {te : TE} {a : Rat} (h : Ev K te ρ cs (.dat (encR a)) cs1) : Ev K (tOp (rIx K) te (tC (.int 0))) ρ cs (.dat (.int a.num)) cs1 := ev_op h ev_int (opd_ixT (d := .int a.num) rds_dat rds_dat (atI_get (i := 0) rfl))
theorem ev_den {ρ : List Sl} {cs cs1 : Cs} {te : TE} {a : Rat} (h : Ev K te ρ cs (.dat (encR a)) cs1) : Ev K (tOp (rIx K) te (tC (.int 1))) ρ cs (.dat (.int (a.den : Int))) cs1 := ev_op h ev_int (opd_ixT (d := .int (a.den : Int)) rds_dat rds_dat (atI_get (i := 1) rfl))
theorem den_pos (a b : Rat) : 0 < (a.den : Int) * (b.den : Int) := by
  have h1 := a.den_pos
  have h2 := b.den_pos
  exact Int.mul_pos (by omega) (by omega)
theorem ok_times (B : Co mg) (D : Def K mg "times" s_times ["one", "two"]) (c_lowest : Cal P w K mg base 1 "lowest" ["numerator", "denominator"] (SpG K rLowest)) : Cal P w K mg base 2 "times" ["one", "two"] (SpG K rTimes) := by
  refine D.cal sc_times (fun args cs z cs' ⟨_, _, e, _⟩ => by rw [e]; rfl) fun cdv A outer s H E f hr => ⟨_, (pss_one (ps_ret (pe_cal c_lowest hr (by decide) (by rfl) (pa_cons (pe_op op_mulM (pe_ix (ix_K K) (pv 0) pe_int (fun _ _ => rfl)) (pe_ix (ix_K K) (pv 1) pe_int (fun _ _ => rfl))) (pa_cons (pe_op op_mulM (pe_ix (ix_K K) (pv 0) pe_int (fun _ _ => rfl)) (pe_ix (ix_K K) (pv 1) pe_int (fun _ _ => rfl))) pa_nil))))), ?_⟩
  rintro args cs z cs' ⟨a, b, rfl, ha, hb, rfl, rfl, rfl⟩
  have ha2 := ha.2
  have hb2 := hb.2
  exact run_ret (ev_call (sub := []) (ea_cons (ev_op (ev_num (ev_vard 0 rfl)) (ev_num (ev_vard 1 rfl)) (opd_mulI rds_dat rds_dat (mul_big hb.1))) (ea_cons (ev_op (ev_den (ev_vard 0 rfl)) (ev_den (ev_vard 1 rfl)) (opd_mulI rds_dat rds_dat (mul_big (by omega)))) ea_nil)) (List.nil_sublist _) ⟨_, _, rfl, den_pos a b, den_big ha2 hb2, rfl, rfl, by rw [low_mul]; rfl⟩) ⟨rfl, List.Sublist.refl _⟩
theorem ok_minus (B : Co mg) (D : Def K mg "minus" s_minus ["one", "two"]) (c_lowest : Cal P w K mg base 1 "lowest" ["numerator", "denominator"] (SpG K rLowest)) : Cal P w K mg base 2 "minus" ["one", "two"] (SpG K rMinus) := by
  refine D.cal sc_minus (fun args cs z cs' ⟨_, _, e, _⟩ => by rw [e]; rfl) fun cdv A outer s H E f hr => ⟨_, (pss_one (ps_ret (pe_cal c_lowest hr (by decide) (by rfl) (pa_cons (pe_op op_sub (pe_op op_mulM (pe_ix (ix_K K) (pv 0) pe_int (fun _ _ => rfl)) (pe_ix (ix_K K) (pv 1) pe_int (fun _ _ => rfl))) (pe_op op_mulM (pe_ix (ix_K K) (pv 1) pe_int (fun _ _ => rfl)) (pe_ix (ix_K K) (pv 0) pe_int (fun _ _ => rfl)))) (pa_cons (pe_op op_mulM (pe_ix (ix_K K) (pv 0) pe_int (fun _ _ => rfl)) (pe_ix (ix_K K) (pv 1) pe_int (fun _ _ => rfl))) pa_nil))))), ?_⟩
  rintro args cs z cs' ⟨a, b, rfl, ha, hb, rfl, rfl, rfl⟩
  have ha2 := ha.2
  have hb2 := hb.2
  exact run_ret (ev_call (sub := []) (ea_cons (ev_op (ev_op (ev_num (ev_vard 0 rfl)) (ev_den (ev_vard 1 rfl)) (opd_mulI rds_dat rds_dat (mul_big (by omega)))) (ev_op (ev_num (ev_vard 1 rfl)) (ev_den (ev_vard 0 rfl)) (opd_mulI rds_dat rds_dat (mul_big (by omega)))) (opd_sub rds_dat rds_dat)) (ea_cons (ev_op (ev_den (ev_vard 0 rfl)) (ev_den (ev_vard 1 rfl)) (opd_mulI rds_dat rds_dat (mul_big (by omega)))) ea_nil)) (List.nil_sublist _) ⟨_, _, rfl, den_pos a b, den_big ha2 hb2, rfl, rfl, by rw [low_sub]; rfl⟩) ⟨rfl, List.Sublist.refl _⟩
/-! ### the table -/
def rowK (parts : List (List Int)) (pic : List Int) (k : Nat) : List Rat := (pic.map (fun l => if l ∈ parts.getD k [] then (1 : Rat) else 0) ++ (List.range parts.length).map (fun o => if k = o then (1 : Rat) else 0)) ++ [1]
def rTable : List Sl → Cs → Sl → Cs → Prop := fun args cs z cs' => ∃ (parts : List (List Int)) (pic : List Int), args = [.dat (.list (parts.map encP)), .dat (encP pic)] ∧ parts.length ≤ 200 ∧ pic.length ≤ 7 ∧ cs = [] ∧ cs' = [] ∧ z = .dat (encTb (tableM parts pic))
theorem ev_one {ρ : List Sl} {cs : Cs} : Ev K (tTup (tCons (tC (.int 1)) (tCons (tC (.int 1)) tNil))) ρ cs (.dat (encR 1)) cs := Ev.is (ev_tup (ea_cons ev_int (ea_cons ev_int ea_nil)) (dats_cons (dats_cons dats_nil)) (by show 2 ≤ 100000; decide)) R_one.symm
theorem ev_nought {ρ : List Sl} {cs : Cs} : Ev K (tTup (tCons (tC (.int 0)) (tCons (tC (.int 1)) tNil))) ρ cs (.dat (encR 0)) cs := Ev.is (ev_tup (ea_cons ev_int (ea_cons ev_int ea_nil)) (dats_cons (dats_cons dats_nil)) (by show 2 ≤ 100000; decide)) R_zero.symm
theorem rep_one {α : Type} (n : Nat) (x : α) : (List.replicate n [x]).flatten = List.replicate n x := by
  induction n with
  | zero => rfl
  | succ n ih => rw [List.replicate_succ, List.flatten_cons, ih]; rfl
theorem ok_table_of (B : Co mg) (D : Def K mg "table_of" s_table_of ["parts", "picture"]) : Cal P w K mg base 1 "table_of" ["parts", "picture"] (SpG K rTable) := by
  refine D.cal sc_table_of (fun args cs z cs' ⟨_, _, e, _⟩ => by rw [e]; rfl) fun cdv A outer s H E f hr => ⟨_, (pss_cons (ps_set (i := 2) sc_table_of.nd rfl (by first | exact Or.inl rfl | exact Or.inr rfl) (pe_lst pa_nil))
      (pss_cons (ps_for PassesOwn.never rfl (pi_enumK K (by rfl) B.enumerate_ (pa_cons (pv 0) pa_nil)) (pg_tupK (n := 2) K rfl (pgs_cons (pg_name (i := 3) sc_table_of.nd rfl (by first | exact Or.inl rfl | exact Or.inr rfl)) (pgs_cons (pg_name (i := 4) sc_table_of.nd rfl (by first | exact Or.inl rfl | exact Or.inr rfl)) pgs_nil))) (pss_cons (ps_setLc (i := 5) (own := [("lamp", 6)]) rfl sc_table_of.nd rfl rfl (sw_true rfl rfl rfl (by decide +kernel)) (pi_K K (pv 1)) (blkOk_by (N := ["parts", "picture", "rows", "at", "part", "row", "lamp", "other", "last"]) (sc := (defScope s_table_of)) (by decide +kernel)) (fun _ _ _ _ _ => (pg_name (i := 6) sc_table_of.nd rfl (by first | exact Or.inl rfl | exact Or.inr rfl))) (fun _ _ _ _ _ => pts_nil) (fun _ _ _ _ _ => (pe_ifExp (pt_cmpR (op_inK K (ru hr)) (pv 6) (pv 4) rfl) (pe_tup (pa_cons pe_int (pa_cons pe_int pa_nil))) (pe_tup (pa_cons pe_int (pa_cons pe_int pa_nil))))))
      (pss_cons (ps_expr (pe_bm PySem.F.plainAttrs_list PySem.F.slot_list_extend PySem.F.type_list_extend mt_extend (pv 5) (pa_cons (pe_lc (own := [("other", 7)]) rfl sc_table_of.nd  (pi_range1 (by rfl) B.range_ (pa_cons (pe_callB (len_K K) (by rfl) B.len_ (by decide +kernel) (pa_cons (pv 0) pa_nil)) pa_nil)) (blkOk_by (N := ["parts", "picture", "rows", "at", "part", "row", "lamp", "other", "last"]) (sc := (defScope s_table_of)) (by decide +kernel)) (fun _ _ _ _ _ => (pg_name (i := 7) sc_table_of.nd rfl (by first | exact Or.inl rfl | exact Or.inr rfl))) (fun _ _ _ _ _ => pts_nil) (fun _ _ _ _ _ => (pe_ifExp (pt_cmpR (op_eqK K (ru hr)) (pv 3) (pv 7) (nomark _)) (pe_tup (pa_cons pe_int (pa_cons pe_int pa_nil))) (pe_tup (pa_cons pe_int (pa_cons pe_int pa_nil)))))) pa_nil)))
      (pss_one (ps_expr (pe_bm PySem.F.plainAttrs_list PySem.F.slot_list_append PySem.F.type_list_append mt_append (pv 2) (pa_cons (pe_op (op_addK K) (pv 5) (pe_lst (pa_cons (pe_tup (pa_cons pe_int (pa_cons pe_int pa_nil))) pa_nil))) pa_nil)))))))
      (pss_cons (ps_set (i := 8) sc_table_of.nd rfl (by first | exact Or.inl rfl | exact Or.inr rfl) (pe_op (op_addK K) (pe_op op_mulM (pe_lst (pa_cons (pe_tup (pa_cons pe_int (pa_cons pe_int pa_nil))) pa_nil)) (pe_callB (len_K K) (by rfl) B.len_ (by decide +kernel) (pa_cons (pv 1) pa_nil))) (pe_op op_mulM (pe_lst (pa_cons (pe_tup (pa_cons pe_int (pa_cons pe_int pa_nil))) pa_nil)) (pe_op (op_addK K) (pe_callB (len_K K) (by rfl) B.len_ (by decide +kernel) (pa_cons (pv 0) pa_nil)) pe_int))))
      (pss_one (ps_ret (pe_op (op_addK K) (pv 2) (pe_lst (pa_cons (pv 8) pa_nil)))))))), ?_⟩
  rintro args cs z cs' ⟨parts, pic, rfl, hm, hn, rfl, rfl, rfl⟩
  refine run_asgN 2 (evn_lst ea_nil dats_nil (by decide)) fun q => ?_
  refine run_seq (fun ρ' c => ∃ x3 x4 x5 x6 x7 : Sl, ρ' = [.dat (.list (parts.map encP)), .dat (encP pic), .raw (.ref q), x3, x4, x5, x6, x7, .un] ∧ c = [(q, .lst ((List.range parts.length).map fun k => encRow (rowK parts pic k)))]) (run_for (items := enumD (parts.map encP)) (fun i ρ' c => ∃ x3 x4 x5 x6 x7 : Sl, ρ' = [.dat (.list (parts.map encP)), .dat (encP pic), .raw (.ref q), x3, x4, x5, x6, x7, .un] ∧ c = [(q, .lst ((List.range i).map fun k => encRow (rowK parts pic k)))]) (ei_enumL (ea_cons (ev_vard 0 rfl) ea_nil)) ⟨_, _, _, _, _, rfl, rfl⟩ ?_ ?_) ?_
  · rintro i d ρ' c hi ⟨x3, x4, x5, x6, x7, rfl, rfl⟩
    obtain ⟨e, he, rfl⟩ := enumD_get hi
    rw [List.getElem?_map] at he
    obtain ⟨part, hp, rfl⟩ := Option.map_eq_some_iff.mp he
    have hil := (List.getElem?_eq_some_iff.mp hp).1
    have hpart : parts.getD i [] = part := by rw [List.getD, hp]; rfl
    refine ⟨_, tg_pair 3 4, ?_⟩
    refine run_asgN 5 (EvN.is (es := (pic.map (fun l => if l ∈ parts.getD i [] then (1 : Rat) else 0)).map encR) (evn_map (xs := pic) (enc := PyData.int) (fun l => encR (if l ∈ part then 1 else 0)) (ei_MT (ev_vard 1 rfl)) (by omega) fun l hl => ⟨_, tg_name 6, by simp, ev_if (b := decide (l ∈ part)) (et_test (ev_op (ev_vard 6 rfl) (ev_vard 4 rfl) (opd_inT rds_dat rds_dat))) (fun h => by rw [if_pos (of_decide_eq_true h)]; exact ev_one) (fun h => by rw [if_neg (of_decide_eq_false h)]; exact ev_nought)⟩) (by rw [List.map_map, hpart]; rfl)) fun p5 => ?_
    refine run_expr (ev_extend (es := ((List.range parts.length).map (fun o => if i = o then (1 : Rat) else 0)).map encR) 0 (ev_varr 5 rfl) rfl (Ev.is (EvN.ev (evn_map (xs := List.range parts.length) (enc := eI) (fun o => encR (if i = o then 1 else 0)) (cs1 := (p5, .lst ((pic.map (fun l => if l ∈ parts.getD i [] then (1 : Rat) else 0)).map encR)) :: [(q, .lst ((List.range i).map fun k => encRow (rowK parts pic k)))]) ?_ (by rw [List.length_range]; omega) fun o ho => ⟨_, tg_name 7, by simp, ev_if (b := decide ((i : Int) = (o : Int))) (et_test (ev_op (ev_vard 3 rfl) (ev_vard 7 rfl) (opd_eqI rds_dat rds_dat))) (fun h => by rw [if_pos (by have := of_decide_eq_true h; omega)]; exact ev_one) (fun h => by rw [if_neg (by have := of_decide_eq_false h; omega)]; exact ev_nought)⟩)) (by rw [List.map_map]; rfl)) rds_dat rfl (by simp; omega)) ?_
    · rw [← rangeD0, show parts.length = (((parts.map encP).length : Nat) : Int).toNat by rw [List.length_map]; omega]
      exact ei_range1 (ea_cons (ev_cb (ea_cons (ev_vard 0 rfl) ea_nil) (cd_lenL rds_dat)) ea_nil) (by rw [List.length_map]; omega) (by rw [List.length_map]; omega)
    refine run_frz 5 0 rfl rfl ?_
    refine run_expr1 (ev_append 0 (ev_varr 2 rfl) rfl (Ev.is (e := encRow (rowK parts pic i)) (EvN.ev (evn_op (ev_vard 5 rfl) (EvN.ev (evn_lst (ea_cons ev_one ea_nil) (dats_cons dats_nil) (by show 1 ≤ 100000; decide))) (opn_addL rds_dat rds_dat (by simp; omega)))) (by unfold rowK encRow; rw [List.map_append, List.map_append]; rfl)) rfl (by simp; omega)) ⟨_, _, _, _, _, rfl, ?_⟩
    rw [List.range_succ, List.map_append]
    rfl
  · rintro ρ' c ⟨x3, x4, x5, x6, x7, rfl, rfl⟩
    refine ⟨_, _, _, _, _, rfl, ?_⟩
    rw [show (enumD (parts.map encP)).length = parts.length by unfold enumD; simp]
  · rintro ρ' c ⟨x3, x4, x5, x6, x7, rfl, rfl⟩
    refine run_asg 8 (z := .dat (encRow (List.replicate pic.length 1 ++ List.replicate (parts.length + 1) 0))) (Ev.is (EvN.ev (evn_op (EvN.ev (evn_op (EvN.ev (evn_lst (ea_cons ev_one ea_nil) (dats_cons dats_nil) (by show 1 ≤ 100000; decide))) (ev_cb (ea_cons (ev_vard 1 rfl) ea_nil) (cd_lenT rds_dat)) (opn_mulL rds_dat rds_dat (by omega) (by simp; omega) (by simp; omega)))) (EvN.ev (evn_op (EvN.ev (evn_lst (ea_cons ev_nought ea_nil) (dats_cons dats_nil) (by show 1 ≤ 100000; decide))) (ev_op (ev_cb (ea_cons (ev_vard 0 rfl) ea_nil) (cd_lenL rds_dat)) ev_int (opd_addI rds_dat rds_dat)) (opn_mulL rds_dat rds_dat (by omega) (by simp; omega) (by simp; omega)))) (opn_addL rds_dat rds_dat (by rw [rep_one, rep_one]; simp; omega)))) ?_) ?_
    · rw [rep_one, rep_one]
      unfold encRow
      rw [List.map_append, List.map_replicate, List.map_replicate]
      congr 3
      · simp
      · simp
    refine run_retN (EvN.is (evn_op (ev_varr 2 rfl) (EvN.ev (evn_lst (ea_cons (ev_vard 8 rfl) ea_nil) (dats_cons dats_nil) (by show 1 ≤ 100000; decide))) (opn_addL (rds_cell 0 rfl) rds_dat (by simp; omega))) ?_) ⟨rfl, List.nil_sublist _⟩
    unfold tableM
    rw [List.map_append, List.map_map]
    rfl
/-! ### reading a table -/
theorem atI_m1 {α : Type} {xs : List α} {k : Nat} (h : xs.length = k + 1) : atI xs (-1) = xs[k]? := by
  unfold atI ixN
  rw [if_neg (by omega), if_pos (by omega), h]
  show xs[(-1 + ((k + 1 : Nat) : Int)).toNat]? = _
  congr 1
  omega
section
variable {n m : Nat} {T : List (List Rat)} {ρ : List Sl} {cs cs1 cs2 : Cs} {te ti : TE} {i j : Nat}
theorem row_get (h : Shp n m T) (hi : i ≤ m) : (T.map encRow)[i]? = some (encRow (T.getD i [])) := by
  have hl := h.len
  rw [List.getElem?_map, List.getElem?_eq_getElem (by omega), getD_lt (by omega)]
  rfl
theorem ent_get (h : Shp n m T) (hi : i ≤ m) (hj : j ≤ n + m) : ((T.getD i []).map encR)[j]? = some (encR (tf T i j)) := by
  have hl := (h.get hi).2
  rw [List.getElem?_map, List.getElem?_eq_getElem (by omega)]
  unfold tf
  rw [getD_lt (l := T.getD i []) (by omega)]
  rfl
theorem ev_row (h : Shp n m T) (hi : i ≤ m) (he : Ev K te ρ cs (.dat (encTb T)) cs1) (hx : Ev K ti ρ cs1 (.dat (eI i)) cs2) : Ev K (tOp (rIx K) te ti) ρ cs (.dat (encRow (T.getD i []))) cs2 := ev_op he hx (opd_ixL rds_dat rds_dat (atI_get (row_get h hi)))
theorem ev_rowZ (h : Shp n m T) (he : Ev K te ρ cs (.dat (encTb T)) cs1) : Ev K (tOp (rIx K) te (tUn (rU fun i => .int (-i)) (tC (.int 1)))) ρ cs (.dat (encRow (T.getD m []))) cs1 := ev_op he (ev_neg ev_int) (opd_ixL rds_dat rds_dat ((atI_m1 (by rw [List.length_map]; exact h.len)).trans (row_get h (Nat.le_refl _))))
theorem ev_ent (h : Shp n m T) (hi : i ≤ m) (hj : j ≤ n + m) (he : Ev K te ρ cs (.dat (encRow (T.getD i []))) cs1) (hx : Ev K ti ρ cs1 (.dat (eI j)) cs2) : Ev K (tOp (rIx K) te ti) ρ cs (.dat (encR (tf T i j))) cs2 := ev_op he hx (opd_ixL rds_dat rds_dat (atI_get (ent_get h hi hj)))
theorem ev_entZ (h : Shp n m T) (hi : i ≤ m) (he : Ev K te ρ cs (.dat (encRow (T.getD i []))) cs1) : Ev K (tOp (rIx K) te (tUn (rU fun i => .int (-i)) (tC (.int 1)))) ρ cs (.dat (encR (tf T i (n + m)))) cs1 := ev_op he (ev_neg ev_int) (opd_ixL rds_dat rds_dat ((atI_m1 (by rw [List.length_map]; exact (h.get hi).2)).trans (ent_get h hi (Nat.le_refl _))))
theorem ev_inv {q : Rat} (hq : 0 < q) (he : Ev K te ρ cs (.dat (encR q)) cs1) : Ev K (tRevT K te) ρ cs (.dat (encR q⁻¹)) cs1 := Ev.is (ev_revT he rds_dat) (by
  unfold encR
  rw [← rev_pos hq]
  rfl)
end
def Szs (n m : Nat) (T : List (List Rat)) : Prop := ∀ i, i ≤ m → ∀ j, j ≤ n + m → Szz 40320 (tf T i j)
theorem szz_q {a b : Rat} (ha : Szz 40320 a) (hb : Szz 40320 b) (h : 0 < b) : Szz big (a * b⁻¹) := (ha.mul (hb.inv h)).mono (by decide)
/-! ### the row that goes out -/
def encBest : Option (Rat × Nat × Nat) → PyData
  | none => .none
  | some x => .tuple [encR x.1, eI x.2.1, eI x.2.2]
def rLeave : List Sl → Cs → Sl → Cs → Prop := fun args cs z cs' => ∃ (n m : Nat) (T : List (List Rat)) (β : List Nat) (c : Nat) (pb : Addr) (x : Rat × Nat × Nat), args = [.dat (encTb T), .raw (.ref pb), .dat (eI c)] ∧ Shp n m T ∧ β.length = m ∧ (m ≤ 200 ∧ n ≤ 7) ∧ c < n + m ∧ Szs n m T ∧ lvM T β (n + m) c m = some x ∧ cs = [(pb, .lst (β.map eI))] ∧ cs' = [(pb, .lst (β.map eI))] ∧ z = .dat (eI x.2.2)
theorem ok_leaving_row (B : Co mg) (D : Def K mg "leaving_row" s_leaving_row ["rows", "basis", "column"]) (c_times : Cal P w K mg base 2 "times" ["one", "two"] (SpG K rTimes)) : Cal P w K mg base 3 "leaving_row" ["rows", "basis", "column"] (SpG K rLeave) := by
  refine D.cal sc_leaving_row (fun args cs z cs' ⟨_, _, _, _, _, _, _, e, _⟩ => by rw [e]; rfl) fun cdv A outer s H E f hr => ⟨_, (pss_cons (ps_set (i := 3) sc_leaving_row.nd rfl (by first | exact Or.inl rfl | exact Or.inr rfl) pe_non)
      (pss_cons (ps_for PassesOwn.never rfl (pi_range1 (by rfl) B.range_ (pa_cons (pe_callB (len_K K) (by rfl) B.len_ (by decide +kernel) (pa_cons (pv 1) pa_nil)) pa_nil)) (pg_name (i := 4) sc_leaving_row.nd rfl (by first | exact Or.inl rfl | exact Or.inr rfl)) (pss_one (ps_if (pt_cmpR op_gt (pe_ix (ix_K K) (pe_ix (ix_K K) (pe_ix (ix_K K) (pv 0) (pv 4) (fun _ _ => rfl)) (pv 2) (fun _ _ => rfl)) pe_int (fun _ _ => rfl)) pe_int (nomark _)) (pss_cons (ps_set (i := 5) sc_leaving_row.nd rfl (by first | exact Or.inl rfl | exact Or.inr rfl) (pe_cal c_times hr (by decide) (by rfl) (pa_cons (pe_ix (ix_K K) (pe_ix (ix_K K) (pv 0) (pv 4) (fun _ _ => rfl)) (pe_un un_neg pe_int) (fun _ _ => rfl)) (pa_cons (revT_K K (pe_ix (ix_K K) (pe_ix (ix_K K) (pv 0) (pv 4) (fun _ _ => rfl)) (pv 2) (fun _ _ => rfl))) pa_nil))))
      (pss_cons (ps_set (i := 6) sc_leaving_row.nd rfl (by first | exact Or.inl rfl | exact Or.inr rfl) (pe_tup (pa_cons (pv 5) (pa_cons (pe_ix (ix_K K) (pv 1) (pv 4) (fun _ _ => rfl)) (pa_cons (pv 4) pa_nil)))))
      (pss_one (ps_if (PW.pt (pw_or (pt_cmpR op_isN (pv 3) pe_non (nomark _)) (pw_or1 (pt_cmpR op_lt (pe_op op_mulM (pe_ix (ix_K K) (pv 5) pe_int (fun _ _ => rfl)) (pe_ix (ix_K K) (pe_ix (ix_K K) (pv 3) pe_int (fun _ _ => rfl)) pe_int (fun _ _ => rfl))) (pe_op op_mulM (pe_ix (ix_K K) (pe_ix (ix_K K) (pv 3) pe_int (fun _ _ => rfl)) pe_int (fun _ _ => rfl)) (pe_ix (ix_K K) (pv 5) pe_int (fun _ _ => rfl))) (nomark _))))) (pss_one (ps_set (i := 3) sc_leaving_row.nd rfl (by first | exact Or.inl rfl | exact Or.inr rfl) (pv 6))) (pss_one (ps_if (PW.pt (pw_and (pt_cmpR (op_eqK K (ru hr)) (pv 5) (pe_ix (ix_K K) (pv 3) pe_int (fun _ _ => rfl)) (nomark _)) (pw_and1 (pt_cmpR op_lt (pe_ix (ix_K K) (pv 1) (pv 4) (fun _ _ => rfl)) (pe_ix (ix_K K) (pv 3) pe_int (fun _ _ => rfl)) (nomark _))))) (pss_one (ps_set (i := 3) sc_leaving_row.nd rfl (by first | exact Or.inl rfl | exact Or.inr rfl) (pv 6))) pss_nil)))))) pss_nil)))
      (pss_one (ps_ret (pe_ix (ix_K K) (pv 3) pe_int (fun _ _ => rfl)))))), ?_⟩
  rintro args cs z cs' ⟨n, m, T, β, c, pb, x, rfl, sh, hb, ⟨hm, hn⟩, hc, sz, hx, rfl, rfl, rfl⟩
  refine run_asg 3 (Ev.is (e := encBest none) ev_non rfl) ?_
  refine run_seq (fun ρ' cc => ∃ x4 x5 x6 : Sl, ρ' = [.dat (encTb T), .raw (.ref pb), .dat (eI c), .dat (encBest (some x)), x4, x5, x6] ∧ cc = [(pb, .lst (β.map eI))]) (run_for (items := rangeD 0 (((β.map eI).length : Nat) : Int).toNat) (fun i ρ' cc => ∃ x4 x5 x6 : Sl, ρ' = [.dat (encTb T), .raw (.ref pb), .dat (eI c), .dat (encBest (lvM T β (n + m) c i)), x4, x5, x6] ∧ cc = [(pb, .lst (β.map eI))]) (ei_range1 (ea_cons (ev_cb (ea_cons (ev_varr 1 rfl) ea_nil) (cd_lenL (rds_cell 0 rfl))) ea_nil) (by rw [List.length_map]; omega) (by rw [List.length_map]; omega)) ⟨_, _, _, rfl, rfl⟩ ?_ ?_) ?_
  · rintro i d ρ' cc hi ⟨x4, x5, x6, rfl, rfl⟩
    obtain ⟨hi', rfl⟩ := rangeD_get hi
    rw [List.length_map, Int.toNat_natCast, hb] at hi'
    rw [Int.zero_add]
    refine ⟨_, tg_name 4, ?_⟩
    have hbas : (β.map eI)[i]? = some (eI (bf β i)) := by
      rw [List.getElem?_map, List.getElem?_eq_getElem (by omega)]
      unfold bf
      rw [getD_lt (by omega)]
      rfl
    refine run_if (b := decide (0 < tf T i c)) (EvT.is (et_test (ev_op (ev_num (ev_ent sh (by omega) (by omega) (ev_row sh (by omega) (ev_vard 0 rfl) (ev_vard 4 rfl)) (ev_vard 2 rfl))) ev_int (opd_gt rds_dat rds_dat))) (decide_eq_decide.mpr num_pos)) (fun hp => ?_) (fun hp => ?_)
    · have hp := of_decide_eq_true hp
      have el : lvM T β (n + m) c (i + 1) = match lvM T β (n + m) c i with
        | none => some (tf T i (n + m) * (tf T i c)⁻¹, bf β i, i)
        | some x => if tf T i (n + m) * (tf T i c)⁻¹ < x.1 then some (tf T i (n + m) * (tf T i c)⁻¹, bf β i, i) else if tf T i (n + m) * (tf T i c)⁻¹ = x.1 ∧ bf β i < x.2.1 then some (tf T i (n + m) * (tf T i c)⁻¹, bf β i, i) else some x := if_pos hp
      have szr := szz_q (sz i (by omega) (n + m) (Nat.le_refl _)) (sz i (by omega) c (by omega)) hp
      refine run_asg 5 (ev_call (sub := []) (ea_cons (ev_entZ sh (show i ≤ m by omega) (ev_row sh (by omega) (ev_vard 0 rfl) (ev_vard 4 rfl))) (ea_cons (ev_inv hp (ev_ent sh (by omega) (by omega) (ev_row sh (by omega) (ev_vard 0 rfl) (ev_vard 4 rfl)) (ev_vard 2 rfl))) ea_nil)) (List.nil_sublist _) ⟨_, _, rfl, (sz i (by omega) _ (Nat.le_refl _)).mono (by decide), ((sz i (by omega) c (by omega)).inv hp).mono (by decide), rfl, rfl, rfl⟩) ?_
      generalize tf T i (n + m) * (tf T i c)⁻¹ = q at el szr
      refine run_asg 6 (z := .dat (encBest (some (q, bf β i, i)))) (ev_tup (ea_cons (ev_vard 5 rfl) (ea_cons (ev_op (ev_varr 1 rfl) (ev_vard 4 rfl) (opd_ixL (rds_cell 0 rfl) rds_dat (atI_get hbas))) (ea_cons (ev_vard 4 rfl) ea_nil))) (dats_cons (dats_cons (dats_cons dats_nil))) (by show 3 ≤ 100000; decide)) ?_
      rcases lvM_ok T β (n + m) c i with ⟨e0, _⟩ | ⟨y, e0, hy⟩
      · rw [e0] at el ⊢
        refine run_if (b := true) (EvT.is (et_or (a := true) (b := false) (EvT.is (et_test (ev_op (ev_vard 3 rfl) ev_non opd_isN)) rfl) (fun z => nomatch z)) rfl) (fun _ => run_asg1 3 (ev_vard 6 rfl) ⟨_, _, _, by rw [el]; rfl, rfl⟩) (fun z => nomatch z)
      · rw [e0] at el ⊢
        have hyl := hy.lt
        have szy : Szz big y.1 := by
          rw [hy.q]
          exact szz_q (sz _ (by omega) (n + m) (Nat.le_refl _)) (sz _ (by omega) c (by omega)) hy.pos
        have hy0 : ∀ {ρ : List Sl} {cs : Cs} {te : TE}, Ev K te ρ cs (.dat (encBest (some y))) cs → Ev K (tOp (rIx K) te (tC (.int 0))) ρ cs (.dat (encR y.1)) cs := fun h => ev_op h ev_int (opd_ixT (d := encR y.1) rds_dat rds_dat (atI_get (i := 0) rfl))
        have hy1 : ∀ {ρ : List Sl} {cs : Cs} {te : TE}, Ev K te ρ cs (.dat (encBest (some y))) cs → Ev K (tOp (rIx K) te (tC (.int 1))) ρ cs (.dat (eI y.2.1)) cs := fun h => ev_op h ev_int (opd_ixT (d := eI y.2.1) rds_dat rds_dat (atI_get (i := 1) rfl))
        have szr2 := szr.2
        have szy2 := szy.2
        refine run_if (b := decide (q < y.1)) (EvT.is (et_or (a := false) (EvT.is (et_test (ev_op (ev_vard 3 rfl) ev_non opd_isN)) rfl) (fun _ => EvT.is (et_test (ev_op (ev_op (ev_num (ev_vard 5 rfl)) (ev_den (hy0 (ev_vard 3 rfl))) (opd_mulI rds_dat rds_dat (mul_big (by omega)))) (ev_op (ev_num (hy0 (ev_vard 3 rfl))) (ev_den (ev_vard 5 rfl)) (opd_mulI rds_dat rds_dat (mul_big (by omega)))) (opd_lt rds_dat rds_dat))) (decide_eq_decide.mpr (lt_R q y.1)))) rfl) (fun h => ?_) (fun h => ?_)
        · have h := of_decide_eq_true h
          exact run_asg1 3 (ev_vard 6 rfl) ⟨_, _, _, by rw [show lvM T β (n + m) c (i + 1) = some (q, bf β i, i) from el.trans (if_pos h)]; rfl, rfl⟩
        · have h := of_decide_eq_false h
          refine run_if (b := decide (q = y.1) && decide ((bf β i : Int) < (y.2.1 : Int))) (et_and (EvT.is (et_test (ev_op (ev_vard 5 rfl) (hy0 (ev_vard 3 rfl)) (opd_eqM rds_dat rds_dat (Sh.ok (n := 1) (sh_Q _) (by decide)) (Sh.ok (n := 1) (sh_Q _) (by decide))))) (eqv_R q y.1)) fun _ => et_test (ev_op (ev_op (ev_varr 1 rfl) (ev_vard 4 rfl) (opd_ixL (rds_cell 0 rfl) rds_dat (atI_get hbas))) (hy1 (ev_vard 3 rfl)) (opd_lt rds_dat rds_dat))) (fun h2 => ?_) (fun h2 => ?_)
          · have h3 : q = y.1 ∧ bf β i < y.2.1 := by
              simp at h2
              omega
            exact run_asg1 3 (ev_vard 6 rfl) ⟨_, _, _, by rw [show lvM T β (n + m) c (i + 1) = some (q, bf β i, i) from el.trans ((if_neg h).trans (if_pos h3))]; rfl, rfl⟩
          · have h3 : ¬ (q = y.1 ∧ bf β i < y.2.1) := fun h4 => by
              simp [h4.1] at h2
              omega
            exact run_next ⟨_, _, _, by rw [show lvM T β (n + m) c (i + 1) = some y from el.trans ((if_neg h).trans (if_neg h3))]; rfl, rfl⟩
    · have hp := of_decide_eq_false hp
      have el : lvM T β (n + m) c (i + 1) = lvM T β (n + m) c i := if_neg hp
      exact run_next ⟨_, _, _, by rw [el]; rfl, rfl⟩
  · rintro ρ' cc ⟨x4, x5, x6, rfl, rfl⟩
    rw [rangeD_len, List.length_map, Int.toNat_natCast, hb, hx]
    exact ⟨_, _, _, rfl, rfl⟩
  · rintro ρ' cc ⟨x4, x5, x6, rfl, rfl⟩
    exact run_ret (ev_op (ev_vard 3 rfl) ev_int (opd_ixT (d := eI x.2.2) rds_dat rds_dat (atI_get (i := 2) rfl))) ⟨rfl, List.Sublist.refl _⟩
/-! ### a pivot -/
def rTurned : List Sl → Cs → Sl → Cs → Prop := fun args cs z cs' => ∃ (n m : Nat) (T : List (List Rat)) (r c : Nat), args = [.dat (encTb T), .dat (eI r), .dat (eI c)] ∧ Shp n m T ∧ (m ≤ 200 ∧ n ≤ 7) ∧ r < m ∧ c < n + m ∧ Szs n m T ∧ 0 < tf T r c ∧ cs = [] ∧ cs' = [] ∧ z = .dat (encTb (turnedM T r c))
def trow (T : List (List Rat)) (r c i : Nat) : List Rat := if i = r then ownM T r c else List.zipWith (fun v p => v - tf T i c * p) (T.getD i []) (ownM T r c)
theorem zipD_R (a b : List Rat) : zipD (a.map encR) (b.map encR) = (a.zip b).map fun p => .tuple [encR p.1, encR p.2] := by
  unfold zipD
  induction a generalizing b with
  | nil => rfl
  | cons x a ih =>
    cases b with
    | nil => rfl
    | cons y b =>
      rw [List.map_cons, List.map_cons, List.zipWith_cons_cons, ih, List.zip_cons_cons, List.map_cons]
theorem zipW_map (g : Rat → Rat → Rat) : ∀ a b : List Rat, ((a.zip b).map fun p => encR (g p.1 p.2)) = (List.zipWith g a b).map encR
  | [], _ => rfl
  | _ :: _, [] => rfl
  | x :: a, y :: b => by rw [List.zip_cons_cons, List.map_cons, List.zipWith_cons_cons, List.map_cons, zipW_map g a b]
theorem ok_turned (B : Co mg) (D : Def K mg "turned" s_turned ["rows", "at", "column"]) (c_times : Cal P w K mg base 2 "times" ["one", "two"] (SpG K rTimes)) (c_minus : Cal P w K mg base 2 "minus" ["one", "two"] (SpG K rMinus)) : Cal P w K mg base 3 "turned" ["rows", "at", "column"] (SpG K rTurned) := by
  refine D.cal sc_turned (fun args cs z cs' ⟨_, _, _, _, _, e, _⟩ => by rw [e]; rfl) fun cdv A outer s H E f hr => ⟨_, (pss_cons (ps_setLc (i := 3) (own := [("value", 4)]) rfl sc_turned.nd rfl rfl (sw_true rfl rfl rfl (by decide +kernel)) (pi_K K (pe_ix (ix_K K) (pv 0) (pv 1) (fun _ _ => rfl))) (blkOk_by (N := ["rows", "at", "column", "own", "value", "made", "place", "row", "part"]) (sc := (defScope s_turned)) (by decide +kernel)) (fun _ _ _ _ _ => (pg_name (i := 4) sc_turned.nd rfl (by first | exact Or.inl rfl | exact Or.inr rfl))) (fun _ _ _ _ _ => pts_nil) (fun _ _ _ _ _ => (pe_cal c_times hr (by decide) (by rfl) (pa_cons (pv 4) (pa_cons (revT_K K (pe_ix (ix_K K) (pe_ix (ix_K K) (pv 0) (pv 1) (fun _ _ => rfl)) (pv 2) (fun _ _ => rfl))) pa_nil)))))
      (pss_cons (ps_set (i := 5) sc_turned.nd rfl (by first | exact Or.inl rfl | exact Or.inr rfl) (pe_lst pa_nil))
      (pss_cons (ps_for PassesOwn.never rfl (pi_enumK K (by rfl) B.enumerate_ (pa_cons (pv 0) pa_nil)) (pg_tupK (n := 2) K rfl (pgs_cons (pg_name (i := 6) sc_turned.nd rfl (by first | exact Or.inl rfl | exact Or.inr rfl)) (pgs_cons (pg_name (i := 7) sc_turned.nd rfl (by first | exact Or.inl rfl | exact Or.inr rfl)) pgs_nil))) (pss_one (ps_if (pt_cmpR (op_eqK K (ru hr)) (pv 6) (pv 1) (nomark _)) (pss_one (ps_expr (pe_bm PySem.F.plainAttrs_list PySem.F.slot_list_append PySem.F.type_list_append mt_append (pv 5) (pa_cons (pv 3) pa_nil)))) (pss_one (ps_expr (pe_bm PySem.F.plainAttrs_list PySem.F.slot_list_append PySem.F.type_list_append mt_append (pv 5) (pa_cons (pe_lc (own := [("value", 4), ("part", 8)]) rfl sc_turned.nd  (pi_zipK K (pi_zip (by rfl) B.zip_ (pa_cons (pv 7) (pa_cons (pv 3) pa_nil)))) (blkOk_by (N := ["rows", "at", "column", "own", "value", "made", "place", "row", "part"]) (sc := (defScope s_turned)) (by decide +kernel)) (fun _ _ _ _ _ => (pg_tupK (n := 2) K rfl (pgs_cons (pg_name (i := 4) sc_turned.nd rfl (by first | exact Or.inl rfl | exact Or.inr rfl)) (pgs_cons (pg_name (i := 8) sc_turned.nd rfl (by first | exact Or.inl rfl | exact Or.inr rfl)) pgs_nil)))) (fun _ _ _ _ _ => pts_nil) (fun _ _ _ _ _ => (pe_cal c_minus hr (by decide) (by rfl) (pa_cons (pv 4) (pa_cons (pe_cal c_times hr (by decide) (by rfl) (pa_cons (pe_ix (ix_K K) (pv 7) (pv 2) (fun _ _ => rfl)) (pa_cons (pv 8) pa_nil))) pa_nil))))) pa_nil)))))))
      (pss_one (ps_ret (pv 5)))))), ?_⟩
  rintro args cs z cs' ⟨n, m, T, r, c, rfl, sh, ⟨hm, hn⟩, hrm, hc, sz, hp, rfl, rfl, rfl⟩
  have hl := sh.len
  have ho := own_len (c := c) sh (show r ≤ m by omega)
  have szr : ∀ v ∈ T.getD r [], Szz 40320 v := fun v hv => by
    obtain ⟨j, hj, e⟩ := List.getElem_of_mem hv
    have h1 := (sh.get (i := r) (by omega)).2
    have h2 := sz r (by omega) j (by omega)
    unfold tf at h2
    rw [getD_lt hj, e] at h2
    exact h2
  have szo : ∀ p ∈ ownM T r c, Szz (40320 * 40320) p := fun p hp' => by
    unfold ownM at hp'
    obtain ⟨v, hv, rfl⟩ := List.mem_map.mp hp'
    exact (szr v hv).mul ((sz r (by omega) c (by omega)).inv hp)
  refine run_asg 3 (z := .dat (encRow (ownM T r c))) (Ev.is (EvN.ev (evn_map (xs := T.getD r []) (enc := encR) (fun v => encR (v * (tf T r c)⁻¹)) (ei_ML (ev_row sh (show r ≤ m by omega) (ev_vard 0 rfl) (ev_vard 1 rfl))) (by rw [(sh.get (i := r) (by omega)).2]; omega) fun v hv => ⟨_, tg_name 4, by simp, ev_call (sub := []) (ea_cons (ev_vard 4 rfl) (ea_cons (ev_inv hp (ev_ent sh (show r ≤ m by omega) (by omega) (ev_row sh (by omega) (ev_vard 0 rfl) (ev_vard 1 rfl)) (ev_vard 2 rfl))) ea_nil)) (List.nil_sublist _) ⟨_, _, rfl, (szr v hv).mono (by decide), ((sz r (by omega) c (by omega)).inv hp).mono (by decide), rfl, rfl, rfl⟩⟩)) (by unfold encRow ownM; rw [List.map_map]; rfl)) ?_
  refine run_asgN 5 (evn_lst ea_nil dats_nil (by decide)) fun q => ?_
  refine run_seq (fun ρ' cc => ∃ x4 x6 x7 x8 : Sl, ρ' = [.dat (encTb T), .dat (eI r), .dat (eI c), .dat (encRow (ownM T r c)), x4, .raw (.ref q), x6, x7, x8] ∧ cc = [(q, .lst ((List.range T.length).map fun i => encRow (trow T r c i)))]) (run_for (items := enumD (T.map encRow)) (fun i ρ' cc => ∃ x4 x6 x7 x8 : Sl, ρ' = [.dat (encTb T), .dat (eI r), .dat (eI c), .dat (encRow (ownM T r c)), x4, .raw (.ref q), x6, x7, x8] ∧ cc = [(q, .lst ((List.range i).map fun i => encRow (trow T r c i)))]) (ei_enumL (ea_cons (ev_vard 0 rfl) ea_nil)) ⟨_, _, _, _, rfl, rfl⟩ ?_ ?_) ?_
  · rintro i d ρ' cc hi ⟨x4, x6, x7, x8, rfl, rfl⟩
    obtain ⟨e, he, rfl⟩ := enumD_get hi
    have hil : i < T.length := by
      have := (List.getElem?_eq_some_iff.mp he).1
      rw [List.length_map] at this
      exact this
    rw [row_get sh (show i ≤ m by omega)] at he
    cases he
    refine ⟨_, tg_pair 6 7, ?_⟩
    have hnx : (List.range (i + 1)).map (fun i => encRow (trow T r c i)) = (List.range i).map (fun i => encRow (trow T r c i)) ++ [encRow (trow T r c i)] := by
      rw [List.range_succ, List.map_append]
      rfl
    refine run_if (b := decide ((i : Int) = (r : Int))) (et_test (ev_op (ev_vard 6 rfl) (ev_vard 1 rfl) (opd_eqI rds_dat rds_dat))) (fun h => ?_) (fun h => ?_)
    · have h : i = r := by have := of_decide_eq_true h; omega
      have e2 : trow T r c i = ownM T r c := if_pos h
      exact run_expr1 (ev_append 0 (ev_varr 5 rfl) rfl (ev_vard 3 rfl) rfl (by simp; omega)) ⟨_, _, _, _, rfl, by rw [hnx, e2]; rfl⟩
    · have h : ¬ i = r := by have := of_decide_eq_false h; omega
      have e2 : trow T r c i = List.zipWith (fun v p => v - tf T i c * p) (T.getD i []) (ownM T r c) := if_neg h
      have szi : ∀ v ∈ T.getD i [], Szz 40320 v := fun v hv => by
        obtain ⟨j, hj, e⟩ := List.getElem_of_mem hv
        have h1 := (sh.get (i := i) (by omega)).2
        have h2 := sz i (by omega) j (by omega)
        unfold tf at h2
        rw [getD_lt hj, e] at h2
        exact h2
      have hgi := (sh.get (i := i) (by omega)).2
      refine run_expr1 (ev_append 0 (ev_varr 5 rfl) rfl (Ev.is (e := encRow (trow T r c i)) (EvN.ev (evn_map (xs := (T.getD i []).zip (ownM T r c)) (enc := fun p => .tuple [encR p.1, encR p.2]) (fun p => encR (p.1 - tf T i c * p.2)) (by rw [← zipD_R]; exact ei_zip (ea_cons (ev_vard 7 rfl) (ea_cons (ev_vard 3 rfl) ea_nil))) (by rw [List.length_zip, hgi, ho]; omega) fun p hp' => ⟨_, tg_pair 4 8, by simp, ?_⟩)) ?_) rfl (by simp; omega)) ⟨_, _, _, _, rfl, by rw [hnx]; rfl⟩
      · have hp1 := szi p.1 (List.of_mem_zip hp').1
        have hp2 := szo p.2 (List.of_mem_zip hp').2
        have hic := sz i (by omega) c (by omega)
        exact ev_call (sub := []) (ea_cons (ev_vard 4 rfl) (ea_cons (ev_call (sub := []) (ea_cons (ev_ent sh (show i ≤ m by omega) (by omega) (ev_vard 7 rfl) (ev_vard 2 rfl)) (ea_cons (ev_vard 8 rfl) ea_nil)) (List.nil_sublist _) ⟨_, _, rfl, hic.mono (by decide), hp2.mono (by decide), rfl, rfl, rfl⟩) ea_nil)) (List.nil_sublist _) ⟨_, _, rfl, hp1.mono (by decide), (hic.mul hp2).mono (by decide), rfl, rfl, rfl⟩
      · rw [e2]
        unfold encRow
        exact congrArg PyData.list (zipW_map (fun v p => v - tf T i c * p) _ _)
  · rintro ρ' cc ⟨x4, x6, x7, x8, rfl, rfl⟩
    refine ⟨_, _, _, _, rfl, ?_⟩
    rw [show (enumD (T.map encRow)).length = T.length by unfold enumD; simp]
  · rintro ρ' cc ⟨x4, x6, x7, x8, rfl, rfl⟩
    refine run_retL 0 (ev_varr 5 rfl) rfl ⟨?_, List.nil_sublist _⟩
    unfold encTb turnedM
    rw [List.map_map]
    rfl
/-! ### the whole -/
theorem enumR (N : Nat) (g : Nat → Rat) : enumD ((List.range N).map fun j => encR (g j)) = (List.range N).map fun j => .tuple [eI j, encR (g j)] := by
  apply List.ext_getElem?
  intro j
  unfold enumD
  rw [List.getElem?_mapIdx, List.getElem?_map, List.getElem?_map]
  by_cases h : j < N
  · rw [List.getElem?_range h]
    rfl
  · rw [List.getElem?_eq_none (by simp; omega)]
    rfl
theorem sIx_m1 (k d : Nat) : HT.sIx (k + 1) d (some (-1)) = k := by
  show (if (-1 : Int) < 0 then (-1 + ((k + 1 : Nat) : Int)).toNat else min (-1 : Int).toNat (k + 1)) = k
  rw [if_pos (by omega)]
  omega
theorem cutL_m1 {α : Type} {xs : List α} {k : Nat} (h : xs.length = k + 1) : cutL xs none (some (-1)) = xs.take k := by
  unfold cutL
  rw [HT.sIx_none, h, sIx_m1]
  rfl
theorem cutL_mid {α : Type} {xs : List α} {k w : Nat} (h : xs.length = k + 1) (hw : w ≤ k) : cutL xs (some (w : Int)) (some (-1)) = (xs.drop w).take (k - w) := by
  unfold cutL
  rw [HT.sIx_nat, h, sIx_m1, Nat.min_eq_left (by omega)]
theorem zrow_take {n m : Nat} {T : List (List Rat)} (h : Shp n m T) : ((T.getD m []).map encR).take (n + m) = (List.range (n + m)).map fun j => encR (tf T m j) := by
  apply List.ext_getElem?
  intro j
  have hl := (h.get (Nat.le_refl m)).2
  by_cases hj : j < n + m
  · rw [List.getElem?_take_of_lt hj, ent_get h (Nat.le_refl _) (by omega), List.getElem?_map, List.getElem?_range hj]
    rfl
  · rw [List.getElem?_eq_none (by simp; omega), List.getElem?_eq_none (by simp; omega)]
theorem zrow_mid {n m : Nat} {T : List (List Rat)} (h : Shp n m T) : (((T.getD m []).map encR).drop n).take (n + m - n) = (List.range m).map fun k => encR (tf T m (n + k)) := by
  apply List.ext_getElem?
  intro j
  have hl := (h.get (Nat.le_refl m)).2
  by_cases hj : j < m
  · rw [List.getElem?_take_of_lt (by omega), List.getElem?_drop, ent_get h (Nat.le_refl _) (by omega), List.getElem?_map, List.getElem?_range hj]
    rfl
  · rw [List.getElem?_eq_none (by simp; omega), List.getElem?_eq_none (by simp; omega)]
noncomputable def encSol (parts : List (List Int)) (pic : List Int) : PyData := .tuple [encR (valM parts pic), .list ((List.range pic.length).map fun j => encR (wgt parts pic j)), .list ((List.range parts.length).map fun k => encR (tak parts pic k))]
def rSolved : List Sl → Cs → Sl → Cs → Prop := fun args cs z cs' => ∃ (parts : List (List Int)) (pic : List Int), args = [.dat (.list (parts.map encP)), .dat (encP pic)] ∧ CovP parts pic ∧ parts.length ≤ 200 ∧ pic.length ≤ 7 ∧ cs = [] ∧ cs' = [] ∧ z = .dat (encSol parts pic)
theorem ok_solved (B : Co mg) (D : Def K mg "solved" s_solved ["parts", "picture"]) (c_table_of : Cal P w K mg base 1 "table_of" ["parts", "picture"] (SpG K rTable)) (c_leaving_row : Cal P w K mg base 3 "leaving_row" ["rows", "basis", "column"] (SpG K rLeave)) (c_turned : Cal P w K mg base 3 "turned" ["rows", "at", "column"] (SpG K rTurned)) : Cal P w K mg base 4 "solved" ["parts", "picture"] (SpG K rSolved) := by
  refine D.cal sc_solved (fun args cs z cs' ⟨_, _, e, _⟩ => by rw [e]; rfl) fun cdv A outer s H E f hr => ⟨_, (pss_cons (ps_asg (pe_tup (pa_cons (pe_cal c_table_of hr (by decide) (by rfl) (pa_cons (pv 0) (pa_cons (pv 1) pa_nil))) (pa_cons (pe_callB (len_K K) (by rfl) B.len_ (by decide +kernel) (pa_cons (pv 1) pa_nil)) pa_nil))) (pg_tupK (n := 2) K rfl (pgs_cons (pg_name (i := 2) sc_solved.nd rfl (by first | exact Or.inl rfl | exact Or.inr rfl)) (pgs_cons (pg_name (i := 3) sc_solved.nd rfl (by first | exact Or.inl rfl | exact Or.inr rfl)) pgs_nil))))
      (pss_cons (ps_setLc (i := 4) (own := [("at", 5)]) rfl sc_solved.nd rfl rfl (sw_true rfl rfl rfl (by decide +kernel)) (pi_range1 (by rfl) B.range_ (pa_cons (pe_callB (len_K K) (by rfl) B.len_ (by decide +kernel) (pa_cons (pv 0) pa_nil)) pa_nil)) (blkOk_by (N := ["parts", "picture", "rows", "many", "basis", "at", "value", "column", "weights", "taken"]) (sc := (defScope s_solved)) (by decide +kernel)) (fun _ _ _ _ _ => (pg_name (i := 5) sc_solved.nd rfl (by first | exact Or.inl rfl | exact Or.inr rfl))) (fun _ _ _ _ _ => pts_nil) (fun _ _ _ _ _ => (pe_op (op_addK K) (pv 3) (pv 5))))
      (pss_cons (ps_while PassesOwn.never (pt_val (pe_callB (any_K K) (by rfl) B.any_ (by decide +kernel) (pa_cons (pe_lc (own := [("value", 6)]) rfl sc_solved.nd  (pi_K K (pe_slice (sl_K K) (pe_ix (ix_K K) (pv 2) (pe_un un_neg pe_int) (fun _ _ => rfl)) po_none (po_some (pe_un un_neg pe_int)))) (blkOk_by (N := ["parts", "picture", "rows", "many", "basis", "at", "value", "column", "weights", "taken"]) (sc := (defScope s_solved)) (by decide +kernel)) (fun _ _ _ _ _ => (pg_name (i := 6) sc_solved.nd rfl (by first | exact Or.inl rfl | exact Or.inr rfl))) (fun _ _ _ _ _ => pts_nil) (fun _ _ _ _ _ => (pe_cmpR op_gt (pe_ix (ix_K K) (pv 6) pe_int (fun _ _ => rfl)) pe_int (nomark _)))) pa_nil))) (pss_cons (ps_set (i := 7) sc_solved.nd rfl (by first | exact Or.inl rfl | exact Or.inr rfl) (pe_ix (ix_K K) (pe_lc (own := [("at", 5), ("value", 6)]) rfl sc_solved.nd  (pi_enumK K (by rfl) B.enumerate_ (pa_cons (pe_slice (sl_K K) (pe_ix (ix_K K) (pv 2) (pe_un un_neg pe_int) (fun _ _ => rfl)) po_none (po_some (pe_un un_neg pe_int))) pa_nil)) (blkOk_by (N := ["parts", "picture", "rows", "many", "basis", "at", "value", "column", "weights", "taken"]) (sc := (defScope s_solved)) (by decide +kernel)) (fun _ _ _ _ _ => (pg_tupK (n := 2) K rfl (pgs_cons (pg_name (i := 5) sc_solved.nd rfl (by first | exact Or.inl rfl | exact Or.inr rfl)) (pgs_cons (pg_name (i := 6) sc_solved.nd rfl (by first | exact Or.inl rfl | exact Or.inr rfl)) pgs_nil)))) (fun _ _ _ _ _ => (pts_one (pt_cmpR op_gt (pe_ix (ix_K K) (pv 6) pe_int (fun _ _ => rfl)) pe_int (nomark _)))) (fun _ _ _ _ _ => (pv 5))) pe_int (fun _ _ => rfl)))
      (pss_cons (ps_set (i := 5) sc_solved.nd rfl (by first | exact Or.inl rfl | exact Or.inr rfl) (pe_cal c_leaving_row hr (by decide) (by rfl) (pa_cons (pv 2) (pa_cons (pv 4) (pa_cons (pv 7) pa_nil)))))
      (pss_cons (ps_set (i := 2) sc_solved.nd rfl (by first | exact Or.inl rfl | exact Or.inr rfl) (pe_cal c_turned hr (by decide) (by rfl) (pa_cons (pv 2) (pa_cons (pv 5) (pa_cons (pv 7) pa_nil)))))
      (pss_one (ps_asg (pv 7) (pg_sub (pv 4) (pv 5) set_list)))))))
      (pss_cons (ps_set (i := 8) sc_solved.nd rfl (by first | exact Or.inl rfl | exact Or.inr rfl) (pe_op op_mulM (pe_lst (pa_cons (pe_tup (pa_cons pe_int (pa_cons pe_int pa_nil))) pa_nil)) (pv 3)))
      (pss_cons (ps_for PassesOwn.never rfl (pi_enumK K (by rfl) B.enumerate_ (pa_cons (pv 4) pa_nil)) (pg_tupK (n := 2) K rfl (pgs_cons (pg_name (i := 5) sc_solved.nd rfl (by first | exact Or.inl rfl | exact Or.inr rfl)) (pgs_cons (pg_name (i := 7) sc_solved.nd rfl (by first | exact Or.inl rfl | exact Or.inr rfl)) pgs_nil))) (pss_one (ps_if (pt_cmpR op_lt (pv 7) (pv 3) (nomark _)) (pss_one (ps_asg (pe_ix (ix_K K) (pe_ix (ix_K K) (pv 2) (pv 5) (fun _ _ => rfl)) (pe_un un_neg pe_int) (fun _ _ => rfl)) (pg_sub (pv 8) (pv 7) set_list))) pss_nil)))
      (pss_cons (ps_setLc (i := 9) (own := [("value", 6)]) rfl sc_solved.nd rfl rfl (sw_true rfl rfl rfl (by decide +kernel)) (pi_K K (pe_slice (sl_K K) (pe_ix (ix_K K) (pv 2) (pe_un un_neg pe_int) (fun _ _ => rfl)) (po_some (pv 3)) (po_some (pe_un un_neg pe_int)))) (blkOk_by (N := ["parts", "picture", "rows", "many", "basis", "at", "value", "column", "weights", "taken"]) (sc := (defScope s_solved)) (by decide +kernel)) (fun _ _ _ _ _ => (pg_name (i := 6) sc_solved.nd rfl (by first | exact Or.inl rfl | exact Or.inr rfl))) (fun _ _ _ _ _ => pts_nil) (fun _ _ _ _ _ => (pe_tup (pa_cons (pe_un un_neg (pe_ix (ix_K K) (pv 6) pe_int (fun _ _ => rfl))) (pa_cons (pe_ix (ix_K K) (pv 6) pe_int (fun _ _ => rfl)) pa_nil)))))
      (pss_one (ps_ret (pe_tup (pa_cons (pe_tup (pa_cons (pe_un un_neg (pe_ix (ix_K K) (pe_ix (ix_K K) (pe_ix (ix_K K) (pv 2) (pe_un un_neg pe_int) (fun _ _ => rfl)) (pe_un un_neg pe_int) (fun _ _ => rfl)) pe_int (fun _ _ => rfl))) (pa_cons (pe_ix (ix_K K) (pe_ix (ix_K K) (pe_ix (ix_K K) (pv 2) (pe_un un_neg pe_int) (fun _ _ => rfl)) (pe_un un_neg pe_int) (fun _ _ => rfl)) pe_int (fun _ _ => rfl)) pa_nil))) (pa_cons (pv 8) (pa_cons (pv 9) pa_nil)))))))))))), ?_⟩
  rintro args cs z cs' ⟨parts, pic, rfl, hcov, hm, hn, rfl, rfl, rfl⟩
  refine run_asgT (ev_tup (ea_cons (ev_call (sub := []) (ea_cons (ev_vard 0 rfl) (ea_cons (ev_vard 1 rfl) ea_nil)) (List.nil_sublist _) ⟨parts, pic, rfl, hm, hn, rfl, rfl, rfl⟩) (ea_cons (Ev.is (e := eI pic.length) (ev_cb (ea_cons (ev_vard 1 rfl) ea_nil) (cd_lenT rds_dat)) (by rw [List.length_map]; rfl)) ea_nil)) (dats_cons (dats_cons dats_nil)) (by show 2 ≤ 100000; decide)) (tg_pair 2 3) ?_
  refine run_asgN 4 (EvN.is (es := (stM0 parts pic).2.map eI) (evn_map (xs := List.range parts.length) (enc := eI) (fun k => eI (pic.length + k)) (cs1 := []) (by rw [← rangeD0, show parts.length = (((parts.map encP).length : Nat) : Int).toNat by rw [List.length_map]; omega]; exact ei_range1 (ea_cons (ev_cb (ea_cons (ev_vard 0 rfl) ea_nil) (cd_lenL rds_dat)) ea_nil) (by rw [List.length_map]; omega) (by rw [List.length_map]; omega)) (by rw [List.length_range]; omega) fun k hk => ⟨_, tg_name 5, by simp, Ev.is (ev_op (ev_vard 3 rfl) (ev_vard 5 rfl) (opd_addI rds_dat rds_dat)) (by unfold eI; congr 1)⟩) (by show _ = (basM _ _).map eI; unfold basM; rw [List.map_map]; rfl)) fun pb => ?_
  obtain ⟨hend, hgo, hok⟩ := endK_ok hcov
  have hAb := partA_bit parts pic
  have hAc := partA_cov hcov
  refine run_seq (fun ρ' c => ∃ x5 x6 x7 : Sl, ρ' = [.dat (.list (parts.map encP)), .dat (encP pic), .dat (encTb (endS parts pic).1), .dat (eI pic.length), .raw (.ref pb), x5, x6, x7, .un, .un] ∧ c = [(pb, .lst ((endS parts pic).2.map eI))]) (run_while (fun mm ρ' c => ∃ (k : Nat) (x5 x6 x7 : Sl), k + mm = endK parts pic ∧ ρ' = [.dat (.list (parts.map encP)), .dat (encP pic), .dat (encTb (runM pic.length parts.length (stM0 parts pic) k).1), .dat (eI pic.length), .raw (.ref pb), x5, x6, x7, .un, .un] ∧ c = [(pb, .lst ((runM pic.length parts.length (stM0 parts pic) k).2.map eI))]) (endK parts pic) ⟨0, _, _, _, by omega, rfl, rfl⟩ ?_) ?_
  · rintro mm ρ' c ⟨k, x5, x6, x7, hk, rfl, rfl⟩
    have ok := hok k (by omega)
    have sh := ok.shp
    have szs : Szs pic.length parts.length (runM pic.length parts.length (stM0 parts pic) k).1 := ok.szz hn hAb
    have hnext : runM pic.length parts.length (stM0 parts pic) (k + 1) = spxM pic.length parts.length (runM pic.length parts.length (stM0 parts pic) k) := rfl
    have hgk : k < endK parts pic → posM pic.length parts.length (runM pic.length parts.length (stM0 parts pic) k).1 ≠ [] := hgo k
    have hke : k = endK parts pic → posM pic.length parts.length (runM pic.length parts.length (stM0 parts pic) k).1 = [] := fun e => by rw [e]; exact hend
    have hee : k = endK parts pic → runM pic.length parts.length (stM0 parts pic) k = endS parts pic := fun e => by rw [e]; rfl
    generalize runM pic.length parts.length (stM0 parts pic) k = st at ok sh szs hnext hgk hke hee
    have hzr : ∀ {ρ : List Sl} {cs : Cs}, ρ[2]? = some (.dat (encTb st.1)) → Ev K (tSl (rSlM K) (tOp (rIx K) (tVar 2) (tUn (rU fun i => .int (-i)) (tC (.int 1)))) tNoPart (tPart (tUn (rU fun i => .int (-i)) (tC (.int 1))))) ρ cs (.dat (.list ((List.range (pic.length + parts.length)).map fun j => encR (tf st.1 parts.length j)))) cs := fun h2 => EvN.ev (EvN.is (evn_slL (ev_rowZ sh (ev_vard 2 h2)) eo_none (eo_some (ev_neg ev_int)) rds_dat) (by rw [cutL_m1 (k := pic.length + parts.length) (by rw [List.length_map]; exact (sh.get (Nat.le_refl _)).2), zrow_take sh]))
    refine ⟨decide (k < endK parts pic), [(pb, .lst (st.2.map eI))], EvT.is (et_B (ev_cb (ea_cons (EvN.ev (EvN.is (es := ((List.range (pic.length + parts.length)).map fun j => decide (0 < tf st.1 parts.length j)).map PyData.bool) (evn_map (xs := List.range (pic.length + parts.length)) (enc := fun j => encR (tf st.1 parts.length j)) (fun j => .bool (decide (0 < tf st.1 parts.length j))) (ei_ML (hzr rfl)) (by rw [List.length_range]; omega) fun j hj => ⟨_, tg_name 6, by simp, Ev.is (ev_op (ev_num (ev_vard 6 rfl)) ev_int (opd_gt rds_dat rds_dat)) (congrArg PyData.bool (decide_eq_decide.mpr num_pos))⟩) (by rw [List.map_map]; rfl))) ea_nil) (cd_any rds_dat))) ?_, fun hb => ?_, fun hb => ?_⟩
    · by_cases hlt : k < endK parts pic
      · rw [decide_eq_true hlt]
        have hp := hgk hlt
        cases hq : posM pic.length parts.length st.1 with
        | nil => exact absurd hq hp
        | cons x r =>
          have hx : x ∈ posM pic.length parts.length st.1 := by rw [hq]; exact List.mem_cons_self
          obtain ⟨h1, h2⟩ := List.mem_filter.mp hx
          exact List.any_eq_true.mpr ⟨true, List.mem_map.mpr ⟨x, h1, h2⟩, rfl⟩
      · rw [decide_eq_false hlt]
        have hp := hke (by omega)
        cases hq : ((List.range (pic.length + parts.length)).map fun j => decide (0 < tf st.1 parts.length j)).any id with
        | false => rfl
        | true =>
          obtain ⟨b, h1, h2⟩ := List.any_eq_true.mp hq
          obtain ⟨x, h3, h4⟩ := List.mem_map.mp h1
          have hx : x ∈ posM pic.length parts.length st.1 := List.mem_filter.mpr ⟨h3, by rw [h4]; exact h2⟩
          rw [hp] at hx
          exact nomatch hx
    · have hlt := of_decide_eq_true hb
      have hp := hgk hlt
      obtain ⟨stp, y, hy, hyr⟩ := ok.stp hAb hAc hp
      have hbl := ok.bl
      have rm := stp.rm
      refine run_asg 7 (z := .dat (eI (colS pic.length parts.length st))) (ev_op (EvN.ev (evn_flt (xs := List.range (pic.length + parts.length)) (enc := fun j => .tuple [eI j, encR (tf st.1 parts.length j)]) (fun j => decide (0 < tf st.1 parts.length j)) eI (by rw [← enumR]; exact ei_enumL (ea_cons (hzr rfl) ea_nil)) (by rw [List.length_range]; omega) fun j hj => ⟨_, tg_pair 5 6, by simp, EvT.is (et_test (ev_op (ev_num (ev_vard 6 rfl)) ev_int (opd_gt rds_dat rds_dat))) (decide_eq_decide.mpr num_pos), ev_vard 5 rfl⟩)) ev_int (opd_ixL rds_dat rds_dat (atI_get (i := 0) ?_))) ?_
      · show ((posM pic.length parts.length st.1).map eI)[0]? = _
        unfold colS
        cases hq : posM pic.length parts.length st.1 with
        | nil => exact absurd hq hp
        | cons x r => rfl
      refine run_asg 5 (ev_call (sub := [(pb, .lst (st.2.map eI))]) (ea_cons (ev_vard 2 rfl) (ea_cons (ev_varr 4 rfl) (ea_cons (ev_vard 7 rfl) ea_nil))) (List.Sublist.refl _) ⟨_, _, st.1, st.2, colS pic.length parts.length st, pb, y, rfl, sh, hbl, ⟨hm, hn⟩, stp.cN, szs, hy, rfl, rfl, by rw [hyr]⟩) ?_
      refine run_asg 2 (ev_call (sub := []) (ea_cons (ev_vard 2 rfl) (ea_cons (ev_vard 5 rfl) (ea_cons (ev_vard 7 rfl) ea_nil))) (List.nil_sublist _) ⟨_, _, st.1, rowS pic.length parts.length st, colS pic.length parts.length st, rfl, sh, ⟨hm, hn⟩, rm, stp.cN, szs, stp.rpos, rfl, rfl, rfl⟩) ?_
      refine run_setL1 0 (ev_vard 7 rfl) (ev_varr 4 rfl) (ev_vard 5 rfl) rfl (by rw [List.length_map]; omega) ⟨endK parts pic - (k + 1), by omega, k + 1, .dat (eI (rowS pic.length parts.length st)), x6, .dat (eI (colS pic.length parts.length st)), by omega, by rw [hnext]; rfl, by rw [hnext]; show [(pb, Ce.lst _)] = [(pb, Ce.lst _)]; rw [← List.map_set]; rfl⟩
    · have he := of_decide_eq_false hb
      rw [hee (by omega)]
      exact ⟨_, _, _, rfl, rfl⟩
  · rintro ρ' c ⟨x5, x6, x7, rfl, rfl⟩
    have ok := hok (endK parts pic) (Nat.le_refl _)
    have eS : runM pic.length parts.length (stM0 parts pic) (endK parts pic) = endS parts pic := rfl
    rw [eS] at ok
    have sh := ok.shp
    have hbl := ok.bl
    have ew : wsM pic.length parts.length (endS parts pic) parts.length = (List.range pic.length).map (wgt parts pic) := wsM_eq ok
    have ey : ∀ k, - tf (endS parts pic).1 parts.length (pic.length + k) = tak parts pic k := fun k => rfl
    have ev' : - tf (endS parts pic).1 parts.length (pic.length + parts.length) = valM parts pic := rfl
    have e0 : wsM pic.length parts.length (endS parts pic) 0 = List.replicate pic.length 0 := rfl
    have es : ∀ i, wsM pic.length parts.length (endS parts pic) (i + 1) = if bf (endS parts pic).2 i < pic.length then (wsM pic.length parts.length (endS parts pic) i).set (bf (endS parts pic).2 i) (tf (endS parts pic).1 i (pic.length + parts.length)) else wsM pic.length parts.length (endS parts pic) i := fun i => rfl
    have wl := wsM_len pic.length parts.length (endS parts pic)
    refine run_asgN 8 (EvN.is (es := (wsM pic.length parts.length (endS parts pic) 0).map encR) (evn_op (EvN.ev (evn_lst (ea_cons ev_nought ea_nil) (dats_cons dats_nil) (by show 1 ≤ 100000; decide))) (ev_vard 3 rfl) (opn_mulL (n := (pic.length : Int)) rds_dat rds_dat (by omega) (by simp; omega) (by omega))) (by rw [rep_one, e0, List.map_replicate]; simp)) fun pw => ?_
    refine run_frz 4 1 rfl rfl ?_
    refine run_seq (fun ρ' c => ∃ x5 x7 : Sl, ρ' = [.dat (.list (parts.map encP)), .dat (encP pic), .dat (encTb (endS parts pic).1), .dat (eI pic.length), .dat (.list ((endS parts pic).2.map eI)), x5, x6, x7, .raw (.ref pw), .un] ∧ c = [(pw, .lst ((wsM pic.length parts.length (endS parts pic) parts.length).map encR))]) (run_for (items := enumD ((endS parts pic).2.map eI)) (fun i ρ' c => ∃ x5 x7 : Sl, ρ' = [.dat (.list (parts.map encP)), .dat (encP pic), .dat (encTb (endS parts pic).1), .dat (eI pic.length), .dat (.list ((endS parts pic).2.map eI)), x5, x6, x7, .raw (.ref pw), .un] ∧ c = [(pw, .lst ((wsM pic.length parts.length (endS parts pic) i).map encR))]) (ei_enumL (ea_cons (ev_vard 4 rfl) ea_nil)) ⟨_, _, rfl, rfl⟩ ?_ ?_) ?_
    · rintro i d ρ' c hi ⟨y5, y7, rfl, rfl⟩
      obtain ⟨e, he, rfl⟩ := enumD_get hi
      rw [List.getElem?_map] at he
      obtain ⟨b, hb, rfl⟩ := Option.map_eq_some_iff.mp he
      have hil := (List.getElem?_eq_some_iff.mp hb).1
      have hbf : bf (endS parts pic).2 i = b := by
        unfold bf
        rw [List.getD, hb]
        rfl
      refine ⟨_, tg_pair 5 7, ?_⟩
      refine run_if (b := decide ((b : Int) < (pic.length : Int))) (et_test (ev_op (ev_vard 7 rfl) (ev_vard 3 rfl) (opd_lt rds_dat rds_dat))) (fun h => ?_) (fun h => ?_)
      · have h := of_decide_eq_true h
        refine run_setL1 0 (ev_entZ sh (show i ≤ parts.length by omega) (ev_row sh (by omega) (ev_vard 2 rfl) (ev_vard 5 rfl))) (ev_varr 8 rfl) (ev_vard 7 rfl) rfl (by rw [List.length_map, wl]; omega) ⟨_, _, rfl, ?_⟩
        rw [es, if_pos (by omega), hbf, List.map_set]
        rfl
      · have h := of_decide_eq_false h
        exact run_next ⟨_, _, rfl, by rw [es, if_neg (by omega)]⟩
    · rintro ρ' c ⟨y5, y7, rfl, rfl⟩
      rw [show (enumD ((endS parts pic).2.map eI)).length = parts.length by unfold enumD; simp [hbl]]
      exact ⟨_, _, rfl, rfl⟩
    · rintro ρ' c ⟨y5, y7, rfl, rfl⟩
      refine run_frz 8 0 rfl rfl ?_
      refine run_asg 9 (z := .dat (.list ((List.range parts.length).map fun k => encR (tak parts pic k)))) (EvN.ev (evn_map (xs := List.range parts.length) (enc := fun k => encR (tf (endS parts pic).1 parts.length (pic.length + k))) (fun k => encR (tak parts pic k)) (ei_ML (EvN.ev (EvN.is (evn_slL (ev_rowZ sh (ev_vard 2 rfl)) (eo_some (ev_vard 3 rfl)) (eo_some (ev_neg ev_int)) rds_dat) (by rw [cutL_mid (k := pic.length + parts.length) (w := pic.length) (by rw [List.length_map]; exact (sh.get (Nat.le_refl _)).2) (by omega), zrow_mid sh])))) (by rw [List.length_range]; omega) fun k hk => ⟨_, tg_name 6, by simp, Ev.is (ev_tup (ea_cons (ev_neg (ev_num (ev_vard 6 rfl))) (ea_cons (ev_den (ev_vard 6 rfl)) ea_nil)) (dats_cons (dats_cons dats_nil)) (by show 2 ≤ 100000; decide)) (by rw [← ey k]; rfl)⟩)) ?_
      have hlast : ∀ {ρ : List Sl} {cs : Cs}, ρ[2]? = some (.dat (encTb (endS parts pic).1)) → Ev K (tOp (rIx K) (tOp (rIx K) (tVar 2) (tUn (rU fun i => .int (-i)) (tC (.int 1)))) (tUn (rU fun i => .int (-i)) (tC (.int 1)))) ρ cs (.dat (encR (tf (endS parts pic).1 parts.length (pic.length + parts.length)))) cs := fun h => ev_entZ sh (Nat.le_refl _) (ev_rowZ sh (ev_vard 2 h))
      refine run_ret (Ev.is (ev_tup (ea_cons (ev_tup (ea_cons (ev_neg (ev_num (hlast rfl))) (ea_cons (ev_den (hlast rfl)) ea_nil)) (dats_cons (dats_cons dats_nil)) (by show 2 ≤ 100000; decide)) (ea_cons (ev_vard 8 rfl) (ea_cons (ev_vard 9 rfl) ea_nil))) (dats_cons (dats_cons (dats_cons dats_nil))) (by show 3 ≤ 100000; decide)) ?_) ⟨rfl, List.nil_sublist _⟩
      unfold encSol
      rw [ew, List.map_map, ← ev']
      rfl
/-! ### brightness -/
def rNeedLamps : List Sl → Cs → Sl → Cs → Prop := fun args cs z cs' => ∃ (s : Sg) (p : List Int), args = [.dat (encS s), .dat (encP p)] ∧ OkS s ∧ PicOf s p ∧ p ≠ [] ∧ cs = [] ∧ cs' = [] ∧ z = .dat .none
theorem ok_need_lamps (B : Co mg) (D : Def K mg "need_lamps" s_need_lamps ["sign", "picture"]) (c_need_sign : Cal P w K mg base 4 "need_sign" ["value"] (SpG K rNeedSign)) (c_need_picture : Cal P w K mg base 2 "need_picture" ["sign", "value"] (SpG K rNeedPic)) : Cal P w K mg base 5 "need_lamps" ["sign", "picture"] (SpG K rNeedLamps) := by
  refine D.cal sc_need_lamps (fun args cs z cs' ⟨_, _, e, _⟩ => by rw [e]; rfl) fun cdv A outer s H E f hr => ⟨_, (pss_cons (ps_expr (pe_cal c_need_sign hr (by decide) (by rfl) (pa_cons (pv 0) pa_nil)))
      (pss_cons (ps_expr (pe_cal c_need_picture hr (by decide) (by rfl) (pa_cons (pv 0) (pa_cons (pv 1) pa_nil))))
      (pss_one (ps_if (pt_cmpR (op_eqK K (ru hr)) (pv 1) (pe_tup pa_nil) (nomark _)) (pss_one ps_never) pss_nil)))), ?_⟩
  rintro args cs z cs' ⟨s, p, rfl, ok, hp, hne, rfl, rfl, rfl⟩
  refine run_expr (ev_call (sub := []) (ea_cons (ev_vard 0 rfl) ea_nil) (List.nil_sublist _) ⟨s, rfl, ok, rfl, rfl, rfl⟩) ?_
  refine run_expr (ev_call (sub := []) (ea_cons (ev_vard 0 rfl) (ea_cons (ev_vard 1 rfl) ea_nil)) (List.nil_sublist _) ⟨s, p, rfl, ok, hp, rfl, rfl, rfl⟩) ?_
  refine run_if (b := false) (EvT.is (et_test (ev_op (ev_vard 1 rfl) (ev_tup ea_nil dats_nil (by decide)) (opd_eqM rds_dat rds_dat (Sh.ok (n := 1) (sh_P p) (by decide)) (by decide)))) (by rw [eqv_tup0]; cases p with | nil => exact absurd rfl hne | cons x r => rfl)) (fun z => nomatch z) fun _ => run_next ⟨rfl, List.Sublist.refl _⟩
def rSolN : List Sl → Cs → Sl → Cs → Prop := fun args cs z cs' => ∃ (s : Sg) (p : List Int), args = [.dat (encS s), .dat (encP p)] ∧ OkS s ∧ PicOf s p ∧ p ≠ [] ∧ coverM (keysG (glowsM s)) p = none ∧ cs = [] ∧ cs' = [] ∧ z = .dat .none
def rSolD : List Sl → PyData → PyData → KD → Prop := fun args e1 e2 kvs => ∃ (s : Sg) (p : List Int) (l : List (List Int)), args = [.dat (encS s), .dat (encP p)] ∧ OkS s ∧ PicOf s p ∧ p ≠ [] ∧ coverM (keysG (glowsM s)) p = some l ∧ e1 = .list ((partsM s p).map encP) ∧ e2 = encSol (partsM s p) p ∧ kvs = encG (glowsM s)
theorem ok_solution (B : Co mg) (D : Def K mg "solution" s_solution ["sign", "picture"]) (c_need_lamps : Cal P w K mg base 5 "need_lamps" ["sign", "picture"] (SpG K rNeedLamps)) (c_glows_of : Cal P w K mg base 3 "glows_of" ["sign"] (SpN K rGlowsOf)) (c_cover : Cal P w K mg base 4 "cover" ["glows", "picture"] (SpG K rCover)) (c_largest_glows : Cal P w K mg base 3 "largest_glows" ["glows", "picture"] (SpG K rLargest)) (c_solved : Cal P w K mg base 4 "solved" ["parts", "picture"] (SpG K rSolved)) : Cal P w K mg base 6 "solution" ["sign", "picture"] (SpS K rSolN rSolD) := by
  refine D.calS sc_solution (fun args cs z cs' ⟨_, _, e, _⟩ => by rw [e]; rfl) (fun args e1 e2 kvs ⟨_, _, _, e, _⟩ => by rw [e]; rfl) fun cdv A outer s H E f hr => ⟨_, (pss_cons (ps_expr (pe_cal c_need_lamps hr (by decide) (by rfl) (pa_cons (pv 0) (pa_cons (pv 1) pa_nil))))
      (pss_cons (ps_set (i := 2) sc_solution.nd rfl (by first | exact Or.inl rfl | exact Or.inr rfl) (pe_cal c_glows_of hr (by decide) (by rfl) (pa_cons (pv 0) pa_nil)))
      (pss_cons (ps_if (pt_cmpR op_isN (pe_cal c_cover hr (by decide) (by rfl) (pa_cons (pv 2) (pa_cons (pv 1) pa_nil))) pe_non (nomark _)) (pss_one (ps_ret pe_non)) pss_nil)
      (pss_cons (ps_set (i := 3) sc_solution.nd rfl (by first | exact Or.inl rfl | exact Or.inr rfl) (pe_cal c_largest_glows hr (by decide) (by rfl) (pa_cons (pv 2) (pa_cons (pv 1) pa_nil))))
      (pss_one (ps_ret (pe_tup (pa_cons (pv 2) (pa_cons (pv 3) (pa_cons (pe_cal c_solved hr (by decide) (by rfl) (pa_cons (pv 3) (pa_cons (pv 1) pa_nil))) pa_nil)))))))))), ?_, ?_⟩
  · rintro args cs z cs' ⟨s, p, rfl, ok, hp, hne, hC, rfl, rfl, rfl⟩
    have hg := glows_glp ok
    refine run_expr (ev_call (sub := []) (ea_cons (ev_vard 0 rfl) (ea_cons (ev_vard 1 rfl) ea_nil)) (List.nil_sublist _) ⟨s, p, rfl, ok, hp, hne, rfl, rfl, rfl⟩) ?_
    refine run_asgN 2 (evn_call (sub := []) (ea_cons (ev_vard 0 rfl) ea_nil) (List.nil_sublist _) ⟨s, rfl, ok, rfl, rfl, rfl⟩) fun d => ?_
    refine run_ifS (b := true) (EvT.is (et_test (ev_op (ev_call (sub := [(d, .dic (encG (glowsM s)))]) (ea_cons (ev_varr 2 rfl) (ea_cons (ev_vard 1 rfl) ea_nil)) (List.Sublist.refl _) ⟨d, glowsM s, p, rfl, hg, hp.pic ok, rfl, rfl, rfl⟩) ev_non opd_isN)) (by rw [hC]; rfl)) (fun _ => run_retS (run_ret ev_non ⟨rfl, List.nil_sublist _⟩)) (fun z => nomatch z)
  · rintro args e1 e2 kvs ⟨s, p, l, rfl, ok, hp, hne, hC, rfl, rfl, rfl⟩
    have hg := glows_glp ok
    have hcov := cov_of (fun k hk => (hg.pic k hk).srt) hp.srt hC
    have hfew := largest_few (p := p) hg.nd hg.pic
    have hpl := (hp.pic ok).len
    refine run_expr (ev_call (sub := []) (ea_cons (ev_vard 0 rfl) (ea_cons (ev_vard 1 rfl) ea_nil)) (List.nil_sublist _) ⟨s, p, rfl, ok, hp, hne, rfl, rfl, rfl⟩) ?_
    refine run_asgN 2 (evn_call (sub := []) (ea_cons (ev_vard 0 rfl) ea_nil) (List.nil_sublist _) ⟨s, rfl, ok, rfl, rfl, rfl⟩) fun d => ?_
    refine run_ifS (b := false) (EvT.is (et_test (ev_op (ev_call (sub := [(d, .dic (encG (glowsM s)))]) (ea_cons (ev_varr 2 rfl) (ea_cons (ev_vard 1 rfl) ea_nil)) (List.Sublist.refl _) ⟨d, glowsM s, p, rfl, hg, hp.pic ok, rfl, rfl, rfl⟩) ev_non opd_isN)) (by rw [hC]; rfl)) (fun z => nomatch z) fun _ => run_nextS ?_
    refine run_asg 3 (z := .dat (.list ((partsM s p).map encP))) (ev_call (sub := [(d, .dic (encG (glowsM s)))]) (ea_cons (ev_varr 2 rfl) (ea_cons (ev_vard 1 rfl) ea_nil)) (List.Sublist.refl _) ⟨d, glowsM s, p, rfl, hg, rfl, rfl, rfl⟩) ?_
    exact run_ret (ev_tupR (ea_cons (ev_varr 2 rfl) (ea_cons (ev_vard 3 rfl) (ea_cons (ev_call (sub := []) (ea_cons (ev_vard 3 rfl) (ea_cons (ev_vard 1 rfl) ea_nil)) (List.nil_sublist _) ⟨partsM s p, p, rfl, hcov, by show (largestM _ _).length ≤ 200; omega, hpl, rfl, rfl, rfl⟩) ea_nil)))) ⟨d, rfl, List.Sublist.refl _⟩
theorem val_pos {s : Sg} {p : List Int} {l : List (List Int)} (ok : OkS s) (hp : PicOf s p) (hne : p ≠ []) (hC : coverM (keysG (glowsM s)) p = some l) : 0 < valM (partsM s p) p := by
  have hg := glows_glp ok
  have hcov := cov_of (fun k hk => (hg.pic k hk).srt) hp.srt hC
  have h := (sol_cert hcov (hp.pic ok).len).one (partA_bit _ _) (List.length_pos_iff.mpr hne)
  show 0 < valM (largestM _ _) p
  grind
def rBright : List Sl → Cs → Sl → Cs → Prop := fun args cs z cs' => ∃ (s : Sg) (p : List Int), args = [.dat (encS s), .dat (encP p)] ∧ OkS s ∧ PicOf s p ∧ p ≠ [] ∧ cs = [] ∧ cs' = [] ∧ z = .dat (encBr (brightM s p))
theorem ok_brightness (B : Co mg) (D : Def K mg "brightness" s_brightness ["sign", "picture"]) (c_solution : Cal P w K mg base 6 "solution" ["sign", "picture"] (SpS K rSolN rSolD)) : Cal P w K mg base 7 "brightness" ["sign", "picture"] (SpG K rBright) := by
  refine D.cal sc_brightness (fun args cs z cs' ⟨_, _, e, _⟩ => by rw [e]; rfl) fun cdv A outer s H E f hr => ⟨_, (pss_cons (ps_set (i := 2) sc_brightness.nd rfl (by first | exact Or.inl rfl | exact Or.inr rfl) (pe_cal c_solution hr (by decide) (by rfl) (pa_cons (pv 0) (pa_cons (pv 1) pa_nil))))
      (pss_one (ps_ret (pe_ifExp (pt_cmpR op_isN (pv 2) pe_non (nomark _)) pe_non (revT_K K (pe_ix (ix_K K) (pe_ix (ix_K K) (pv 2) pe_int (fun _ _ => rfl)) pe_int (fun _ _ => rfl))))))), ?_⟩
  rintro args cs z cs' ⟨s, p, rfl, ok, hp, hne, rfl, rfl, rfl⟩
  unfold brightM
  cases hC : coverM (keysG (glowsM s)) p with
  | none =>
    refine run_asg 2 (ev_callS (sub := []) (ea_cons (ev_vard 0 rfl) (ea_cons (ev_vard 1 rfl) ea_nil)) (List.nil_sublist _) ⟨s, p, rfl, ok, hp, hne, hC, rfl, rfl, rfl⟩) ?_
    exact run_ret (ev_if (b := true) (EvT.is (et_test (ev_op (ev_vard 2 rfl) ev_non opd_isN)) rfl) (fun _ => ev_non) (fun z => nomatch z)) ⟨rfl, List.nil_sublist _⟩
  | some l =>
    have hv := val_pos ok hp hne hC
    refine run_asgD 2 (evd_call (ea_cons (ev_vard 0 rfl) (ea_cons (ev_vard 1 rfl) ea_nil)) ⟨s, p, l, rfl, ok, hp, hne, hC, rfl, rfl, rfl⟩) fun d => ?_
    exact run_ret (z := .dat (encR (valM (partsM s p) p)⁻¹)) (ev_if (b := false) (EvT.is (et_test (ev_op (ev_varR 2 rfl) ev_non opd_isNR)) rfl) (fun z => nomatch z) (fun _ => ev_inv hv (ev_op (ev_op (ev_varR 2 rfl) ev_int opd_ixR) ev_int (opd_ixT (d := encR (valM (partsM s p) p)) rds_dat rds_dat (atI_get (i := 0) rfl))))) ⟨rfl, List.nil_sublist _⟩
theorem bright_bri {s : Sg} {p : List Int} (ok : OkS s) (hp : PicOf s p) (hne : p ≠ []) {b : Rat} (h : brightM s p = some b) : Bri (keysG (glowsM s)) p b := by
  unfold brightM at h
  have hg := glows_glp ok
  cases hC : coverM (keysG (glowsM s)) p with
  | none =>
    rw [hC] at h
    exact nomatch h
  | some l =>
    rw [hC] at h
    have hcov := cov_of (fun k hk => (hg.pic k hk).srt) hp.srt hC
    have := cert_bri (fun k hk => (hg.pic k hk).srt) (srt_nd hp.srt) hne (sol_cert hcov (hp.pic ok).len)
    rw [← Option.some.inj h]
    exact this
theorem bright_szz {s : Sg} {p : List Int} (ok : OkS s) (hp : PicOf s p) (hne : p ≠ []) {b : Rat} (h : brightM s p = some b) : Szz 40320 b := by
  unfold brightM at h
  have hg := glows_glp ok
  cases hC : coverM (keysG (glowsM s)) p with
  | none =>
    rw [hC] at h
    exact nomatch h
  | some l =>
    rw [hC] at h
    have hcov := cov_of (fun k hk => (hg.pic k hk).srt) hp.srt hC
    have c := sol_cert hcov (hp.pic ok).len
    have h1 := c.one (partA_bit _ _) (List.length_pos_iff.mpr hne)
    obtain ⟨D, d0, ⟨z, ez, hz⟩, ⟨u, eu, hu⟩, _⟩ := c.den
    have hz0 : z ≠ 0 := fun e => d0 (by rw [ez, e]; rfl)
    have h2 := szz_of (q := valM (largestM (keysG (glowsM s)) p) p) (D := z) (z := u) (by rw [← ez, ← eu]) hz0 hz hu
    rw [← Option.some.inj h]
    exact Szz.inv ⟨h2.1, Nat.le_trans h2.2 (by decide)⟩ (by show 0 < valM (largestM _ _) p; grind)
end
--END
end LW

set_option Elab.async false
set_option linter.all false
set_option maxRecDepth 100000
set_option maxHeartbeats 4000000
namespace LW
open PySem PySem.Spec PyProof.Rows L2
--BEGIN
abbrev s__law_rings : Stmt := topS 49
theorem sc__law_rings : FnScope ["three", "five", "ring"] [] (defScope s__law_rings) := ⟨rfl, rfl, rfl, by decide +kernel, rfl, by decide +kernel, by decide +kernel⟩
abbrev s__law_chains : Stmt := topS 50
theorem sc__law_chains : FnScope ["lamps", "short", "long"] [] (defScope s__law_chains) := ⟨rfl, rfl, rfl, by decide +kernel, rfl, by decide +kernel, by decide +kernel⟩
abbrev s_law : Stmt := topS 51
theorem sc_law : FnScope ["script", "town", "wires", "reach", "star", "wire", "every", "back", "table"] ["script"] (defScope s_law) := ⟨rfl, rfl, rfl, by decide +kernel, rfl, by decide +kernel, by decide +kernel⟩
section
variable {P : Program} {w : World} {K : PySem.W.Frag} {mg : Str → Option Value} {base : Heap} {S : Sg} {n : Nat} {ks : List (List Int)} {p : List Int} {ρ : List Sl} {c : Cs} {ta tb : TE} {E : XK}
theorem sh_H (b : Nat × List Int) : Sh 2 (encH b) := sh_tuple (sha_cons sh_int (sha_cons (sh_P b.2) sha_nil))
theorem eqv_H (b : Nat × List Int) : PyData.eqv (encH b) (encH b) = true := by
  unfold encH encP eI
  simp [PyData.eqv, PyData.eqvAll, eqv_ints]
def picB (n : Nat) (p : List Int) : Bool := decide (p.Pairwise (· < ·)) && (p.all fun x => decide (0 ≤ x ∧ x < n)) && !p.isEmpty
theorem pic_of (h : Kn S n ks) (hb : picB n p = true) : PicOf S p ∧ p ≠ [] := by
  unfold picB at hb
  simp only [Bool.and_eq_true, decide_eq_true_iff, List.all_eq_true] at hb
  obtain ⟨⟨h1, h2⟩, h3⟩ := hb
  exact ⟨⟨h1, fun x hx => by rw [h.len]; exact h2 x hx⟩, fun e => by rw [e] at h3; cases h3⟩
theorem ev_hard (h : Kn S n ks) {v : Nat × List Int} (hv : hardM (needL ks n) = v) (e1 : Ev K ta ρ c (.dat (encS S)) c) : Ev K (tCall (SpG K rHardest) [] E (tCons ta tNil)) ρ c (.dat (encH v)) c := Ev.is (ev_call (sub := []) (ea_cons e1 ea_nil) (List.nil_sublist _) ⟨S, rfl, h.ok, rfl, rfl, rfl⟩) (by rw [h.needs, hv])
theorem ev_blk (h : Kn S n ks) (hv : nonesM (needL ks n) = []) (e1 : Ev K ta ρ c (.dat (encS S)) c) : Ev K (tCall (SpG K rBlocked) [] E (tCons ta tNil)) ρ c (.dat .none) c := Ev.is (ev_call (sub := []) (ea_cons e1 ea_nil) (List.nil_sublist _) ⟨S, rfl, h.ok, rfl, rfl, rfl⟩) (by rw [h.needs, hv]; rfl)
theorem ev_cnt (h : Kn S n ks) {m v : Nat} (hm : m ≤ 8) (hv : (uptoM (needL ks n) m).length = v) (e1 : Ev K ta ρ c (.dat (encS S)) c) (e2 : Ev K tb ρ c (.dat (eI m)) c) : Ev K (tCall (SpG K rCount) [] E (tCons ta (tCons tb tNil))) ρ c (.dat (eI v)) c := Ev.is (ev_call (sub := []) (ea_cons e1 (ea_cons e2 ea_nil)) (List.nil_sublist _) ⟨S, m, rfl, h.ok, hm, rfl, rfl, rfl⟩) (by rw [h.needs, hv])
theorem ev_few (h : Kn S n ks) (hb : picB n p = true) {k : Nat} (hc : (coverM ks p).map List.length = some k) (e1 : Ev K ta ρ c (.dat (encS S)) c) (e2 : Ev K tb ρ c (.dat (encP p)) c) : Ev K (tCB (rLenM K) (tCons (tCall (SpG K rFewest) [] E (tCons ta (tCons tb tNil))) tNil)) ρ c (.dat (eI k)) c := by
  obtain ⟨hp, _⟩ := pic_of h hb
  obtain ⟨row, hF, hl, _⟩ := h.row hp.srt hc
  exact Ev.is (ev_cb (ea_cons (Ev.is (e := .list (row.map encT)) (ev_call (sub := []) (ea_cons e1 (ea_cons e2 ea_nil)) (List.nil_sublist _) ⟨S, p, rfl, h.ok, hp, rfl, rfl, rfl⟩) (by rw [hF]; rfl)) ea_nil) (cd_lenL (ds := row.map encT) rds_dat)) (by rw [List.length_map, hl]; rfl)
theorem ev_apt (h : Kn S n ks) (hb : picB n p = true) (hp' : picsM p = picsL p) {q : List Int} (hq : apartL ks p = q) (e1 : Ev K ta ρ c (.dat (encS S)) c) (e2 : Ev K tb ρ c (.dat (encP p)) c) : Ev K (tCall (SpG K rApart) [] E (tCons ta (tCons tb tNil))) ρ c (.dat (encP q)) c := by
  obtain ⟨hp, _⟩ := pic_of h hb
  exact Ev.is (ev_call (sub := []) (ea_cons e1 (ea_cons e2 ea_nil)) (List.nil_sublist _) ⟨S, p, rfl, h.ok, hp, rfl, rfl, rfl⟩) (by rw [h.apart hp', hq])
theorem bri_ex (h : Kn S n ks) (hp : PicOf S p) {k : Nat} (hc : (coverM ks p).map List.length = some k) : ∃ b, brightM S p = some b := by
  have hn := cover_need (keys_srt S) hp.srt
  rw [h.need1 hp.srt, hc] at hn
  unfold brightM
  cases hC : coverM (keysG (glowsM S)) p with
  | none =>
    rw [hC] at hn
    cases hn
  | some l => exact ⟨_, rfl⟩
theorem ev_bri (h : Kn S n ks) (hb : picB n p = true) (hp' : picsM p = picsL p) {k : Nat} (hk : k ≠ 0) (hc : (coverM ks p).map List.length = some k) (hA : (apartL ks p).length = k) {q : Rat} (hq : q * (k : Rat) = 1) (e1 : Ev K ta ρ c (.dat (encS S)) c) (e2 : Ev K tb ρ c (.dat (encP p)) c) : Ev K (tCall (SpG K rBright) [] E (tCons ta (tCons tb tNil))) ρ c (.dat (encR q)) c := by
  obtain ⟨hp, hne⟩ := pic_of h hb
  obtain ⟨b, hB⟩ := bri_ex h hp hc
  have hk' : (k : Rat) ≠ 0 := fun z => hk (Rat.natCast_eq_zero_iff.mp z)
  have h1 := h.bright hp.srt hc (by rw [h.apart hp', hA]) (bright_bri h.ok hp hne hB)
  have e : b = q := by grind
  exact Ev.is (ev_call (sub := []) (ea_cons e1 (ea_cons e2 ea_nil)) (List.nil_sublist _) ⟨S, p, rfl, h.ok, hp, hne, rfl, rfl, rfl⟩) (by rw [hB, e]; rfl)
theorem shRat (q : Rat) : SeqAt.shaped (encR q) = true := Sh.ok (n := 1) (sh_Q _) (by decide)
theorem shPic (q : List Int) : SeqAt.shaped (encP q) = true := Sh.ok (n := 1) (sh_P q) (by decide)
theorem shHrd (v : Nat × List Int) : SeqAt.shaped (encH v) = true := Sh.ok (n := 2) (sh_H v) (by decide)
theorem neR (q : Rat) : (!PyData.eqv (encR q) (encR q)) = false := by rw [eqv_R, decide_eq_true rfl]; rfl
theorem neH (v : Nat × List Int) : (!PyData.eqv (encH v) (encH v)) = false := by rw [eqv_H]; rfl
theorem neP (q : List Int) : (!PyData.eqv (encP q) (encP q)) = false := by rw [show PyData.eqv (encP q) (encP q) = decide (q = q) from eqv_tup _ _, decide_eq_true rfl]; rfl
theorem evI1 {x : Int} : Ev K (tTup (tCons (tC (.int x)) tNil)) ρ c (.dat (.tuple [.int x])) c := ev_tup (ea_cons ev_int ea_nil) (dats_cons dats_nil) (by show 1 ≤ 100000; decide)
theorem evI2 {x y : Int} : Ev K (tTup (tCons (tC (.int x)) (tCons (tC (.int y)) tNil))) ρ c (.dat (.tuple [.int x, .int y])) c := ev_tup (ea_cons ev_int (ea_cons ev_int ea_nil)) (dats_cons (dats_cons dats_nil)) (by show 2 ≤ 100000; decide)
theorem evI3 {x y z : Int} : Ev K (tTup (tCons (tC (.int x)) (tCons (tC (.int y)) (tCons (tC (.int z)) tNil)))) ρ c (.dat (.tuple [.int x, .int y, .int z])) c := ev_tup (ea_cons ev_int (ea_cons ev_int (ea_cons ev_int ea_nil))) (dats_cons (dats_cons (dats_cons dats_nil))) (by show 3 ≤ 100000; decide)
theorem ev_D2 {d e : PyData} (h1 : Ev K ta ρ c (.dat d) c) (h2 : Ev K tb ρ c (.dat e) c) : Ev K (tTup (tCons ta (tCons tb tNil))) ρ c (.dat (.tuple [d, e])) c := ev_tup (ea_cons h1 (ea_cons h2 ea_nil)) (dats_cons (dats_cons dats_nil)) (by show 2 ≤ 100000; decide)
theorem ev_D3 {td : TE} {d e g : PyData} (h1 : Ev K ta ρ c (.dat d) c) (h2 : Ev K tb ρ c (.dat e) c) (h3 : Ev K td ρ c (.dat g) c) : Ev K (tTup (tCons ta (tCons tb (tCons td tNil)))) ρ c (.dat (.tuple [d, e, g])) c := ev_tup (ea_cons h1 (ea_cons h2 (ea_cons h3 ea_nil))) (dats_cons (dats_cons (dats_cons dats_nil))) (by show 3 ≤ 100000; decide)
def rNone : List Sl → Cs → Sl → Cs → Prop := fun args cs z cs' => args = [] ∧ cs = [] ∧ cs' = [] ∧ z = .dat (.bool true)
theorem ok_law_rings (B : Co mg) (D : Def K mg "_law_rings" s__law_rings []) (c_hardest : Cal P w K mg base 6 "hardest" ["sign"] (SpG K rHardest)) (c_blocked : Cal P w K mg base 6 "blocked" ["sign"] (SpG K rBlocked)) (c_count : Cal P w K mg base 6 "count" ["sign", "many"] (SpG K rCount)) (c_fewest : Cal P w K mg base 5 "fewest" ["sign", "picture"] (SpG K rFewest)) (c_apart : Cal P w K mg base 5 "apart" ["sign", "picture"] (SpG K rApart)) (c_brightness : Cal P w K mg base 7 "brightness" ["sign", "picture"] (SpG K rBright)) : Cal P w K mg base 8 "_law_rings" [] (SpG K rNone) := by
  refine D.cal sc__law_rings (fun args cs z cs' ⟨e, _⟩ => by rw [e]; rfl) fun cdv A outer s H E f hr => ⟨_, (pss_cons (ps_set (i := 0) sc__law_rings.nd rfl (by first | exact Or.inl rfl | exact Or.inr rfl) (pe_tup (pa_cons pe_int (pa_cons (pe_tup (pa_cons (pe_tup (pa_cons pe_int (pa_cons pe_int pa_nil))) (pa_cons (pe_tup (pa_cons pe_int (pa_cons pe_int pa_nil))) (pa_cons (pe_tup (pa_cons pe_int (pa_cons pe_int pa_nil))) pa_nil)))) (pa_cons pe_int pa_nil)))))
      (pss_cons (ps_if (PW.pt (pw_or (pt_cmpR (op_neK K (ru hr)) (pe_cal c_hardest hr (by decide) (by rfl) (pa_cons (pv 0) pa_nil)) (pe_tup (pa_cons pe_int (pa_cons (pe_tup (pa_cons pe_int (pa_cons pe_int (pa_cons pe_int pa_nil)))) pa_nil))) (nomark _)) (pw_or1 (pt_cmpR (op_neK K (ru hr)) (pe_cal c_brightness hr (by decide) (by rfl) (pa_cons (pv 0) (pa_cons (pe_tup (pa_cons pe_int (pa_cons pe_int (pa_cons pe_int pa_nil)))) pa_nil))) (pe_tup (pa_cons pe_int (pa_cons pe_int pa_nil))) (nomark _))))) (pss_one (ps_ret pe_bl)) pss_nil)
      (pss_cons (ps_if (pt_cmpR (op_neK K (ru hr)) (pe_cal c_apart hr (by decide) (by rfl) (pa_cons (pv 0) (pa_cons (pe_tup (pa_cons pe_int (pa_cons pe_int (pa_cons pe_int pa_nil)))) pa_nil))) (pe_tup (pa_cons pe_int (pa_cons pe_int (pa_cons pe_int pa_nil)))) (nomark _)) (pss_one (ps_ret pe_bl)) pss_nil)
      (pss_cons (ps_set (i := 1) sc__law_rings.nd rfl (by first | exact Or.inl rfl | exact Or.inr rfl) (pe_tup (pa_cons pe_int (pa_cons (pe_tup (pa_cons (pe_tup (pa_cons pe_int (pa_cons pe_int pa_nil))) (pa_cons (pe_tup (pa_cons pe_int (pa_cons pe_int pa_nil))) (pa_cons (pe_tup (pa_cons pe_int (pa_cons pe_int pa_nil))) (pa_cons (pe_tup (pa_cons pe_int (pa_cons pe_int pa_nil))) (pa_cons (pe_tup (pa_cons pe_int (pa_cons pe_int pa_nil))) pa_nil)))))) (pa_cons pe_int pa_nil)))))
      (pss_cons (ps_set (i := 2) sc__law_rings.nd rfl (by first | exact Or.inl rfl | exact Or.inr rfl) (pe_tup (pa_cons pe_int (pa_cons pe_int (pa_cons pe_int (pa_cons pe_int (pa_cons pe_int pa_nil)))))))
      (pss_cons (ps_if (PW.pt (pw_or (pt_cmpR (op_neK K (ru hr)) (pe_cal c_brightness hr (by decide) (by rfl) (pa_cons (pv 1) (pa_cons (pv 2) pa_nil))) (pe_tup (pa_cons pe_int (pa_cons pe_int pa_nil))) (nomark _)) (pw_or (pt_cmpR (op_neK K (ru hr)) (pe_callB (len_K K) (by rfl) B.len_ (by decide +kernel) (pa_cons (pe_cal c_fewest hr (by decide) (by rfl) (pa_cons (pv 1) (pa_cons (pv 2) pa_nil))) pa_nil)) pe_int (nomark _)) (pw_or1 (pt_cmpR (op_neK K (ru hr)) (pe_cal c_apart hr (by decide) (by rfl) (pa_cons (pv 1) (pa_cons (pv 2) pa_nil))) (pe_tup (pa_cons pe_int (pa_cons pe_int pa_nil))) (nomark _)))))) (pss_one (ps_ret pe_bl)) pss_nil)
      (pss_one (ps_ret (pe_and (pe_cmpR (op_eqK K (ru hr)) (pe_cal c_hardest hr (by decide) (by rfl) (pa_cons (pv 1) pa_nil)) (pe_tup (pa_cons pe_int (pa_cons (pv 2) pa_nil))) (nomark _)) (pe_and (pe_cmpR op_isN (pe_cal c_blocked hr (by decide) (by rfl) (pa_cons (pv 1) pa_nil)) pe_non (nomark _)) (pe_one (pe_cmpR (op_eqK K (ru hr)) (pe_cal c_count hr (by decide) (by rfl) (pa_cons (pv 1) (pa_cons pe_int pa_nil))) pe_int (nomark _))))))))))))), ?_⟩
  rintro args cs z cs' ⟨rfl, rfl, rfl, rfl⟩
  have h3 := three_kn
  have h5 := five_kn
  have e3 : encS (ringS 3 0 0) = .tuple [.int 3, .tuple [.tuple [.int 0, .int 1], .tuple [.int 1, .int 2], .tuple [.int 2, .int 0]], .int 1] := rfl
  have e5 : encS (ringS 5 0 0) = .tuple [.int 5, .tuple [.tuple [.int 0, .int 1], .tuple [.int 1, .int 2], .tuple [.int 2, .int 3], .tuple [.int 3, .int 4], .tuple [.int 4, .int 0]], .int 1] := rfl
  refine run_asg 0 (z := .dat (encS (ringS 3 0 0))) (Ev.is (ev_D3 ev_int (ev_D3 evI2 evI2 evI2) ev_int) e3.symm) ?_
  have p3 : picsM [0, 1, 2] = picsL [0, 1, 2] := pics_rg 3 (by decide)
  have p5 : picsM [0, 1, 2, 3, 4] = picsL [0, 1, 2, 3, 4] := pics_rg 5 (by decide)
  have lit : ∀ {ρ : List Sl} {c : Cs}, Ev K (tTup (tCons (tC (.int 0)) (tCons (tC (.int 1)) (tCons (tC (.int 2)) tNil)))) ρ c (.dat (encP [0, 1, 2])) c := evI3
  refine run_ifS (b := false) (EvT.is (et_or (a := false) (b := false) (EvT.is (et_test (ev_op (ev_hard h3 (v := (3, [0, 1, 2])) (by decide +kernel) (ev_vard 0 rfl)) (Ev.is (e := encH (3, [0, 1, 2])) (ev_D2 ev_int evI3) rfl) (opd_neM rds_dat rds_dat (shHrd _) (shHrd _)))) (neH _)) fun _ => EvT.is (et_test (ev_op (ev_bri h3 (by decide) p3 (k := 3) (by decide) (by decide +kernel) (by decide +kernel) third_eq (ev_vard 0 rfl) lit) (Ev.is (e := encR third) evI2 rfl) (opd_neM rds_dat rds_dat (shRat _) (shRat _)))) (neR _)) rfl) (fun z => nomatch z) fun _ => run_nextS ?_
  refine run_ifS (b := false) (EvT.is (et_test (ev_op (ev_apt h3 (by decide) p3 (q := [0, 1, 2]) (by decide +kernel) (ev_vard 0 rfl) lit) lit (opd_neM rds_dat rds_dat (shPic _) (shPic _)))) (neP _)) (fun z => nomatch z) fun _ => run_nextS ?_
  refine run_asg 1 (z := .dat (encS (ringS 5 0 0))) (Ev.is (ev_D3 ev_int (ev_tup (ea_cons evI2 (ea_cons evI2 (ea_cons evI2 (ea_cons evI2 (ea_cons evI2 ea_nil))))) (dats_cons (dats_cons (dats_cons (dats_cons (dats_cons dats_nil))))) (by show 5 ≤ 100000; decide)) ev_int) e5.symm) ?_
  refine run_asg 2 (z := .dat (encP [0, 1, 2, 3, 4])) (ev_tup (ea_cons ev_int (ea_cons ev_int (ea_cons ev_int (ea_cons ev_int (ea_cons ev_int ea_nil))))) (dats_cons (dats_cons (dats_cons (dats_cons (dats_cons dats_nil))))) (by show 5 ≤ 100000; decide)) ?_
  have hc5 : (coverM (ringK 5) [0, 1, 2, 3, 4]).map List.length = some 3 := by decide +kernel
  have hb5 : picB 5 [0, 1, 2, 3, 4] = true := by decide
  have br5 : ∀ {ρ : List Sl} {c : Cs} {ta tb : TE}, Ev K ta ρ c (.dat (encS (ringS 5 0 0))) c → Ev K tb ρ c (.dat (encP [0, 1, 2, 3, 4])) c → Ev K (tCall (SpG K rBright) [] E0 (tCons ta (tCons tb tNil))) ρ c (.dat (encR two5)) c := fun e1 e2 => by
    obtain ⟨hp, hne⟩ := pic_of h5 hb5
    obtain ⟨b, hB⟩ := bri_ex h5 hp hc5
    obtain ⟨row, _, _, hf⟩ := h5.row hp.srt hc5
    have R := ring_is (n := 5) (st := 0) (d := 0) (by decide) (by decide) (by decide) (by decide)
    have e := (R.same hp hne hf (bright_bri h5.ok hp hne hB)).1
    exact Ev.is (ev_call (sub := []) (ea_cons e1 (ea_cons e2 ea_nil)) (List.nil_sublist _) ⟨ringS 5 0 0, [0, 1, 2, 3, 4], rfl, h5.ok, hp, hne, rfl, rfl, rfl⟩) (by rw [hB, e]; rfl)
  refine run_ifS (b := false) (EvT.is (et_or (a := false) (b := false) (EvT.is (et_test (ev_op (br5 (ev_vard 1 rfl) (ev_vard 2 rfl)) (Ev.is (e := encR two5) evI2 rfl) (opd_neM rds_dat rds_dat (shRat _) (shRat _)))) (neR _)) fun _ => EvT.is (et_or (a := false) (b := false) (EvT.is (et_test (ev_op (ev_few h5 hb5 hc5 (ev_vard 1 rfl) (ev_vard 2 rfl)) ev_int (opd_neI rds_dat rds_dat))) rfl) fun _ => EvT.is (et_test (ev_op (ev_apt h5 hb5 p5 (q := [0, 1]) (by decide +kernel) (ev_vard 1 rfl) (ev_vard 2 rfl)) (Ev.is (e := encP [0, 1]) evI2 rfl) (opd_neM rds_dat rds_dat (shPic _) (shPic _)))) (neP _)) rfl) rfl) (fun z => nomatch z) fun _ => run_nextS ?_
  exact run_ret (z := .dat (.bool true)) (Ev.is (ev_andV (a := true) (b := true) (Ev.is (ev_op (ev_hard h5 (v := (3, [0, 1, 2, 3, 4])) (by decide +kernel) (ev_vard 1 rfl)) (Ev.is (e := encH (3, [0, 1, 2, 3, 4])) (ev_D2 ev_int (ev_vard 2 rfl)) rfl) (opd_eqM rds_dat rds_dat (shHrd _) (shHrd _))) (by rw [eqv_H])) fun _ => Ev.is (ev_andV (a := true) (b := true) (Ev.is (ev_op (ev_blk h5 (by decide +kernel) (ev_vard 1 rfl)) ev_non opd_isN) rfl) fun _ => Ev.is (ev_op (ev_cnt h5 (m := 1) (v := 11) (by decide) (by decide +kernel) (ev_vard 1 rfl) ev_int) ev_int (opd_eqI rds_dat rds_dat)) rfl) rfl) rfl) ⟨rfl, List.Sublist.refl _⟩
theorem ok_law_chains (B : Co mg) (D : Def K mg "_law_chains" s__law_chains []) (c_glow : Cal P w K mg base 5 "glow" ["sign", "turn"] (SpN K rGlow)) (c_hardest : Cal P w K mg base 6 "hardest" ["sign"] (SpG K rHardest)) (c_count : Cal P w K mg base 6 "count" ["sign", "many"] (SpG K rCount)) (c_fewest : Cal P w K mg base 5 "fewest" ["sign", "picture"] (SpG K rFewest)) (c_brightness : Cal P w K mg base 7 "brightness" ["sign", "picture"] (SpG K rBright)) : Cal P w K mg base 8 "_law_chains" [] (SpG K rNone) := by
  refine D.cal sc__law_chains (fun args cs z cs' ⟨e, _⟩ => by rw [e]; rfl) fun cdv A outer s H E f hr => ⟨_, (pss_cons (ps_set (i := 0) sc__law_chains.nd rfl (by first | exact Or.inl rfl | exact Or.inr rfl) (pe_tup (pa_cons (pe_tup (pa_cons pe_int (pa_cons pe_int pa_nil))) (pa_cons (pe_tup (pa_cons pe_int (pa_cons pe_int pa_nil))) (pa_cons (pe_tup (pa_cons pe_int (pa_cons pe_int pa_nil))) pa_nil)))))
      (pss_cons (ps_par (by rfl) sc__law_chains.nd (i := 1) (j := 2) rfl rfl (by decide) rfl rfl (pa_cons (pe_tup (pa_cons pe_int (pa_cons (pv 0) (pa_cons pe_int pa_nil)))) (pa_cons (pe_tup (pa_cons pe_int (pa_cons (pv 0) (pa_cons pe_int pa_nil)))) pa_nil)) (by rfl))
      (pss_cons (ps_if (PW.pt (pw_or (pt_cmpR (op_neK K (ru hr)) (pe_cal c_glow hr (by decide) (by rfl) (pa_cons (pv 2) (pa_cons pe_str pa_nil))) (pe_lst (pa_cons pe_int (pa_cons pe_int (pa_cons pe_int pa_nil)))) (nomark _)) (pw_or (pt_cmpR (op_neK K (ru hr)) (pe_cal c_glow hr (by decide) (by rfl) (pa_cons (pv 1) (pa_cons pe_str pa_nil))) (pe_lst pa_nil) (nomark _)) (pw_or1 (pt_cmpR (op_neK K (ru hr)) (pe_cal c_glow hr (by decide) (by rfl) (pa_cons (pe_tup (pa_cons pe_int (pa_cons (pv 0) (pa_cons pe_int pa_nil)))) (pa_cons pe_str pa_nil))) (pe_lst pa_nil) (nomark _)))))) (pss_one (ps_ret pe_bl)) pss_nil)
      (pss_cons (ps_if (PW.pt (pw_or (pt_cmpR (op_neK K (ru hr)) (pe_callB (len_K K) (by rfl) B.len_ (by decide +kernel) (pa_cons (pe_cal c_fewest hr (by decide) (by rfl) (pa_cons (pv 1) (pa_cons (pe_tup (pa_cons pe_int (pa_cons pe_int (pa_cons pe_int pa_nil)))) pa_nil))) pa_nil)) pe_int (nomark _)) (pw_or1 (pt_cmpR (op_neK K (ru hr)) (pe_callB (len_K K) (by rfl) B.len_ (by decide +kernel) (pa_cons (pe_cal c_fewest hr (by decide) (by rfl) (pa_cons (pv 2) (pa_cons (pe_tup (pa_cons pe_int (pa_cons pe_int (pa_cons pe_int pa_nil)))) pa_nil))) pa_nil)) pe_int (nomark _))))) (pss_one (ps_ret pe_bl)) pss_nil)
      (pss_cons (ps_if (pt_cmpR (op_neK K (ru hr)) (pe_cal c_brightness hr (by decide) (by rfl) (pa_cons (pv 2) (pa_cons (pe_tup (pa_cons pe_int (pa_cons pe_int (pa_cons pe_int pa_nil)))) pa_nil))) (pe_tup (pa_cons pe_int (pa_cons pe_int pa_nil))) (nomark _)) (pss_one (ps_ret pe_bl)) pss_nil)
      (pss_one (ps_ret (pe_and (pe_cmpR (op_eqK K (ru hr)) (pe_cal c_brightness hr (by decide) (by rfl) (pa_cons (pv 1) (pa_cons (pe_tup (pa_cons pe_int (pa_cons pe_int (pa_cons pe_int pa_nil)))) pa_nil))) (pe_tup (pa_cons pe_int (pa_cons pe_int pa_nil))) (nomark _)) (pe_and (pe_cmpR (op_eqK K (ru hr)) (pe_cal c_hardest hr (by decide) (by rfl) (pa_cons (pv 2) pa_nil)) (pe_tup (pa_cons pe_int (pa_cons (pe_tup (pa_cons pe_int pa_nil)) pa_nil))) (nomark _)) (pe_one (pe_cmpR (op_eqK K (ru hr)) (pe_cal c_count hr (by decide) (by rfl) (pa_cons (pv 1) (pa_cons pe_int pa_nil))) pe_int (nomark _)))))))))))), ?_⟩
  rintro args cs z cs' ⟨rfl, rfl, rfl, rfl⟩
  have h1 := short_kn
  have h3 := long_kn
  refine run_asg 0 (z := .dat (.tuple ((chainS 1).L.map encL))) (ev_D3 evI2 evI2 evI2) ?_
  have eC : ∀ r : Nat, encS (chainS r) = .tuple [.int 4, .tuple ((chainS 1).L.map encL), eI r] := fun r => rfl
  have mk : ∀ (r : Nat) {ρ : List Sl} {c : Cs}, ρ[0]? = some (.dat (.tuple ((chainS 1).L.map encL))) → Ev K (tTup (tCons (tC (.int 4)) (tCons (tVar 0) (tCons (tC (.int (r : Int))) tNil)))) ρ c (.dat (encS (chainS r))) c := fun r {ρ c} h => Ev.is (ev_D3 ev_int (ev_vard 0 h) ev_int) (eC r).symm
  refine run_par 1 2 (ea_cons (mk 1 rfl) (ea_cons (mk 3 rfl) ea_nil)) ?_
  have p3 : picsM [0, 1, 2] = picsL [0, 1, 2] := pics_rg 3 (by decide)
  have lit : ∀ {ρ : List Sl} {c : Cs}, Ev K (tTup (tCons (tC (.int 0)) (tCons (tC (.int 1)) (tCons (tC (.int 2)) tNil)))) ρ c (.dat (encP [0, 1, 2])) c := evI3
  have sT : (Str.ofString "+00-") = tS [43, 48, 48, 45] := by decide +kernel
  have shI : ∀ l : List Int, SeqAt.shaped (.list (l.map PyData.int)) = true := fun l => Sh.ok (n := 1) (sh_list (sha_ints l)) (by decide)
  have ok2 : OkS (chainS 2) := (kn_of (S := chainS 2) (n := 3) (ks := chainK 2) (by decide +kernel)).ok
  have hg : ∀ (r : Nat) (l : List Int), OkS (chainS r) → glowM (chainS r) [43, 48, 48, 45] = l → ∀ {ρ : List Sl} {c : Cs} {ta : TE}, Ev K ta ρ c (.dat (encS (chainS r))) c → Ev K (tCall (SpN K rGlow) [] E0 (tCons ta (tCons (tC (.str (Str.ofString "+00-"))) tNil))) ρ c (.dat (.list (l.map PyData.int))) c := fun r l o hl {ρ c ta} h => by
    rw [← hl]
    exact EvN.ev (evn_call (sub := []) (ea_cons h (ea_cons (Ev.is (e := encT [43, 48, 48, 45]) ev_str (by rw [sT]; rfl)) ea_nil)) (List.nil_sublist _) ⟨chainS r, [43, 48, 48, 45], rfl, o, ⟨rfl, by decide⟩, rfl, rfl, rfl⟩)
  refine run_ifS (b := false) (EvT.is (et_or (a := false) (b := false) (EvT.is (et_test (ev_op (hg 3 [0, 1, 2] h3.ok (by decide +kernel) (ev_vard 2 rfl)) (Ev.is (e := .list ([0, 1, 2].map PyData.int)) (EvN.ev (evn_lst (ea_cons ev_int (ea_cons ev_int (ea_cons ev_int ea_nil))) (dats_cons (dats_cons (dats_cons dats_nil))) (by show 3 ≤ 100000; decide))) rfl) (opd_neM rds_dat rds_dat (shI _) (shI _)))) (by rw [eqv_list]; rfl)) fun _ => EvT.is (et_or (a := false) (b := false) (EvT.is (et_test (ev_op (hg 1 [] h1.ok (by decide +kernel) (ev_vard 1 rfl)) (Ev.is (e := .list (([] : List Int).map PyData.int)) (EvN.ev (evn_lst ea_nil dats_nil (by decide))) rfl) (opd_neM rds_dat rds_dat (shI _) (shI _)))) (by rw [eqv_list]; rfl)) fun _ => EvT.is (et_test (ev_op (hg 2 [] ok2 (by decide +kernel) (mk 2 rfl)) (Ev.is (e := .list (([] : List Int).map PyData.int)) (EvN.ev (evn_lst ea_nil dats_nil (by decide))) rfl) (opd_neM rds_dat rds_dat (shI _) (shI _)))) (by rw [eqv_list]; rfl)) rfl) rfl) (fun z => nomatch z) fun _ => run_nextS ?_
  have c1 : (coverM (chainK 1) [0, 1, 2]).map List.length = some 2 := by decide +kernel
  have c3 : (coverM (chainK 3) [0, 1, 2]).map List.length = some 1 := by decide +kernel
  refine run_ifS (b := false) (EvT.is (et_or (a := false) (b := false) (EvT.is (et_test (ev_op (ev_few h1 (by decide) c1 (ev_vard 1 rfl) lit) ev_int (opd_neI rds_dat rds_dat))) rfl) fun _ => EvT.is (et_test (ev_op (ev_few h3 (by decide) c3 (ev_vard 2 rfl) lit) ev_int (opd_neI rds_dat rds_dat))) rfl) rfl) (fun z => nomatch z) fun _ => run_nextS ?_
  refine run_ifS (b := false) (EvT.is (et_test (ev_op (ev_bri h3 (by decide) p3 (by decide) c3 (by decide +kernel) (q := 1) (by decide +kernel) (ev_vard 2 rfl) lit) ev_one (opd_neM rds_dat rds_dat (shRat _) (shRat _)))) (neR _)) (fun z => nomatch z) fun _ => run_nextS ?_
  exact run_ret (z := .dat (.bool true)) (Ev.is (ev_andV (a := true) (b := true) (Ev.is (ev_op (ev_bri h1 (by decide) p3 (by decide) c1 (by decide +kernel) half_eq (ev_vard 1 rfl) lit) (Ev.is (e := encR half) evI2 rfl) (opd_eqM rds_dat rds_dat (shRat _) (shRat _))) (by rw [eqv_R, decide_eq_true rfl])) fun _ => Ev.is (ev_andV (a := true) (b := true) (Ev.is (ev_op (ev_hard h3 (v := (1, [0])) (by decide +kernel) (ev_vard 2 rfl)) (Ev.is (e := encH (1, [0])) (ev_D2 ev_int evI1) rfl) (opd_eqM rds_dat rds_dat (shHrd _) (shHrd _))) (by rw [eqv_H])) fun _ => Ev.is (ev_op (ev_cnt h1 (m := 1) (v := 5) (by decide) (by decide +kernel) (ev_vard 1 rfl) ev_int) ev_int (opd_eqI rds_dat rds_dat)) rfl) rfl) rfl) ⟨rfl, List.Sublist.refl _⟩
theorem ok_law (B : Co mg) {fL : Addr} {fd : FuncData} (F : Fun K "law" "law" s_law fL fd) (c_hardest : Cal P w K mg base 6 "hardest" ["sign"] (SpG K rHardest)) (c_blocked : Cal P w K mg base 6 "blocked" ["sign"] (SpG K rBlocked)) (c_count : Cal P w K mg base 6 "count" ["sign", "many"] (SpG K rCount)) (c_fewest : Cal P w K mg base 5 "fewest" ["sign", "picture"] (SpG K rFewest)) (c_apart : Cal P w K mg base 5 "apart" ["sign", "picture"] (SpG K rApart)) (c_brightness : Cal P w K mg base 7 "brightness" ["sign", "picture"] (SpG K rBright)) (c_law_draw : Cal P w K mg base 1 "_law_draw" ["script", "town", "many"] (SpG K (rDraw K))) (c_law_rings : Cal P w K mg base 8 "_law_rings" [] (SpG K rNone)) (c_law_chains : Cal P w K mg base 8 "_law_chains" [] (SpG K rNone)) : FnOk P w K mg base CX0 9 fL fd ["script"] (SpG K (rLaw K)) := by
  refine fn_cal F sc_law (fun args cs z cs' ⟨_, _, e, _⟩ => by rw [e]; rfl) fun cdv A outer s H E f hr => ⟨_, (pss_cons (ps_set (i := 1) sc_law.nd rfl (by first | exact Or.inl rfl | exact Or.inr rfl) (pe_lst (pa_cons pe_int (pa_cons pe_int pa_nil))))
      (pss_cons (ps_par (by rfl) sc_law.nd (i := 2) (j := 3) rfl rfl (by decide) rfl rfl (pa_cons (pe_op (op_addK K) pe_int (pe_cal c_law_draw hr (by decide) (by rfl) (pa_cons (pv 0) (pa_cons (pv 1) (pa_cons pe_int pa_nil))))) (pa_cons (pe_op (op_addK K) pe_int (pe_cal c_law_draw hr (by decide) (by rfl) (pa_cons (pv 0) (pa_cons (pv 1) (pa_cons pe_int pa_nil))))) pa_nil)) (by rfl))
      (pss_cons (ps_set (i := 4) sc_law.nd rfl (by first | exact Or.inl rfl | exact Or.inr rfl) (pe_tup (pa_cons (pv 2) (pa_cons (pe_callTy (tuple_K K) (by rfl) B.tuple_ (by decide +kernel) (pa_cons (pe_lc (own := [("wire", 5)]) rfl sc_law.nd  (pi_range2 (by rfl) B.range_ (pa_cons pe_int (pa_cons (pv 2) pa_nil))) (blkOk_by (N := ["script", "town", "wires", "reach", "star", "wire", "every", "back", "table"]) (sc := (defScope s_law)) (by decide +kernel)) (fun _ _ _ _ _ => (pg_name (i := 5) sc_law.nd rfl (by first | exact Or.inl rfl | exact Or.inr rfl))) (fun _ _ _ _ _ => pts_nil) (fun _ _ _ _ _ => (pe_tup (pa_cons pe_int (pa_cons (pv 5) pa_nil))))) pa_nil)) (pa_cons (pv 3) pa_nil)))))
      (pss_cons (ps_set (i := 6) sc_law.nd rfl (by first | exact Or.inl rfl | exact Or.inr rfl) (pe_tupRg rfl (by rfl) B.tuple_ (prg_1 (by rfl) B.range_ (pe_op op_sub (pv 2) pe_int))))
      (pss_cons (ps_if (PW.pt (pw_or (pt_cmpR (op_neK K (ru hr)) (pe_cal c_hardest hr (by decide) (by rfl) (pa_cons (pv 4) pa_nil)) (pe_tup (pa_cons pe_int (pa_cons (pe_tup (pa_cons pe_int pa_nil)) pa_nil))) (nomark _)) (pw_or (pt_cmpR op_notN (pe_cal c_blocked hr (by decide) (by rfl) (pa_cons (pv 4) pa_nil)) pe_non (nomark _)) (pw_or1 (pt_cmpR (op_neK K (ru hr)) (pe_cal c_brightness hr (by decide) (by rfl) (pa_cons (pv 4) (pa_cons (pv 6) pa_nil))) (pe_tup (pa_cons pe_int (pa_cons pe_int pa_nil))) (nomark _)))))) (pss_one (ps_ret pe_bl)) pss_nil)
      (pss_cons (ps_if (PW.pt (pw_or (pt_cmpR (op_neK K (ru hr)) (pe_cal c_apart hr (by decide) (by rfl) (pa_cons (pv 4) (pa_cons (pv 6) pa_nil))) (pe_tup (pa_cons pe_int pa_nil)) (nomark _)) (pw_or (pt_cmpR (op_neK K (ru hr)) (pe_cal c_count hr (by decide) (by rfl) (pa_cons (pv 4) (pa_cons pe_int pa_nil))) (pe_ix (ix_K K) (pe_lst (pa_cons pe_int (pa_cons pe_int (pa_cons pe_int (pa_cons pe_int (pa_cons pe_int (pa_cons pe_int pa_nil))))))) (pv 2) (fun _ _ => rfl)) (nomark _)) (pw_or1 (pt_cmpR (op_neK K (ru hr)) (pe_cal c_count hr (by decide) (by rfl) (pa_cons (pv 4) (pa_cons pe_int pa_nil))) pe_int (nomark _)))))) (pss_one (ps_ret pe_bl)) pss_nil)
      (pss_cons (ps_set (i := 7) sc_law.nd rfl (by first | exact Or.inl rfl | exact Or.inr rfl) (pe_tup (pa_cons pe_int (pa_cons (pe_tup (pa_cons (pe_tup (pa_cons pe_int (pa_cons pe_int pa_nil))) (pa_cons (pe_tup (pa_cons pe_int (pa_cons pe_int pa_nil))) pa_nil))) (pa_cons (pv 3) pa_nil)))))
      (pss_cons (ps_if (PW.pt (pw_or (pt_cmpR (op_neK K (ru hr)) (pe_cal c_hardest hr (by decide) (by rfl) (pa_cons (pv 7) pa_nil)) (pe_tup (pa_cons pe_int (pa_cons (pe_tup (pa_cons pe_int (pa_cons pe_int pa_nil))) pa_nil))) (nomark _)) (pw_or (pt_cmpR (op_neK K (ru hr)) (pe_cal c_brightness hr (by decide) (by rfl) (pa_cons (pv 7) (pa_cons (pe_tup (pa_cons pe_int (pa_cons pe_int pa_nil))) pa_nil))) (pe_tup (pa_cons pe_int (pa_cons pe_int pa_nil))) (nomark _)) (pw_or1 (pt_cmpR (op_neK K (ru hr)) (pe_cal c_count hr (by decide) (by rfl) (pa_cons (pv 7) (pa_cons pe_int pa_nil))) pe_int (nomark _)))))) (pss_one (ps_ret pe_bl)) pss_nil)
      (pss_cons (ps_set (i := 8) sc_law.nd rfl (by first | exact Or.inl rfl | exact Or.inr rfl) (pe_tup (pa_cons pe_int (pa_cons (pe_tup (pa_cons (pe_tup (pa_cons pe_int (pa_cons pe_int pa_nil))) (pa_cons (pe_tup (pa_cons pe_int (pa_cons pe_int pa_nil))) (pa_cons (pe_tup (pa_cons pe_int (pa_cons pe_int pa_nil))) (pa_cons (pe_tup (pa_cons pe_int (pa_cons pe_int pa_nil))) pa_nil))))) (pa_cons (pv 3) pa_nil)))))
      (pss_cons (ps_if (PW.pt (pw_or (pt_cmpR (op_neK K (ru hr)) (pe_callB (len_K K) (by rfl) B.len_ (by decide +kernel) (pa_cons (pe_cal c_fewest hr (by decide) (by rfl) (pa_cons (pv 8) (pa_cons (pe_tup (pa_cons pe_int (pa_cons pe_int pa_nil))) pa_nil))) pa_nil)) pe_int (nomark _)) (pw_or1 (pt_cmpR (op_neK K (ru hr)) (pe_cal c_brightness hr (by decide) (by rfl) (pa_cons (pv 8) (pa_cons (pe_tup (pa_cons pe_int (pa_cons pe_int pa_nil))) pa_nil))) (pe_tup (pa_cons pe_int (pa_cons pe_int pa_nil))) (nomark _))))) (pss_one (ps_ret pe_bl)) pss_nil)
      (pss_cons (ps_if (pt_cmpR (op_neK K (ru hr)) (pe_cal c_apart hr (by decide) (by rfl) (pa_cons (pv 8) (pa_cons (pe_tup (pa_cons pe_int (pa_cons pe_int pa_nil))) pa_nil))) (pe_tup (pa_cons pe_int (pa_cons pe_int pa_nil))) (nomark _)) (pss_one (ps_ret pe_bl)) pss_nil)
      (pss_cons (ps_if (PW.pt (pw_or (pt_cmpR (op_neK K (ru hr)) (pe_callB (len_K K) (by rfl) B.len_ (by decide +kernel) (pa_cons (pe_cal c_fewest hr (by decide) (by rfl) (pa_cons (pv 8) (pa_cons (pe_tup (pa_cons pe_int (pa_cons pe_int (pa_cons pe_int pa_nil)))) pa_nil))) pa_nil)) pe_int (nomark _)) (pw_or1 (pt_cmpR (op_neK K (ru hr)) (pe_cal c_brightness hr (by decide) (by rfl) (pa_cons (pv 8) (pa_cons (pe_tup (pa_cons pe_int (pa_cons pe_int (pa_cons pe_int (pa_cons pe_int pa_nil))))) pa_nil))) (pe_tup (pa_cons pe_int (pa_cons pe_int pa_nil))) (nomark _))))) (pss_one (ps_ret pe_bl)) pss_nil)
      (pss_cons (ps_if (pt_cmpR (op_neK K (ru hr)) (pe_cal c_count hr (by decide) (by rfl) (pa_cons (pv 8) (pa_cons pe_int pa_nil))) pe_int (nomark _)) (pss_one (ps_ret pe_bl)) pss_nil)
      (pss_one (ps_ret (pe_and (pe_cal0 c_law_rings hr (by decide) (by rfl)) (pe_one (pe_cal0 c_law_chains hr (by decide) (by rfl))))))))))))))))))), ?_⟩
  rintro args sc z cs' ⟨a, ns, rfl, _, hS, rfl, rfl⟩
  refine run_asgN 1 (evn_lst (ea_cons ev_int (ea_cons ev_int ea_nil)) (dats_cons (dats_cons dats_nil)) (by show 2 ≤ 100000; decide)) fun t => ?_
  have hd4 := drawM_lt ns (0, 0) (m := 4) (by decide)
  have hd3 := drawM_lt ns (drawM ns (0, 0) 4).2 (m := 3) (by decide)
  refine run_par 2 3 (z1 := .dat (eI (2 + (drawM ns (0, 0) 4).1))) (z2 := .dat (eI (1 + (drawM ns (drawM ns (0, 0) 4).2 3).1))) (ea_cons (Ev.is (ev_op ev_int (ev_town (tw := (0, 0)) 0 hS (ea_cons (ev_varr 0 rfl) (ea_cons (ev_varr 1 rfl) (ea_cons ev_int ea_nil))) rfl rfl ⟨sc, ns, a, t, (0, 0), 4, rfl, hS, ⟨by decide, by decide⟩, rfl, rfl, rfl⟩) (opd_addI rds_dat rds_dat)) (by unfold eI; rw [Int.natCast_add]; rfl)) (ea_cons (Ev.is (ev_op ev_int (ev_town 0 hS (ea_cons (ev_varr 0 rfl) (ea_cons (ev_varr 1 rfl) (ea_cons ev_int ea_nil))) rfl rfl ⟨sc, ns, a, t, (drawM ns (0, 0) 4).2, 3, rfl, hS, ⟨by decide, by decide⟩, rfl, rfl, rfl⟩) (opd_addI rds_dat rds_dat)) (by unfold eI; rw [Int.natCast_add]; rfl)) ea_nil)) ?_
  have hw : 2 + (drawM ns (0, 0) 4).1 ∈ [2, 3, 4, 5] := by
    generalize (drawM ns (0, 0) 4).1 = x at hd4
    have : x = 0 ∨ x = 1 ∨ x = 2 ∨ x = 3 := by omega
    rcases this with rfl | rfl | rfl | rfl <;> decide
  have hr3 : 1 + (drawM ns (drawM ns (0, 0) 4).2 3).1 ∈ [1, 2, 3] := by
    generalize (drawM ns (drawM ns (0, 0) 4).2 3).1 = x at hd3
    have : x = 0 ∨ x = 1 ∨ x = 2 := by omega
    rcases this with rfl | rfl | rfl <;> decide
  generalize 2 + (drawM ns (0, 0) 4).1 = W at hw
  generalize 1 + (drawM ns (drawM ns (0, 0) 4).2 3).1 = R at hr3
  generalize (drawM ns (drawM ns (0, 0) 4).2 3).2 = tw1
  refine run_drop (cs1 := []) ?_ (List.nil_sublist _)
  have hst := star_kn W hw R hr3
  have hbk := back_kn R hr3
  have htb := table_kn R hr3
  have hW : 2 ≤ W ∧ W ≤ 5 := by
    simp only [List.mem_cons, List.not_mem_nil, or_false] at hw
    omega
  -- the star
  refine run_asg 4 (z := .dat (encS (starS W R))) (Ev.is (ev_D3 (ev_vard 2 rfl) (ev_cb (ea_cons (EvN.ev (evn_map (xs := List.range (W - 1)) (enc := fun k => PyData.int (1 + (k : Int))) (fun k => encL (0, k + 1)) (cs1 := []) ?_ (by rw [List.length_range]; omega) fun k hk => ⟨_, tg_name 5, by simp, Ev.is (ev_D2 ev_int (ev_vard 5 rfl)) (by unfold encL eI; rw [Int.natCast_add, Int.add_comm]; rfl)⟩)) ea_nil) (cd_tupleL rds_dat)) (ev_vard 3 rfl)) ?_) ?_
  · have e := ei_range2 (K := K) (ρ := [.raw (.ref a), .raw (.ref t), .dat (eI W), .dat (eI R), .un, .un, .un, .un, .un]) (cs := []) (cs1 := []) (m := 1) (n := (W : Int)) (ea_cons ev_int (ea_cons (ev_vard 2 rfl) ea_nil)) (by omega) (by omega) (by decide) (by decide)
    rw [show ((W : Int) - 1).toNat = W - 1 by omega] at e
    exact e
  · unfold starS
    show _ = PyData.tuple [eI W, .tuple (((List.range (W - 1)).map fun k => ((0 : Nat), k + 1)).map encL), eI R]
    rw [List.map_map]
    rfl
  refine run_asg 6 (z := .dat (encP (rgM (W - 1)))) (ev_tupRg1 (n := W - 1) (Ev.is (ev_op (ev_vard 2 rfl) ev_int (opd_sub rds_dat rds_dat)) (by rw [show ((W - 1 : Nat) : Int) = (W : Int) - 1 by omega])) (by omega)) ?_
  have sB : ∀ w ∈ [2, 3, 4, 5], picB (w - 1) (rgM (w - 1)) = true ∧ (coverM (starK w) (rgM (w - 1))).map List.length = some 1 ∧ apartL (starK w) (rgM (w - 1)) = [0] ∧ hardM (needL (starK w) (w - 1)) = (1, [0]) ∧ nonesM (needL (starK w) (w - 1)) = [] ∧ (uptoM (needL (starK w) (w - 1)) 1).length = ([0, 0, 2, 4, 8, 16] : List Nat).getD w 0 ∧ (uptoM (needL (starK w) (w - 1)) 0).length = 1 := by decide +kernel
  obtain ⟨s1, s2, s3, s4, s5, s6, s7⟩ := sB W hw
  have sP : picsM (rgM (W - 1)) = picsL (rgM (W - 1)) := pics_rg (W - 1) hst.n5
  refine run_ifS (b := false) (EvT.is (et_or (a := false) (b := false) (EvT.is (et_test (ev_op (ev_hard hst s4 (ev_vard 4 rfl)) (Ev.is (e := encH (1, [0])) (ev_D2 ev_int evI1) rfl) (opd_neM rds_dat rds_dat (shHrd _) (shHrd _)))) (neH _)) fun _ => EvT.is (et_or (a := false) (b := false) (EvT.is (et_test (ev_op (ev_blk hst s5 (ev_vard 4 rfl)) ev_non opd_notN)) rfl) fun _ => EvT.is (et_test (ev_op (ev_bri hst s1 sP (by decide) s2 (by rw [s3]; rfl) (q := 1) (by decide +kernel) (ev_vard 4 rfl) (ev_vard 6 rfl)) ev_one (opd_neM rds_dat rds_dat (shRat _) (shRat _)))) (neR _)) rfl) rfl) (fun z => nomatch z) fun _ => run_nextS ?_
  refine run_ifS (b := false) (EvT.is (et_or (a := false) (b := false) (EvT.is (et_test (ev_op (ev_apt hst s1 sP s3 (ev_vard 4 rfl) (ev_vard 6 rfl)) (Ev.is (e := encP [0]) evI1 rfl) (opd_neM rds_dat rds_dat (shPic _) (shPic _)))) (neP _)) fun _ => EvT.is (et_or (a := false) (b := false) (EvT.is (et_test (ev_op (ev_cnt hst (m := 1) (by decide) s6 (ev_vard 4 rfl) ev_int) (ev_op (EvN.ev (evn_lst (ea_cons ev_int (ea_cons ev_int (ea_cons ev_int (ea_cons ev_int (ea_cons ev_int (ea_cons ev_int ea_nil)))))) (dats_cons (dats_cons (dats_cons (dats_cons (dats_cons (dats_cons dats_nil)))))) (by show 6 ≤ 100000; decide))) (ev_vard 2 rfl) (opd_ixL (d := eI (([0, 0, 2, 4, 8, 16] : List Nat).getD W 0)) rds_dat rds_dat (atI_get (i := W) ?_))) (opd_neI rds_dat rds_dat))) (by rw [decide_eq_true rfl]; rfl)) fun _ => EvT.is (et_test (ev_op (ev_cnt hst (m := 0) (by decide) s7 (ev_vard 4 rfl) ev_int) ev_int (opd_neI rds_dat rds_dat))) rfl) rfl) rfl) (fun z => nomatch z) fun _ => run_nextS ?_
  · have : W = 2 ∨ W = 3 ∨ W = 4 ∨ W = 5 := by omega
    rcases this with rfl | rfl | rfl | rfl <;> rfl
  -- there and back
  refine run_asg 7 (z := .dat (encS (backS R))) (Ev.is (ev_D3 ev_int (ev_D2 evI2 evI2) (ev_vard 3 rfl)) rfl) ?_
  have p2 : picsM [0, 1] = picsL [0, 1] := pics_rg 2 (by decide)
  refine run_ifS (b := false) (EvT.is (et_or (a := false) (b := false) (EvT.is (et_test (ev_op (ev_hard hbk (v := (2, [0, 1])) (by decide +kernel) (ev_vard 7 rfl)) (Ev.is (e := encH (2, [0, 1])) (ev_D2 ev_int evI2) rfl) (opd_neM rds_dat rds_dat (shHrd _) (shHrd _)))) (neH _)) fun _ => EvT.is (et_or (a := false) (b := false) (EvT.is (et_test (ev_op (ev_bri hbk (p := [0, 1]) (by decide) p2 (k := 2) (by decide) (by decide +kernel) (by decide +kernel) half_eq (ev_vard 7 rfl) (Ev.is (e := encP [0, 1]) evI2 rfl)) (Ev.is (e := encR half) evI2 rfl) (opd_neM rds_dat rds_dat (shRat _) (shRat _)))) (neR _)) fun _ => EvT.is (et_test (ev_op (ev_cnt hbk (m := 1) (v := 3) (by decide) (by decide +kernel) (ev_vard 7 rfl) ev_int) ev_int (opd_neI rds_dat rds_dat))) rfl) rfl) rfl) (fun z => nomatch z) fun _ => run_nextS ?_
  -- the table
  refine run_asg 8 (z := .dat (encS (tabS 2 2 R))) (Ev.is (ev_D3 ev_int (ev_tup (ea_cons evI2 (ea_cons evI2 (ea_cons evI2 (ea_cons evI2 ea_nil)))) (dats_cons (dats_cons (dats_cons (dats_cons dats_nil)))) (by show 4 ≤ 100000; decide)) (ev_vard 3 rfl)) rfl) ?_
  have lit : ∀ {ρ : List Sl} {c : Cs}, Ev K (tTup (tCons (tC (.int 0)) (tCons (tC (.int 3)) tNil))) ρ c (.dat (encP [0, 3])) c := evI2
  have c03 : (coverM (blocksM 2 2) [0, 3]).map List.length = some 2 := by decide +kernel
  refine run_ifS (b := false) (EvT.is (et_or (a := false) (b := false) (EvT.is (et_test (ev_op (ev_few htb (by decide) c03 (ev_vard 8 rfl) lit) ev_int (opd_neI rds_dat rds_dat))) rfl) fun _ => EvT.is (et_test (ev_op (ev_bri htb (by decide) pics_03 (by decide) c03 (by decide +kernel) half_eq (ev_vard 8 rfl) lit) (Ev.is (e := encR half) evI2 rfl) (opd_neM rds_dat rds_dat (shRat _) (shRat _)))) (neR _)) rfl) (fun z => nomatch z) fun _ => run_nextS ?_
  refine run_ifS (b := false) (EvT.is (et_test (ev_op (ev_apt htb (by decide) pics_03 (q := [0, 3]) (by decide +kernel) (ev_vard 8 rfl) lit) lit (opd_neM rds_dat rds_dat (shPic _) (shPic _)))) (neP _)) (fun z => nomatch z) fun _ => run_nextS ?_
  have p4 : picsM [0, 1, 2, 3] = picsL [0, 1, 2, 3] := pics_rg 4 (by decide)
  refine run_ifS (b := false) (EvT.is (et_or (a := false) (b := false) (EvT.is (et_test (ev_op (ev_few htb (p := [0, 1, 2]) (k := 2) (by decide) (by decide +kernel) (ev_vard 8 rfl) (Ev.is (e := encP [0, 1, 2]) evI3 rfl)) ev_int (opd_neI rds_dat rds_dat))) rfl) fun _ => EvT.is (et_test (ev_op (ev_bri htb (p := [0, 1, 2, 3]) (by decide) p4 (k := 1) (by decide) (by decide +kernel) (by decide +kernel) (q := 1) (by decide +kernel) (ev_vard 8 rfl) (Ev.is (e := encP [0, 1, 2, 3]) (ev_tup (ea_cons ev_int (ea_cons ev_int (ea_cons ev_int (ea_cons ev_int ea_nil)))) (dats_cons (dats_cons (dats_cons (dats_cons dats_nil)))) (by show 4 ≤ 100000; decide)) rfl)) ev_one (opd_neM rds_dat rds_dat (shRat _) (shRat _)))) (neR _)) rfl) (fun z => nomatch z) fun _ => run_nextS ?_
  refine run_ifS (b := false) (EvT.is (et_test (ev_op (ev_cnt htb (m := 1) (v := 10) (by decide) (by decide +kernel) (ev_vard 8 rfl) ev_int) ev_int (opd_neI rds_dat rds_dat))) rfl) (fun z => nomatch z) fun _ => run_nextS ?_
  exact run_ret (z := .dat (.bool true)) (Ev.is (ev_andV (a := true) (b := true) (ev_call (sub := []) ea_nil (List.nil_sublist _) ⟨rfl, rfl, rfl, rfl⟩) fun _ => ev_call (sub := []) ea_nil (List.nil_sublist _) ⟨rfl, rfl, rfl, rfl⟩) rfl) ⟨rfl, List.nil_sublist _⟩
end
--END
end LW

set_option Elab.async false
set_option linter.all false
set_option maxRecDepth 100000
set_option maxHeartbeats 4000000
namespace LW
open PySem PySem.Spec PyProof.Rows L2
--BEGIN
theorem all_mk {l : PySem.W.OpenLaw} {w : World} {K : PySem.W.Frag} {h : Heap} {mg : Str → Option Value} {fa : Addr} (X : K.In h) (G : h.Ns mainGlobals mg) (hfa : mg "law" = some (.ref fa))
    {f0 : Addr} {od0 an0 : Option Addr} {sl0 : Array (Option Value)} {oc0 kV0 dc0 pm0 cd0 ct0 : Value} (a0 : PySem.W.nsIn K mainGlobals "is_count" = some (some (.ref f0))) (l0 : K.lookup f0 = some ⟨oc0, od0, .func (PySem.W.fnOf "is_count" "is_count" (defArgs s_is_count) (defBody s_is_count) (defScope s_is_count) .none kV0 dc0 pm0 an0 cd0 ct0), sl0⟩) (c0 : PySem.W.codeIn K cd0 "is_count" = true) (k0 : PySem.W.keepIn K (.ref f0) = true)
    {f1 : Addr} {od1 an1 : Option Addr} {sl1 : Array (Option Value)} {oc1 kV1 dc1 pm1 cd1 ct1 : Value} (a1 : PySem.W.nsIn K mainGlobals "is_lamp" = some (some (.ref f1))) (l1 : K.lookup f1 = some ⟨oc1, od1, .func (PySem.W.fnOf "is_lamp" "is_lamp" (defArgs s_is_lamp) (defBody s_is_lamp) (defScope s_is_lamp) .none kV1 dc1 pm1 an1 cd1 ct1), sl1⟩) (c1 : PySem.W.codeIn K cd1 "is_lamp" = true) (k1 : PySem.W.keepIn K (.ref f1) = true)
    {f2 : Addr} {od2 an2 : Option Addr} {sl2 : Array (Option Value)} {oc2 kV2 dc2 pm2 cd2 ct2 : Value} (a2 : PySem.W.nsIn K mainGlobals "is_sign" = some (some (.ref f2))) (l2 : K.lookup f2 = some ⟨oc2, od2, .func (PySem.W.fnOf "is_sign" "is_sign" (defArgs s_is_sign) (defBody s_is_sign) (defScope s_is_sign) .none kV2 dc2 pm2 an2 cd2 ct2), sl2⟩) (c2 : PySem.W.codeIn K cd2 "is_sign" = true) (k2 : PySem.W.keepIn K (.ref f2) = true)
    {f3 : Addr} {od3 an3 : Option Addr} {sl3 : Array (Option Value)} {oc3 kV3 dc3 pm3 cd3 ct3 : Value} (a3 : PySem.W.nsIn K mainGlobals "need_sign" = some (some (.ref f3))) (l3 : K.lookup f3 = some ⟨oc3, od3, .func (PySem.W.fnOf "need_sign" "need_sign" (defArgs s_need_sign) (defBody s_need_sign) (defScope s_need_sign) .none kV3 dc3 pm3 an3 cd3 ct3), sl3⟩) (c3 : PySem.W.codeIn K cd3 "need_sign" = true) (k3 : PySem.W.keepIn K (.ref f3) = true)
    {f4 : Addr} {od4 an4 : Option Addr} {sl4 : Array (Option Value)} {oc4 kV4 dc4 pm4 cd4 ct4 : Value} (a4 : PySem.W.nsIn K mainGlobals "is_turn" = some (some (.ref f4))) (l4 : K.lookup f4 = some ⟨oc4, od4, .func (PySem.W.fnOf "is_turn" "is_turn" (defArgs s_is_turn) (defBody s_is_turn) (defScope s_is_turn) .none kV4 dc4 pm4 an4 cd4 ct4), sl4⟩) (c4 : PySem.W.codeIn K cd4 "is_turn" = true) (k4 : PySem.W.keepIn K (.ref f4) = true)
    {f5 : Addr} {od5 an5 : Option Addr} {sl5 : Array (Option Value)} {oc5 kV5 dc5 pm5 cd5 ct5 : Value} (a5 : PySem.W.nsIn K mainGlobals "need_turn" = some (some (.ref f5))) (l5 : K.lookup f5 = some ⟨oc5, od5, .func (PySem.W.fnOf "need_turn" "need_turn" (defArgs s_need_turn) (defBody s_need_turn) (defScope s_need_turn) .none kV5 dc5 pm5 an5 cd5 ct5), sl5⟩) (c5 : PySem.W.codeIn K cd5 "need_turn" = true) (k5 : PySem.W.keepIn K (.ref f5) = true)
    {f6 : Addr} {od6 an6 : Option Addr} {sl6 : Array (Option Value)} {oc6 kV6 dc6 pm6 cd6 ct6 : Value} (a6 : PySem.W.nsIn K mainGlobals "chains" = some (some (.ref f6))) (l6 : K.lookup f6 = some ⟨oc6, od6, .func (PySem.W.fnOf "chains" "chains" (defArgs s_chains) (defBody s_chains) (defScope s_chains) .none kV6 dc6 pm6 an6 cd6 ct6), sl6⟩) (c6 : PySem.W.codeIn K cd6 "chains" = true) (k6 : PySem.W.keepIn K (.ref f6) = true)
    {f7 : Addr} {od7 an7 : Option Addr} {sl7 : Array (Option Value)} {oc7 kV7 dc7 pm7 cd7 ct7 : Value} (a7 : PySem.W.nsIn K mainGlobals "glow_of" = some (some (.ref f7))) (l7 : K.lookup f7 = some ⟨oc7, od7, .func (PySem.W.fnOf "glow_of" "glow_of" (defArgs s_glow_of) (defBody s_glow_of) (defScope s_glow_of) .none kV7 dc7 pm7 an7 cd7 ct7), sl7⟩) (c7 : PySem.W.codeIn K cd7 "glow_of" = true) (k7 : PySem.W.keepIn K (.ref f7) = true)
    {f8 : Addr} {od8 an8 : Option Addr} {sl8 : Array (Option Value)} {oc8 kV8 dc8 pm8 cd8 ct8 : Value} (a8 : PySem.W.nsIn K mainGlobals "glow" = some (some (.ref f8))) (l8 : K.lookup f8 = some ⟨oc8, od8, .func (PySem.W.fnOf "glow" "glow" (defArgs s_glow) (defBody s_glow) (defScope s_glow) .none kV8 dc8 pm8 an8 cd8 ct8), sl8⟩) (c8 : PySem.W.codeIn K cd8 "glow" = true) (k8 : PySem.W.keepIn K (.ref f8) = true)
    {f9 : Addr} {od9 an9 : Option Addr} {sl9 : Array (Option Value)} {oc9 kV9 dc9 pm9 cd9 ct9 : Value} (a9 : PySem.W.nsIn K mainGlobals "_law_draw" = some (some (.ref f9))) (l9 : K.lookup f9 = some ⟨oc9, od9, .func (PySem.W.fnOf "_law_draw" "_law_draw" (defArgs s__law_draw) (defBody s__law_draw) (defScope s__law_draw) .none kV9 dc9 pm9 an9 cd9 ct9), sl9⟩) (c9 : PySem.W.codeIn K cd9 "_law_draw" = true) (k9 : PySem.W.keepIn K (.ref f9) = true)
    {f10 : Addr} {od10 an10 : Option Addr} {sl10 : Array (Option Value)} {oc10 kV10 dc10 pm10 cd10 ct10 : Value} (a10 : PySem.W.nsIn K mainGlobals "turns_of" = some (some (.ref f10))) (l10 : K.lookup f10 = some ⟨oc10, od10, .func (PySem.W.fnOf "turns_of" "turns_of" (defArgs s_turns_of) (defBody s_turns_of) (defScope s_turns_of) .none kV10 dc10 pm10 an10 cd10 ct10), sl10⟩) (c10 : PySem.W.codeIn K cd10 "turns_of" = true) (k10 : PySem.W.keepIn K (.ref f10) = true)
    {f11 : Addr} {od11 an11 : Option Addr} {sl11 : Array (Option Value)} {oc11 kV11 dc11 pm11 cd11 ct11 : Value} (a11 : PySem.W.nsIn K mainGlobals "glows_of" = some (some (.ref f11))) (l11 : K.lookup f11 = some ⟨oc11, od11, .func (PySem.W.fnOf "glows_of" "glows_of" (defArgs s_glows_of) (defBody s_glows_of) (defScope s_glows_of) .none kV11 dc11 pm11 an11 cd11 ct11), sl11⟩) (c11 : PySem.W.codeIn K cd11 "glows_of" = true) (k11 : PySem.W.keepIn K (.ref f11) = true)
    {f12 : Addr} {od12 an12 : Option Addr} {sl12 : Array (Option Value)} {oc12 kV12 dc12 pm12 cd12 ct12 : Value} (a12 : PySem.W.nsIn K mainGlobals "within" = some (some (.ref f12))) (l12 : K.lookup f12 = some ⟨oc12, od12, .func (PySem.W.fnOf "within" "within" (defArgs s_within) (defBody s_within) (defScope s_within) .none kV12 dc12 pm12 an12 cd12 ct12), sl12⟩) (c12 : PySem.W.codeIn K cd12 "within" = true) (k12 : PySem.W.keepIn K (.ref f12) = true)
    {f13 : Addr} {od13 an13 : Option Addr} {sl13 : Array (Option Value)} {oc13 kV13 dc13 pm13 cd13 ct13 : Value} (a13 : PySem.W.nsIn K mainGlobals "join" = some (some (.ref f13))) (l13 : K.lookup f13 = some ⟨oc13, od13, .func (PySem.W.fnOf "join" "join" (defArgs s_join) (defBody s_join) (defScope s_join) .none kV13 dc13 pm13 an13 cd13 ct13), sl13⟩) (c13 : PySem.W.codeIn K cd13 "join" = true) (k13 : PySem.W.keepIn K (.ref f13) = true)
    {f14 : Addr} {od14 an14 : Option Addr} {sl14 : Array (Option Value)} {oc14 kV14 dc14 pm14 cd14 ct14 : Value} (a14 : PySem.W.nsIn K mainGlobals "clean_glows" = some (some (.ref f14))) (l14 : K.lookup f14 = some ⟨oc14, od14, .func (PySem.W.fnOf "clean_glows" "clean_glows" (defArgs s_clean_glows) (defBody s_clean_glows) (defScope s_clean_glows) .none kV14 dc14 pm14 an14 cd14 ct14), sl14⟩) (c14 : PySem.W.codeIn K cd14 "clean_glows" = true) (k14 : PySem.W.keepIn K (.ref f14) = true)
    {f15 : Addr} {od15 an15 : Option Addr} {sl15 : Array (Option Value)} {oc15 kV15 dc15 pm15 cd15 ct15 : Value} (a15 : PySem.W.nsIn K mainGlobals "largest_glows" = some (some (.ref f15))) (l15 : K.lookup f15 = some ⟨oc15, od15, .func (PySem.W.fnOf "largest_glows" "largest_glows" (defArgs s_largest_glows) (defBody s_largest_glows) (defScope s_largest_glows) .none kV15 dc15 pm15 an15 cd15 ct15), sl15⟩) (c15 : PySem.W.codeIn K cd15 "largest_glows" = true) (k15 : PySem.W.keepIn K (.ref f15) = true)
    {f16 : Addr} {od16 an16 : Option Addr} {sl16 : Array (Option Value)} {oc16 kV16 dc16 pm16 cd16 ct16 : Value} (a16 : PySem.W.nsIn K mainGlobals "cover" = some (some (.ref f16))) (l16 : K.lookup f16 = some ⟨oc16, od16, .func (PySem.W.fnOf "cover" "cover" (defArgs s_cover) (defBody s_cover) (defScope s_cover) .none kV16 dc16 pm16 an16 cd16 ct16), sl16⟩) (c16 : PySem.W.codeIn K cd16 "cover" = true) (k16 : PySem.W.keepIn K (.ref f16) = true)
    {f17 : Addr} {od17 an17 : Option Addr} {sl17 : Array (Option Value)} {oc17 kV17 dc17 pm17 cd17 ct17 : Value} (a17 : PySem.W.nsIn K mainGlobals "need_picture" = some (some (.ref f17))) (l17 : K.lookup f17 = some ⟨oc17, od17, .func (PySem.W.fnOf "need_picture" "need_picture" (defArgs s_need_picture) (defBody s_need_picture) (defScope s_need_picture) .none kV17 dc17 pm17 an17 cd17 ct17), sl17⟩) (c17 : PySem.W.codeIn K cd17 "need_picture" = true) (k17 : PySem.W.keepIn K (.ref f17) = true)
    {f18 : Addr} {od18 an18 : Option Addr} {sl18 : Array (Option Value)} {oc18 kV18 dc18 pm18 cd18 ct18 : Value} (a18 : PySem.W.nsIn K mainGlobals "fewest" = some (some (.ref f18))) (l18 : K.lookup f18 = some ⟨oc18, od18, .func (PySem.W.fnOf "fewest" "fewest" (defArgs s_fewest) (defBody s_fewest) (defScope s_fewest) .none kV18 dc18 pm18 an18 cd18 ct18), sl18⟩) (c18 : PySem.W.codeIn K cd18 "fewest" = true) (k18 : PySem.W.keepIn K (.ref f18) = true)
    {f19 : Addr} {od19 an19 : Option Addr} {sl19 : Array (Option Value)} {oc19 kV19 dc19 pm19 cd19 ct19 : Value} (a19 : PySem.W.nsIn K mainGlobals "all_pictures" = some (some (.ref f19))) (l19 : K.lookup f19 = some ⟨oc19, od19, .func (PySem.W.fnOf "all_pictures" "all_pictures" (defArgs s_all_pictures) (defBody s_all_pictures) (defScope s_all_pictures) .none kV19 dc19 pm19 an19 cd19 ct19), sl19⟩) (c19 : PySem.W.codeIn K cd19 "all_pictures" = true) (k19 : PySem.W.keepIn K (.ref f19) = true)
    {f20 : Addr} {od20 an20 : Option Addr} {sl20 : Array (Option Value)} {oc20 kV20 dc20 pm20 cd20 ct20 : Value} (a20 : PySem.W.nsIn K mainGlobals "needs_of" = some (some (.ref f20))) (l20 : K.lookup f20 = some ⟨oc20, od20, .func (PySem.W.fnOf "needs_of" "needs_of" (defArgs s_needs_of) (defBody s_needs_of) (defScope s_needs_of) .none kV20 dc20 pm20 an20 cd20 ct20), sl20⟩) (c20 : PySem.W.codeIn K cd20 "needs_of" = true) (k20 : PySem.W.keepIn K (.ref f20) = true)
    {f21 : Addr} {od21 an21 : Option Addr} {sl21 : Array (Option Value)} {oc21 kV21 dc21 pm21 cd21 ct21 : Value} (a21 : PySem.W.nsIn K mainGlobals "blocked" = some (some (.ref f21))) (l21 : K.lookup f21 = some ⟨oc21, od21, .func (PySem.W.fnOf "blocked" "blocked" (defArgs s_blocked) (defBody s_blocked) (defScope s_blocked) .none kV21 dc21 pm21 an21 cd21 ct21), sl21⟩) (c21 : PySem.W.codeIn K cd21 "blocked" = true) (k21 : PySem.W.keepIn K (.ref f21) = true)
    {f22 : Addr} {od22 an22 : Option Addr} {sl22 : Array (Option Value)} {oc22 kV22 dc22 pm22 cd22 ct22 : Value} (a22 : PySem.W.nsIn K mainGlobals "hardest" = some (some (.ref f22))) (l22 : K.lookup f22 = some ⟨oc22, od22, .func (PySem.W.fnOf "hardest" "hardest" (defArgs s_hardest) (defBody s_hardest) (defScope s_hardest) .none kV22 dc22 pm22 an22 cd22 ct22), sl22⟩) (c22 : PySem.W.codeIn K cd22 "hardest" = true) (k22 : PySem.W.keepIn K (.ref f22) = true)
    {f23 : Addr} {od23 an23 : Option Addr} {sl23 : Array (Option Value)} {oc23 kV23 dc23 pm23 cd23 ct23 : Value} (a23 : PySem.W.nsIn K mainGlobals "count" = some (some (.ref f23))) (l23 : K.lookup f23 = some ⟨oc23, od23, .func (PySem.W.fnOf "count" "count" (defArgs s_count) (defBody s_count) (defScope s_count) .none kV23 dc23 pm23 an23 cd23 ct23), sl23⟩) (c23 : PySem.W.codeIn K cd23 "count" = true) (k23 : PySem.W.keepIn K (.ref f23) = true)
    {f24 : Addr} {od24 an24 : Option Addr} {sl24 : Array (Option Value)} {oc24 kV24 dc24 pm24 cd24 ct24 : Value} (a24 : PySem.W.nsIn K mainGlobals "apart" = some (some (.ref f24))) (l24 : K.lookup f24 = some ⟨oc24, od24, .func (PySem.W.fnOf "apart" "apart" (defArgs s_apart) (defBody s_apart) (defScope s_apart) .none kV24 dc24 pm24 an24 cd24 ct24), sl24⟩) (c24 : PySem.W.codeIn K cd24 "apart" = true) (k24 : PySem.W.keepIn K (.ref f24) = true)
    {f25 : Addr} {od25 an25 : Option Addr} {sl25 : Array (Option Value)} {oc25 kV25 dc25 pm25 cd25 ct25 : Value} (a25 : PySem.W.nsIn K mainGlobals "lowest" = some (some (.ref f25))) (l25 : K.lookup f25 = some ⟨oc25, od25, .func (PySem.W.fnOf "lowest" "lowest" (defArgs s_lowest) (defBody s_lowest) (defScope s_lowest) .none kV25 dc25 pm25 an25 cd25 ct25), sl25⟩) (c25 : PySem.W.codeIn K cd25 "lowest" = true) (k25 : PySem.W.keepIn K (.ref f25) = true)
    {f26 : Addr} {od26 an26 : Option Addr} {sl26 : Array (Option Value)} {oc26 kV26 dc26 pm26 cd26 ct26 : Value} (a26 : PySem.W.nsIn K mainGlobals "times" = some (some (.ref f26))) (l26 : K.lookup f26 = some ⟨oc26, od26, .func (PySem.W.fnOf "times" "times" (defArgs s_times) (defBody s_times) (defScope s_times) .none kV26 dc26 pm26 an26 cd26 ct26), sl26⟩) (c26 : PySem.W.codeIn K cd26 "times" = true) (k26 : PySem.W.keepIn K (.ref f26) = true)
    {f27 : Addr} {od27 an27 : Option Addr} {sl27 : Array (Option Value)} {oc27 kV27 dc27 pm27 cd27 ct27 : Value} (a27 : PySem.W.nsIn K mainGlobals "minus" = some (some (.ref f27))) (l27 : K.lookup f27 = some ⟨oc27, od27, .func (PySem.W.fnOf "minus" "minus" (defArgs s_minus) (defBody s_minus) (defScope s_minus) .none kV27 dc27 pm27 an27 cd27 ct27), sl27⟩) (c27 : PySem.W.codeIn K cd27 "minus" = true) (k27 : PySem.W.keepIn K (.ref f27) = true)
    {f28 : Addr} {od28 an28 : Option Addr} {sl28 : Array (Option Value)} {oc28 kV28 dc28 pm28 cd28 ct28 : Value} (a28 : PySem.W.nsIn K mainGlobals "table_of" = some (some (.ref f28))) (l28 : K.lookup f28 = some ⟨oc28, od28, .func (PySem.W.fnOf "table_of" "table_of" (defArgs s_table_of) (defBody s_table_of) (defScope s_table_of) .none kV28 dc28 pm28 an28 cd28 ct28), sl28⟩) (c28 : PySem.W.codeIn K cd28 "table_of" = true) (k28 : PySem.W.keepIn K (.ref f28) = true)
    {f29 : Addr} {od29 an29 : Option Addr} {sl29 : Array (Option Value)} {oc29 kV29 dc29 pm29 cd29 ct29 : Value} (a29 : PySem.W.nsIn K mainGlobals "leaving_row" = some (some (.ref f29))) (l29 : K.lookup f29 = some ⟨oc29, od29, .func (PySem.W.fnOf "leaving_row" "leaving_row" (defArgs s_leaving_row) (defBody s_leaving_row) (defScope s_leaving_row) .none kV29 dc29 pm29 an29 cd29 ct29), sl29⟩) (c29 : PySem.W.codeIn K cd29 "leaving_row" = true) (k29 : PySem.W.keepIn K (.ref f29) = true)
    {f30 : Addr} {od30 an30 : Option Addr} {sl30 : Array (Option Value)} {oc30 kV30 dc30 pm30 cd30 ct30 : Value} (a30 : PySem.W.nsIn K mainGlobals "turned" = some (some (.ref f30))) (l30 : K.lookup f30 = some ⟨oc30, od30, .func (PySem.W.fnOf "turned" "turned" (defArgs s_turned) (defBody s_turned) (defScope s_turned) .none kV30 dc30 pm30 an30 cd30 ct30), sl30⟩) (c30 : PySem.W.codeIn K cd30 "turned" = true) (k30 : PySem.W.keepIn K (.ref f30) = true)
    {f31 : Addr} {od31 an31 : Option Addr} {sl31 : Array (Option Value)} {oc31 kV31 dc31 pm31 cd31 ct31 : Value} (a31 : PySem.W.nsIn K mainGlobals "solved" = some (some (.ref f31))) (l31 : K.lookup f31 = some ⟨oc31, od31, .func (PySem.W.fnOf "solved" "solved" (defArgs s_solved) (defBody s_solved) (defScope s_solved) .none kV31 dc31 pm31 an31 cd31 ct31), sl31⟩) (c31 : PySem.W.codeIn K cd31 "solved" = true) (k31 : PySem.W.keepIn K (.ref f31) = true)
    {f32 : Addr} {od32 an32 : Option Addr} {sl32 : Array (Option Value)} {oc32 kV32 dc32 pm32 cd32 ct32 : Value} (a32 : PySem.W.nsIn K mainGlobals "need_lamps" = some (some (.ref f32))) (l32 : K.lookup f32 = some ⟨oc32, od32, .func (PySem.W.fnOf "need_lamps" "need_lamps" (defArgs s_need_lamps) (defBody s_need_lamps) (defScope s_need_lamps) .none kV32 dc32 pm32 an32 cd32 ct32), sl32⟩) (c32 : PySem.W.codeIn K cd32 "need_lamps" = true) (k32 : PySem.W.keepIn K (.ref f32) = true)
    {f33 : Addr} {od33 an33 : Option Addr} {sl33 : Array (Option Value)} {oc33 kV33 dc33 pm33 cd33 ct33 : Value} (a33 : PySem.W.nsIn K mainGlobals "solution" = some (some (.ref f33))) (l33 : K.lookup f33 = some ⟨oc33, od33, .func (PySem.W.fnOf "solution" "solution" (defArgs s_solution) (defBody s_solution) (defScope s_solution) .none kV33 dc33 pm33 an33 cd33 ct33), sl33⟩) (c33 : PySem.W.codeIn K cd33 "solution" = true) (k33 : PySem.W.keepIn K (.ref f33) = true)
    {f34 : Addr} {od34 an34 : Option Addr} {sl34 : Array (Option Value)} {oc34 kV34 dc34 pm34 cd34 ct34 : Value} (a34 : PySem.W.nsIn K mainGlobals "brightness" = some (some (.ref f34))) (l34 : K.lookup f34 = some ⟨oc34, od34, .func (PySem.W.fnOf "brightness" "brightness" (defArgs s_brightness) (defBody s_brightness) (defScope s_brightness) .none kV34 dc34 pm34 an34 cd34 ct34), sl34⟩) (c34 : PySem.W.codeIn K cd34 "brightness" = true) (k34 : PySem.W.keepIn K (.ref f34) = true)
    {f35 : Addr} {od35 an35 : Option Addr} {sl35 : Array (Option Value)} {oc35 kV35 dc35 pm35 cd35 ct35 : Value} (a35 : PySem.W.nsIn K mainGlobals "_law_rings" = some (some (.ref f35))) (l35 : K.lookup f35 = some ⟨oc35, od35, .func (PySem.W.fnOf "_law_rings" "_law_rings" (defArgs s__law_rings) (defBody s__law_rings) (defScope s__law_rings) .none kV35 dc35 pm35 an35 cd35 ct35), sl35⟩) (c35 : PySem.W.codeIn K cd35 "_law_rings" = true) (k35 : PySem.W.keepIn K (.ref f35) = true)
    {f36 : Addr} {od36 an36 : Option Addr} {sl36 : Array (Option Value)} {oc36 kV36 dc36 pm36 cd36 ct36 : Value} (a36 : PySem.W.nsIn K mainGlobals "_law_chains" = some (some (.ref f36))) (l36 : K.lookup f36 = some ⟨oc36, od36, .func (PySem.W.fnOf "_law_chains" "_law_chains" (defArgs s__law_chains) (defBody s__law_chains) (defScope s__law_chains) .none kV36 dc36 pm36 an36 cd36 ct36), sl36⟩) (c36 : PySem.W.codeIn K cd36 "_law_chains" = true) (k36 : PySem.W.keepIn K (.ref f36) = true)
    {f37 : Addr} {od37 an37 : Option Addr} {sl37 : Array (Option Value)} {oc37 kV37 dc37 pm37 cd37 ct37 : Value} (a37 : PySem.W.nsIn K mainGlobals "law" = some (some (.ref f37))) (l37 : K.lookup f37 = some ⟨oc37, od37, .func (PySem.W.fnOf "law" "law" (defArgs s_law) (defBody s_law) (defScope s_law) .none kV37 dc37 pm37 an37 cd37 ct37), sl37⟩) (c37 : PySem.W.codeIn K cd37 "law" = true) (k37 : PySem.W.keepIn K (.ref f37) = true)
    {t_LAMPS : Nat} (v_LAMPS : PySem.W.nsIn K mainGlobals "LAMPS" = some (some (.int 7 t_LAMPS)))
    {t_STATES : Nat} (v_STATES : PySem.W.nsIn K mainGlobals "STATES" = some (some (.str "+-0" t_STATES)))
    (z_len : PySem.W.nsIn K mainGlobals "len" = some none)
    (z_range : PySem.W.nsIn K mainGlobals "range" = some none)
    (z_enumerate : PySem.W.nsIn K mainGlobals "enumerate" = some none)
    (z_isinstance : PySem.W.nsIn K mainGlobals "isinstance" = some none)
    (z_all : PySem.W.nsIn K mainGlobals "all" = some none)
    (z_any : PySem.W.nsIn K mainGlobals "any" = some none)
    (z_sum : PySem.W.nsIn K mainGlobals "sum" = some none)
    (z_sorted : PySem.W.nsIn K mainGlobals "sorted" = some none)
    (z_set : PySem.W.nsIn K mainGlobals "set" = some none)
    (z_tuple : PySem.W.nsIn K mainGlobals "tuple" = some none)
    (z_list : PySem.W.nsIn K mainGlobals "list" = some none)
    (z_int : PySem.W.nsIn K mainGlobals "int" = some none)
    (z_bool : PySem.W.nsIn K mainGlobals "bool" = some none)
    (z_str : PySem.W.nsIn K mainGlobals "str" = some none)
    (z_min : PySem.W.nsIn K mainGlobals "min" = some none)
    (z_max : PySem.W.nsIn K mainGlobals "max" = some none)
    (z_zip : PySem.W.nsIn K mainGlobals "zip" = some none)
    (z_abs : PySem.W.nsIn K mainGlobals "abs" = some none)
    : ∃ fd : FuncData, (∀ (s : Shared) (v : Value), BindsTo s fd ⟨[v], []⟩ [("script", v)]) ∧ ∀ base : Heap, K.In base → base.Ns mainGlobals mg → FnOk l.prog w K mg base CX0 9 fa fd ["script"] (SpG K (rLaw K)) := by
  have D_is_count : Def K mg "is_count" s_is_count ["value", "least", "most"] := def_mk X G a0 l0 c0 k0 (fun _ _ _ _ _ _ us hl => match us, hl with | [_, _, _], _ => rfl)
  have D_is_lamp : Def K mg "is_lamp" s_is_lamp ["value", "wires"] := def_mk X G a1 l1 c1 k1 (fun _ _ _ _ _ _ us hl => match us, hl with | [_, _], _ => rfl)
  have D_is_sign : Def K mg "is_sign" s_is_sign ["value"] := def_mk X G a2 l2 c2 k2 (fun _ _ _ _ _ _ us hl => match us, hl with | [_], _ => rfl)
  have D_need_sign : Def K mg "need_sign" s_need_sign ["value"] := def_mk X G a3 l3 c3 k3 (fun _ _ _ _ _ _ us hl => match us, hl with | [_], _ => rfl)
  have D_is_turn : Def K mg "is_turn" s_is_turn ["sign", "value"] := def_mk X G a4 l4 c4 k4 (fun _ _ _ _ _ _ us hl => match us, hl with | [_, _], _ => rfl)
  have D_need_turn : Def K mg "need_turn" s_need_turn ["sign", "value"] := def_mk X G a5 l5 c5 k5 (fun _ _ _ _ _ _ us hl => match us, hl with | [_, _], _ => rfl)
  have D_chains : Def K mg "chains" s_chains ["sign", "turn"] := def_mk X G a6 l6 c6 k6 (fun _ _ _ _ _ _ us hl => match us, hl with | [_, _], _ => rfl)
  have D_glow_of : Def K mg "glow_of" s_glow_of ["sign", "turn"] := def_mk X G a7 l7 c7 k7 (fun _ _ _ _ _ _ us hl => match us, hl with | [_, _], _ => rfl)
  have D_glow : Def K mg "glow" s_glow ["sign", "turn"] := def_mk X G a8 l8 c8 k8 (fun _ _ _ _ _ _ us hl => match us, hl with | [_, _], _ => rfl)
  have D_law_draw : Def K mg "_law_draw" s__law_draw ["script", "town", "many"] := def_mk X G a9 l9 c9 k9 (fun _ _ _ _ _ _ us hl => match us, hl with | [_, _, _], _ => rfl)
  have D_turns_of : Def K mg "turns_of" s_turns_of ["sign"] := def_mk X G a10 l10 c10 k10 (fun _ _ _ _ _ _ us hl => match us, hl with | [_], _ => rfl)
  have D_glows_of : Def K mg "glows_of" s_glows_of ["sign"] := def_mk X G a11 l11 c11 k11 (fun _ _ _ _ _ _ us hl => match us, hl with | [_], _ => rfl)
  have D_within : Def K mg "within" s_within ["small", "large"] := def_mk X G a12 l12 c12 k12 (fun _ _ _ _ _ _ us hl => match us, hl with | [_, _], _ => rfl)
  have D_join : Def K mg "join" s_join ["one", "two"] := def_mk X G a13 l13 c13 k13 (fun _ _ _ _ _ _ us hl => match us, hl with | [_, _], _ => rfl)
  have D_clean_glows : Def K mg "clean_glows" s_clean_glows ["glows", "picture"] := def_mk X G a14 l14 c14 k14 (fun _ _ _ _ _ _ us hl => match us, hl with | [_, _], _ => rfl)
  have D_largest_glows : Def K mg "largest_glows" s_largest_glows ["glows", "picture"] := def_mk X G a15 l15 c15 k15 (fun _ _ _ _ _ _ us hl => match us, hl with | [_, _], _ => rfl)
  have D_cover : Def K mg "cover" s_cover ["glows", "picture"] := def_mk X G a16 l16 c16 k16 (fun _ _ _ _ _ _ us hl => match us, hl with | [_, _], _ => rfl)
  have D_need_picture : Def K mg "need_picture" s_need_picture ["sign", "value"] := def_mk X G a17 l17 c17 k17 (fun _ _ _ _ _ _ us hl => match us, hl with | [_, _], _ => rfl)
  have D_fewest : Def K mg "fewest" s_fewest ["sign", "picture"] := def_mk X G a18 l18 c18 k18 (fun _ _ _ _ _ _ us hl => match us, hl with | [_, _], _ => rfl)
  have D_all_pictures : Def K mg "all_pictures" s_all_pictures ["lamps"] := def_mk X G a19 l19 c19 k19 (fun _ _ _ _ _ _ us hl => match us, hl with | [_], _ => rfl)
  have D_needs_of : Def K mg "needs_of" s_needs_of ["sign"] := def_mk X G a20 l20 c20 k20 (fun _ _ _ _ _ _ us hl => match us, hl with | [_], _ => rfl)
  have D_blocked : Def K mg "blocked" s_blocked ["sign"] := def_mk X G a21 l21 c21 k21 (fun _ _ _ _ _ _ us hl => match us, hl with | [_], _ => rfl)
  have D_hardest : Def K mg "hardest" s_hardest ["sign"] := def_mk X G a22 l22 c22 k22 (fun _ _ _ _ _ _ us hl => match us, hl with | [_], _ => rfl)
  have D_count : Def K mg "count" s_count ["sign", "many"] := def_mk X G a23 l23 c23 k23 (fun _ _ _ _ _ _ us hl => match us, hl with | [_, _], _ => rfl)
  have D_apart : Def K mg "apart" s_apart ["sign", "picture"] := def_mk X G a24 l24 c24 k24 (fun _ _ _ _ _ _ us hl => match us, hl with | [_, _], _ => rfl)
  have D_lowest : Def K mg "lowest" s_lowest ["numerator", "denominator"] := def_mk X G a25 l25 c25 k25 (fun _ _ _ _ _ _ us hl => match us, hl with | [_, _], _ => rfl)
  have D_times : Def K mg "times" s_times ["one", "two"] := def_mk X G a26 l26 c26 k26 (fun _ _ _ _ _ _ us hl => match us, hl with | [_, _], _ => rfl)
  have D_minus : Def K mg "minus" s_minus ["one", "two"] := def_mk X G a27 l27 c27 k27 (fun _ _ _ _ _ _ us hl => match us, hl with | [_, _], _ => rfl)
  have D_table_of : Def K mg "table_of" s_table_of ["parts", "picture"] := def_mk X G a28 l28 c28 k28 (fun _ _ _ _ _ _ us hl => match us, hl with | [_, _], _ => rfl)
  have D_leaving_row : Def K mg "leaving_row" s_leaving_row ["rows", "basis", "column"] := def_mk X G a29 l29 c29 k29 (fun _ _ _ _ _ _ us hl => match us, hl with | [_, _, _], _ => rfl)
  have D_turned : Def K mg "turned" s_turned ["rows", "at", "column"] := def_mk X G a30 l30 c30 k30 (fun _ _ _ _ _ _ us hl => match us, hl with | [_, _, _], _ => rfl)
  have D_solved : Def K mg "solved" s_solved ["parts", "picture"] := def_mk X G a31 l31 c31 k31 (fun _ _ _ _ _ _ us hl => match us, hl with | [_, _], _ => rfl)
  have D_need_lamps : Def K mg "need_lamps" s_need_lamps ["sign", "picture"] := def_mk X G a32 l32 c32 k32 (fun _ _ _ _ _ _ us hl => match us, hl with | [_, _], _ => rfl)
  have D_solution : Def K mg "solution" s_solution ["sign", "picture"] := def_mk X G a33 l33 c33 k33 (fun _ _ _ _ _ _ us hl => match us, hl with | [_, _], _ => rfl)
  have D_brightness : Def K mg "brightness" s_brightness ["sign", "picture"] := def_mk X G a34 l34 c34 k34 (fun _ _ _ _ _ _ us hl => match us, hl with | [_, _], _ => rfl)
  have D_law_rings : Def K mg "_law_rings" s__law_rings [] := def_mk X G a35 l35 c35 k35 (fun _ _ _ _ _ _ us hl => match us, hl with | [], _ => rfl)
  have D_law_chains : Def K mg "_law_chains" s__law_chains [] := def_mk X G a36 l36 c36 k36 (fun _ _ _ _ _ _ us hl => match us, hl with | [], _ => rfl)
  have B : Co mg := { toBi := ⟨PySem.W.mg_none_of X G z_len, PySem.W.mg_none_of X G z_range, PySem.W.mg_none_of X G z_enumerate, PySem.W.mg_none_of X G z_isinstance, PySem.W.mg_none_of X G z_all, PySem.W.mg_none_of X G z_any, PySem.W.mg_none_of X G z_sum, PySem.W.mg_none_of X G z_sorted, PySem.W.mg_none_of X G z_set, PySem.W.mg_none_of X G z_tuple, PySem.W.mg_none_of X G z_list, PySem.W.mg_none_of X G z_int, PySem.W.mg_none_of X G z_bool, PySem.W.mg_none_of X G z_str, PySem.W.mg_none_of X G z_min, PySem.W.mg_none_of X G z_max, PySem.W.mg_none_of X G z_zip, PySem.W.mg_none_of X G z_abs⟩, LAMPS := ⟨_, PySem.W.mg_of X G v_LAMPS⟩, STATES := ⟨_, PySem.W.mg_of X G v_STATES⟩ }
  have e := hfa.symm.trans (PySem.W.mg_of X G a37)
  cases e
  have F := fun_mk (st := s_law) l37 c37 k37
  refine ⟨PySem.W.fnOf "law" "law" (defArgs s_law) (defBody s_law) (defScope s_law) .none kV37 dc37 pm37 an37 cd37 ct37, fun s v => .of_eq rfl, fun base _ _ => ?_⟩
  have c_is_count := ok_is_count (P := l.prog) (w := w) (base := base) B D_is_count
  have c_is_lamp := ok_is_lamp (P := l.prog) (w := w) (base := base) B D_is_lamp c_is_count
  have c_is_sign := ok_is_sign (P := l.prog) (w := w) (base := base) B D_is_sign c_is_count c_is_lamp
  have c_need_sign := ok_need_sign (P := l.prog) (w := w) (base := base) B D_need_sign c_is_sign
  have c_is_turn := ok_is_turn (P := l.prog) (w := w) (base := base) B D_is_turn
  have c_need_turn := ok_need_turn (P := l.prog) (w := w) (base := base) B D_need_turn c_is_turn
  have c_chains := ok_chains (P := l.prog) (w := w) (base := base) B D_chains
  have c_glow_of := ok_glow_of (P := l.prog) (w := w) (base := base) B D_glow_of c_chains
  have c_glow := ok_glow (P := l.prog) (w := w) (base := base) B D_glow c_need_sign c_need_turn c_glow_of
  have c_law_draw := ok_law_draw (P := l.prog) (w := w) (base := base) B D_law_draw
  have c_turns_of := ok_turns_of (P := l.prog) (w := w) (base := base) B D_turns_of
  have c_glows_of := ok_glows_of (P := l.prog) (w := w) (base := base) B D_glows_of c_turns_of c_glow_of
  have c_within := ok_within (P := l.prog) (w := w) (base := base) B D_within
  have c_join := ok_join (P := l.prog) (w := w) (base := base) B D_join
  have c_clean_glows := ok_clean_glows (P := l.prog) (w := w) (base := base) B D_clean_glows c_within
  have c_largest_glows := ok_largest_glows (P := l.prog) (w := w) (base := base) B D_largest_glows c_within c_clean_glows
  have c_cover := ok_cover (P := l.prog) (w := w) (base := base) B D_cover c_join c_largest_glows
  have c_need_picture := ok_need_picture (P := l.prog) (w := w) (base := base) B D_need_picture c_is_count
  have c_fewest := ok_fewest (P := l.prog) (w := w) (base := base) B D_fewest c_need_sign c_need_picture c_glows_of c_cover
  have c_all_pictures := ok_all_pictures (P := l.prog) (w := w) (base := base) B D_all_pictures
  have c_needs_of := ok_needs_of (P := l.prog) (w := w) (base := base) B D_needs_of c_glows_of c_cover c_all_pictures
  have c_blocked := ok_blocked (P := l.prog) (w := w) (base := base) B D_blocked c_need_sign c_needs_of
  have c_hardest := ok_hardest (P := l.prog) (w := w) (base := base) B D_hardest c_need_sign c_needs_of
  have c_count := ok_count (P := l.prog) (w := w) (base := base) B D_count c_need_sign c_is_count c_needs_of
  have c_apart := ok_apart (P := l.prog) (w := w) (base := base) B D_apart c_need_sign c_need_picture c_glows_of c_clean_glows c_all_pictures
  have c_lowest := ok_lowest (P := l.prog) (w := w) (base := base) B D_lowest
  have c_times := ok_times (P := l.prog) (w := w) (base := base) B D_times c_lowest
  have c_minus := ok_minus (P := l.prog) (w := w) (base := base) B D_minus c_lowest
  have c_table_of := ok_table_of (P := l.prog) (w := w) (base := base) B D_table_of
  have c_leaving_row := ok_leaving_row (P := l.prog) (w := w) (base := base) B D_leaving_row c_times
  have c_turned := ok_turned (P := l.prog) (w := w) (base := base) B D_turned c_times c_minus
  have c_solved := ok_solved (P := l.prog) (w := w) (base := base) B D_solved c_table_of c_leaving_row c_turned
  have c_need_lamps := ok_need_lamps (P := l.prog) (w := w) (base := base) B D_need_lamps c_need_sign c_need_picture
  have c_solution := ok_solution (P := l.prog) (w := w) (base := base) B D_solution c_need_lamps c_glows_of c_cover c_largest_glows c_solved
  have c_brightness := ok_brightness (P := l.prog) (w := w) (base := base) B D_brightness c_solution
  have c_law_rings := ok_law_rings (P := l.prog) (w := w) (base := base) B D_law_rings c_hardest c_blocked c_count c_fewest c_apart c_brightness
  have c_law_chains := ok_law_chains (P := l.prog) (w := w) (base := base) B D_law_chains c_glow c_hardest c_count c_fewest c_brightness
  exact ok_law B F c_hardest c_blocked c_count c_fewest c_apart c_brightness c_law_draw c_law_rings c_law_chains
--END
end LW
open PySem PySem.W PyProof.Rows
set_option maxHeartbeats 0 in
theorem PySem.Challenge.cw_lampwires_k13_whole_known_signs_holds : PySem.Challenge.rw_lampwires_k13_whole_known_signs.Holds := by
  w_on; o_law; k_head; (case hw => w_witness2)
  k_fill
  refine L2.walk_of (l := PySem.Challenge.rw_lampwires_k13_whole_known_signs) (n := 63) (k := 9) (x := "script") (CX := fun _ => L2.CX0) (sp := fun w => LW.SpG _ (LW.rLaw _)) rfl (by decide) rfl ⟨rfl, by decide, by decide⟩ (fun w h Y => PySem.W.kIn_of Y) ?F (fun _ _ a ns hl _ hS => LW.law_sp hl hS) (fun _ _ _ _ _ h => h)
  case F =>
    intro w mg fa h KX G hmg
    refine' LW.all_mk KX G hmg ?a0 ?l0 ?c0 ?k0 ?a1 ?l1 ?c1 ?k1 ?a2 ?l2 ?c2 ?k2 ?a3 ?l3 ?c3 ?k3 ?a4 ?l4 ?c4 ?k4 ?a5 ?l5 ?c5 ?k5 ?a6 ?l6 ?c6 ?k6 ?a7 ?l7 ?c7 ?k7 ?a8 ?l8 ?c8 ?k8 ?a9 ?l9 ?c9 ?k9 ?a10 ?l10 ?c10 ?k10 ?a11 ?l11 ?c11 ?k11 ?a12 ?l12 ?c12 ?k12 ?a13 ?l13 ?c13 ?k13 ?a14 ?l14 ?c14 ?k14 ?a15 ?l15 ?c15 ?k15 ?a16 ?l16 ?c16 ?k16 ?a17 ?l17 ?c17 ?k17 ?a18 ?l18 ?c18 ?k18 ?a19 ?l19 ?c19 ?k19 ?a20 ?l20 ?c20 ?k20 ?a21 ?l21 ?c21 ?k21 ?a22 ?l22 ?c22 ?k22 ?a23 ?l23 ?c23 ?k23 ?a24 ?l24 ?c24 ?k24 ?a25 ?l25 ?c25 ?k25 ?a26 ?l26 ?c26 ?k26 ?a27 ?l27 ?c27 ?k27 ?a28 ?l28 ?c28 ?k28 ?a29 ?l29 ?c29 ?k29 ?a30 ?l30 ?c30 ?k30 ?a31 ?l31 ?c31 ?k31 ?a32 ?l32 ?c32 ?k32 ?a33 ?l33 ?c33 ?k33 ?a34 ?l34 ?c34 ?k34 ?a35 ?l35 ?c35 ?k35 ?a36 ?l36 ?c36 ?k36 ?a37 ?l37 ?c37 ?k37 ?v_LAMPS ?v_STATES ?z_len ?z_range ?z_enumerate ?z_isinstance ?z_all ?z_any ?z_sum ?z_sorted ?z_set ?z_tuple ?z_list ?z_int ?z_bool ?z_str ?z_min ?z_max ?z_zip ?z_abs
    (case a0 => k_is); (case l0 => k_is); (case c0 => k_is); (case k0 => k_is); (case a1 => k_is); (case l1 => k_is); (case c1 => k_is); (case k1 => k_is); (case a2 => k_is); (case l2 => k_is); (case c2 => k_is); (case k2 => k_is); (case a3 => k_is); (case l3 => k_is); (case c3 => k_is); (case k3 => k_is); (case a4 => k_is); (case l4 => k_is); (case c4 => k_is); (case k4 => k_is); (case a5 => k_is); (case l5 => k_is); (case c5 => k_is); (case k5 => k_is); (case a6 => k_is); (case l6 => k_is); (case c6 => k_is); (case k6 => k_is); (case a7 => k_is); (case l7 => k_is); (case c7 => k_is); (case k7 => k_is); (case a8 => k_is); (case l8 => k_is); (case c8 => k_is); (case k8 => k_is); (case a9 => k_is); (case l9 => k_is); (case c9 => k_is); (case k9 => k_is); (case a10 => k_is); (case l10 => k_is); (case c10 => k_is); (case k10 => k_is); (case a11 => k_is); (case l11 => k_is); (case c11 => k_is); (case k11 => k_is); (case a12 => k_is); (case l12 => k_is); (case c12 => k_is); (case k12 => k_is); (case a13 => k_is); (case l13 => k_is); (case c13 => k_is); (case k13 => k_is); (case a14 => k_is); (case l14 => k_is); (case c14 => k_is); (case k14 => k_is); (case a15 => k_is); (case l15 => k_is); (case c15 => k_is); (case k15 => k_is); (case a16 => k_is); (case l16 => k_is); (case c16 => k_is); (case k16 => k_is); (case a17 => k_is); (case l17 => k_is); (case c17 => k_is); (case k17 => k_is); (case a18 => k_is); (case l18 => k_is); (case c18 => k_is); (case k18 => k_is); (case a19 => k_is); (case l19 => k_is); (case c19 => k_is); (case k19 => k_is); (case a20 => k_is); (case l20 => k_is); (case c20 => k_is); (case k20 => k_is); (case a21 => k_is); (case l21 => k_is); (case c21 => k_is); (case k21 => k_is); (case a22 => k_is); (case l22 => k_is); (case c22 => k_is); (case k22 => k_is); (case a23 => k_is); (case l23 => k_is); (case c23 => k_is); (case k23 => k_is); (case a24 => k_is); (case l24 => k_is); (case c24 => k_is); (case k24 => k_is); (case a25 => k_is); (case l25 => k_is); (case c25 => k_is); (case k25 => k_is); (case a26 => k_is); (case l26 => k_is); (case c26 => k_is); (case k26 => k_is); (case a27 => k_is); (case l27 => k_is); (case c27 => k_is); (case k27 => k_is); (case a28 => k_is); (case l28 => k_is); (case c28 => k_is); (case k28 => k_is); (case a29 => k_is); (case l29 => k_is); (case c29 => k_is); (case k29 => k_is); (case a30 => k_is); (case l30 => k_is); (case c30 => k_is); (case k30 => k_is); (case a31 => k_is); (case l31 => k_is); (case c31 => k_is); (case k31 => k_is); (case a32 => k_is); (case l32 => k_is); (case c32 => k_is); (case k32 => k_is); (case a33 => k_is); (case l33 => k_is); (case c33 => k_is); (case k33 => k_is); (case a34 => k_is); (case l34 => k_is); (case c34 => k_is); (case k34 => k_is); (case a35 => k_is); (case l35 => k_is); (case c35 => k_is); (case k35 => k_is); (case a36 => k_is); (case l36 => k_is); (case c36 => k_is); (case k36 => k_is); (case a37 => k_is); (case l37 => k_is); (case c37 => k_is); (case k37 => k_is); (case v_LAMPS => k_is); (case v_STATES => k_is); (case z_len => k_is); (case z_range => k_is); (case z_enumerate => k_is); (case z_isinstance => k_is); (case z_all => k_is); (case z_any => k_is); (case z_sum => k_is); (case z_sorted => k_is); (case z_set => k_is); (case z_tuple => k_is); (case z_list => k_is); (case z_int => k_is); (case z_bool => k_is); (case z_str => k_is); (case z_min => k_is); (case z_max => k_is); (case z_zip => k_is); (case z_abs => k_is)
