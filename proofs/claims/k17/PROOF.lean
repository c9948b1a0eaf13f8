import PyProof.Rows.All
import Wide.All
import OpenK.AllK
import Wide.FinOn
import HandS.ForMost
import HandS.Exc
import HandS.TryOnly
import HandS.ExcOwn
import HandS.WordsExc
import HandS.IsInst
import HandS.ExcIs
import HandS.Style
import HandS.Flow
import HandS.HotCalls
import HandS.Deep
import HandS.TupMul
import HandS.TupAny
import HandS.Wide
import KE.KIntText
import HandS.SetFor
import HandS.Iter
import HandS.Text
import HandS.Conv
import KE.SortData
import KE.DataMinMax
import PyProof.Claim2Refuses
import KE.KTupSum
import HandS.SortOrd
import HandS.Replace
import HandS.ReplaceLit
import HandS.Dict
import KE.KDictDisplayH
import HandS.Codes
import OpenK.KOps
import PySem.Challenge.RW_fracgraph_k17_whole_walkers_undone
set_option Elab.async false
set_option linter.all false
set_option maxRecDepth 100000
set_option maxHeartbeats 4000000
namespace DL
open PySem PySem.Spec PyProof.Rows L2

abbrev D := PyData
/-- what a name holds: data (never changed), the n-th thing of the store, or the script -/
inductive Sv where
  | d (x : D)
  | r (n : Nat)
  | s (ns : List Int)
  | x (a : Addr)
inductive Ob where
  | lst (ds : List D)
  | dic (kvs : List (List Int × D))
  | ins (c : Nat) (fs : List (Str × Sv))
  | gone
abbrev Stt := List Ob
abbrev En := List (Option Sv)
/-- the outcome of a reading: a value and the store; an exception of the c-th class; not told -/
inductive R (α : Type) where
  | ok (a : α) (s : Stt)
  | ex (c : Nat) (s : Stt)
  | bad
abbrev EX := En → Stt → R Sv
abbrev AX := En → Stt → R (List Sv)
inductive RS where
  | nx (e : En) (s : Stt)
  | rt (x : Sv) (s : Stt)
  | ex (c : Nat) (s : Stt)
  | bad
abbrev SX := En → Stt → RS
def bindR {α β : Type} (r : R α) (k : α → Stt → R β) : R β := match r with
  | .ok a s => k a s
  | .ex c s => .ex c s
  | .bad => .bad

mutual
inductive DR (K : PySem.W.Frag) (G : Hp) : V → D → Prop
  | non : DR K G .non .none
  | bl (b : Bool) : DR K G (.bl b) (.bool b)
  | int (i : Int) : DR K G (.int i) (.int i)
  | str (x : Str) : DR K G (.str x) (.str x)
  | lst {a : Addr} {xs : List V} {ds : List D} : G a = some (.lst xs) → DRA K G xs ds → DR K G (.ref a) (.list ds)
  | tup {a : Addr} {xs : List V} {ds : List D} : SqT K G a xs → DRA K G xs ds → DR K G (.ref a) (.tuple ds)
inductive DRA (K : PySem.W.Frag) (G : Hp) : List V → List D → Prop
  | nil : DRA K G [] []
  | cons {v : V} {vs : List V} {d : D} {ds : List D} : DR K G v d → DRA K G vs ds → DRA K G (v :: vs) (d :: ds)
end
theorem sameT {K : PySem.W.Frag} {H H' : Hp} {a : Addr} {xs : List V} (e : Same H H') (h : SqT K H a xs) : SqT K H' a xs := by
  rcases h with (h | ⟨o, h⟩) | h
  · exact .inl (.inl (e _ _ h))
  · exact .inl (.inr ⟨o, e _ _ h⟩)
  · exact .inr h
section
variable {K : PySem.W.Frag} {G G' : Hp}
mutual
theorem DR.mono (e : Same G G') : ∀ {v : V} {d : D}, DR K G v d → DR K G' v d
  | _, _, .non => .non
  | _, _, .bl b => .bl b
  | _, _, .int i => .int i
  | _, _, .str x => .str x
  | _, _, .lst h t => .lst (e _ _ h) (DRA.mono e t)
  | _, _, .tup h t => .tup (sameT e h) (DRA.mono e t)
theorem DRA.mono (e : Same G G') : ∀ {vs : List V} {ds : List D}, DRA K G vs ds → DRA K G' vs ds
  | _, _, .nil => .nil
  | _, _, .cons h t => .cons (DR.mono e h) (DRA.mono e t)
end
mutual
theorem DR.dp : ∀ {v : V} {d : D}, DR K G v d → Dp K G v d
  | _, _, .non => .non
  | _, _, .bl b => .bl b
  | _, _, .int i => .int i
  | _, _, .str x => .str x
  | _, _, .lst h t => .lst (SqL.of h) (DRA.dp t)
  | _, _, .tup h t => .tup h (DRA.dp t)
theorem DRA.dp : ∀ {vs : List V} {ds : List D}, DRA K G vs ds → DpAll K G vs ds
  | _, _, .nil => .nil
  | _, _, .cons h t => .cons (DR.dp h) (DRA.dp t)
end
theorem DRA.length : ∀ {vs : List V} {ds : List D}, DRA K G vs ds → vs.length = ds.length
  | _, _, .nil => rfl
  | _, _, .cons _ t => by rw [List.length_cons, List.length_cons, DRA.length t]
theorem DRA.get : ∀ {vs : List V} {ds : List D} {i : Nat} {d : D}, DRA K G vs ds → ds[i]? = some d → ∃ v, vs[i]? = some v ∧ DR K G v d
  | _, _, _, _, .nil, e => by simp at e
  | _, _, 0, _, .cons h _, e => by simp at e; subst e; exact ⟨_, rfl, h⟩
  | _, _, i + 1, d, .cons _ t, e => by
    obtain ⟨v, h1, h2⟩ := DRA.get (i := i) (d := d) t (by simpa using e)
    exact ⟨v, by simpa using h1, h2⟩
theorem DRA.get' : ∀ {vs : List V} {ds : List D} {i : Nat} {v : V}, DRA K G vs ds → vs[i]? = some v → ∃ d, ds[i]? = some d ∧ DR K G v d
  | _, _, _, _, .nil, e => by simp at e
  | _, _, 0, _, .cons h _, e => by simp at e; subst e; exact ⟨_, rfl, h⟩
  | _, _, i + 1, d, .cons _ t, e => by
    obtain ⟨v, h1, h2⟩ := DRA.get' (i := i) (v := d) t (by simpa using e)
    exact ⟨v, by simpa using h1, h2⟩
theorem DRA.append : ∀ {vs ws : List V} {ds es : List D}, DRA K G vs ds → DRA K G ws es → DRA K G (vs ++ ws) (ds ++ es)
  | _, _, _, _, .nil, s => s
  | _, _, _, _, .cons h t, s => .cons h (DRA.append t s)
theorem DRA.take : ∀ {vs : List V} {ds : List D} (n : Nat), DRA K G vs ds → DRA K G (vs.take n) (ds.take n)
  | _, _, 0, _ => .nil
  | _, _, _ + 1, .nil => .nil
  | _, _, n + 1, .cons h t => .cons h (DRA.take n t)
theorem DRA.drop : ∀ {vs : List V} {ds : List D} (n : Nat), DRA K G vs ds → DRA K G (vs.drop n) (ds.drop n)
  | _, _, 0, r => r
  | _, _, _ + 1, .nil => .nil
  | _, _, n + 1, .cons _ t => DRA.drop n t
theorem DRA.reverse {vs : List V} {ds : List D} (h : DRA K G vs ds) : DRA K G vs.reverse ds.reverse := by
  induction vs generalizing ds with
  | nil => cases h; exact .nil
  | cons v vs ih =>
    cases h with
    | cons h t =>
      rw [List.reverse_cons, List.reverse_cons]
      exact DRA.append (ih t) (.cons h .nil)
theorem DRA.set {x : V} {y : D} (r : DR K G x y) : ∀ {vs : List V} {ds : List D} (i : Nat), DRA K G vs ds → DRA K G (vs.set i x) (ds.set i y)
  | _, _, _, .nil => .nil
  | _, _, 0, .cons _ t => .cons r t
  | _, _, i + 1, .cons q t => .cons q (DRA.set r i t)
theorem DRA.rep {vs : List V} {ds : List D} (h : DRA K G vs ds) : ∀ k : Nat, DRA K G (List.replicate k vs).flatten (List.replicate k ds).flatten
  | 0 => .nil
  | k + 1 => by
    rw [List.replicate_succ, List.replicate_succ, List.flatten_cons, List.flatten_cons]
    exact DRA.append h (DRA.rep h k)
theorem DRA.ints : ∀ ns : List Int, DRA K G (ns.map V.int) (ns.map PyData.int)
  | [] => .nil
  | n :: ns => .cons (.int n) (DRA.ints ns)
theorem DRA.at {vs : List V} {ds : List D} {i : Int} {d : D} (h : DRA K G vs ds) (e : atI ds i = some d) : ∃ v, atI vs i = some v ∧ DR K G v d := by
  unfold atI at e ⊢
  rw [h.length]
  cases q : ixN ds.length i with
  | none => rw [q] at e; cases e
  | some j =>
    rw [q] at e
    exact DRA.get h e
end

/-- the hash of a tuple of ints (the world does not matter) -/
def hashI (ks : List Int) : Int := reduceHash (Builtin.Tuple.tupleHashOf (ks.map hashInt))
def entI (x : List Int × Addr × Value) : DictEntry := ⟨hashI x.1, .ref x.2.1, x.2.2⟩
/-- a dict with these entries stands at a -/
def dphi (a : Addr) (xs : List (List Int × Addr × Value)) : Heap → Prop := fun h => ∃ o es ep, h.get? a = some o ∧ o.ExactDict ∧ o.data = .dict es ep ∧ es.toList = xs.map entI
section
variable (K : PySem.W.Frag) (ca : Nat → Addr)
def SR (G : Hp) (ρ : List Addr) : Sv → V → Prop
  | .d x, v => DR K G v x
  | .r n, v => ∃ a, ρ[n]? = some a ∧ v = .ref a
  | .s ns, v => ∃ a, v = .ref a ∧ SqL K G a (ns.map V.int)
  | .x a, v => v = .ref a
/-- a key with its value, an entry of a dict -/
def KVR (G : Hp) (p : List Int × D) (q : List Int × Addr × Value) : Prop := p.1 = q.1 ∧ SqT K G q.2.1 (p.1.map V.int) ∧ ∃ v, RelV v q.2.2 ∧ DR K G v p.2
def ObR (G : Hp) (ρ : List Addr) (H : Hp) (a : Addr) : Ob → Prop
  | .lst ds => ∃ vs, H a = some (.lst vs) ∧ DRA K G vs ds
  | .dic kvs => ∃ xs : List (List Int × Addr × Value), H a = some (.ext (dphi a xs)) ∧ (a == sysModules) = false ∧ kvs.length ≤ 100000 ∧ (kvs.map (·.1)).Nodup ∧ Paired (KVR K G) kvs xs
  | .ins c fs => ∃ dx vs, H a = some (.ins (ca c) dx vs) ∧ Paired (fun (p : Str × Sv) (q : Str × V) => p.1 = q.1 ∧ SR K G ρ p.2 q.2) fs vs
  | .gone => (∃ vs, H a = some (.lst vs)) ∨ ∃ od φ, H a = some (.frz od (.ext φ))
structure Rel (G : Hp) (ρ : List Addr) (st : Stt) (H : Hp) : Prop where
  sub : Same G H
  len : ρ.length = st.length
  nd : ρ.Nodup
  out : ∀ (n : Nat) (a : Addr) (o : Ob), ρ[n]? = some a → st[n]? = some o → o ≠ .gone → G a = none
  obj : ∀ (n : Nat) (a : Addr) (o : Ob), ρ[n]? = some a → st[n]? = some o → ObR K ca G ρ H a o
/-- the names of a frame -/
def RelE (G : Hp) (ρ : List Addr) (env : En) (σ : L2.St) : Prop := env.length = σ.length ∧ ∀ (i : Nat) (x : Sv), env[i]? = some (some x) → ∃ v, σ[i]? = some (some v) ∧ SR K G ρ x v
end
section
variable {K : PySem.W.Frag} {ca : Nat → Addr} {G G' H H' : Hp} {ρ ρ' : List Addr} {st st' : Stt} {x y : Sv} {v w : V} {env : En} {σ : L2.St}
theorem pre_get {α : Type} {l l' : List α} {n : Nat} {a : α} (p : l <+: l') (h : l[n]? = some a) : l'[n]? = some a := by
  obtain ⟨r, rfl⟩ := p
  have hn : n < l.length := (List.getElem?_eq_some_iff.mp h).1
  rw [List.getElem?_append_left hn]
  exact h
theorem SR.mono (e : Same G G') (p : ρ <+: ρ') (h : SR K G ρ x v) : SR K G' ρ' x v := by
  cases x with
  | d z => exact DR.mono e h
  | r n =>
    obtain ⟨a, h1, h2⟩ := h
    exact ⟨a, pre_get p h1, h2⟩
  | s ns =>
    obtain ⟨a, h1, h2⟩ := h
    exact ⟨a, h1, e.seq h2⟩
  | x a => exact h
theorem SRs.mono (e : Same G G') (p : ρ <+: ρ') {xs : List Sv} {vs : List V} (h : Paired (SR K G ρ) xs vs) : Paired (SR K G' ρ') xs vs := Paired.mapP h fun _ _ q => q.mono e p
theorem RelE.mono (e : Same G G') (p : ρ <+: ρ') (h : RelE K G ρ env σ) : RelE K G' ρ' env σ :=
  ⟨h.1, fun i x hx => by
    obtain ⟨v, h1, h2⟩ := h.2 i x hx
    exact ⟨v, h1, h2.mono e p⟩⟩
theorem RelE.set {i : Nat} (h : RelE K G ρ env σ) (r : SR K G ρ x v) : RelE K G ρ (env.set i (some x)) (σ.set i (some v)) := by
  refine ⟨by rw [List.length_set, List.length_set]; exact h.1, fun j y hy => ?_⟩
  by_cases e : i = j
  · subst e
    by_cases hi : i < env.length
    · rw [List.getElem?_set_self hi] at hy
      cases hy
      exact ⟨v, by rw [List.getElem?_set_self (by rw [← h.1]; exact hi)], r⟩
    · rw [List.getElem?_eq_none (by rw [List.length_set]; omega)] at hy
      cases hy
  · rw [List.getElem?_set_ne e] at hy ⊢
    exact h.2 j y hy
theorem RelE.unset {i : Nat} (h : RelE K G ρ env σ) : RelE K G ρ (env.set i none) (σ.set i none) := by
  refine ⟨by rw [List.length_set, List.length_set]; exact h.1, fun j y hy => ?_⟩
  by_cases e : i = j
  · subst e
    by_cases hi : i < env.length
    · rw [List.getElem?_set_self hi] at hy
      cases hy
    · rw [List.getElem?_eq_none (by rw [List.length_set]; omega)] at hy
      cases hy
  · rw [List.getElem?_set_ne e] at hy ⊢
    exact h.2 j y hy
theorem ObR.there {a : Addr} {o : Ob} (h : ObR K ca G ρ H a o) : H a ≠ none ∧ ∀ xs, H a ≠ some (.tup xs) := by
  cases o with
  | lst ds =>
    obtain ⟨vs, h1, _⟩ := h
    refine ⟨fun e => ?_, fun xs e => ?_⟩ <;> rw [h1] at e <;> cases e
  | dic kvs =>
    obtain ⟨vs, h1, _⟩ := h
    refine ⟨fun e => ?_, fun xs e => ?_⟩ <;> rw [h1] at e <;> cases e
  | ins c fs =>
    obtain ⟨dx, vs, h1, _⟩ := h
    refine ⟨fun e => ?_, fun xs e => ?_⟩ <;> rw [h1] at e <;> cases e
  | gone =>
    rcases h with ⟨vs, h1⟩ | ⟨od, φ, h1⟩
    · refine ⟨fun e => ?_, fun xs e => ?_⟩ <;> rw [h1] at e <;> cases e
    · refine ⟨fun e => ?_, fun xs e => ?_⟩ <;> rw [h1] at e <;> cases e
theorem Rel.there (h : Rel K ca G ρ st H) {a : Addr} (ha : a ∈ ρ) : H a ≠ none := by
  obtain ⟨n, hn⟩ := List.getElem?_of_mem ha
  have hl : n < st.length := by
    rw [← h.len]
    exact (List.getElem?_eq_some_iff.mp hn).1
  exact (h.obj n a _ hn (List.getElem?_eq_getElem hl)).there.1
theorem Rel.fresh (h : Rel K ca G ρ st H) {p : Addr} (hp : H p = none) : p ∉ ρ ∧ G p = none := by
  refine ⟨fun z => h.there z hp, ?_⟩
  cases e : G p with
  | none => rfl
  | some o =>
    rw [h.sub p o e] at hp
    cases hp
theorem ObR.mono {a : Addr} {o : Ob} (e : Same G G') (p : ρ <+: ρ') (k : H' a = H a) (h : ObR K ca G ρ H a o) : ObR K ca G' ρ' H' a o := by
  cases o with
  | lst ds =>
    obtain ⟨vs, h1, h2⟩ := h
    exact ⟨vs, k.trans h1, h2.mono e⟩
  | dic kvs =>
    obtain ⟨xs, h1, h2, h3, h4, h5⟩ := h
    exact ⟨xs, k.trans h1, h2, h3, h4, Paired.mapP h5 fun _ _ q => ⟨q.1, sameT e q.2.1, let ⟨v, r, d⟩ := q.2.2; ⟨v, r, d.mono e⟩⟩⟩
  | ins c fs =>
    obtain ⟨dx, vs, h1, h2⟩ := h
    exact ⟨dx, vs, k.trans h1, Paired.mapP h2 fun _ _ q => ⟨q.1, q.2.mono e p⟩⟩
  | gone =>
    rcases h with ⟨vs, h1⟩ | ⟨od, φ, h1⟩
    · exact .inl ⟨vs, k.trans h1⟩
    · exact .inr ⟨od, φ, k.trans h1⟩
theorem same_upd {H : Hp} {p : Addr} {o : HO} (h : H p = none) : Same H (upd H p o) := fun b x e => by
  rw [upd_ne (ne_of_none e h)]
  exact e
/-- a new thing that will not change -/
theorem Rel.frozen (h : Rel K ca G ρ st H) {p : Addr} {o : HO} (hp : H p = none) : Same G (upd G p o) ∧ Rel K ca (upd G p o) ρ st (upd H p o) := by
  obtain ⟨n1, n2⟩ := h.fresh hp
  refine ⟨same_upd n2, fun b u e => ?_, h.len, h.nd, fun n a o ha hs ho => ?_, fun n a o ha hs => ?_⟩
  · by_cases hb : b = p
    · subst hb
      rw [upd_same] at e ⊢
      exact e
    · rw [upd_ne hb] at e ⊢
      exact h.sub b u e
  · rw [upd_ne (fun z : a = p => n1 (z ▸ List.mem_of_getElem? ha))]
    exact h.out n a o ha hs ho
  · exact (h.obj n a o ha hs).mono (same_upd n2) (List.prefix_refl _) (upd_ne fun z => n1 (z ▸ List.mem_of_getElem? ha))
/-- a new thing of the store -/
theorem Rel.alloc (h : Rel K ca G ρ st H) {p : Addr} {u : HO} {o : Ob} (hp : H p = none) (ho : ObR K ca G (ρ ++ [p]) (upd H p u) p o) : Rel K ca G (ρ ++ [p]) (st ++ [o]) (upd H p u) := by
  obtain ⟨n1, n2⟩ := h.fresh hp
  refine ⟨fun b x e => ?_, by rw [List.length_append, List.length_append, h.len]; rfl, ?_, fun n a q ha hs hq => ?_, fun n a q ha hs => ?_⟩
  · rw [upd_ne (ne_of_none (h.sub b x e) hp)]
    exact h.sub b x e
  · rw [List.nodup_append]
    exact ⟨h.nd, by simp, fun a ha b hb z => n1 (by rw [List.mem_singleton] at hb; rw [← hb, ← z]; exact ha)⟩
  · rcases List.mem_append.mp (List.mem_of_getElem? ha) with z | z
    · by_cases hn : n < ρ.length
      · rw [List.getElem?_append_left hn] at ha
        rw [List.getElem?_append_left (by rw [← h.len]; exact hn)] at hs
        exact h.out n a q ha hs hq
      · have e : n = ρ.length := by
          have l := (List.getElem?_eq_some_iff.mp ha).1
          rw [List.length_append] at l
          simp at l
          omega
        subst e
        rw [List.getElem?_append_right (Nat.le_refl _), Nat.sub_self] at ha
        cases ha
        exact absurd z n1
    · rw [List.mem_singleton] at z
      rw [z]
      exact n2
  · by_cases hn : n < ρ.length
    · rw [List.getElem?_append_left hn] at ha
      rw [List.getElem?_append_left (by rw [← h.len]; exact hn)] at hs
      exact (h.obj n a q ha hs).mono (Same.refl G) (List.prefix_append _ _) (upd_ne fun z => n1 (z ▸ List.mem_of_getElem? ha))
    · have e : n = ρ.length := by
        have l := (List.getElem?_eq_some_iff.mp ha).1
        rw [List.length_append] at l
        simp at l
        omega
      subst e
      rw [List.getElem?_append_right (Nat.le_refl _), Nat.sub_self] at ha
      rw [List.getElem?_append_right (by rw [h.len]; exact Nat.le_refl _), h.len, Nat.sub_self] at hs
      cases ha
      cases hs
      exact ho
theorem nodup_ix {α : Type} {l : List α} (hN : l.Nodup) {i j : Nat} {x : α} (a : l[i]? = some x) (b : l[j]? = some x) : i = j := nd_ix hN a b
/-- a thing of the store is changed -/
theorem Rel.write (h : Rel K ca G ρ st H) {n : Nat} {a : Addr} {u : HO} {o o' : Ob} (ha : ρ[n]? = some a) (hs' : st[n]? = some o') (ho' : o' ≠ .gone) (ho : ObR K ca G ρ (upd H a u) a o) : Rel K ca G ρ (st.set n o) (upd H a u) := by
  have ga : G a = none := h.out n a o' ha hs' ho'
  refine ⟨fun b x e => ?_, by rw [List.length_set]; exact h.len, h.nd, fun m b q hb hs hq => ?_, fun m b q hb hs => ?_⟩
  · rw [upd_ne (ne_of_none e ga)]
    exact h.sub b x e
  · by_cases e : n = m
    · subst e
      rw [ha] at hb
      cases hb
      exact ga
    · rw [List.getElem?_set_ne e] at hs
      exact h.out m b q hb hs hq
  · by_cases e : n = m
    · subst e
      rw [ha] at hb
      cases hb
      have hl : n < st.length := by
        have l := (List.getElem?_eq_some_iff.mp hs).1
        rw [List.length_set] at l
        exact l
      rw [List.getElem?_set_self hl] at hs
      cases hs
      exact ho
    · rw [List.getElem?_set_ne e] at hs
      refine (h.obj m b q hb hs).mono (Same.refl G) (List.prefix_refl _) (upd_ne fun z => e ?_)
      subst z
      exact nodup_ix h.nd ha hb
theorem Rel.at (h : Rel K ca G ρ st H) {n : Nat} {o : Ob} (hs : st[n]? = some o) : ∃ a, ρ[n]? = some a ∧ ObR K ca G ρ H a o := by
  have hl : n < ρ.length := by
    rw [h.len]
    exact (List.getElem?_eq_some_iff.mp hs).1
  exact ⟨ρ[n], List.getElem?_eq_getElem hl, h.obj n _ o (List.getElem?_eq_getElem hl) hs⟩
end
end DL

namespace DL
open PySem PySem.Spec PyProof.Rows L2

section
variable (K : PySem.W.Frag) (ca : Nat → Addr) (W : WX)
/-- what an outcome asks of the state -/
def Kn (G : Hp) (ρ : List Addr) (σ : L2.St) (r : R Sv) (Q : VK) : Prop := match r with
  | .ok x st' => ∀ G' ρ' v H', Same G G' → ρ <+: ρ' → Rel K ca G' ρ' st' H' → SR K G' ρ' x v → Q v H'
  | .ex c st' => ∀ G' ρ' H', Same G G' → ρ <+: ρ' → Rel K ca G' ρ' st' H' → W (.ref (ca c)) none σ H'
  | .bad => False
def KnA (G : Hp) (ρ : List Addr) (σ : L2.St) (r : R (List Sv)) (Q : List V → Hp → Prop) : Prop := match r with
  | .ok xs st' => ∀ G' ρ' vs H', Same G G' → ρ <+: ρ' → Rel K ca G' ρ' st' H' → Paired (SR K G' ρ') xs vs → Q vs H'
  | .ex c st' => ∀ G' ρ' H', Same G G' → ρ <+: ρ' → Rel K ca G' ρ' st' H' → W (.ref (ca c)) none σ H'
  | .bad => False
def KnS (D : Ends) (G : Hp) (ρ : List Addr) (σ : L2.St) (r : RS) : Prop := match r with
  | .nx env' st' => ∀ G' ρ' σ' H', Same G G' → ρ <+: ρ' → Rel K ca G' ρ' st' H' → RelE K G' ρ' env' σ' → σ'.length = σ.length → D.nx σ' H'
  | .rt x st' => ∀ G' ρ' v H', Same G G' → ρ <+: ρ' → Rel K ca G' ρ' st' H' → SR K G' ρ' x v → D.rt v H'
  | .ex c st' => ∀ G' ρ' σ' H', Same G G' → ρ <+: ρ' → Rel K ca G' ρ' st' H' → σ'.length = σ.length → W (.ref (ca c)) none σ' H'
  | .bad => False
/-- the readings -/
def tr (f : EX) : TE := fun σ H Q => ∃ G ρ env st, Rel K ca G ρ st H ∧ RelE K G ρ env σ ∧ Kn K ca W G ρ σ (f env st) Q
def trA (f : AX) : TA := fun σ H Q => ∃ G ρ env st, Rel K ca G ρ st H ∧ RelE K G ρ env σ ∧ KnA K ca W G ρ σ (f env st) Q
def trS (f : SX) : TS := fun D σ H => ∃ G ρ env st, Rel K ca G ρ st H ∧ RelE K G ρ env σ ∧ KnS K ca W D G ρ σ (f env st)
end
end DL
namespace L2
open PySem PySem.Spec PyProof.Rows
section
variable {X : Cx}
theorem PE.imp {e : Expr} {t t' : TE} (h : PE X e t) (i : ∀ σ H Q, t' σ H Q → t σ H Q) : PE X e t' := ⟨fun pins s σ H Q I q => h.run pins s σ H Q I (i σ H Q q)⟩
theorem PT.imp {e : Expr} {t t' : TT} (h : PT X e t) (i : ∀ σ H Q, t' σ H Q → t σ H Q) : PT X e t' := ⟨fun pins s σ H Q I q => h.run pins s σ H Q I (i σ H Q q)⟩
theorem PW.imp {e : Expr} {t t' : TT} (h : PW X e t) (i : ∀ σ H Q, t' σ H Q → t σ H Q) : PW X e t' := ⟨fun wh pins s σ H Q I q => h.run wh pins s σ H Q I (i σ H Q q)⟩
theorem PA.imp {es : List Expr} {t t' : TA} (h : PA X es t) (i : ∀ σ H Q, t' σ H Q → t σ H Q) : PA X es t' := ⟨fun pos pins s σ H Q I q => h.run pos pins s σ H Q I (i σ H Q q)⟩
theorem PS.imp {e : Stmt} {t t' : TS} (h : PS X e t) (i : ∀ D σ H, t' D σ H → t D σ H) : PS X e t' := ⟨fun pins s σ H D I q => h.run pins s σ H D I (i D σ H q)⟩
theorem PSs.imp {e : List Stmt} {t t' : TS} (h : PSs X e t) (i : ∀ D σ H, t' D σ H → t D σ H) : PSs X e t' := ⟨fun pins s σ H D I q => h.run pins s σ H D I (i D σ H q)⟩
theorem PI.imp {tg iter : Expr} {t t' : TI} (h : PI X tg iter t) (i : ∀ σ H R, t' σ H R → t σ H R) : PI X tg iter t' := ⟨fun pins s σ H R I q => h.run pins s σ H R I (i σ H R q)⟩
end
end L2
namespace DL
open PySem PySem.Spec PyProof.Rows L2
section
variable {K : PySem.W.Frag} {ca : Nat → Addr} {W : WX} {G G' G1 H H' H1 : Hp} {ρ ρ' ρ1 : List Addr} {st st' : Stt} {x y : Sv} {v w : V} {env : En} {σ σ1 : L2.St} {Q Q' : VK} {D : Ends}
theorem Kn.base {r : R Sv} (h : Kn K ca W G ρ σ r Q) (s : Same G G1) (p : ρ <+: ρ1) : Kn K ca W G1 ρ1 σ r Q := by
  cases r with
  | ok x st => exact fun G' ρ' v H' s' p' => h G' ρ' v H' (s.trans s') (p.trans p')
  | ex c st => exact fun G' ρ' H' s' p' => h G' ρ' H' (s.trans s') (p.trans p')
  | bad => exact h
theorem KnA.base {r : R (List Sv)} {Q : List V → Hp → Prop} (h : KnA K ca W G ρ σ r Q) (s : Same G G1) (p : ρ <+: ρ1) : KnA K ca W G1 ρ1 σ r Q := by
  cases r with
  | ok x st => exact fun G' ρ' v H' s' p' => h G' ρ' v H' (s.trans s') (p.trans p')
  | ex c st => exact fun G' ρ' H' s' p' => h G' ρ' H' (s.trans s') (p.trans p')
  | bad => exact h
theorem KnS.base {r : RS} (h : KnS K ca W D G ρ σ r) (s : Same G G1) (p : ρ <+: ρ1) (l : σ1.length = σ.length) : KnS K ca W D G1 ρ1 σ1 r := by
  cases r with
  | nx x st => exact fun G' ρ' v H' s' p' a b c => h G' ρ' v H' (s.trans s') (p.trans p') a b (c.trans l)
  | rt x st => exact fun G' ρ' v H' s' p' => h G' ρ' v H' (s.trans s') (p.trans p')
  | ex c st => exact fun G' ρ' σ' H' s' p' a b => h G' ρ' σ' H' (s.trans s') (p.trans p') a (b.trans l)
  | bad => exact h
theorem Kn.mono {r : R Sv} (h : Kn K ca W G ρ σ r Q) (i : ∀ v H, Q v H → Q' v H) : Kn K ca W G ρ σ r Q' := by
  cases r with
  | ok x st => exact fun G' ρ' v H' s' p' a b => i _ _ (h G' ρ' v H' s' p' a b)
  | ex c st => exact h
  | bad => exact h
theorem tr.mono {f : EX} (h : tr K ca W f σ H Q) (i : ∀ v H, Q v H → Q' v H) : tr K ca W f σ H Q' := by
  obtain ⟨G, ρ, env, st, a, b, c⟩ := h
  exact ⟨G, ρ, env, st, a, b, c.mono i⟩
/-- THE STEP: f is read, then k of its value, in the state behind it -/
theorem tr_seq {f : EX} {k : Sv → Stt → R Sv} (hR : Rel K ca G ρ st H) (hE : RelE K G ρ env σ) (h : Kn K ca W G ρ σ (bindR (f env st) k) Q)
    {P : VK} (hP : ∀ G1 ρ1 v H1 x st1, Same G G1 → ρ <+: ρ1 → Rel K ca G1 ρ1 st1 H1 → RelE K G1 ρ1 env σ → SR K G1 ρ1 x v → Kn K ca W G1 ρ1 σ (k x st1) Q → P v H1) : tr K ca W f σ H P := by
  refine ⟨G, ρ, env, st, hR, hE, ?_⟩
  cases e : f env st with
  | ok x st1 =>
    rw [e] at h
    exact fun G1 ρ1 v H1 s p r sr => hP G1 ρ1 v H1 x st1 s p r (hE.mono s p) sr (Kn.base h s p)
  | ex c st1 =>
    rw [e] at h
    exact h
  | bad =>
    rw [e] at h
    exact h
theorem tr_seqA {f : EX} {k : Sv → Stt → R (List Sv)} {Q : List V → Hp → Prop} (hR : Rel K ca G ρ st H) (hE : RelE K G ρ env σ) (h : KnA K ca W G ρ σ (bindR (f env st) k) Q)
    {P : VK} (hP : ∀ G1 ρ1 v H1 x st1, Same G G1 → ρ <+: ρ1 → Rel K ca G1 ρ1 st1 H1 → RelE K G1 ρ1 env σ → SR K G1 ρ1 x v → KnA K ca W G1 ρ1 σ (k x st1) Q → P v H1) : tr K ca W f σ H P := by
  refine ⟨G, ρ, env, st, hR, hE, ?_⟩
  cases e : f env st with
  | ok x st1 =>
    rw [e] at h
    exact fun G1 ρ1 v H1 s p r sr => hP G1 ρ1 v H1 x st1 s p r (hE.mono s p) sr (KnA.base h s p)
  | ex c st1 =>
    rw [e] at h
    exact h
  | bad =>
    rw [e] at h
    exact h
theorem trA_seq {f : AX} {k : List Sv → Stt → R Sv} (hR : Rel K ca G ρ st H) (hE : RelE K G ρ env σ) (h : Kn K ca W G ρ σ (bindR (f env st) k) Q)
    {P : List V → Hp → Prop} (hP : ∀ G1 ρ1 vs H1 xs st1, Same G G1 → ρ <+: ρ1 → Rel K ca G1 ρ1 st1 H1 → RelE K G1 ρ1 env σ → Paired (SR K G1 ρ1) xs vs → Kn K ca W G1 ρ1 σ (k xs st1) Q → P vs H1) : trA K ca W f σ H P := by
  refine ⟨G, ρ, env, st, hR, hE, ?_⟩
  cases e : f env st with
  | ok x st1 =>
    rw [e] at h
    exact fun G1 ρ1 v H1 s p r sr => hP G1 ρ1 v H1 x st1 s p r (hE.mono s p) sr (Kn.base h s p)
  | ex c st1 =>
    rw [e] at h
    exact h
  | bad =>
    rw [e] at h
    exact h
/-- .. of a statement's expression -/
def bindS (r : R Sv) (k : Sv → Stt → RS) : RS := match r with
  | .ok a s => k a s
  | .ex c s => .ex c s
  | .bad => .bad
def bindSA (r : R (List Sv)) (k : List Sv → Stt → RS) : RS := match r with
  | .ok a s => k a s
  | .ex c s => .ex c s
  | .bad => .bad
theorem trS_seq {f : EX} {k : Sv → Stt → RS} (hR : Rel K ca G ρ st H) (hE : RelE K G ρ env σ) (h : KnS K ca W D G ρ σ (bindS (f env st) k))
    {P : VK} (hP : ∀ G1 ρ1 v H1 x st1, Same G G1 → ρ <+: ρ1 → Rel K ca G1 ρ1 st1 H1 → RelE K G1 ρ1 env σ → SR K G1 ρ1 x v → KnS K ca W D G1 ρ1 σ (k x st1) → P v H1) : tr K ca W f σ H P := by
  refine ⟨G, ρ, env, st, hR, hE, ?_⟩
  cases e : f env st with
  | ok x st1 =>
    rw [e] at h
    exact fun G1 ρ1 v H1 s p r sr => hP G1 ρ1 v H1 x st1 s p r (hE.mono s p) sr (KnS.base h s p rfl)
  | ex c st1 =>
    rw [e] at h
    exact fun G' ρ' H' s p r => h G' ρ' σ H' s p r rfl
  | bad =>
    rw [e] at h
    exact h
theorem trSA_seq {f : AX} {k : List Sv → Stt → RS} (hR : Rel K ca G ρ st H) (hE : RelE K G ρ env σ) (h : KnS K ca W D G ρ σ (bindSA (f env st) k))
    {P : List V → Hp → Prop} (hP : ∀ G1 ρ1 vs H1 xs st1, Same G G1 → ρ <+: ρ1 → Rel K ca G1 ρ1 st1 H1 → RelE K G1 ρ1 env σ → Paired (SR K G1 ρ1) xs vs → KnS K ca W D G1 ρ1 σ (k xs st1) → P vs H1) : trA K ca W f σ H P := by
  refine ⟨G, ρ, env, st, hR, hE, ?_⟩
  cases e : f env st with
  | ok x st1 =>
    rw [e] at h
    exact fun G1 ρ1 v H1 s p r sr => hP G1 ρ1 v H1 x st1 s p r (hE.mono s p) sr (KnS.base h s p rfl)
  | ex c st1 =>
    rw [e] at h
    exact fun G' ρ' H' s p r => h G' ρ' σ H' s p r rfl
  | bad =>
    rw [e] at h
    exact h
end

section
variable (K : PySem.W.Frag) (ca : Nat → Addr)
def OpS (r : R2) (g : Sv → Sv → Stt → Option D) : Prop := ∀ G ρ st H x y v w d Q, Rel K ca G ρ st H → SR K G ρ x v → SR K G ρ y w → g x y st = some d →
  (∀ G' v' H', Same G G' → Rel K ca G' ρ st H' → DR K G' v' d → Q v' H') → r v w H Q
def UnS (r : V → Hp → VK → Prop) (g : Sv → Stt → Option D) : Prop := ∀ G ρ st H x v d Q, Rel K ca G ρ st H → SR K G ρ x v → g x st = some d →
  (∀ G' v' H', Same G G' → Rel K ca G' ρ st H' → DR K G' v' d → Q v' H') → r v H Q
def CaS (r : List V → Hp → VK → Prop) (g : List Sv → Stt → Option D) : Prop := ∀ G ρ st H xs vs d Q, Rel K ca G ρ st H → Paired (SR K G ρ) xs vs → g xs st = some d →
  (∀ G' v' H', Same G G' → Rel K ca G' ρ st H' → DR K G' v' d → Q v' H') → r vs H Q
end
def optR (o : Option D) (s : Stt) : R Sv := match o with
  | some d => .ok (.d d) s
  | none => .bad

def sVar (i : Nat) : EX := fun env st => match env[i]? with
  | some (some x) => .ok x st
  | _ => .bad
def sC (d : D) : EX := fun _ st => .ok (.d d) st
def sBin (g : Sv → Sv → Stt → Option D) (a b : EX) : EX := fun env st => bindR (a env st) fun x s => bindR (b env s) fun y s => optR (g x y s) s
def sUn (g : Sv → Stt → Option D) (a : EX) : EX := fun env st => bindR (a env st) fun x s => optR (g x s) s
def aNil : AX := fun _ st => .ok [] st
def aCons (f : EX) (fs : AX) : AX := fun env st => bindR (f env st) fun x s => bindR (fs env s) fun xs s => .ok (x :: xs) s
def sCB (g : List Sv → Stt → Option D) (a : AX) : EX := fun env st => bindR (a env st) fun xs s => optR (g xs s) s
def sCall (F : List Sv → Stt → R Sv) (a : AX) : EX := fun env st => bindR (a env st) fun xs s => F xs s
def asData : List Sv → Option (List D)
  | [] => some []
  | .d x :: xs => match asData xs with
    | some ds => some (x :: ds)
    | none => none
  | _ :: _ => none
def sTup (a : AX) : EX := sCB (fun xs _ => match asData xs with | some ds => if ds.length ≤ 100000 then some (.tuple ds) else none | none => none) a
def sLst (a : AX) : EX := sCB (fun xs _ => match asData xs with | some ds => if ds.length ≤ 100000 then some (.list ds) else none | none => none) a
/-- a list that will be changed -/
def sLstM (a : AX) : EX := fun env st => bindR (a env st) fun xs s => match asData xs with | some ds => if ds.length ≤ 100000 then .ok (.r s.length) (s ++ [.lst ds]) else .bad | none => .bad
def sChain (g g' : Sv → Sv → Stt → Option D) (a b c : EX) : EX := fun env st => bindR (a env st) fun x s => bindR (b env s) fun y s => match g x y s with
  | some (.bool true) => bindR (c env s) fun z s => optR (g' y z s) s
  | some (.bool false) => .ok (.d (.bool false)) s
  | _ => .bad
def ifB {α : Type} (x : Sv) (t e : R α) : R α := match x with
  | .d (.bool true) => t
  | .d (.bool false) => e
  | _ => .bad
def notB (x : Sv) (s : Stt) : R Sv := match x with
  | .d (.bool b) => .ok (.d (.bool (!b))) s
  | _ => .bad
def sAnd (a b : EX) : EX := fun env st => bindR (a env st) fun x s => ifB x (b env s) (.ok (.d (.bool false)) s)
def sOr (a b : EX) : EX := fun env st => bindR (a env st) fun x s => ifB x (.ok (.d (.bool true)) s) (b env s)
def sNot (a : EX) : EX := fun env st => bindR (a env st) fun x s => notB x s
def sIte (c a b : EX) : EX := fun env st => bindR (c env st) fun x s => ifB x (a env s) (b env s)

theorem asData_of {K : PySem.W.Frag} {G : Hp} {ρ : List Addr} : ∀ {xs : List Sv} {vs : List V} {ds : List D}, Paired (SR K G ρ) xs vs → asData xs = some ds → DRA K G vs ds
  | _, _, _, .nil, e => by cases e; exact .nil
  | .d x :: xs, _, ds, .cons r t, e => by
    unfold asData at e
    cases q : asData xs with
    | none => rw [q] at e; cases e
    | some es =>
      rw [q] at e
      cases e
      exact .cons r (asData_of t q)
  | .r n :: xs, _, ds, .cons r t, e => by cases e
  | .s n :: xs, _, ds, .cons r t, e => by cases e
theorem sz100 {n : Nat} (h : n ≤ 100000) : n ≤ sizeLine := Nat.le_trans h (by decide)
section
variable {X : Cx} {ca : Nat → Addr} {W : WX} {e a b c : Expr} {es : List Expr} {f g h : EX} {fs : AX} {pos : Pos}
theorem m_var (i : Nat) {x : Str} (hN : X.N[i]? = some x := by rfl) (hv : Vis X.env.scope x := by first | exact Or.inl rfl | exact Or.inr (Or.inl rfl) | exact Or.inr (Or.inr rfl)) (hd : (x == ("__debug__" : Str)) = false := by decide)
    (hcd : (x == ("__classdict__" : Str)) = false := by decide) : PE X (.Name x pos) (tr X.K ca W (sVar i)) := (pe_var hN hv hd hcd).imp fun σ H Q q => by
  obtain ⟨G, ρ, env, st, hR, hE, k⟩ := q
  unfold sVar at k
  cases e : env[i]? with
  | none => rw [e] at k; exact k.elim
  | some o =>
    cases o with
    | none => rw [e] at k; exact k.elim
    | some x =>
      rw [e] at k
      obtain ⟨v, h1, h2⟩ := hE.2 i x e
      exact ⟨v, h1, k G ρ v H (Same.refl G) (List.prefix_refl _) hR h2⟩
theorem m_c {v : V} {d : D} (hd : ∀ G, DR X.K G v d) (h : PE X e (tC v)) : PE X e (tr X.K ca W (sC d)) := h.imp fun σ H Q q => by
  obtain ⟨G, ρ, env, st, hR, hE, k⟩ := q
  exact k G ρ v H (Same.refl G) (List.prefix_refl _) hR (hd G)
theorem m_int {i j pos} : PE X (.Constant (.int i) j pos) (tr X.K ca W (sC (.int i))) := m_c (fun _ => .int i) pe_int
theorem m_bl {i j pos} : PE X (.Constant (.bool i) j pos) (tr X.K ca W (sC (.bool i))) := m_c (fun _ => .bl i) pe_bl
theorem m_non {j pos} : PE X (.Constant .none j pos) (tr X.K ca W (sC .none)) := m_c (fun _ => .non) pe_non
theorem m_str {i j pos} : PE X (.Constant (.str i) j pos) (tr X.K ca W (sC (.str i))) := m_c (fun _ => .str i) pe_str
theorem tr_bin {r : R2} {g : Sv → Sv → Stt → Option D} (hg : OpS X.K ca r g) {σ : L2.St} {H : Hp} {Q : VK} (q : tr X.K ca W (sBin g f h) σ H Q) : tOp r (tr X.K ca W f) (tr X.K ca W h) σ H Q := by
  obtain ⟨G, ρ, env, st, hR, hE, k⟩ := q
  refine tr_seq hR hE k fun G1 ρ1 v H1 x st1 s1 p1 R1 E1 sx k1 => ?_
  refine tr_seq R1 E1 k1 fun G2 ρ2 w H2 y st2 s2 p2 R2 E2 sy k2 => ?_
  cases e : g x y st2 with
  | none => rw [e] at k2; exact k2.elim
  | some d =>
    rw [e] at k2
    exact hg G2 ρ2 st2 H2 x y v w d Q R2 (sx.mono s2 p2) sy e fun G' v' H' s' R' d' => k2 G' ρ2 v' H' s' (List.prefix_refl _) R' d'
theorem m_op {op : Operator} {r : R2} {gg : Sv → Sv → Stt → Option D} (ho : OpR X (binaryOp op) r) (hg : OpS X.K ca r gg) (ha : PE X a (tr X.K ca W f)) (hb : PE X b (tr X.K ca W h)) : PE X (.BinOp a op b pos) (tr X.K ca W (sBin gg f h)) :=
  (pe_op ho ha hb).imp fun _ _ _ q => tr_bin hg q
theorem m_cmp {op : CmpOp} {r : R2} {gg : Sv → Sv → Stt → Option D} (ho : OpR X (compareOp op) r) (hg : OpS X.K ca r gg) (ha : PE X a (tr X.K ca W f)) (hb : PE X b (tr X.K ca W h)) (hm : behindInMarks op b = false) : PE X (.Compare a [op] [b] pos) (tr X.K ca W (sBin gg f h)) :=
  (pe_cmpR ho ha hb hm).imp fun _ _ _ q => tr_bin hg q
theorem mt_cmp {op : CmpOp} {r : R2} {gg : Sv → Sv → Stt → Option D} (ho : OpR X (compareOp op) r) (hg : OpS X.K ca r gg) (ha : PE X a (tr X.K ca W f)) (hb : PE X b (tr X.K ca W h)) (hm : behindInMarks op b = false) : PT X (.Compare a [op] [b] pos) (tB (tr X.K ca W (sBin gg f h))) :=
  (pt_cmpR ho ha hb hm).imp fun _ _ _ q => tr_bin hg q
theorem m_ix {r : R2} {gg : Sv → Sv → Stt → Option D} (ho : IxR X r) (hg : OpS X.K ca r gg) (ha : PE X a (tr X.K ca W f)) (hb : PE X b (tr X.K ca W h)) (hs : PlainIx b) : PE X (.Subscript a b pos) (tr X.K ca W (sBin gg f h)) :=
  (pe_ix ho ha hb hs).imp fun _ _ _ q => tr_bin hg q
theorem tr_chain {r r' : R2} {gg gg' : Sv → Sv → Stt → Option D} (hg : OpS X.K ca r gg) (hg' : OpS X.K ca r' gg') {σ : L2.St} {H : Hp} {Q : VK} (q : tr X.K ca W (sChain gg gg' f g h) σ H Q) : tChain r r' (tr X.K ca W f) (tr X.K ca W g) (tr X.K ca W h) σ H Q := by
  obtain ⟨G, ρ, env, st, hR, hE, k⟩ := q
  refine tr_seq hR hE k fun G1 ρ1 v H1 x st1 s1 p1 R1 E1 sx k1 => ?_
  refine tr_seq R1 E1 k1 fun G2 ρ2 w H2 y st2 s2 p2 R2 E2 sy k2 => ?_
  cases e : gg x y st2 with
  | none => rw [e] at k2; exact k2.elim
  | some d =>
    rw [e] at k2
    refine hg G2 ρ2 st2 H2 x y v w d _ R2 (sx.mono s2 p2) sy e fun G' v' H' s' R' d' => ?_
    cases d' with
    | bl c =>
      refine ⟨c, rfl, ?_⟩
      cases c with
      | true =>
        rw [if_pos rfl]
        refine tr_seq R' (E2.mono s' (List.prefix_refl _)) (k2.base s' (List.prefix_refl _)) fun G3 ρ3 u H3 z st3 s3 p3 R3 E3 sz k3 => ?_
        cases e3 : gg' y z st3 with
        | none => rw [e3] at k3; exact k3.elim
        | some d3 =>
          rw [e3] at k3
          exact hg' G3 ρ3 st3 H3 y z w u d3 Q R3 (sy.mono (s'.trans s3) p3) sz e3 fun G' v' H' s' R' d' => k3 G' ρ3 v' H' s' (List.prefix_refl _) R' d'
      | false =>
        rw [if_neg Bool.false_ne_true]
        exact k2 G' ρ2 _ H' s' (List.prefix_refl _) R' (DR.bl false)
    | non => exact k2.elim
    | int i => exact k2.elim
    | str i => exact k2.elim
    | lst _ _ => exact k2.elim
    | tup _ _ => exact k2.elim
theorem m_chain {op op' : CmpOp} {r r' : R2} {gg gg' : Sv → Sv → Stt → Option D} (ho : OpR X (compareOp op) r) (ho' : OpR X (compareOp op') r') (hg : OpS X.K ca r gg) (hg' : OpS X.K ca r' gg')
    (ha : PE X a (tr X.K ca W f)) (hb : PE X b (tr X.K ca W g)) (hc : PE X c (tr X.K ca W h)) (hm : lastMarks [op, op'] [b, c] = false := by with_unfolding_all rfl) : PE X (.Compare a [op, op'] [b, c] pos) (tr X.K ca W (sChain gg gg' f g h)) :=
  (pe_chain ho ho' ha hb hc hm).imp fun _ _ _ q => tr_chain hg hg' q
theorem mt_chain {op op' : CmpOp} {r r' : R2} {gg gg' : Sv → Sv → Stt → Option D} (ho : OpR X (compareOp op) r) (ho' : OpR X (compareOp op') r') (hg : OpS X.K ca r gg) (hg' : OpS X.K ca r' gg')
    (ha : PE X a (tr X.K ca W f)) (hb : PE X b (tr X.K ca W g)) (hc : PE X c (tr X.K ca W h)) (hm : lastMarks [op, op'] [b, c] = false := by with_unfolding_all rfl) : PT X (.Compare a [op, op'] [b, c] pos) (tB (tr X.K ca W (sChain gg gg' f g h))) :=
  (pt_chain ho ho' ha hb hc hm).imp fun _ _ _ q => tr_chain hg hg' q
theorem m_un {op : UnaryOp} {r : V → Hp → VK → Prop} {gg : Sv → Stt → Option D} (ho : UnR X (unaryOp op) r) (hg : UnS X.K ca r gg) (ha : PE X a (tr X.K ca W f)) : PE X (.UnaryOp op a pos) (tr X.K ca W (sUn gg f)) := (pe_un ho ha).imp fun σ H Q q => by
  obtain ⟨G, ρ, env, st, hR, hE, k⟩ := q
  refine tr_seq hR hE k fun G1 ρ1 v H1 x st1 s1 p1 R1 E1 sx k1 => ?_
  cases e : gg x st1 with
  | none => rw [e] at k1; exact k1.elim
  | some d =>
    rw [e] at k1
    exact hg G1 ρ1 st1 H1 x v d Q R1 sx e fun G' v' H' s' R' d' => k1 G' ρ1 v' H' s' (List.prefix_refl _) R' d'
/-- a test whose value is a bool -/
theorem mt_val (ha : PE X a (tr X.K ca W f)) (he : ∀ whole, isTrue a X.env whole = (do let v ← whole; standAt a.pos; holding [v] (truthy v)) := by intro _; rfl) : PT X a (tB (tr X.K ca W f)) := pt_val ha he
theorem tr_bool {σ : L2.St} {H : Hp} {G : Hp} {ρ : List Addr} {env : En} {st : Stt} {k : Sv → Stt → R Sv} {Q : VK} (hR : Rel X.K ca G ρ st H) (hE : RelE X.K G ρ env σ) (h : Kn X.K ca W G ρ σ (bindR (f env st) k) Q)
    (hk : ∀ x s, (∀ b, x ≠ Sv.d (.bool b)) → k x s = .bad) {P : Bool → Hp → Prop}
    (hP : ∀ b G1 ρ1 H1 st1, Same G G1 → ρ <+: ρ1 → Rel X.K ca G1 ρ1 st1 H1 → RelE X.K G1 ρ1 env σ → Kn X.K ca W G1 ρ1 σ (k (.d (.bool b)) st1) Q → P b H1) : tr X.K ca W f σ H (fun v H1 => ∃ b, v = .bl b ∧ P b H1) := by
  refine tr_seq hR hE h fun G1 ρ1 v H1 x st1 s1 p1 R1 E1 sx k1 => ?_
  by_cases hx : ∃ b, x = Sv.d (.bool b)
  · obtain ⟨b, rfl⟩ := hx
    cases sx
    exact ⟨b, rfl, hP b G1 ρ1 H1 st1 s1 p1 R1 E1 k1⟩
  · rw [hk x st1 fun b e => hx ⟨b, e⟩] at k1
    exact k1.elim
theorem ifB_bad {α : Type} {x : Sv} {t e : R α} (h : ∀ b, x ≠ Sv.d (.bool b)) : ifB x t e = .bad := by
  unfold ifB
  split
  · exact absurd rfl (h _)
  · exact absurd rfl (h _)
  · rfl
theorem not_bad {x : Sv} {s : Stt} (h : ∀ b, x ≠ Sv.d (.bool b)) : notB x s = .bad := by
  unfold notB
  split
  · exact absurd rfl (h _)
  · rfl
variable {rest : List Expr}
theorem m_and (ha : PE X a (tr X.K ca W f)) (hb : PE X (.BoolOp .And (b :: rest) pos) (tr X.K ca W h)) : PE X (.BoolOp .And (a :: b :: rest) pos) (tr X.K ca W (sAnd f h)) := (pe_and ha hb).imp fun σ H Q q => by
  obtain ⟨G, ρ, env, st, hR, hE, k⟩ := q
  refine tr_bool hR hE k (fun x s hx => ifB_bad hx) fun b G1 ρ1 H1 st1 s1 p1 R1 E1 k1 => ?_
  cases b with
  | true => exact ⟨G1, ρ1, env, st1, R1, E1, k1⟩
  | false => exact k1 G1 ρ1 _ H1 (Same.refl _) (List.prefix_refl _) R1 (DR.bl false)
theorem m_or (ha : PE X a (tr X.K ca W f)) (hb : PE X (.BoolOp .Or (b :: rest) pos) (tr X.K ca W h)) : PE X (.BoolOp .Or (a :: b :: rest) pos) (tr X.K ca W (sOr f h)) := (pe_or ha hb).imp fun σ H Q q => by
  obtain ⟨G, ρ, env, st, hR, hE, k⟩ := q
  refine tr_bool hR hE k (fun x s hx => ifB_bad hx) fun b G1 ρ1 H1 st1 s1 p1 R1 E1 k1 => ?_
  cases b with
  | true => exact k1 G1 ρ1 _ H1 (Same.refl _) (List.prefix_refl _) R1 (DR.bl true)
  | false => exact ⟨G1, ρ1, env, st1, R1, E1, k1⟩
theorem m_one {op} (ha : PE X a (tr X.K ca W f)) : PE X (.BoolOp op [a] pos) (tr X.K ca W f) := pe_one ha
theorem m_not (ha : PE X a (tr X.K ca W f)) : PE X (.UnaryOp .Not a pos) (tr X.K ca W (sNot f)) := (pe_not ha).imp fun σ H Q q => by
  obtain ⟨G, ρ, env, st, hR, hE, k⟩ := q
  refine tr_bool hR hE k (fun x s hx => not_bad hx) fun b G1 ρ1 H1 st1 s1 p1 R1 E1 k1 => ?_
  exact k1 G1 ρ1 _ H1 (Same.refl _) (List.prefix_refl _) R1 (DR.bl _)
theorem mw_and1 (ha : PT X a (tB (tr X.K ca W f))) : PW X (.BoolOp .And [a] pos) (tB (tr X.K ca W f)) := pw_and1 ha
theorem mw_or1 (ha : PT X a (tB (tr X.K ca W f))) : PW X (.BoolOp .Or [a] pos) (tB (tr X.K ca W f)) := pw_or1 ha
theorem mw_and (ha : PT X a (tB (tr X.K ca W f))) (hb : PW X (.BoolOp .And (b :: rest) pos) (tB (tr X.K ca W h))) : PW X (.BoolOp .And (a :: b :: rest) pos) (tB (tr X.K ca W (sAnd f h))) := (pw_and ha hb).imp fun σ H Q q => by
  obtain ⟨G, ρ, env, st, hR, hE, k⟩ := q
  refine tr_bool hR hE k (fun x s hx => ifB_bad hx) fun b G1 ρ1 H1 st1 s1 p1 R1 E1 k1 => ?_
  cases b with
  | true => exact ⟨G1, ρ1, env, st1, R1, E1, k1⟩
  | false =>
    obtain ⟨c, e, q⟩ := k1 G1 ρ1 _ H1 (Same.refl _) (List.prefix_refl _) R1 (DR.bl false)
    cases e
    exact q
theorem mw_or (ha : PT X a (tB (tr X.K ca W f))) (hb : PW X (.BoolOp .Or (b :: rest) pos) (tB (tr X.K ca W h))) : PW X (.BoolOp .Or (a :: b :: rest) pos) (tB (tr X.K ca W (sOr f h))) := (pw_or ha hb).imp fun σ H Q q => by
  obtain ⟨G, ρ, env, st, hR, hE, k⟩ := q
  refine tr_bool hR hE k (fun x s hx => ifB_bad hx) fun b G1 ρ1 H1 st1 s1 p1 R1 E1 k1 => ?_
  cases b with
  | true =>
    obtain ⟨c, e, q⟩ := k1 G1 ρ1 _ H1 (Same.refl _) (List.prefix_refl _) R1 (DR.bl true)
    cases e
    exact q
  | false => exact ⟨G1, ρ1, env, st1, R1, E1, k1⟩
theorem mt_not (ha : PT X a (tB (tr X.K ca W f))) : PT X (.UnaryOp .Not a pos) (tB (tr X.K ca W (sNot f))) := (pt_not ha).imp fun σ H Q q => by
  obtain ⟨G, ρ, env, st, hR, hE, k⟩ := q
  refine tr_bool hR hE k (fun x s hx => not_bad hx) fun b G1 ρ1 H1 st1 s1 p1 R1 E1 k1 => ?_
  obtain ⟨c, e, q⟩ := k1 G1 ρ1 _ H1 (Same.refl _) (List.prefix_refl _) R1 (DR.bl _)
  cases e
  exact q
theorem m_ite (hc : PT X c (tB (tr X.K ca W f))) (ha : PE X a (tr X.K ca W g)) (hb : PE X b (tr X.K ca W h)) : PE X (.IfExp c a b pos) (tr X.K ca W (sIte f g h)) := (pe_ifExp hc ha hb).imp fun σ H Q q => by
  obtain ⟨G, ρ, env, st, hR, hE, k⟩ := q
  refine tr_bool hR hE k (fun x s hx => ifB_bad hx) fun b G1 ρ1 H1 st1 s1 p1 R1 E1 k1 => ?_
  cases b with
  | true => exact ⟨G1, ρ1, env, st1, R1, E1, k1⟩
  | false => exact ⟨G1, ρ1, env, st1, R1, E1, k1⟩
theorem ma_nil : PA X [] (trA X.K ca W aNil) := pa_nil.imp fun σ H Q q => by
  obtain ⟨G, ρ, env, st, hR, hE, k⟩ := q
  exact k G ρ [] H (Same.refl _) (List.prefix_refl _) hR .nil
theorem ma_cons (ha : PE X e (tr X.K ca W f)) (hr : PA X es (trA X.K ca W fs)) (hs : starEach (e :: es) X.env = (false, eval e X.env) :: starEach es X.env := by rfl) : PA X (e :: es) (trA X.K ca W (aCons f fs)) := (pa_cons ha hr hs).imp fun σ H Q q => by
  obtain ⟨G, ρ, env, st, hR, hE, k⟩ := q
  refine tr_seqA hR hE k fun G1 ρ1 v H1 x st1 s1 p1 R1 E1 sx k1 => ?_
  refine ⟨G1, ρ1, env, st1, R1, E1, ?_⟩
  cases e : fs env st1 with
  | ok xs st2 =>
    rw [e] at k1
    exact fun G' ρ' vs H' s p r sr => k1 G' ρ' (v :: vs) H' s p r (.cons (sx.mono s p) sr)
  | ex c s =>
    rw [e] at k1
    exact k1
  | bad =>
    rw [e] at k1
    exact k1
theorem tr_cb {r : List V → Hp → VK → Prop} {gg : List Sv → Stt → Option D} (hg : CaS X.K ca r gg) {σ : L2.St} {H : Hp} {Q : VK} (q : tr X.K ca W (sCB gg fs) σ H Q) : trA X.K ca W fs σ H fun vs H1 => r vs H1 Q := by
  obtain ⟨G, ρ, env, st, hR, hE, k⟩ := q
  refine trA_seq hR hE k fun G1 ρ1 vs H1 xs st1 s1 p1 R1 E1 sx k1 => ?_
  cases e : gg xs st1 with
  | none => rw [e] at k1; exact k1.elim
  | some d =>
    rw [e] at k1
    exact hg G1 ρ1 st1 H1 xs vs d Q R1 sx e fun G' v' H' s' R' d' => k1 G' ρ1 v' H' s' (List.prefix_refl _) R' d'
theorem m_tup {x1} (h : PA X es (trA X.K ca W fs)) : PE X (.Tuple es x1 pos) (tr X.K ca W (sTup fs)) := (pe_tup h).imp fun σ H Q q => by
  refine tr_cb (r := fun xs H1 Q => xs.length ≤ sizeLine ∧ ∀ p, H1 p = none → Q (.ref p) (upd H1 p (.tup xs))) (fun G ρ st H xs vs d Q R sx e k => ?_) q
  cases q : asData xs with
  | none => simp only [q] at e; cases e
  | some ds =>
    simp only [q] at e
    have da := asData_of sx q
    by_cases hl : ds.length ≤ 100000
    · rw [if_pos hl] at e
      cases e
      refine ⟨by rw [da.length]; exact sz100 hl, fun p hp => ?_⟩
      obtain ⟨s', R'⟩ := R.frozen (o := .tup vs) hp
      exact k _ _ _ s' R' (.tup (SqT.of upd_same) (da.mono s'))
    · rw [if_neg hl] at e
      cases e
theorem m_lst (h : PA X es (trA X.K ca W fs)) : PE X (.List es pos) (tr X.K ca W (sLst fs)) := (pe_lst h).imp fun σ H Q q => by
  refine tr_cb (r := fun xs H1 Q => xs.length ≤ sizeLine ∧ ∀ p, H1 p = none → Q (.ref p) (upd H1 p (.lst xs))) (fun G ρ st H xs vs d Q R sx e k => ?_) q
  cases q : asData xs with
  | none => simp only [q] at e; cases e
  | some ds =>
    simp only [q] at e
    have da := asData_of sx q
    by_cases hl : ds.length ≤ 100000
    · rw [if_pos hl] at e
      cases e
      refine ⟨by rw [da.length]; exact sz100 hl, fun p hp => ?_⟩
      obtain ⟨s', R'⟩ := R.frozen (o := .lst vs) hp
      exact k _ _ _ s' R' (.lst upd_same (da.mono s'))
    · rw [if_neg hl] at e
      cases e
theorem m_lstM (h : PA X es (trA X.K ca W fs)) : PE X (.List es pos) (tr X.K ca W (sLstM fs)) := (pe_lst h).imp fun σ H Q q => by
  obtain ⟨G, ρ, env, st, hR, hE, k⟩ := q
  refine trA_seq hR hE k fun G1 ρ1 vs H1 xs st1 s1 p1 R1 E1 sx k1 => ?_
  cases q : asData xs with
  | none => simp only [q] at k1; exact k1.elim
  | some ds =>
    simp only [q] at k1
    have da := asData_of sx q
    by_cases hl : ds.length ≤ 100000
    · rw [if_pos hl] at k1
      refine ⟨by rw [da.length]; exact sz100 hl, fun p hp => ?_⟩
      refine k1 G1 (ρ1 ++ [p]) _ _ (Same.refl _) (List.prefix_append _ _) (R1.alloc hp (o := .lst ds) ⟨vs, upd_same, da⟩) ⟨p, ?_, rfl⟩
      rw [← R1.len, List.getElem?_append_right (Nat.le_refl _), Nat.sub_self]
      rfl
    · rw [if_neg hl] at k1
      exact k1.elim
end
/-- a def's promise: on these arguments and this store, that outcome -/
def spF (K : PySem.W.Frag) (ca : Nat → Addr) (F : List Sv → Stt → R Sv) : Sp := fun vs H Q E => ∃ G ρ st xs, Rel K ca G ρ st H ∧ Paired (SR K G ρ) xs vs ∧ Kn K ca (fun cls d _ H => E cls d H) G ρ [] (F xs st) Q
theorem Kn.wish {K : PySem.W.Frag} {ca : Nat → Addr} {W W' : WX} {G : Hp} {ρ : List Addr} {σ σ' : L2.St} {r : R Sv} {Q : VK} (h : Kn K ca W G ρ σ r Q) (i : ∀ c H, W (.ref (ca c)) none σ H → W' (.ref (ca c)) none σ' H) : Kn K ca W' G ρ σ' r Q := by
  cases r with
  | ok x st => exact h
  | ex c st => exact fun G' ρ' H' s p R => i _ _ (h G' ρ' H' s p R)
  | bad => exact h
section
variable {X : Cx} {ca : Nat → Addr} {W : WX} {e : Expr} {es : List Expr} {fs : AX} {pos p : Pos} {k : Nat} {f : Addr} {fd : FuncData} {ps : List Str} {F : List Sv → Stt → R Sv} {x : Str}
theorem m_call (ok : FnOk X.prog X.w X.K X.mg X.base (L2.CX X.prog X.w) k f fd ps (spF X.K ca F)) (hr : Room k X.A) (hm : X.mg x = some (.ref f)) (hk : PySem.W.keepIn X.K (.ref f) = true) (hb : Binds X.K fd ps []) (tk : Takes X W)
    (ha : PA X (e :: es) (trA X.K ca W fs)) (hg : Gl X x := by rfl) (hdb : (x == ("__debug__" : Str)) = false := by decide) (he : starEach (e :: es) X.env = (false, eval e X.env) :: starEach es X.env := by rfl) (hpl : (backTo pos (starEach es X.env)).any (·.1) = false := by rfl) :
    PE X (.Call (.Name x p) (e :: es) [] pos) (tr X.K ca W (sCall F fs)) := (pe_callS ok hr hg hm hk hb (fun σ => passAt tk σ) ha hdb he hpl).imp fun σ H Q q => by
  obtain ⟨G, ρ, env, st, hR, hE, k⟩ := q
  refine trA_seq hR hE k fun G1 ρ1 vs H1 xs st1 s1 p1 R1 E1 sx k1 => ?_
  exact ⟨G1, ρ1, st1, xs, R1, sx, k1.wish fun c H h => h⟩
/-- a built-in function, a built-in type, called -/
theorem m_callB {id : String} {r : List V → Hp → VK → Prop} {gg : List Sv → Stt → Option D} (hc : CallR X (.builtin id) r) (hg' : CaS X.K ca r gg) (hm : X.mg x = none) (hv : bootBuiltins x = some (.builtin id)) (ha : PA X (e :: es) (trA X.K ca W fs)) (hg : Gl X x := by rfl) (hn : x ≠ "__name__" := by decide) (hdb : (x == ("__debug__" : Str)) = false := by decide)
    (he : starEach (e :: es) X.env = (false, eval e X.env) :: starEach es X.env := by rfl) (hpl : (backTo pos (starEach es X.env)).any (·.1) = false := by rfl) : PE X (.Call (.Name x p) (e :: es) [] pos) (tr X.K ca W (sCB gg fs)) :=
  (pe_callB hc hg hm hv ha hn hdb he hpl).imp fun _ _ _ q => tr_cb hg' q
theorem m_callTy {id : String} {r : List V → Hp → VK → Prop} {gg : List Sv → Stt → Option D} (hc : CallR X (.type id) r) (hg' : CaS X.K ca r gg) (hm : X.mg x = none) (hv : bootBuiltins x = some (.type id)) (ha : PA X (e :: es) (trA X.K ca W fs)) (hg : Gl X x := by rfl) (hn : x ≠ "__name__" := by decide) (hdb : (x == ("__debug__" : Str)) = false := by decide)
    (he : starEach (e :: es) X.env = (false, eval e X.env) :: starEach es X.env := by rfl) (hpl : (backTo pos (starEach es X.env)).any (·.1) = false := by rfl) : PE X (.Call (.Name x p) (e :: es) [] pos) (tr X.K ca W (sCB gg fs)) :=
  (pe_callTy hc hg hm hv ha hn hdb he hpl).imp fun _ _ _ q => tr_cb hg' q
end
end DL

namespace DL
open PySem PySem.Spec PyProof.Rows L2

def bRet (f : EX) : SX := fun env st => bindS (f env st) fun x s => .rt x s
def bRetN : SX := fun _ st => .rt (.d .none) st
def bDrop (f : EX) : SX := fun env st => bindS (f env st) fun _ s => .nx env s
def bSet (i : Nat) (f : EX) : SX := fun env st => bindS (f env st) fun x s => .nx (env.set i (some x)) s
def bPar (i j : Nat) (f g : EX) : SX := fun env st => bindS (f env st) fun x s => bindS (g env s) fun y s => .nx ((env.set i (some x)).set j (some y)) s
def bPar3 (i j l : Nat) (f g h : EX) : SX := fun env st => bindS (f env st) fun x s => bindS (g env s) fun y s => bindS (h env s) fun z s => .nx (((env.set i (some x)).set j (some y)).set l (some z)) s
def bNext : SX := fun env st => .nx env st
def bSeq (f g : SX) : SX := fun env st => match f env st with
  | .nx e s => g e s
  | .rt x s => .rt x s
  | .ex c s => .ex c s
  | .bad => .bad
def ifS (x : Sv) (t e : RS) : RS := match x with
  | .d (.bool true) => t
  | .d (.bool false) => e
  | _ => .bad
def bIf (c : EX) (f g : SX) : SX := fun env st => bindS (c env st) fun x s => ifS x (f env s) (g env s)
def bRaise (c : Nat) : SX := fun _ st => .ex c st
/-- targets that take data apart -/
abbrev GX := D → En → Option En
abbrev GXs := List D → En → Option En
def gN (i : Nat) : GX := fun d env => some (env.set i (some (.d d)))
def gsNil : GXs := fun ds env => match ds with
  | [] => some env
  | _ => none
def gsCons (g : GX) (gs : GXs) : GXs := fun ds env => match ds with
  | d :: r => match g d env with
    | some e => gs r e
    | none => none
  | [] => none
def gT (n : Nat) (gs : GXs) : GX := fun d env => match d with
  | .tuple ds => if ds.length = n then gs ds env else none
  | _ => none
def gL (n : Nat) (gs : GXs) : GX := fun d env => match d with
  | .list ds => if ds.length = n then gs ds env else none
  | _ => none
def bTgt (g : GX) (f : EX) : SX := fun env st => bindS (f env st) fun x s => match x with
  | .d d => match g d env with
    | some e => .nx e s
    | none => .bad
  | _ => .bad
def wh (c : EX) (b : SX) : Nat → SX
  | 0 => fun _ _ => .bad
  | n + 1 => fun env st => bindS (c env st) fun x s => ifS x (match b env s with
      | .nx e s => wh c b n e s
      | .rt x s => .rt x s
      | .ex c s => .ex c s
      | .bad => .bad) (.nx env s)
def fuel : Nat := 1099511627776
def bWhile (c : EX) (b : SX) : SX := wh c b fuel
def fo (g : GX) (b : SX) : List D → SX
  | [] => fun env st => .nx env st
  | d :: r => fun env st => match g d env with
    | some e => (match b e st with
      | .nx e s => fo g b r e s
      | .rt x s => .rt x s
      | .ex c s => .ex c s
      | .bad => .bad)
    | none => .bad
/-- what is walked -/
abbrev IX := En → Stt → R (List D)
def bFor (src : IX) (g : GX) (b : SX) : SX := fun env st => match src env st with
  | .ok ds s => fo g b ds env s
  | .ex c s => .ex c s
  | .bad => .bad

section
variable (K : PySem.W.Frag) (ca : Nat → Addr) (W : WX)
def trG (g : GX) : TG := fun v σ H Q => ∃ G ρ env st d, Rel K ca G ρ st H ∧ RelE K G ρ env σ ∧ DR K G v d ∧ match g d env with
  | some env' => ∀ σ', RelE K G ρ env' σ' → σ'.length = σ.length → Q σ' H
  | none => False
def trGs (g : GXs) : TGs := fun vs σ H Q => ∃ G ρ env st ds, Rel K ca G ρ st H ∧ RelE K G ρ env σ ∧ DRA K G vs ds ∧ match g ds env with
  | some env' => ∀ σ', RelE K G ρ env' σ' → σ'.length = σ.length → Q σ' H
  | none => False
/-- J walks the data ds -/
def Src (J : It) (G : Hp) (ds : List D) : Prop := ∀ G' ρ st H (i : Nat), Same G G' → Rel K ca G' ρ st H →
  (∀ d, ds[i]? = some d → J.go i H ∧ ∀ x H', J.yld i H x H' → ∃ G'', Same G' G'' ∧ Rel K ca G'' ρ st H' ∧ DR K G'' x d) ∧ (ds.length ≤ i → J.stop i H)
def trI (src : IX) : TI := fun σ H R => ∃ G ρ env st, Rel K ca G ρ st H ∧ RelE K G ρ env σ ∧ match src env st with
  | .ok ds st' => ∀ G' ρ' H' J, Same G G' → ρ <+: ρ' → Rel K ca G' ρ' st' H' → Src K ca J G' ds → R J H'
  | .ex c st' => ∀ G' ρ' H', Same G G' → ρ <+: ρ' → Rel K ca G' ρ' st' H' → W (.ref (ca c)) none σ H'
  | .bad => False
end
theorem Src.mono {K : PySem.W.Frag} {ca : Nat → Addr} {J : It} {G G1 : Hp} {ds : List D} (h : Src K ca J G ds) (s : Same G G1) : Src K ca J G1 ds := fun G' ρ st H i s' R => h G' ρ st H i (s.trans s') R

section
variable {X : Cx} {ca : Nat → Addr} {W : WX} {e a b c : Expr} {es : List Expr} {f g h : EX} {fs : AX} {pos : Pos} {s : Stmt} {ss : List Stmt} {B C : SX}
theorem KnS.nx_of {D : Ends} {G : Hp} {ρ : List Addr} {σ σ' : L2.St} {env : En} {st : Stt} {H : Hp} (k : KnS X.K ca W D G ρ σ (.nx env st)) (R : Rel X.K ca G ρ st H) (E : RelE X.K G ρ env σ') (l : σ'.length = σ.length) : D.nx σ' H :=
  k G ρ σ' H (Same.refl _) (List.prefix_refl _) R E l
theorem ms_nil : PSs X [] (trS X.K ca W bNext) := pss_nil.imp fun D σ H q => by
  obtain ⟨G, ρ, env, st, hR, hE, k⟩ := q
  exact k.nx_of hR hE rfl
theorem seq_in {D : Ends} {σ : L2.St} {H : Hp} (q : trS X.K ca W (bSeq B C) D σ H) : tSeq (trS X.K ca W B) (trS X.K ca W C) D σ H := by
  obtain ⟨G, ρ, env, st, hR, hE, k⟩ := q
  refine ⟨G, ρ, env, st, hR, hE, ?_⟩
  unfold bSeq at k
  cases e : B env st with
  | nx env1 st1 =>
    rw [e] at k
    exact fun G' ρ' σ' H' s p R E l => ⟨G', ρ', env1, st1, R, E, k.base s p l⟩
  | rt x s => rw [e] at k; exact k
  | ex c s => rw [e] at k; exact k
  | bad => rw [e] at k; exact k
theorem ms_cons (h1 : PS X s (trS X.K ca W B)) (h2 : PSs X ss (trS X.K ca W C)) : PSs X (s :: ss) (trS X.K ca W (bSeq B C)) := (pss_cons h1 h2).imp fun D σ H q => seq_in q
theorem ms_one (h1 : PS X s (trS X.K ca W B)) : PSs X [s] (trS X.K ca W B) := pss_one h1
theorem ms_ret (he : PE X e (tr X.K ca W f)) : PS X (.Return (some e) pos) (trS X.K ca W (bRet f)) := (ps_ret he).imp fun D σ H q => by
  obtain ⟨G, ρ, env, st, hR, hE, k⟩ := q
  exact trS_seq hR hE k fun G1 ρ1 v H1 x st1 s1 p1 R1 E1 sx k1 => k1 G1 ρ1 v H1 (Same.refl _) (List.prefix_refl _) R1 sx
theorem ms_retN : PS X (.Return none pos) (trS X.K ca W bRetN) := ps_retN.imp fun D σ H q => by
  obtain ⟨G, ρ, env, st, hR, hE, k⟩ := q
  exact k G ρ _ H (Same.refl _) (List.prefix_refl _) hR DR.non
theorem ms_expr (he : PE X e (tr X.K ca W f)) (hs : swapsWith e none pos.line X.env = pure false := by rfl) : PS X (.Expr e pos) (trS X.K ca W (bDrop f)) := (ps_expr he hs).imp fun D σ H q => by
  obtain ⟨G, ρ, env, st, hR, hE, k⟩ := q
  exact trS_seq hR hE k fun G1 ρ1 v H1 x st1 s1 p1 R1 E1 sx k1 => k1.nx_of R1 E1 rfl
theorem set_in {i : Nat} {D : Ends} {σ : L2.St} {H : Hp} (q : trS X.K ca W (bSet i f) D σ H) : tAsg (tr X.K ca W f) (gName i) D σ H := by
  obtain ⟨G, ρ, env, st, hR, hE, k⟩ := q
  exact trS_seq hR hE k fun G1 ρ1 v H1 x st1 s1 p1 R1 E1 sx k1 => k1.nx_of R1 (E1.set sx) (List.length_set ..)
theorem ms_set (i : Nat) {x : Str} {pos' : Pos} (hN : X.N.Nodup) (he : PE X e (tr X.K ca W f)) (hi : X.N[i]? = some x := by rfl) (hx : Loc X.env.scope x := by first | exact .inl rfl | exact .inr rfl) (hs : swapsWith e (some (.Name x pos')) pos.line X.env = pure false := by rfl)
    (hf : X.fn x = true ∨ X.env.scope.names.lookup x = some .local := by first | exact .inl rfl | exact .inr rfl | assumption) : PS X (.Assign [.Name x pos'] e pos) (trS X.K ca W (bSet i f)) := (ps_set hN hi hx he hs hf).imp fun _ _ _ q => set_in q
theorem ms_par (i j : Nat) {x y : Str} {px py pt : Pos} {kt k2 pt2} (hc : X.calm = true) (hN : X.N.Nodup) (ha : PE X a (tr X.K ca W f)) (hb : PE X b (tr X.K ca W g)) (hi : X.N[i]? = some x := by rfl) (hj : X.N[j]? = some y := by rfl) (hij : i ≠ j := by decide)
    (hx : X.env.scope.names.lookup x = some .local := by rfl) (hy : X.env.scope.names.lookup y = some .local := by rfl)
    (hw : swappedStores [.Tuple [.Name x px, .Name y py] kt pt] (.Tuple [a, b] k2 pt2) X.env = pure (some [x, y]) := by rfl)
    (hs : swapsWithSole [.Tuple [.Name x px, .Name y py] kt pt] (.Tuple [a, b] k2 pt2) pos.line X.env = pure false := by rfl)
    (hsa : starEach [a, b] X.env = (false, eval a X.env) :: starEach [b] X.env := by rfl) (hsb : starEach [b] X.env = (false, eval b X.env) :: starEach [] X.env := by rfl) :
    PS X (.Assign [.Tuple [.Name x px, .Name y py] kt pt] (.Tuple [a, b] k2 pt2) pos) (trS X.K ca W (bPar i j f g)) := (ps_par hc hN hi hj hij hx hy (pa_cons ha (pa_cons hb pa_nil hsb) hsa) hw hs).imp fun D σ H q => by
  obtain ⟨G, ρ, env, st, hR, hE, k⟩ := q
  refine trS_seq hR hE k fun G1 ρ1 v H1 x st1 s1 p1 R1 E1 sx k1 => ?_
  refine trS_seq R1 E1 k1 fun G2 ρ2 w H2 y st2 s2 p2 R2 E2 sy k2 => ?_
  exact ⟨v, w, rfl, k2.nx_of R2 ((E2.set (sx.mono s2 p2)).set sy) (by rw [List.length_set, List.length_set])⟩
theorem ms_par3 (i j l : Nat) {x y z : Str} {px py pz pt : Pos} {kt k2 pt2} (hc : X.calm = true) (hN : X.N.Nodup) (ha : PE X a (tr X.K ca W f)) (hb : PE X b (tr X.K ca W g)) (hcc : PE X c (tr X.K ca W h)) (hi : X.N[i]? = some x := by rfl) (hj : X.N[j]? = some y := by rfl) (hl : X.N[l]? = some z := by rfl) (hij : i ≠ j := by decide) (hil : i ≠ l := by decide) (hjl : j ≠ l := by decide)
    (hx : X.env.scope.names.lookup x = some .local := by rfl) (hy : X.env.scope.names.lookup y = some .local := by rfl) (hz : X.env.scope.names.lookup z = some .local := by rfl)
    (hw : swappedStores [.Tuple [.Name x px, .Name y py, .Name z pz] kt pt] (.Tuple [a, b, c] k2 pt2) X.env = pure (some [x, y, z]) := by rfl)
    (hs : swapsWithSole [.Tuple [.Name x px, .Name y py, .Name z pz] kt pt] (.Tuple [a, b, c] k2 pt2) pos.line X.env = pure false := by rfl)
    (hsa : starEach [a, b, c] X.env = (false, eval a X.env) :: starEach [b, c] X.env := by rfl) (hsb : starEach [b, c] X.env = (false, eval b X.env) :: starEach [c] X.env := by rfl) (hsc : starEach [c] X.env = (false, eval c X.env) :: starEach [] X.env := by rfl) :
    PS X (.Assign [.Tuple [.Name x px, .Name y py, .Name z pz] kt pt] (.Tuple [a, b, c] k2 pt2) pos) (trS X.K ca W (bPar3 i j l f g h)) := (ps_par3 hc hN hi hj hl hij hil hjl hx hy hz (pa_cons ha (pa_cons hb (pa_cons hcc pa_nil hsc) hsb) hsa) hw hs).imp fun D σ H q => by
  obtain ⟨G, ρ, env, st, hR, hE, k⟩ := q
  refine trS_seq hR hE k fun G1 ρ1 v H1 x st1 s1 p1 R1 E1 sx k1 => ?_
  refine trS_seq R1 E1 k1 fun G2 ρ2 w H2 y st2 s2 p2 R2 E2 sy k2 => ?_
  refine trS_seq R2 E2 k2 fun G3 ρ3 u H3 z st3 s3 p3 R3 E3 sz k3 => ?_
  exact ⟨v, w, u, rfl, k3.nx_of R3 (((E3.set ((sx.mono s2 p2).mono s3 p3)).set (sy.mono s3 p3)).set sz) (by rw [List.length_set, List.length_set, List.length_set])⟩
theorem mg_name (i : Nat) {x : Str} (hN : X.N.Nodup) (hi : X.N[i]? = some x := by rfl) (hx : Loc X.env.scope x := by first | exact .inl rfl | exact .inr rfl) (hf : X.fn x = true ∨ X.env.scope.names.lookup x = some .local := by first | exact .inl rfl | exact .inr rfl | assumption) : PG X (.Name x pos) (trG X.K ca (gN i)) := by
  refine ⟨fun pins s σ H v u Q I r q => (pg_name hN hi hx hf).run pins s σ H v u Q I r ?_⟩
  obtain ⟨G, ρ, env, st, d, hR, hE, hd, k⟩ := q
  exact k _ (hE.set (x := .d d) hd) (List.length_set ..)
theorem mgs_nil : PGs X [] (trGs X.K ca gsNil) := by
  refine ⟨fun pins s σ H vs us Q I r q => pgs_nil.run pins s σ H vs us Q I r ?_⟩
  obtain ⟨G, ρ, env, st, ds, hR, hE, hd, k⟩ := q
  cases hd with
  | nil => exact ⟨rfl, k _ hE rfl⟩
  | cons _ _ => exact k.elim
theorem mgs_cons {g : GX} {gs : GXs} (h1 : PG X e (trG X.K ca g)) (h2 : PGs X es (trGs X.K ca gs))
    (hs : (assignEach (e :: es) X.env).map (·.2) = assign e X.env :: (assignEach es X.env).map (·.2) := by rfl) : PGs X (e :: es) (trGs X.K ca (gsCons g gs)) := by
  refine ⟨fun pins s σ H vs us Q I r q => (pgs_cons h1 h2 hs).run pins s σ H vs us Q I r ?_⟩
  obtain ⟨G, ρ, env, st, ds, hR, hE, hd, k⟩ := q
  cases hd with
  | nil => exact k.elim
  | cons h t =>
    refine ⟨_, _, rfl, G, ρ, env, st, _, hR, hE, h, ?_⟩
    rename_i v vs d ds
    cases e1 : g d env with
    | none => simp only [gsCons, e1] at k
    | some env1 =>
      simp only [gsCons, e1] at k
      intro σ1 E1 l1
      refine ⟨G, ρ, env1, st, ds, hR, E1, t, ?_⟩
      cases e2 : gs ds env1 with
      | none => rw [e2] at k; exact k
      | some env2 =>
        rw [e2] at k
        exact fun σ2 E2 l2 => k σ2 E2 (l2.trans l1)
theorem mg_tup {gs : GXs} {n : Nat} {k : Nat} (hc : X.calm = true) (h : PGs X es (trGs X.K ca gs)) (hn : (assignEach es X.env).length = n := by rfl) (hst : (assignEach es X.env).findIdx? (·.1) = none := by rfl) : PG X (.Tuple es k pos) (trG X.K ca (gT n gs)) := by
  refine ⟨fun pins s σ H v u Q I r q => (pg_tup hc h hn hst).run pins s σ H v u Q I r ?_⟩
  obtain ⟨G, ρ, env, st, d, hR, hE, hd, k⟩ := q
  cases hd with
  | tup hq ha =>
    unfold gT at k
    simp only at k
    split at k
    · rename_i e1 q1
      split at q1
      · rename_i hl
        exact ⟨_, _, rfl, sameT hR.sub hq, by rw [ha.length, hl], G, ρ, env, st, _, hR, hE, ha, by rw [q1]; exact k⟩
      · cases q1
    · exact k.elim
  | non => exact k.elim
  | bl => exact k.elim
  | int => exact k.elim
  | str => exact k.elim
  | lst _ _ => exact k.elim
theorem mg_lst {gs : GXs} {n : Nat} {k : Nat} (hc : X.calm = true) (h : PGs X es (trGs X.K ca gs)) (hn : (assignEach es X.env).length = n := by rfl) (hst : (assignEach es X.env).findIdx? (·.1) = none := by rfl) : PG X (.Tuple es k pos) (trG X.K ca (gL n gs)) := by
  refine ⟨fun pins s σ H v u Q I r q => (pg_lst hc h hn hst).run pins s σ H v u Q I r ?_⟩
  obtain ⟨G, ρ, env, st, d, hR, hE, hd, k⟩ := q
  cases hd with
  | lst hq ha =>
    unfold gL at k
    simp only at k
    split at k
    · rename_i e1 q1
      split at q1
      · rename_i hl
        exact ⟨_, _, rfl, SqL.of (hR.sub _ _ hq), by rw [ha.length, hl], G, ρ, env, st, _, hR, hE, ha, by rw [q1]; exact k⟩
      · cases q1
    · exact k.elim
  | non => exact k.elim
  | bl => exact k.elim
  | int => exact k.elim
  | str => exact k.elim
  | tup _ _ => exact k.elim
theorem ms_tgt {tg : Expr} {g : GX} (he : PE X e (tr X.K ca W f)) (hg : PG X tg (trG X.K ca g)) (hs : swapsWithSole [tg] e pos.line X.env = pure false := by rfl) (hw : swappedStores [tg] e X.env = pure none := by rfl)
    (h1 : (assignEach [tg] X.env).map (·.2) = [assign tg X.env] := by rfl) : PS X (.Assign [tg] e pos) (trS X.K ca W (bTgt g f)) := (ps_asg he hg hs hw h1).imp fun D σ H q => by
  obtain ⟨G, ρ, env, st, hR, hE, k⟩ := q
  refine trS_seq hR hE k fun G1 ρ1 v H1 x st1 s1 p1 R1 E1 sx k1 => ?_
  cases x with
  | r n => exact k1.elim
  | s n => exact k1.elim
  | x n => exact k1.elim
  | d d =>
    refine ⟨G1, ρ1, env, st1, d, R1, E1, sx, ?_⟩
    simp only at k1
    revert k1
    cases g d env with
    | none => exact fun k => k
    | some e1 => exact fun k σ' E' l => k.nx_of R1 E' l
theorem trS_bool {D : Ends} {σ : L2.St} {H : Hp} {G : Hp} {ρ : List Addr} {env : En} {st : Stt} {k : Sv → Stt → RS} (hR : Rel X.K ca G ρ st H) (hE : RelE X.K G ρ env σ) (h : KnS X.K ca W D G ρ σ (bindS (f env st) k))
    (hk : ∀ x s, (∀ b, x ≠ Sv.d (.bool b)) → k x s = .bad) {P : Bool → Hp → Prop}
    (hP : ∀ b G1 ρ1 H1 st1, Same G G1 → ρ <+: ρ1 → Rel X.K ca G1 ρ1 st1 H1 → RelE X.K G1 ρ1 env σ → KnS X.K ca W D G1 ρ1 σ (k (.d (.bool b)) st1) → P b H1) : tr X.K ca W f σ H (fun v H1 => ∃ b, v = .bl b ∧ P b H1) := by
  refine trS_seq hR hE h fun G1 ρ1 v H1 x st1 s1 p1 R1 E1 sx k1 => ?_
  by_cases hx : ∃ b, x = Sv.d (.bool b)
  · obtain ⟨b, rfl⟩ := hx
    cases sx
    exact ⟨b, rfl, hP b G1 ρ1 H1 st1 s1 p1 R1 E1 k1⟩
  · rw [hk x st1 fun b e => hx ⟨b, e⟩] at k1
    exact k1.elim
theorem ifS_bad {x : Sv} {t e : RS} (h : ∀ b, x ≠ Sv.d (.bool b)) : ifS x t e = .bad := by
  unfold ifS
  split
  · exact absurd rfl (h _)
  · exact absurd rfl (h _)
  · rfl
theorem ms_if {p q : List Stmt} (hc : PT X c (tB (tr X.K ca W f))) (ha : PSs X p (trS X.K ca W B)) (hb : PSs X q (trS X.K ca W C)) : PS X (.If c p q pos) (trS X.K ca W (bIf f B C)) := (ps_if hc ha hb).imp fun D σ H q => by
  obtain ⟨G, ρ, env, st, hR, hE, k⟩ := q
  refine trS_bool hR hE k (fun x s hx => ifS_bad hx) fun b G1 ρ1 H1 st1 s1 p1 R1 E1 k1 => ?_
  cases b with
  | true => exact ⟨G1, ρ1, env, st1, R1, E1, k1⟩
  | false => exact ⟨G1, ρ1, env, st1, R1, E1, k1⟩
theorem ms_while {p : List Stmt} (hp : PassesOwn (model X.prog X.w) X.A X.env X.xe) (hc : PT X c (tB (tr X.K ca W f))) (hb : PSs X p (trS X.K ca W B)) : PS X (.While c p [] pos) (trS X.K ca W (bWhile f B)) := (ps_while hp hc hb).imp fun D σ H q => by
  obtain ⟨G, ρ, env, st, hR, hE, k⟩ := q
  refine ⟨fun m σ' H' => ∃ G' ρ' env' st', Rel X.K ca G' ρ' st' H' ∧ RelE X.K G' ρ' env' σ' ∧ KnS X.K ca W D G' ρ' σ' (wh f B m env' st'), ⟨fuel, G, ρ, env, st, hR, hE, k⟩, fun m σ' H' hw => ?_⟩
  obtain ⟨G', ρ', env', st', R', E', k'⟩ := hw
  cases m with
  | zero => exact k'.elim
  | succ m =>
    refine trS_bool R' E' k' (fun x s hx => ifS_bad hx) fun b G1 ρ1 H1 st1 s1 p1 R1 E1 k1 => ?_
    cases b with
    | true =>
      rw [if_pos rfl]
      refine ⟨fun σ2 H2 => ∃ G2 ρ2 env2 st2, Rel X.K ca G2 ρ2 st2 H2 ∧ RelE X.K G2 ρ2 env2 σ2 ∧ KnS X.K ca W D G2 ρ2 σ2 (wh f B m env2 st2), fun σ2 H2 h2 => ⟨m, Nat.lt_succ_self m, h2⟩, G1, ρ1, env', st1, R1, E1, ?_⟩
      have k1' : KnS X.K ca W D G1 ρ1 σ' (match B env' st1 with
        | .nx e s => wh f B m e s
        | .rt x s => .rt x s
        | .ex c s => .ex c s
        | .bad => .bad) := k1
      cases e : B env' st1 with
      | nx env2 st2 =>
        rw [e] at k1'
        exact fun G2 ρ2 σ2 H2 s p R E l => ⟨G2, ρ2, env2, st2, R, E, k1'.base s p l⟩
      | rt x s => rw [e] at k1'; exact k1'
      | ex c s => rw [e] at k1'; exact k1'
      | bad => rw [e] at k1'; exact k1'
    | false =>
      rw [if_neg Bool.false_ne_true]
      exact KnS.nx_of k1 R1 E1 rfl
theorem ms_for {tg iter : Expr} {p : List Stmt} {src : IX} {g : GX} (hp : PassesOwn (model X.prog X.w) X.A X.env X.xe) (hc : X.calm = true) (hi : PI X tg iter (trI X.K ca W src)) (hg : PG X tg (trG X.K ca g)) (hb : PSs X p (trS X.K ca W B))
    (hs : ∀ x, foldedSetIterable iter X.env x = pure x := by intro _; rfl) : PS X (.For tg iter p [] pos) (trS X.K ca W (bFor src g B)) := (ps_for hp hc hi hg hb hs).imp fun D σ H q => by
  obtain ⟨G, ρ, env, st, hR, hE, k⟩ := q
  refine ⟨G, ρ, env, st, hR, hE, ?_⟩
  unfold bFor at k
  cases e : src env st with
  | bad => rw [e] at k; exact k
  | ex c s => rw [e] at k; exact fun G' ρ' H' s p R => k G' ρ' σ H' s p R rfl
  | ok ds st1 =>
    rw [e] at k
    intro G1 ρ1 H1 J s1 p1 R1 sJ
    refine ⟨fun i m σ' H' => m = ds.length - i ∧ i ≤ ds.length ∧ ∃ G' ρ' env' st', Same G1 G' ∧ Rel X.K ca G' ρ' st' H' ∧ RelE X.K G' ρ' env' σ' ∧ KnS X.K ca W D G' ρ' σ' (fo g B (ds.drop i) env' st'), ⟨ds.length, rfl, Nat.zero_le _, G1, ρ1, env, st1, Same.refl _, R1, hE.mono s1 p1, k.base s1 p1 rfl⟩, fun i m σ' H' hw => ?_⟩
    obtain ⟨hm, hi, G', ρ', env', st', s', R', E', k'⟩ := hw
    obtain ⟨q1, q2⟩ := sJ G' ρ' st' H' i s' R'
    by_cases hlt : i < ds.length
    · obtain ⟨g1, g2⟩ := q1 ds[i] (List.getElem?_eq_getElem hlt)
      refine .inr ⟨g1, fun σ2 H2 => ∃ G2 ρ2 env2 st2, Same G1 G2 ∧ Rel X.K ca G2 ρ2 st2 H2 ∧ RelE X.K G2 ρ2 env2 σ2 ∧ KnS X.K ca W D G2 ρ2 σ2 (fo g B (ds.drop (i + 1)) env2 st2), fun σ2 H2 h2 => ⟨ds.length - (i + 1), by omega, rfl, hlt, h2⟩, fun x H2 y => ?_⟩
      obtain ⟨G2, s2, R2, d2⟩ := g2 x H2 y
      rw [List.drop_eq_getElem_cons hlt] at k'
      refine ⟨G2, ρ', env', st', ds[i], R2, E'.mono s2 (List.prefix_refl _), d2, ?_⟩
      unfold fo at k'
      revert k'
      cases g ds[i] env' with
      | none => exact fun k => k
      | some e3 =>
        intro k' σ3 E3 l3
        refine ⟨G2, ρ', e3, st', R2, E3, ?_⟩
        have k2 : KnS X.K ca W D G' ρ' σ' (match B e3 st' with
          | .nx e s => fo g B (ds.drop (i + 1)) e s
          | .rt x s => .rt x s
          | .ex c s => .ex c s
          | .bad => .bad) := k'
        replace k2 := k2.base s2 (List.prefix_refl _) l3
        cases e4 : B e3 st' with
        | nx env2 st2 =>
          rw [e4] at k2
          exact fun G4 ρ4 σ4 H4 s p R E l => ⟨G4, ρ4, env2, st2, (s'.trans s2).trans s, R, E, k2.base s p l⟩
        | rt x s => rw [e4] at k2; exact k2
        | ex c s => rw [e4] at k2; exact k2
        | bad => rw [e4] at k2; exact k2
    · have e0 : ds.drop i = [] := List.drop_eq_nil_of_le (by omega)
      rw [e0] at k'
      exact .inl ⟨q2 (by omega), k'.nx_of R' E' rfl⟩
/-- raise X("..") -/
theorem ms_raise (n : Nat) {x m : Str} {j : Nat} {p p2 pos2 : Pos} (hc : X.calm = true) (tk : Takes X W) (q : PySem.W.excIn X.K (ca n) [.type "ValueError", .type "Exception", .type "BaseException", .type "object"] "ValueError.__new__" = true) (gC : X.mg x = some (.ref (ca n))) (kC : PySem.W.keepIn X.K (.ref (ca n)) = true) (r : Raises X (.ref (ca n))) (hg : Gl X x := by rfl)
    (hdb : (x == ("__debug__" : Str)) = false := by decide) : PS X (.Raise (some (.Call (.Name x p) [.Constant (.str m) j p2] [] pos)) none pos2) (trS X.K ca W (bRaise n)) := (ps_raise hc tk (pmk_own PySem.F.excBase_ValueError q gC kC r hg hdb)).imp fun D σ H q => by
  obtain ⟨G, ρ, env, st, hR, hE, k⟩ := q
  exact k G ρ σ H (Same.refl _) (List.prefix_refl _) hR rfl
end
section
variable {X : Cx} {ca : Nat → Addr} {W : WX} {e a b : Expr} {f : EX} {fs : AX} {pos p : Pos} {tg : Expr}
def iSeq (f : EX) : IX := fun env st => match f env st with
  | .ok (.d (.list ds)) s => .ok ds s
  | .ok _ _ => .bad
  | .ex c s => .ex c s
  | .bad => .bad
def iTupl (f : EX) : IX := fun env st => match f env st with
  | .ok (.d (.tuple ds)) s => .ok ds s
  | .ok _ _ => .bad
  | .ex c s => .ex c s
  | .bad => .bad
def iText (f : EX) : IX := fun env st => match f env st with
  | .ok (.d (.str z)) s => .ok (z.cps.toList.map fun c => .str ⟨#[c]⟩) s
  | .ok _ _ => .bad
  | .ex c s => .ex c s
  | .bad => .bad
def intsD (lo : Int) (n : Nat) : List D := (List.range n).map fun i => .int (lo + (i : Nat))
def iRange1 (f : EX) : IX := fun env st => match f env st with
  | .ok (.d (.int j)) s => if j < 2 ^ 62 ∧ -(2 ^ 62) ≤ j then .ok (intsD 0 j.toNat) s else .bad
  | .ok _ _ => .bad
  | .ex c s => .ex c s
  | .bad => .bad
def iRange2 (f g : EX) : IX := fun env st => match f env st with
  | .ok (.d (.int i)) s => (match g env s with
    | .ok (.d (.int j)) s => if (-(2 ^ 62) ≤ i ∧ i < 2 ^ 62 ∧ -(2 ^ 62) ≤ j ∧ j < 2 ^ 62) then .ok (intsD i (j - i).toNat) s else .bad
    | .ok _ _ => .bad
    | .ex c s => .ex c s
    | .bad => .bad)
  | .ok _ _ => .bad
  | .ex c s => .ex c s
  | .bad => .bad
theorem src_list {a : Addr} {vs : List V} {ds : List D} {G : Hp} (h : SqL X.K G a vs) (hd : DRA X.K G vs ds) : Src X.K ca (Itl X.K a) G ds := by
  intro G' ρ st H i s R
  have hs : SqL X.K H a vs := R.sub.seq (s.seq h)
  refine ⟨fun d e => ?_, fun hl => ⟨vs, hs, by rw [hd.length]; exact hl⟩⟩
  obtain ⟨v, h1, h2⟩ := hd.get e
  refine ⟨⟨vs, v, hs, h1⟩, fun x H' y => ?_⟩
  obtain ⟨rfl, y⟩ := y
  have e2 := y vs hs
  rw [h1] at e2
  cases e2
  exact ⟨G', Same.refl _, R, h2.mono s⟩
theorem src_tup {a : Addr} {vs : List V} {ds : List D} {G : Hp} (h : SqT X.K G a vs) (hd : DRA X.K G vs ds) : Src X.K ca (Itt X.K a) G ds := by
  intro G' ρ st H i s R
  have hs : SqT X.K H a vs := sameT R.sub (sameT s h)
  refine ⟨fun d e => ?_, fun hl => ⟨vs, hs, by rw [hd.length]; exact hl⟩⟩
  obtain ⟨v, h1, h2⟩ := hd.get e
  refine ⟨⟨vs, v, hs, h1⟩, fun x H' y => ?_⟩
  obtain ⟨rfl, y⟩ := y
  have e2 := y vs hs
  rw [h1] at e2
  cases e2
  exact ⟨G', Same.refl _, R, h2.mono s⟩
theorem src_range {lo : Int} {n : Nat} {G : Hp} : Src X.K ca (Itr lo n) G (intsD lo n) := by
  intro G' ρ st H i s R
  refine ⟨fun d e => ?_, fun hl => by unfold intsD at hl; rw [List.length_map, List.length_range] at hl; exact hl⟩
  unfold intsD at e
  rw [List.getElem?_map] at e
  have hi : i < n := by
    cases q : (List.range n)[i]? with
    | none => rw [q] at e; cases e
    | some j =>
      have := (List.getElem?_eq_some_iff.mp q).1
      rw [List.length_range] at this
      exact this
  rw [List.getElem?_range hi] at e
  cases e
  refine ⟨hi, fun x H' y => ?_⟩
  obtain ⟨rfl, rfl⟩ := y
  exact ⟨G', Same.refl _, R, .int _⟩
theorem src_text {z : Str} {G : Hp} : Src X.K ca (Its z) G (z.cps.toList.map fun c => .str ⟨#[c]⟩) := by
  intro G' ρ st H i s R
  refine ⟨fun d e => ?_, fun hl => by rw [List.length_map, Array.length_toList] at hl; exact hl⟩
  rw [List.getElem?_map, Array.getElem?_toList] at e
  cases q : z.cps[i]? with
  | none => rw [q] at e; cases e
  | some c =>
    rw [q] at e
    cases e
    refine ⟨(Array.getElem?_eq_some_iff.mp q).1, fun x H' y => ?_⟩
    obtain ⟨rfl, c', h1, rfl⟩ := y
    rw [q] at h1
    cases h1
    exact ⟨G', Same.refl _, R, .str _⟩
theorem trI_seq {k : Sv → Stt → R (List D)} {src : IX} (hsrc : ∀ env st, src env st = bindR (f env st) k) {σ : L2.St} {H : Hp} {R : It → Hp → Prop} (q : trI X.K ca W src σ H R) {P : VK}
    (hP : ∀ G1 ρ1 v H1 x st1 env, Rel X.K ca G1 ρ1 st1 H1 → RelE X.K G1 ρ1 env σ → SR X.K G1 ρ1 x v → (match k x st1 with
      | .ok ds st' => ∀ G' ρ' H' J, Same G1 G' → ρ1 <+: ρ' → Rel X.K ca G' ρ' st' H' → Src X.K ca J G' ds → R J H'
      | .ex c st' => ∀ G' ρ' H', Same G1 G' → ρ1 <+: ρ' → Rel X.K ca G' ρ' st' H' → W (.ref (ca c)) none σ H'
      | .bad => False) → P v H1) : tr X.K ca W f σ H P := by
  obtain ⟨G, ρ, env, st, hR, hE, kk⟩ := q
  refine ⟨G, ρ, env, st, hR, hE, ?_⟩
  rw [hsrc env st] at kk
  cases e : f env st with
  | bad => rw [e] at kk; exact kk
  | ex c s => rw [e] at kk; exact kk
  | ok x st1 =>
    rw [e] at kk
    intro G1 ρ1 v H1 s1 p1 R1 sx
    refine hP G1 ρ1 v H1 x st1 env R1 (hE.mono s1 p1) sx ?_
    have kk' : (match k x st1 with
      | .ok ds st' => ∀ G' ρ' H' J, Same G G' → ρ <+: ρ' → Rel X.K ca G' ρ' st' H' → Src X.K ca J G' ds → R J H'
      | .ex c st' => ∀ G' ρ' H', Same G G' → ρ <+: ρ' → Rel X.K ca G' ρ' st' H' → W (.ref (ca c)) none σ H'
      | .bad => False) := kk
    revert kk'
    cases k x st1 with
    | bad => exact fun k => k
    | ex c s => exact fun k G' ρ' H' s p => k G' ρ' H' (s1.trans s) (p1.trans p)
    | ok ds s => exact fun k G' ρ' H' J s p => k G' ρ' H' J (s1.trans s) (p1.trans p)
theorem mi_list (ha : PE X e (tr X.K ca W f)) : PI X tg e (trI X.K ca W (iSeq f)) := PI.imp (pi_list ha) fun σ H R q => by
  refine trI_seq (k := fun x s => match x with | .d (.list ds) => .ok ds s | _ => .bad) (fun env st => by unfold iSeq bindR; cases f env st with | ok x s => (cases x with | d x => cases x <;> rfl | r n => rfl | s n => rfl | x n => rfl) | ex c s => rfl | bad => rfl) q fun G1 ρ1 v H1 x st1 env R1 E1 sx k1 => ?_
  cases x with
  | r n => exact k1.elim
  | s n => exact k1.elim
  | x n => exact k1.elim
  | d d =>
    cases sx with
    | lst h1 h2 => exact ⟨_, rfl, ⟨_, SqL.of (R1.sub _ _ h1)⟩, k1 G1 ρ1 H1 _ (Same.refl _) (List.prefix_refl _) R1 (src_list (SqL.of h1) h2)⟩
    | non => exact k1.elim
    | bl => exact k1.elim
    | int => exact k1.elim
    | str => exact k1.elim
    | tup _ _ => exact k1.elim
theorem mi_tup (ha : PE X e (tr X.K ca W f)) : PI X tg e (trI X.K ca W (iTupl f)) := PI.imp (pi_tup ha) fun σ H R q => by
  refine trI_seq (k := fun x s => match x with | .d (.tuple ds) => .ok ds s | _ => .bad) (fun env st => by unfold iTupl bindR; cases f env st with | ok x s => (cases x with | d x => cases x <;> rfl | r n => rfl | s n => rfl | x n => rfl) | ex c s => rfl | bad => rfl) q fun G1 ρ1 v H1 x st1 env R1 E1 sx k1 => ?_
  cases x with
  | r n => exact k1.elim
  | s n => exact k1.elim
  | x n => exact k1.elim
  | d d =>
    cases sx with
    | tup h1 h2 => exact ⟨_, rfl, ⟨_, sameT R1.sub h1⟩, k1 G1 ρ1 H1 _ (Same.refl _) (List.prefix_refl _) R1 (src_tup h1 h2)⟩
    | non => exact k1.elim
    | bl => exact k1.elim
    | int => exact k1.elim
    | str => exact k1.elim
    | lst _ _ => exact k1.elim
theorem mi_text (ha : PE X e (tr X.K ca W f)) : PI X tg e (trI X.K ca W (iText f)) := PI.imp (pi_str ha) fun σ H R q => by
  refine trI_seq (k := fun x s => match x with | .d (.str z) => .ok (z.cps.toList.map fun c => .str ⟨#[c]⟩) s | _ => .bad) (fun env st => by unfold iText bindR; cases f env st with | ok x s => (cases x with | d x => cases x <;> rfl | r n => rfl | s n => rfl | x n => rfl) | ex c s => rfl | bad => rfl) q fun G1 ρ1 v H1 x st1 env R1 E1 sx k1 => ?_
  cases x with
  | r n => exact k1.elim
  | s n => exact k1.elim
  | x n => exact k1.elim
  | d d =>
    cases sx with
    | str z => exact ⟨z, rfl, k1 G1 ρ1 H1 _ (Same.refl _) (List.prefix_refl _) R1 src_text⟩
    | non => exact k1.elim
    | bl => exact k1.elim
    | int => exact k1.elim
    | tup _ _ => exact k1.elim
    | lst _ _ => exact k1.elim
theorem mi_range1 (hm : X.mg "range" = none) (ha : PE X a (tr X.K ca W f)) (hg : Gl X "range" := by rfl) (hs : starEach [a] X.env = [(false, eval a X.env)] := by rfl) : PI X tg (.Call (.Name "range" p) [a] [] pos) (trI X.K ca W (iRange1 f)) := PI.imp (pi_range1 hg hm (pa_cons ha pa_nil hs) hs) fun σ H R q => by
  refine trI_seq (k := fun x s => match x with | .d (.int j) => if j < 2 ^ 62 ∧ -(2 ^ 62) ≤ j then .ok (intsD 0 j.toNat) s else .bad | _ => .bad) (fun env st => by unfold iRange1 bindR; cases f env st with | ok x s => (cases x with | d x => cases x <;> rfl | r n => rfl | s n => rfl | x n => rfl) | ex c s => rfl | bad => rfl) q fun G1 ρ1 v H1 x st1 env R1 E1 sx k1 => ?_
  cases x with
  | r n => exact k1.elim
  | s n => exact k1.elim
  | x n => exact k1.elim
  | d d =>
    cases sx with
    | int j =>
      simp only at k1
      by_cases hj : j < 2 ^ 62 ∧ -(2 ^ 62) ≤ j
      · rw [if_pos hj] at k1
        exact ⟨j, rfl, hj.2, hj.1, k1 G1 ρ1 H1 _ (Same.refl _) (List.prefix_refl _) R1 src_range⟩
      · rw [if_neg hj] at k1
        exact k1.elim
    | str => exact k1.elim
    | non => exact k1.elim
    | bl => exact k1.elim
    | tup _ _ => exact k1.elim
    | lst _ _ => exact k1.elim
end
end DL

namespace DL
open PySem PySem.Spec PyProof.Rows L2

def startE (n : Nat) (xs : List Sv) : En := xs.map some ++ List.replicate (n - xs.length) none
def outR (r : RS) : R Sv := match r with
  | .nx _ s => .ok (.d .none) s
  | .rt x s => .ok x s
  | .ex c s => .ex c s
  | .bad => .bad
def runB (n : Nat) (B : SX) (xs : List Sv) (st : Stt) : R Sv := outR (B (startE n xs) st)
def refsLt (n : Nat) : Ob → Bool
  | .lst _ => true
  | .dic _ => true
  | .ins _ fs => fs.all fun p => match p.2 with
    | .r m => decide (m < n)
    | _ => true
  | .gone => true
/-- behind a def: its own things of the store are dropped; a list of its own that is handed back is data from there on -/
def gcR (n : Nat) (r : R Sv) : R Sv := match r with
  | .ok x s => if (s.take n).all (refsLt n) then (match x with
    | .d z => .ok (.d z) (s.take n)
    | .s ns => .ok (.s ns) (s.take n)
    | .x _ => .bad
    | .r m => if m < n then .ok (.r m) (s.take n) else (match s[m]? with
      | some (.lst ds) => .ok (.d (.list ds)) (s.take n)
      | _ => .bad)) else .bad
  | .ex c s => if (s.take n).all (refsLt n) then .ex c (s.take n) else .bad
  | .bad => .bad

section
variable {K : PySem.W.Frag} {ca : Nat → Addr} {G H : Hp} {ρ ρ0 : List Addr} {st : Stt}
theorem pre_take {α : Type} {l l' : List α} (p : l <+: l') {n : Nat} (h : l.length = n) : l <+: l'.take n := by
  obtain ⟨r, rfl⟩ := p
  rw [← h, List.take_left]
  exact List.prefix_refl _
theorem Rel.take (h : Rel K ca G ρ st H) {n : Nat} (hr : (st.take n).all (refsLt n) = true) : Rel K ca G (ρ.take n) (st.take n) H := by
  refine ⟨h.sub, by rw [List.length_take, List.length_take, h.len], h.nd.sublist (List.take_sublist _ _), fun m a o ha hs hq => ?_, fun m a o ha hs => ?_⟩
  · have hm : m < n := by
      have l := (List.getElem?_eq_some_iff.mp hs).1
      rw [List.length_take] at l
      omega
    rw [List.getElem?_take_of_lt hm] at ha hs
    exact h.out m a o ha hs hq
  have hm : m < n := by
    have l := (List.getElem?_eq_some_iff.mp hs).1
    rw [List.length_take] at l
    omega
  rw [List.getElem?_take_of_lt hm] at ha hs
  have q := h.obj m a o ha hs
  cases o with
  | lst ds => exact q
  | dic kvs => exact q
  | gone => exact q
  | ins c fs =>
    obtain ⟨dx, vs, h1, h2⟩ := q
    refine ⟨dx, vs, h1, ?_⟩
    have hfs : refsLt n (.ins c fs) = true := List.all_eq_true.mp hr _ (List.mem_of_getElem? (by rw [List.getElem?_take_of_lt hm]; exact hs))
    have hall : ∀ p ∈ fs, (match p.2 with | Sv.r m => decide (m < n) | _ => true) = true := List.all_eq_true.mp hfs
    clear hfs h1 hs
    induction h2 with
    | nil => exact .nil
    | cons r t ih =>
      rename_i p q fs' vs'
      refine .cons ⟨r.1, ?_⟩ (ih fun p hp => hall p (List.mem_cons_of_mem _ hp))
      have hp := hall p List.mem_cons_self
      have r2 := r.2
      cases e : p.2 with
      | d x => rw [e] at r2; exact r2
      | s x => rw [e] at r2; exact r2
      | x y => rw [e] at r2; exact r2
      | r k =>
        rw [e] at r2 hp
        obtain ⟨a', g1, g2⟩ := r2
        exact ⟨a', by rw [List.getElem?_take_of_lt (of_decide_eq_true hp)]; exact g1, g2⟩
/-- a list of the store becomes data -/
theorem Rel.freeze (h : Rel K ca G ρ st H) {n m : Nat} {a : Addr} {vs : List V} {ds : List D} (hm : n ≤ m) (ha : ρ[m]? = some a) (hs' : st[m]? = some (.lst ds)) (hl : H a = some (.lst vs)) (hd : DRA K G vs ds) (hr : (st.take n).all (refsLt n) = true) :
    Same G (upd G a (.lst vs)) ∧ Rel K ca (upd G a (.lst vs)) (ρ.take n) (st.take n) H := by
  have ga : G a = none := h.out m a _ ha hs' (fun z => by cases z)
  have T := h.take hr
  have na : a ∉ ρ.take n := fun z => by
    obtain ⟨i, hi⟩ := List.getElem?_of_mem z
    have li : i < n := by
      have l := (List.getElem?_eq_some_iff.mp hi).1
      rw [List.length_take] at l
      omega
    rw [List.getElem?_take_of_lt li] at hi
    have e := nodup_ix h.nd hi ha
    omega
  have sm : Same G (upd G a (.lst vs)) := same_upd ga
  refine ⟨sm, fun b u e => ?_, T.len, T.nd, fun i b o hb hs hq => ?_, fun i b o hb hs => (T.obj i b o hb hs).mono sm (List.prefix_refl _) rfl⟩
  · by_cases hb : b = a
    · subst hb
      rw [upd_same] at e
      cases e
      exact hl
    · rw [upd_ne hb] at e
      exact h.sub b u e
  · rw [upd_ne (fun z : b = a => na (z ▸ List.mem_of_getElem? hb))]
    exact T.out i b o hb hs hq
end
/-- a list of the store becomes data: from here on its name holds data -/
def bFrz (i : Nat) (g : SX) : SX := fun env st => match env[i]? with
  | some (some (.r n)) => (match st[n]? with
    | some (.lst ds) => g (env.set i (some (.d (.list ds)))) (st.set n .gone)
    | _ => .bad)
  | _ => .bad
theorem Rel.freezeAt {K : PySem.W.Frag} {ca : Nat → Addr} {G H : Hp} {ρ : List Addr} {st : Stt} (h : Rel K ca G ρ st H) {m : Nat} {a : Addr} {vs : List V} {ds : List D} (ha : ρ[m]? = some a) (hs' : st[m]? = some (.lst ds)) (hl : H a = some (.lst vs)) :
    Same G (upd G a (.lst vs)) ∧ Rel K ca (upd G a (.lst vs)) ρ (st.set m .gone) H := by
  have ga : G a = none := h.out m a _ ha hs' (fun z => by cases z)
  have sm : Same G (upd G a (.lst vs)) := same_upd ga
  have lm : m < st.length := (List.getElem?_eq_some_iff.mp hs').1
  refine ⟨sm, fun b u e => ?_, by rw [List.length_set]; exact h.len, h.nd, fun i b o hb hs hq => ?_, fun i b o hb hs => ?_⟩
  · by_cases hb : b = a
    · subst hb
      rw [upd_same] at e
      cases e
      exact hl
    · rw [upd_ne hb] at e
      exact h.sub b u e
  · by_cases e : m = i
    · subst e
      rw [List.getElem?_set_self lm] at hs
      cases hs
      exact absurd rfl hq
    · rw [List.getElem?_set_ne e] at hs
      rw [upd_ne (fun z : b = a => e (nodup_ix h.nd ha (z ▸ hb)))]
      exact h.out i b o hb hs hq
  · by_cases e : m = i
    · subst e
      rw [List.getElem?_set_self lm] at hs
      cases hs
      rw [ha] at hb
      cases hb
      exact .inl ⟨vs, hl⟩
    · rw [List.getElem?_set_ne e] at hs
      exact (h.obj i b o hb hs).mono sm (List.prefix_refl _) rfl
theorem RelE.setL {K : PySem.W.Frag} {G : Hp} {ρ : List Addr} {env : En} {σ : L2.St} {i : Nat} {x : Sv} {v : V} (h : RelE K G ρ env σ) (hv : σ[i]? = some (some v)) (r : SR K G ρ x v) : RelE K G ρ (env.set i (some x)) σ := by
  have e := h.set (i := i) r
  have e2 : σ.set i (some v) = σ := by
    apply List.ext_getElem?
    intro j
    by_cases hj : i = j
    · subst hj
      rw [List.getElem?_set_self (List.getElem?_eq_some_iff.mp hv).1, hv]
    · rw [List.getElem?_set_ne hj]
  rw [e2] at e
  exact e
theorem ms_frz {X : Cx} {ca : Nat → Addr} {W : WX} {ss : List Stmt} {g : SX} (i : Nat) (h : PSs X ss (trS X.K ca W g)) : PSs X ss (trS X.K ca W (bFrz i g)) := h.imp fun D σ H q => by
  obtain ⟨G, ρ, env, st, hR, hE, k⟩ := q
  unfold bFrz at k
  split at k
  · rename_i n hx
    split at k
    · rename_i ds hs
      obtain ⟨v, h1, a, h2, rfl⟩ := hE.2 i _ hx
      obtain ⟨vs, h3, h4⟩ := hR.obj n a _ h2 hs
      obtain ⟨sm, RF⟩ := hR.freezeAt h2 hs h3
      exact ⟨_, ρ, _, _, RF, (hE.mono sm (List.prefix_refl _)).setL (x := .d (.list ds)) h1 (DR.lst upd_same (h4.mono sm)), k.base sm (List.prefix_refl _) rfl⟩
    · exact k.elim
  · exact k.elim
theorem gc_out {K : PySem.W.Frag} {ca : Nat → Addr} {D : Ends} {Q : VK} {E : XK} {G : Hp} {ρ : List Addr} {σ : L2.St} {n : Nat} {r : RS} (hQ : D = { nx := fun _ H' => Q .non H', rt := Q }) (hn : ρ.length = n)
    (h : Kn K ca (fun cls d _ H => E cls d H) G ρ [] (gcR n (outR r)) Q) : KnS K ca (fun cls d _ H => E cls d H) D G ρ σ r := by
  subst hQ
  cases r with
  | bad => exact h
  | ex c s =>
    intro G' ρ' σ' H' s' p R l
    unfold outR gcR at h
    simp only at h
    split at h
    · rename_i hr
      exact h G' (ρ'.take n) H' s' (pre_take p hn) (R.take hr)
    · exact h.elim
  | nx e s =>
    intro G' ρ' σ' H' s' p R E' l
    unfold outR gcR at h
    simp only at h
    split at h
    · rename_i hr
      exact h G' (ρ'.take n) .non H' s' (pre_take p hn) (R.take hr) .non
    · exact h.elim
  | rt x s =>
    intro G' ρ' v H' s' p R sx
    unfold outR gcR at h
    simp only at h
    split at h
    · rename_i hr
      cases x with
      | d z => exact h G' (ρ'.take n) v H' s' (pre_take p hn) (R.take hr) sx
      | s ns => exact h G' (ρ'.take n) v H' s' (pre_take p hn) (R.take hr) sx
      | x y => exact h.elim
      | r m =>
        simp only at h
        obtain ⟨a, g1, g2⟩ := sx
        split at h
        · rename_i hm
          exact h G' (ρ'.take n) v H' s' (pre_take p hn) (R.take hr) ⟨a, by rw [List.getElem?_take_of_lt hm]; exact g1, g2⟩
        · rename_i hm
          split at h
          · rename_i ds hs
            obtain ⟨vs, h1, h2⟩ := R.obj m a _ g1 hs
            obtain ⟨sm, RF⟩ := R.freeze (Nat.le_of_not_lt hm) g1 hs h1 h2 hr
            subst g2
            exact h (upd G' a (.lst vs)) (ρ'.take n) (.ref a) H' (s'.trans sm) (pre_take p hn) RF (.lst upd_same (h2.mono sm))
          · exact h.elim
    · exact h.elim
theorem kn_out {K : PySem.W.Frag} {ca : Nat → Addr} {D : Ends} {Q : VK} {E : XK} {G : Hp} {ρ : List Addr} {σ : L2.St} {r : RS} (hQ : D = { nx := fun _ H' => Q .non H', rt := Q })
    (h : Kn K ca (fun cls d _ H => E cls d H) G ρ [] (outR r) Q) : KnS K ca (fun cls d _ H => E cls d H) D G ρ σ r := by
  subst hQ
  cases r with
  | bad => exact h
  | ex c s => exact fun G' ρ' σ' H' s' p R l => h G' ρ' H' s' p R
  | nx e s => exact fun G' ρ' σ' H' s' p R E' l => h G' ρ' .non H' s' p R .non
  | rt x s => exact h
theorem start_rel {K : PySem.W.Frag} {G : Hp} {ρ : List Addr} {N : List Str} {xs : List Sv} {vs : List V} (h : Paired (SR K G ρ) xs vs) : RelE K G ρ (startE N.length xs) (L2.start N vs) := by
  have hl := Paired.length h
  refine ⟨by unfold startE L2.start; rw [List.length_append, List.length_append, List.length_map, List.length_map, List.length_replicate, List.length_replicate, hl], fun i x hx => ?_⟩
  have hi : i < xs.length := by
    by_cases hi : i < xs.length
    · exact hi
    · exfalso
      unfold startE at hx
      rw [List.getElem?_append_right (by rw [List.length_map]; omega), List.getElem?_replicate] at hx
      split at hx
      · cases hx
      · cases hx
  unfold startE at hx
  rw [List.getElem?_append_left (by rw [List.length_map]; exact hi), List.getElem?_map] at hx
  cases e : xs[i]? with
  | none => rw [e] at hx; cases hx
  | some y =>
    rw [e] at hx
    cases hx
    obtain ⟨v, h1, h2⟩ := paired_get h e
    refine ⟨v, ?_, h2⟩
    unfold L2.start
    rw [List.getElem?_append_left (by rw [List.length_map, ← hl]; exact hi), List.getElem?_map, h1]
    rfl
section
variable {P : Program} {w : World} {K : PySem.W.Frag} {mg : Str → Option Value} {base : Heap} {ca : Nat → Addr}
theorem Rel.wf {G H : Hp} {ρ : List Addr} {st : Stt} (h : Rel K ca G ρ st H) : st.all (refsLt st.length) = true := by
  rw [List.all_eq_true]
  intro o ho
  obtain ⟨n, hn⟩ := List.getElem?_of_mem ho
  obtain ⟨a, ha, q⟩ := h.at hn
  cases o with
  | lst ds => rfl
  | dic kvs => rfl
  | gone => rfl
  | ins c fs =>
    obtain ⟨dx, vs, h1, h2⟩ := q
    clear h1
    show (fs.all fun p => match p.2 with | .r m => decide (m < st.length) | _ => true) = true
    rw [List.all_eq_true]
    clear ha hn ho
    induction h2 with
    | nil => intro p hp; cases hp
    | cons r t ih =>
      intro p hp
      rcases List.mem_cons.mp hp with e | e
      · subst e
        have r2 := r.2
        split
        · rename_i m em
          rw [em] at r2
          obtain ⟨a', g1, _⟩ := r2
          exact decide_eq_true (by rw [← h.len]; exact (List.getElem?_eq_some_iff.mp g1).1)
        · rfl
      · exact ih p e
theorem def_ok {x qual : Str} {st : Stmt} {f : Addr} {fd : FuncData} {N ps : List Str} {k : Nat} {B : SX} {F : List Sv → Stt → R Sv} (Fn : Fun K x qual st f fd) (S : FnScope N ps (defScope st))
    (hF : ∀ xs s, s.all (refsLt s.length) = true → F xs s = .bad ∨ (xs.length = ps.length ∧ (gcR s.length (runB N.length B xs s) = F xs s ∨ runB N.length B xs s = F xs s)))
    (hB : ∀ (cdv : Value) (A : Around) (outer : List Env) (s : Shared) (H : Hp) (E : XK), Room k (A.deeper (envOfC qual (defScope st) s.heap.objs.size f cdv)) →
      PSs (cxOf (L2.CX P w) P w K mg base N qual (defScope st) f cdv A outer s H E) (defBody st) (trS K ca (fun cls d _ H => E cls d H) B)) : FnOk P w K mg base (L2.CX P w) (k + 1) f fd ps (spF K ca F) := by
  refine Fn.okX S (fun vs H Q E h => ?_) (fun cdv A outer s H vs Q E hr h => ⟨_, hB cdv A outer s H E hr, ?_⟩)
  · obtain ⟨G, ρ, st, xs, R, r, k⟩ := h
    rcases hF xs st R.wf with e | ⟨e, _⟩
    · rw [e] at k
      exact k.elim
    · rw [← Paired.length r, e]
  · obtain ⟨G, ρ, st, xs, R, r, k⟩ := h
    refine ⟨G, ρ, startE N.length xs, st, R, start_rel r, ?_⟩
    rcases hF xs st R.wf with e | ⟨_, e | e⟩
    · rw [e] at k
      exact k.elim
    · rw [← e] at k
      exact gc_out rfl R.len k
    · rw [← e] at k
      exact kn_out rfl k
end
end DL

namespace DL
open PySem PySem.Spec PyProof.Rows L2

/-- the value as data, to be read -/
def toRd (st : Stt) : Sv → Option D
  | .d x => some x
  | .s ns => some (.list (ns.map .int))
  | .r n => match st[n]? with
    | some (.lst ds) => some (.list ds)
    | _ => none
  | .x _ => none
/-- as a list that may be handed to list + list, extend -/
def toL (st : Stt) : Sv → Option (List D)
  | .d (.list ds) => some ds
  | .r n => match st[n]? with
    | some (.lst ds) => some ds
    | _ => none
  | _ => none
def mulOk (i j : Int) : Bool := decide (i.natAbs < 2 ^ 64) || decide (j.natAbs < 2 ^ 64)
def szOk (n : Nat) : Bool := decide (n ≤ 100000)
def addD (x y : Sv) (st : Stt) : Option D := match x, y with
  | .d (.int i), .d (.int j) => some (.int (i + j))
  | .d (.str a), .d (.str b) => if szOk (a.length + b.length) then some (.str (a ++ b)) else none
  | .d (.tuple a), .d (.tuple b) => if szOk (a.length + b.length) then some (.tuple (a ++ b)) else none
  | .d (.list a), .d (.list b) => if szOk (a.length + b.length) then some (.list (a ++ b)) else none
  | _, _ => none
def subD (x y : Sv) (_ : Stt) : Option D := match x, y with
  | .d (.int i), .d (.int j) => some (.int (i - j))
  | _, _ => none
def mulD (x y : Sv) (_ : Stt) : Option D := match x, y with
  | .d (.int i), .d (.int j) => if mulOk i j then some (.int (i * j)) else none
  | _, _ => none
def fdivD (x y : Sv) (_ : Stt) : Option D := match x, y with
  | .d (.int i), .d (.int j) => if 0 < j ∧ j < 1073741824 then some (.int (i / j)) else none
  | _, _ => none
def modD (x y : Sv) (_ : Stt) : Option D := match x, y with
  | .d (.int i), .d (.int j) => if 0 < j then some (.int (i % j)) else none
  | _, _ => none
def powD (x y : Sv) (_ : Stt) : Option D := match x, y with
  | .d (.int i), .d (.int j) => if 0 ≤ j ∧ j ≤ 1000000 ∧ i.natAbs < 2 ^ 64 then some (.int (i ^ j.toNat)) else none
  | _, _ => none
def cmpD (p : Int → Int → Bool) (x y : Sv) (_ : Stt) : Option D := match x, y with
  | .d (.int i), .d (.int j) => some (.bool (p i j))
  | _, _ => none
def eqD (x y : Sv) (st : Stt) : Option D := match toRd st x, toRd st y with
  | some a, some b => if SeqAt.shaped a && SeqAt.shaped b then some (.bool (PyData.eqv a b)) else none
  | _, _ => none
def neD (x y : Sv) (st : Stt) : Option D := match toRd st x, toRd st y with
  | some a, some b => if SeqAt.shaped a && SeqAt.shaped b then some (.bool (!PyData.eqv a b)) else none
  | _, _ => none
/-- is None, is not None -/
def isN (x : Sv) : Bool := match x with
  | .d .none => true
  | _ => false
def isND (x y : Sv) (_ : Stt) : Option D := if isN y then some (.bool (isN x)) else none
def notND (x y : Sv) (_ : Stt) : Option D := if isN y then some (.bool (!isN x)) else none
/-- is True, is not True .. -/
def isBD (x y : Sv) (_ : Stt) : Option D := match x, y with
  | .d (.bool i), .d (.bool j) => some (.bool (decide (i = j)))
  | _, _ => none
def notBD (x y : Sv) (_ : Stt) : Option D := match x, y with
  | .d (.bool i), .d (.bool j) => some (.bool (!decide (i = j)))
  | _, _ => none
def ixD (x y : Sv) (st : Stt) : Option D := match x, y with
  | .d (.tuple ds), .d (.int i) => atI ds i
  | .d (.list ds), .d (.int i) => atI ds i
  | .r n, .d (.int i) => (match st[n]? with
    | some (.lst ds) => atI ds i
    | _ => none)
  | .s ns, .d (.int i) => atI (ns.map PyData.int) i
  | _, _ => none
/-- x in a list of data -/
def inD (x y : Sv) (st : Stt) : Option D := match toRd st x, toRd st y with
  | some a, some (.list ds) => if SeqAt.shaped a && SeqAt.shaped (.list ds) then some (.bool (ds.any fun z => PyData.eqv z a)) else none
  | _, _ => none
def ninD (x y : Sv) (st : Stt) : Option D := match toRd st x, toRd st y with
  | some a, some (.list ds) => if SeqAt.shaped a && SeqAt.shaped (.list ds) then some (.bool (!ds.any fun z => PyData.eqv z a)) else none
  | _, _ => none
/-- x in a tuple of ints -/
def asInts : List D → Option (List Int)
  | [] => some []
  | .int i :: r => match asInts r with
    | some l => some (i :: l)
    | none => none
  | _ => none
def inTD (x y : Sv) (_ : Stt) : Option D := match x, y with
  | .d (.int i), .d (.tuple ds) => (match asInts ds with
    | some l => some (.bool (l.any fun z => z == i))
    | none => none)
  | _, _ => none
/-- one sign in a text -/
def inSD (x y : Sv) (_ : Stt) : Option D := match x, y with
  | .d (.str a), .d (.str b) => (match a.cps.toList with
    | [c] => some (.bool (decide (c ∈ b.cps.toList)))
    | _ => none)
  | _, _ => none
def lenD (xs : List Sv) (st : Stt) : Option D := match xs with
  | [x] => (match toRd st x with
    | some (.list ds) => some (.int ds.length)
    | some (.tuple ds) => some (.int ds.length)
    | some (.str z) => if szOk z.length then some (.int z.length) else none
    | _ => none)
  | _ => none
def max2D (xs : List Sv) (_ : Stt) : Option D := match xs with
  | [.d (.int i), .d (.int j)] => some (.int (if j > i then j else i))
  | _ => none
def min2D (xs : List Sv) (_ : Stt) : Option D := match xs with
  | [.d (.int i), .d (.int j)] => some (.int (if j < i then j else i))
  | _ => none
def asBools : List D → Option (List Bool)
  | [] => some []
  | .bool i :: r => match asBools r with
    | some l => some (i :: l)
    | none => none
  | _ => none
def allD (xs : List Sv) (_ : Stt) : Option D := match xs with
  | [.d (.list ds)] => (match asBools ds with
    | some l => some (.bool (l.all id))
    | none => none)
  | _ => none
def anyD (xs : List Sv) (_ : Stt) : Option D := match xs with
  | [.d (.list ds)] => (match asBools ds with
    | some l => some (.bool (l.any id))
    | none => none)
  | _ => none
def sumD (xs : List Sv) (st : Stt) : Option D := match xs with
  | [.d (.list ds)] => (match asInts ds with
    | some l => some (.int l.sum)
    | none => none)
  | [.r n] => (match st[n]? with
    | some (.lst ds) => (match asInts ds with
      | some l => some (.int l.sum)
      | none => none)
    | _ => none)
  | _ => none
/-- list(x), tuple(x), handed on as data -/
def listD (xs : List Sv) (st : Stt) : Option D := match xs with
  | [x] => (match toRd st x with
    | some (.list ds) => some (.list ds)
    | some (.tuple ds) => some (.list ds)
    | _ => none)
  | _ => none
def tupleD (xs : List Sv) (st : Stt) : Option D := match xs with
  | [.d (.tuple ds)] => some (.tuple ds)
  | [x] => (match toL st x with
    | some ds => some (.tuple ds)
    | _ => none)
  | _ => none
def kindOf (st : Stt) : Sv → Option String
  | .d .none => some "NoneType"
  | .d (.bool _) => some "bool"
  | .d (.int _) => some "int"
  | .d (.str _) => some "str"
  | .d (.list _) => some "list"
  | .d (.tuple _) => some "tuple"
  | .d (.dict _) => none
  | .x _ => none
  | .s _ => some "list"
  | .r n => match st[n]? with
    | some (.lst _) => some "list"
    | _ => none
/-- the built-in types that the text asks for -/
def subTy (a T : String) : Option Bool := kitB a T
def isiD (T : String) (x : Sv) (st : Stt) : Option D := match kindOf st x with
  | some k => (match subTy k T with
    | some b => some (.bool b)
    | none => none)
  | none => none

section
variable {K : PySem.W.Frag} {ca : Nat → Addr} {G H : Hp} {ρ : List Addr} {st : Stt} {x y : Sv} {v w : V} {d : D}
theorem SR.rd (R : Rel K ca G ρ st H) (h : SR K G ρ x v) (e : toRd st x = some d) : Dp K H v d := by
  cases x with
  | d z =>
    cases e
    exact (DR.mono R.sub (show DR K G v d from h)).dp
  | s ns =>
    cases e
    obtain ⟨a, rfl, h⟩ := h
    exact .lst (R.sub.seq h) (DRA.ints (G := H) ns).dp
  | x y => cases e
  | r n =>
    obtain ⟨a, h1, rfl⟩ := h
    unfold toRd at e
    simp only at e
    split at e
    · rename_i ds hs
      cases e
      obtain ⟨vs, g1, g2⟩ := R.obj n a _ h1 hs
      exact .lst (SqL.of g1) (g2.mono R.sub).dp
    · cases e
theorem SR.toL (R : Rel K ca G ρ st H) {ds : List D} (h : SR K G ρ x v) (e : toL st x = some ds) : ∃ a vs, v = .ref a ∧ H a = some (.lst vs) ∧ DRA K G vs ds := by
  cases x with
  | d z =>
    unfold DL.toL at e
    split at e
    · cases e
      rename_i q
      cases q
      cases h with
      | lst h1 h2 => exact ⟨_, _, rfl, R.sub _ _ h1, h2⟩
    · rename_i q; cases q
    · cases e
  | s ns => cases e
  | x y => cases e
  | r n =>
    obtain ⟨a, h1, rfl⟩ := h
    unfold DL.toL at e
    simp only at e
    split at e
    · rename_i ds hs
      cases e
      obtain ⟨vs, g1, g2⟩ := R.obj n a _ h1 hs
      exact ⟨a, vs, rfl, g1, g2⟩
    · cases e
theorem szOk_le {n : Nat} (h : szOk n = true) : n ≤ sizeLine := sz100 (of_decide_eq_true h)
theorem mulOk_C {i j : Int} (h : mulOk i j = true) : CMul i j := by
  unfold mulOk at h
  rw [Bool.or_eq_true, decide_eq_true_eq, decide_eq_true_eq] at h
  unfold CMul
  omega
theorem asInts_of : ∀ {vs : List V} {ds : List D} {l : List Int}, DRA K G vs ds → asInts ds = some l → vs = l.map V.int
  | _, _, _, .nil, e => by cases e; rfl
  | _, .int i :: r, l, .cons h t, e => by
    unfold asInts at e
    cases q : asInts r with
    | none => rw [q] at e; cases e
    | some m =>
      rw [q] at e
      cases e
      cases h
      rw [List.map_cons, asInts_of t q]
  | _, .none :: _, _, .cons _ _, e => by cases e
  | _, .bool _ :: _, _, .cons _ _, e => by cases e
  | _, .str _ :: _, _, .cons _ _, e => by cases e
  | _, .list _ :: _, _, .cons _ _, e => by cases e
  | _, .tuple _ :: _, _, .cons _ _, e => by cases e
  | _, .dict _ :: _, _, .cons _ _, e => by cases e
theorem asBools_of : ∀ {vs : List V} {ds : List D} {l : List Bool}, DRA K G vs ds → asBools ds = some l → vs = l.map V.bl
  | _, _, _, .nil, e => by cases e; rfl
  | _, .bool i :: r, l, .cons h t, e => by
    unfold asBools at e
    cases q : asBools r with
    | none => rw [q] at e; cases e
    | some m =>
      rw [q] at e
      cases e
      cases h
      rw [List.map_cons, asBools_of t q]
  | _, .none :: _, _, .cons _ _, e => by cases e
  | _, .int _ :: _, _, .cons _ _, e => by cases e
  | _, .str _ :: _, _, .cons _ _, e => by cases e
  | _, .list _ :: _, _, .cons _ _, e => by cases e
  | _, .tuple _ :: _, _, .cons _ _, e => by cases e
  | _, .dict _ :: _, _, .cons _ _, e => by cases e
theorem int_of {i : Int} (h : SR K G ρ (.d (.int i)) v) : v = .int i := by cases h; rfl
theorem bool_of {i : Bool} (h : SR K G ρ (.d (.bool i)) v) : v = .bl i := by cases h; rfl
theorem str_of {i : Str} (h : SR K G ρ (.d (.str i)) v) : v = .str i := by cases h; rfl
theorem isN_of (h : SR K G ρ x v) : isN x = decide (v = .non) := by
  cases x with
  | d z => cases h <;> rfl
  | s ns => obtain ⟨a, rfl, _⟩ := h; rfl
  | x y => cases h; rfl
  | r n => obtain ⟨a, _, rfl⟩ := h; rfl
end
section
variable {X : Cx} {ca : Nat → Addr}
abbrev rAddS : R2 := fun x y H Q => ∃ i j, x = .str i ∧ y = .str j ∧ i.length + j.length ≤ sizeLine ∧ Q (.str (i ++ j)) H
/-- + of ints, texts, lists, tuples -/
abbrev rAdd4 (K : PySem.W.Frag) : R2 := fun x y H Q => rI0 (fun i j => .int (i + j)) x y H Q ∨ (fun x y H Q => rAddS x y H Q ∨ (fun x y H Q => rCat x y H Q ∨ rCatA K x y H Q) x y H Q) x y H Q
theorem op_add4 : OpR X (binaryOp .Add) (rAdd4 X.K) := OpR.or op_add (OpR.or op_add_str (OpR.or op_cat op_catA))
theorem os_add : OpS X.K ca (rAdd4 X.K) addD := by
  intro G ρ st H x y v w d Q R sx sy e k
  unfold addD at e
  split at e
  · cases e
    cases int_of sx
    cases int_of sy
    exact .inl ⟨_, _, rfl, rfl, k G _ H (Same.refl _) R (.int _)⟩
  · split at e
    · rename_i h
      cases e
      cases str_of sx
      cases str_of sy
      exact .inr (.inl ⟨_, _, rfl, rfl, szOk_le h, k G _ H (Same.refl _) R (.str _)⟩)
    · cases e
  · split at e
    · rename_i h
      cases e
      cases sx with
      | tup h1 h2 =>
        cases sy with
        | tup g1 g2 =>
          refine .inr (.inr (.inr ⟨_, _, _, _, rfl, rfl, sameT R.sub h1, sameT R.sub g1, by rw [h2.length, g2.length]; exact szOk_le h, fun e => ?_, fun e1 e2 => ?_, fun e1 e2 p hp => ?_⟩))
          · subst e
            cases h2
            exact k G _ H (Same.refl _) R (.tup g1 g2)
          · subst e2
            cases g2
            rw [List.append_nil] at k
            exact k G _ H (Same.refl _) R (.tup h1 h2)
          · obtain ⟨s', R'⟩ := R.frozen (o := .tup _) hp
            exact k _ _ _ s' R' (.tup (SqT.of upd_same) ((h2.append g2).mono s'))
    · cases e
  · split at e
    · rename_i h
      cases e
      cases sx with
      | lst h1 h2 =>
        cases sy with
        | lst g1 g2 =>
          refine .inr (.inr (.inl ⟨_, _, _, _, rfl, rfl, R.sub _ _ h1, R.sub _ _ g1, by rw [h2.length, g2.length]; exact szOk_le h, fun p hp => ?_⟩))
          obtain ⟨s', R'⟩ := R.frozen (o := .lst _) hp
          exact k _ _ _ s' R' (.lst upd_same ((h2.append g2).mono s'))
    · cases e
  · cases e
theorem os_sub : OpS X.K ca (rI0 fun i j => .int (i - j)) subD := by
  intro G ρ st H x y v w d Q R sx sy e k
  unfold subD at e
  split at e
  · cases e
    cases int_of sx
    cases int_of sy
    exact ⟨_, _, rfl, rfl, k G _ H (Same.refl _) R (.int _)⟩
  · cases e
theorem os_mul : OpS X.K ca (rI CMul fun i j => .int (i * j)) mulD := by
  intro G ρ st H x y v w d Q R sx sy e k
  unfold mulD at e
  split at e
  · split at e
    · rename_i h
      cases e
      cases int_of sx
      cases int_of sy
      exact ⟨_, _, rfl, rfl, mulOk_C h, k G _ H (Same.refl _) R (.int _)⟩
    · cases e
  · cases e
theorem os_fdiv : OpS X.K ca (rI CDiv fun i j => .int (i / j)) fdivD := by
  intro G ρ st H x y v w d Q R sx sy e k
  unfold fdivD at e
  split at e
  · split at e
    · rename_i h
      cases e
      cases int_of sx
      cases int_of sy
      exact ⟨_, _, rfl, rfl, h, k G _ H (Same.refl _) R (.int _)⟩
    · cases e
  · cases e
theorem os_mod : OpS X.K ca (rI (fun _ j => 0 < j) fun i j => .int (i % j)) modD := by
  intro G ρ st H x y v w d Q R sx sy e k
  unfold modD at e
  split at e
  · split at e
    · rename_i h
      cases e
      cases int_of sx
      cases int_of sy
      exact ⟨_, _, rfl, rfl, h, k G _ H (Same.refl _) R (.int _)⟩
    · cases e
  · cases e
theorem os_pow : OpS X.K ca (rI CPow fun i j => .int (i ^ j.toNat)) powD := by
  intro G ρ st H x y v w d Q R sx sy e k
  unfold powD at e
  split at e
  · split at e
    · rename_i h
      cases e
      cases int_of sx
      cases int_of sy
      exact ⟨_, _, rfl, rfl, h, k G _ H (Same.refl _) R (.int _)⟩
    · cases e
  · cases e
theorem os_cmp (p : Int → Int → Bool) : OpS X.K ca (rI0 fun i j => .bl (p i j)) (cmpD p) := by
  intro G ρ st H x y v w d Q R sx sy e k
  unfold cmpD at e
  split at e
  · cases e
    cases int_of sx
    cases int_of sy
    exact ⟨_, _, rfl, rfl, k G _ H (Same.refl _) R (.bl _)⟩
  · cases e
theorem os_eq : OpS X.K ca (rEqD X.K) eqD := by
  intro G ρ st H x y v w d Q R sx sy e k
  unfold eqD at e
  split at e
  · rename_i a b ea eb
    split at e
    · rename_i h
      cases e
      rw [Bool.and_eq_true] at h
      exact ⟨a, b, sx.rd R ea, sy.rd R eb, h.1, h.2, k G _ H (Same.refl _) R (.bl _)⟩
    · cases e
  · cases e
theorem os_ne : OpS X.K ca (rNeD X.K) neD := by
  intro G ρ st H x y v w d Q R sx sy e k
  unfold neD at e
  split at e
  · rename_i a b ea eb
    split at e
    · rename_i h
      cases e
      rw [Bool.and_eq_true] at h
      exact ⟨a, b, sx.rd R ea, sy.rd R eb, h.1, h.2, k G _ H (Same.refl _) R (.bl _)⟩
    · cases e
  · cases e
theorem os_isN : OpS X.K ca (fun x y H Q => y = .non ∧ Q (.bl (decide (x = .non))) H) isND := by
  intro G ρ st H x y v w d Q R sx sy e k
  unfold isND at e
  split at e
  · rename_i h
    cases e
    rw [isN_of sy] at h
    rw [isN_of sx] at k
    exact ⟨of_decide_eq_true h, k G _ H (Same.refl _) R (.bl _)⟩
  · cases e
theorem os_notN : OpS X.K ca (fun x y H Q => y = .non ∧ Q (.bl (!decide (x = .non))) H) notND := by
  intro G ρ st H x y v w d Q R sx sy e k
  unfold notND at e
  split at e
  · rename_i h
    cases e
    rw [isN_of sy] at h
    rw [isN_of sx] at k
    exact ⟨of_decide_eq_true h, k G _ H (Same.refl _) R (.bl _)⟩
  · cases e
theorem os_isB : OpS X.K ca rIsB isBD := by
  intro G ρ st H x y v w d Q R sx sy e k
  unfold isBD at e
  split at e
  · cases e
    cases bool_of sx
    cases bool_of sy
    exact ⟨_, _, rfl, rfl, k G _ H (Same.refl _) R (.bl _)⟩
  · cases e
theorem os_notB : OpS X.K ca rNotB notBD := by
  intro G ρ st H x y v w d Q R sx sy e k
  unfold notBD at e
  split at e
  · cases e
    cases bool_of sx
    cases bool_of sy
    exact ⟨_, _, rfl, rfl, k G _ H (Same.refl _) R (.bl _)⟩
  · cases e
theorem ix_lt : IxR X (fun x y H Q => rIxL X.K x y H Q ∨ rIxT X.K x y H Q) := IxR.or ix_list ix_tup
theorem os_ix : OpS X.K ca (fun x y H Q => rIxL X.K x y H Q ∨ rIxT X.K x y H Q) ixD := by
  intro G ρ st H x y v w d Q R sx sy e k
  unfold ixD at e
  split at e
  · cases int_of sy
    cases sx with
    | tup h1 h2 =>
      obtain ⟨u, e1, r1⟩ := h2.at e
      exact .inr ⟨_, _, _, u, rfl, rfl, sameT R.sub h1, e1, k G _ H (Same.refl _) R r1⟩
  · cases int_of sy
    cases sx with
    | lst h1 h2 =>
      obtain ⟨u, e1, r1⟩ := h2.at e
      exact .inl ⟨_, _, _, u, rfl, rfl, SqL.of (R.sub _ _ h1), e1, k G _ H (Same.refl _) R r1⟩
  · cases int_of sy
    obtain ⟨a, h1, rfl⟩ := sx
    split at e
    · rename_i ds hs
      obtain ⟨vs, g1, g2⟩ := R.obj _ a _ h1 hs
      obtain ⟨u, e1, r1⟩ := g2.at e
      exact .inl ⟨_, _, _, u, rfl, rfl, SqL.of g1, e1, k G _ H (Same.refl _) R r1⟩
    · cases e
  · cases int_of sy
    obtain ⟨a, rfl, h1⟩ := sx
    obtain ⟨u, e1, r1⟩ := (DRA.ints (K := X.K) (G := G) _).at e
    exact .inl ⟨_, _, _, u, rfl, rfl, R.sub.seq h1, e1, k G _ H (Same.refl _) R r1⟩
  · cases e
theorem os_in : OpS X.K ca (rInD X.K) inD := by
  intro G ρ st H x y v w d Q R sx sy e k
  unfold inD at e
  split at e
  · rename_i a ds ea eb
    split at e
    · rename_i h
      cases e
      rw [Bool.and_eq_true] at h
      exact ⟨a, ds, sx.rd R ea, sy.rd R eb, h.1, h.2, k G _ H (Same.refl _) R (.bl _)⟩
    · cases e
  · cases e
theorem os_nin : OpS X.K ca (rNotInD X.K) ninD := by
  intro G ρ st H x y v w d Q R sx sy e k
  unfold ninD at e
  split at e
  · rename_i a ds ea eb
    split at e
    · rename_i h
      cases e
      rw [Bool.and_eq_true] at h
      exact ⟨a, ds, sx.rd R ea, sy.rd R eb, h.1, h.2, k G _ H (Same.refl _) R (.bl _)⟩
    · cases e
  · cases e
theorem flat_ints : ∀ l : List Int, (l.map V.int).all flatV = true
  | [] => rfl
  | _ :: l => by rw [List.map_cons, List.all_cons, flat_ints l]; rfl
theorem inV_ints (i : Int) : ∀ l : List Int, inV (.int i) (l.map V.int) = l.any fun z => z == i
  | [] => rfl
  | z :: l => by
    show (eqV (.int z) (.int i) || inV (.int i) (l.map V.int)) = _
    rw [inV_ints i l]
    rfl
theorem os_inT : OpS X.K ca (rIn X.K false) inTD := by
  intro G ρ st H x y v w d Q R sx sy e k
  unfold inTD at e
  split at e
  · rename_i i ds
    cases int_of sx
    cases sy with
    | tup h1 h2 =>
      split at e
      · rename_i l hl
        cases e
        cases asInts_of h2 hl
        refine ⟨_, _, rfl, .inr (sameT R.sub h1), rfl, flat_ints l, ?_⟩
        rw [if_neg Bool.false_ne_true, inV_ints]
        exact k G _ H (Same.refl _) R (.bl _)
      · cases e
  · cases e
theorem os_inS : OpS X.K ca (fun x y H Q => ∃ (c : Nat) (z : Str), x = .str ⟨#[c]⟩ ∧ y = .str z ∧ Q (.bl (decide (c ∈ z.cps.toList))) H) inSD := by
  intro G ρ st H x y v w d Q R sx sy e k
  unfold inSD at e
  split at e
  · rename_i a b
    cases str_of sx
    cases str_of sy
    split at e
    · rename_i c hc
      cases e
      refine ⟨c, b, ?_, rfl, k G _ H (Same.refl _) R (.bl _)⟩
      have e1 : a = ⟨#[c]⟩ := by
        cases a with
        | mk cps =>
          have : cps = #[c] := by
            apply Array.ext'
            exact hc
          rw [this]
      rw [e1]
    · cases e
  · cases e
theorem cs1 {K : PySem.W.Frag} {G : Hp} {ρ : List Addr} {x : Sv} {vs : List V} (h : Paired (SR K G ρ) [x] vs) : ∃ v, vs = [v] ∧ SR K G ρ x v := by
  cases h with
  | cons r t => cases t; exact ⟨_, rfl, r⟩
theorem cs2 {K : PySem.W.Frag} {G : Hp} {ρ : List Addr} {x y : Sv} {vs : List V} (h : Paired (SR K G ρ) [x, y] vs) : ∃ v w, vs = [v, w] ∧ SR K G ρ x v ∧ SR K G ρ y w := by
  cases h with
  | cons r t =>
    obtain ⟨w, rfl, h2⟩ := cs1 t
    exact ⟨_, w, rfl, r, h2⟩
theorem vals_len {K : PySem.W.Frag} {H : Hp} : ∀ {vs : List V} {ds : List D}, DpAll K H vs ds → vs.length = ds.length
  | _, _, .nil => rfl
  | _, _, .cons _ t => by rw [List.length_cons, List.length_cons, vals_len t]
theorem cs_len : CaS X.K ca (fun xs H Q => ∃ x n, xs = [x] ∧ LenV X.K x H n ∧ Q (.int n) H) lenD := by
  intro G ρ st H xs vs d Q R sx e k
  unfold lenD at e
  split at e
  · obtain ⟨v, rfl, s1⟩ := cs1 sx
    split at e
    · rename_i ds hd
      cases e
      have q := s1.rd R hd
      cases q with
      | lst h1 h2 => exact ⟨_, _, rfl, .inl ⟨_, h1, by rw [vals_len h2]⟩, k G _ H (Same.refl _) R (.int _)⟩
    · rename_i ds hd
      cases e
      have q := s1.rd R hd
      cases q with
      | tup h1 h2 => exact ⟨_, _, rfl, .inr ⟨_, h1, by rw [vals_len h2]⟩, k G _ H (Same.refl _) R (.int _)⟩
    · rename_i z hd
      split at e
      · rename_i hz
        cases e
        have q := s1.rd R hd
        cases q
        exact ⟨_, _, rfl, ⟨szOk_le hz, rfl⟩, k G _ H (Same.refl _) R (.int _)⟩
      · cases e
    · cases e
  · cases e
theorem cs_max2 : CaS X.K ca (fun xs H Q => ∃ i j, xs = [.int i, .int j] ∧ Q (.int (if j > i then j else i)) H) max2D := by
  intro G ρ st H xs vs d Q R sx e k
  unfold max2D at e
  split at e
  · cases e
    obtain ⟨v, w, rfl, s1, s2⟩ := cs2 sx
    cases int_of s1
    cases int_of s2
    exact ⟨_, _, rfl, k G _ H (Same.refl _) R (.int _)⟩
  · cases e
theorem cs_min2 : CaS X.K ca (fun xs H Q => ∃ i j, xs = [.int i, .int j] ∧ Q (.int (if j < i then j else i)) H) min2D := by
  intro G ρ st H xs vs d Q R sx e k
  unfold min2D at e
  split at e
  · cases e
    obtain ⟨v, w, rfl, s1, s2⟩ := cs2 sx
    cases int_of s1
    cases int_of s2
    exact ⟨_, _, rfl, k G _ H (Same.refl _) R (.int _)⟩
  · cases e
theorem cs_all : CaS X.K ca (rAll X.K) allD := by
  intro G ρ st H xs vs d Q R sx e k
  unfold allD at e
  split at e
  · obtain ⟨v, rfl, s1⟩ := cs1 sx
    cases s1 with
    | lst h1 h2 =>
      split at e
      · rename_i l hl
        cases e
        cases asBools_of h2 hl
        exact ⟨_, l, rfl, SqL.of (R.sub _ _ h1), k G _ H (Same.refl _) R (.bl _)⟩
      · cases e
  · cases e
theorem cs_any : CaS X.K ca (rAny X.K) anyD := by
  intro G ρ st H xs vs d Q R sx e k
  unfold anyD at e
  split at e
  · obtain ⟨v, rfl, s1⟩ := cs1 sx
    cases s1 with
    | lst h1 h2 =>
      split at e
      · rename_i l hl
        cases e
        cases asBools_of h2 hl
        exact ⟨_, l, rfl, SqL.of (R.sub _ _ h1), k G _ H (Same.refl _) R (.bl _)⟩
      · cases e
  · cases e
theorem cs_sum : CaS X.K ca (rSum X.K) sumD := by
  intro G ρ st H xs vs d Q R sx e k
  unfold sumD at e
  split at e
  · obtain ⟨v, rfl, s1⟩ := cs1 sx
    cases s1 with
    | lst h1 h2 =>
      split at e
      · rename_i l hl
        cases e
        cases asInts_of h2 hl
        exact ⟨_, l, rfl, SqL.of (R.sub _ _ h1), k G _ H (Same.refl _) R (.int _)⟩
      · cases e
  · obtain ⟨v, rfl, s1⟩ := cs1 sx
    obtain ⟨a, h1, rfl⟩ := s1
    split at e
    · rename_i ds hs
      obtain ⟨vs, g1, g2⟩ := R.obj _ a _ h1 hs
      split at e
      · rename_i l hl
        cases e
        cases asInts_of g2 hl
        exact ⟨_, l, rfl, SqL.of g1, k G _ H (Same.refl _) R (.int _)⟩
      · cases e
    · cases e
  · cases e
end
end DL

namespace DL
open PySem PySem.Spec PyProof.Rows L2

section
variable {K : PySem.W.Frag} {ca : Nat → Addr} {G H : Hp} {ρ : List Addr} {st : Stt} {x : Sv} {v : V}
theorem ty_list {a : Addr} {xs : List V} (h : SqL K H a xs) : TyX K H (.ref a) (.type "list") := by
  rcases h with (h | ⟨o, h⟩) | ⟨o, _, _, h1, h2, _⟩
  · exact .base (.lst h)
  · exact .base (.frz h)
  · exact .kList h1 h2
theorem ty_tup {a : Addr} {xs : List V} (h : SqT K H a xs) : TyX K H (.ref a) (.type "tuple") := by
  rcases h with (h | ⟨o, h⟩) | ⟨o, _, _, h1, h2, _⟩
  · exact .base (.tup h)
  · exact .fTuple h
  · exact .kTuple h1 h2
theorem kind_of (R : Rel K ca G ρ st H) {k : String} (h : SR K G ρ x v) (e : kindOf st x = some k) : TyX K H v (.type k) := by
  cases x with
  | d z =>
    have h' : DR K G v z := h
    cases h' with
    | non => cases e; exact .base .non
    | bl b => cases e; exact .base (.bl b)
    | int i => cases e; exact .base (.int i)
    | str i => cases e; exact .base (.str i)
    | lst h1 h2 => cases e; exact ty_list (SqL.of (R.sub _ _ h1))
    | tup h1 h2 => cases e; exact ty_tup (sameT R.sub h1)
  | s ns =>
    obtain ⟨a, rfl, h⟩ := h
    cases e
    exact ty_list (R.sub.seq h)
  | x y => cases e
  | r n =>
    obtain ⟨a, h1, rfl⟩ := h
    unfold kindOf at e
    simp only at e
    split at e
    · rename_i ds hs
      cases e
      obtain ⟨vs, g1, g2⟩ := R.obj n a _ h1 hs
      exact ty_list (SqL.of g1)
    · cases e
end
section
variable {X : Cx} {ca : Nat → Addr} {W : WX} {e : Expr} {f : EX} {pos p p2 : Pos}
theorem m_isi (T : String) {t : Str} (hm : X.mg "isinstance" = none) (ht : X.mg t = none) (he : PE X e (tr X.K ca W f)) (hv : bootBuiltins t = some (.type T) := by decide +kernel) (hg : Gl X "isinstance" := by rfl) (hgt : Gl X t := by rfl) (hn : t ≠ "__name__" := by decide) (hd : (t == ("__debug__" : Str)) = false := by decide)
    (h1 : starEach [e, .Name t p2] X.env = (false, eval e X.env) :: starEach [.Name t p2] X.env := by rfl) (h2 : starEach [.Name t p2] X.env = (false, eval (.Name t p2) X.env) :: starEach [] X.env := by rfl) (hpl : (backTo pos (starEach [.Name t p2] X.env)).any (·.1) = false := by rfl) :
    PE X (.Call (.Name "isinstance" p) [e, .Name t p2] [] pos) (tr X.K ca W (sUn (isiD T) f)) :=
  (pe_callB call_isi hg hm (by decide +kernel) (pa_cons he (pa_cons (pe_bltn (v := .ty T) hgt ht hv rfl hn hd) pa_nil h2) h1) (by decide) (by decide) h1 hpl).imp fun σ H Q q => by
  obtain ⟨G, ρ, env, st, hR, hE, k⟩ := q
  refine tr_seq hR hE k fun G1 ρ1 v H1 x st1 s1 p1 R1 E1 sx k1 => ?_
  unfold isiD at k1
  split at k1
  · rename_i k' hk
    split at k1
    · rename_i b hb
      exact ⟨v, .ty T, .type k', .type T, b, rfl, .ty T, kind_of R1 sx hk, kit_ty hb, k1 G1 ρ1 _ H1 (Same.refl _) (List.prefix_refl _) R1 (DR.bl b)⟩
    · exact k1.elim
  · exact k1.elim
end

def wipeE (e : En) : List Nat → En
  | [] => e
  | v :: vs => (wipeE e vs).set v none
def lcGo (g : GX) (c f : EX) (env0 : En) (n : Nat) : List D → Stt → R Sv
  | [], s => match s[n]? with
    | some (.lst acc) => if s.length = n + 1 ∧ (s.take n).all (refsLt n) = true then .ok (.d (.list acc)) (s.take n) else .bad
    | _ => .bad
  | d :: r, s => match g d env0 with
    | none => .bad
    | some e => match c e s with
      | .ok x s1 => ifB x (match f e s1 with
          | .ok (.d y) s2 => (match s2[n]? with
            | some (.lst acc) => if acc.length < 100000 then lcGo g c f env0 n r (s2.set n (.lst (acc ++ [y]))) else .bad
            | _ => .bad)
          | _ => .bad) (lcGo g c f env0 n r s1)
      | _ => .bad
def sLc (vs : List Nat) (src : IX) (g : GX) (c f : EX) : EX := fun env st => match src env st with
  | .ok ds s => lcGo g c f (wipeE env vs) s.length ds (s ++ [.lst []])
  | .ex c s => .ex c s
  | .bad => .bad
theorem wipe_setIn : ∀ {vs : List Nat} {σ : L2.St} {i : Nat} {x : Option V}, i ∉ vs → wipe (σ.set i x) vs = (wipe σ vs).set i x
  | [], _, _, _, _ => rfl
  | v :: vs, σ, i, x, h => by
    show (wipe (σ.set i x) vs).set v none = ((wipe σ vs).set v none).set i x
    rw [wipe_setIn (fun z => h (List.mem_cons_of_mem _ z)), List.set_comm]
    exact fun z => h (z ▸ List.mem_cons_self)
theorem wipe_set : ∀ {vs : List Nat} {σ : L2.St} {i : Nat} {x : Option V}, i ∈ vs → wipe (σ.set i x) vs = wipe σ vs
  | v :: vs, σ, i, x, h => by
    show (wipe (σ.set i x) vs).set v none = (wipe σ vs).set v none
    by_cases hi : i ∈ vs
    · rw [wipe_set hi]
    · rw [wipe_setIn hi]
      rcases List.mem_cons.mp h with e | e
      · subst e
        rw [List.set_set]
      · exact absurd e hi
theorem relE_wipe {K : PySem.W.Frag} {G : Hp} {ρ : List Addr} {env : En} {σ : L2.St} (h : RelE K G ρ env σ) : ∀ vs : List Nat, RelE K G ρ (wipeE env vs) (wipe σ vs)
  | [] => h
  | v :: vs => (relE_wipe h vs).unset
/-- a target within a comprehension: the names vs are its own -/
def trGw (K : PySem.W.Frag) (ca : Nat → Addr) (vs : List Nat) (g : GX) : TG := fun v σ H Q => ∃ G ρ env st d, Rel K ca G ρ st H ∧ RelE K G ρ env σ ∧ DR K G v d ∧ match g d env with
  | some env' => ∀ σ', RelE K G ρ env' σ' → wipe σ' vs = wipe σ vs → Q σ' H
  | none => False
def trGsw (K : PySem.W.Frag) (ca : Nat → Addr) (vs : List Nat) (g : GXs) : TGs := fun us σ H Q => ∃ G ρ env st ds, Rel K ca G ρ st H ∧ RelE K G ρ env σ ∧ DRA K G us ds ∧ match g ds env with
  | some env' => ∀ σ', RelE K G ρ env' σ' → wipe σ' vs = wipe σ vs → Q σ' H
  | none => False
abbrev W0 : WX := fun _ _ _ _ => False
section
variable {X : Cx} {ca : Nat → Addr} {W : WX} {e a b c : Expr} {es : List Expr} {f g h : EX} {fs : AX} {pos : Pos} {vs : List Nat}
theorem mgw_name (i : Nat) {x : Str} (hv : i ∈ vs) (hN : X.N.Nodup) (hi : X.N[i]? = some x := by rfl) (hx : Loc X.env.scope x := by first | exact .inl rfl | exact .inr rfl) (hf : X.fn x = true ∨ X.env.scope.names.lookup x = some .local := by first | exact .inl rfl | exact .inr rfl | assumption) : PG X (.Name x pos) (trGw X.K ca vs (gN i)) := by
  refine ⟨fun pins s σ H v u Q I r q => (pg_name hN hi hx hf).run pins s σ H v u Q I r ?_⟩
  obtain ⟨G, ρ, env, st, d, hR, hE, hd, k⟩ := q
  exact k _ (hE.set (x := .d d) hd) (wipe_set hv)
theorem mgsw_nil : PGs X [] (trGsw X.K ca vs gsNil) := by
  refine ⟨fun pins s σ H vs us Q I r q => pgs_nil.run pins s σ H vs us Q I r ?_⟩
  obtain ⟨G, ρ, env, st, ds, hR, hE, hd, k⟩ := q
  cases hd with
  | nil => exact ⟨rfl, k _ hE rfl⟩
  | cons _ _ => exact k.elim
theorem mgsw_cons {g : GX} {gs : GXs} (h1 : PG X e (trGw X.K ca vs g)) (h2 : PGs X es (trGsw X.K ca vs gs))
    (hs : (assignEach (e :: es) X.env).map (·.2) = assign e X.env :: (assignEach es X.env).map (·.2) := by rfl) : PGs X (e :: es) (trGsw X.K ca vs (gsCons g gs)) := by
  refine ⟨fun pins s σ H vs us Q I r q => (pgs_cons h1 h2 hs).run pins s σ H vs us Q I r ?_⟩
  obtain ⟨G, ρ, env, st, ds, hR, hE, hd, k⟩ := q
  cases hd with
  | nil => exact k.elim
  | cons h t =>
    refine ⟨_, _, rfl, G, ρ, env, st, _, hR, hE, h, ?_⟩
    rename_i v vs d ds
    cases e1 : g d env with
    | none => simp only [gsCons, e1] at k
    | some env1 =>
      simp only [gsCons, e1] at k
      intro σ1 E1 l1
      refine ⟨G, ρ, env1, st, ds, hR, E1, t, ?_⟩
      cases e2 : gs ds env1 with
      | none => rw [e2] at k; exact k
      | some env2 =>
        rw [e2] at k
        exact fun σ2 E2 l2 => k σ2 E2 (l2.trans l1)
theorem mgw_tup {gs : GXs} {n : Nat} {k : Nat} (hc : X.calm = true) (h : PGs X es (trGsw X.K ca vs gs)) (hn : (assignEach es X.env).length = n := by rfl) (hst : (assignEach es X.env).findIdx? (·.1) = none := by rfl) : PG X (.Tuple es k pos) (trGw X.K ca vs (gT n gs)) := by
  refine ⟨fun pins s σ H v u Q I r q => (pg_tup hc h hn hst).run pins s σ H v u Q I r ?_⟩
  obtain ⟨G, ρ, env, st, d, hR, hE, hd, k⟩ := q
  cases hd with
  | tup hq ha =>
    unfold gT at k
    simp only at k
    split at k
    · rename_i e1 q1
      split at q1
      · rename_i hl
        exact ⟨_, _, rfl, sameT hR.sub hq, by rw [ha.length, hl], G, ρ, env, st, _, hR, hE, ha, by rw [q1]; exact k⟩
      · cases q1
    · exact k.elim
  | non => exact k.elim
  | bl => exact k.elim
  | int => exact k.elim
  | str => exact k.elim
  | lst _ _ => exact k.elim
theorem lc_in {src : IX} {gx : GX} {tt : TT} (htt : ∀ σ H Q, tB (tr X.K ca W0 g) σ H Q → tt σ H Q) {σ : L2.St} {H : Hp} {Q : VK} (q : tr X.K ca W (sLc vs src gx g f) σ H Q) :
    tLc (trI X.K ca W src) (trGw X.K ca vs gx) tt (tr X.K ca W0 f) vs σ H Q := by
  obtain ⟨G, ρ, env, st, hR, hE, k⟩ := q
  refine ⟨G, ρ, env, st, hR, hE, ?_⟩
  unfold sLc at k
  cases es : src env st with
  | bad => rw [es] at k; exact k
  | ex c s => rw [es] at k; exact k
  | ok ds s0 =>
    rw [es] at k
    intro G1 ρ1 H1 J s1 p1 R1 sJ D hD
    have RA : Rel X.K ca G1 (ρ1 ++ [D]) (s0 ++ [.lst []]) (upd H1 D (.lst [])) := R1.alloc hD ⟨[], upd_same, .nil⟩
    have hn : ρ1.length = s0.length := R1.len
    have hDn : (ρ1 ++ [D])[s0.length]? = some D := by
      rw [← hn, List.getElem?_append_right (Nat.le_refl _), Nat.sub_self]
      rfl
    refine ⟨fun i m H' => m = ds.length - i ∧ i ≤ ds.length ∧ ∃ G' ρ' st', Same G1 G' ∧ (ρ1 ++ [D]) <+: ρ' ∧ Rel X.K ca G' ρ' st' H' ∧ Kn X.K ca W G ρ σ (lcGo gx g f (wipeE env vs) s0.length (ds.drop i) st') Q,
      ⟨ds.length, rfl, Nat.zero_le _, G1, _, _, Same.refl _, List.prefix_refl _, RA, k⟩, fun i m H' hw => ?_⟩
    obtain ⟨hm, hi, G', ρ', st', s', p', R', k'⟩ := hw
    have hD' : ρ'[s0.length]? = some D := pre_get p' hDn
    obtain ⟨q1, q2⟩ := sJ G' ρ' st' H' i s' R'
    by_cases hlt : i < ds.length
    · obtain ⟨g1, g2⟩ := q1 ds[i] (List.getElem?_eq_getElem hlt)
      refine .inr ⟨g1, fun H2 => ∃ G2 ρ2 st2, Same G1 G2 ∧ (ρ1 ++ [D]) <+: ρ2 ∧ Rel X.K ca G2 ρ2 st2 H2 ∧ Kn X.K ca W G ρ σ (lcGo gx g f (wipeE env vs) s0.length (ds.drop (i + 1)) st2) Q, fun H2 h2 => ⟨ds.length - (i + 1), by omega, rfl, hlt, h2⟩, fun x H2 y => ?_⟩
      obtain ⟨G2, s2, R2, d2⟩ := g2 x H2 y
      rw [List.drop_eq_getElem_cons hlt] at k'
      have E2 : RelE X.K G2 ρ' (wipeE env vs) (wipe σ vs) := relE_wipe (hE.mono ((s1.trans s').trans s2) ((p1.trans (List.prefix_append _ _)).trans p')) vs
      refine ⟨G2, ρ', wipeE env vs, st', ds[i], R2, E2, d2, ?_⟩
      unfold lcGo at k'
      cases e3 : gx ds[i] (wipeE env vs) with
      | none => rw [e3] at k'; exact k'
      | some env3 =>
        rw [e3] at k'
        intro σ3 E3 l3
        have w0 : ∀ ws : List Nat, ∀ τ : L2.St, wipe (wipe τ ws) ws = wipe τ ws := by
          intro ws
          have hin : ∀ us : List Nat, (∀ j ∈ us, j ∈ ws) → ∀ τ : L2.St, wipe (wipe τ us) ws = wipe τ ws := by
            intro us
            induction us with
            | nil => intro _ τ; rfl
            | cons j us ih =>
              intro hj τ
              show wipe ((wipe τ us).set j none) ws = wipe τ ws
              rw [wipe_set (hj j List.mem_cons_self)]
              exact ih (fun l hl => hj l (List.mem_cons_of_mem _ hl)) τ
          exact hin ws fun _ h => h
        refine ⟨by rw [l3, w0], htt _ _ _ ⟨G2, ρ', env3, st', R2, E3, ?_⟩⟩
        simp only at k'
        cases e4 : g env3 st' with
        | bad => rw [e4] at k'; exact k'
        | ex c s => rw [e4] at k'; exact k'.elim
        | ok xb s4 =>
          rw [e4] at k'
          intro G4 ρ4 v H4 s4' p4 R4 sb
          by_cases hx : ∃ bb, xb = Sv.d (.bool bb)
          · obtain ⟨bb, rfl⟩ := hx
            cases bool_of sb
            refine ⟨bb, rfl, ?_⟩
            cases bb with
            | false =>
              rw [if_neg Bool.false_ne_true]
              exact ⟨G4, ρ4, s4, (s'.trans s2).trans s4', p'.trans p4, R4, k'⟩
            | true =>
              rw [if_pos rfl]
              refine ⟨G4, ρ4, env3, s4, R4, E3.mono s4' p4, ?_⟩
              have k5 : Kn X.K ca W G ρ σ (match f env3 s4 with
                | .ok (.d y) s2 => (match s2[s0.length]? with
                  | some (.lst acc) => if acc.length < 100000 then lcGo gx g f (wipeE env vs) s0.length (ds.drop (i + 1)) (s2.set s0.length (.lst (acc ++ [y]))) else .bad
                  | _ => .bad)
                | _ => .bad) Q := k'
              cases e5 : f env3 s4 with
              | bad => rw [e5] at k5; exact k5
              | ex c s => rw [e5] at k5; exact k5.elim
              | ok y s5 =>
                rw [e5] at k5
                cases y with
                | r n => exact k5.elim
                | s n => exact k5.elim
                | x n => exact k5.elim
                | d y =>
                  simp only at k5
                  intro G5 ρ5 u H5 s5' p5 R5 sy
                  have hD5 : ρ5[s0.length]? = some D := pre_get (p4.trans p5) hD'
                  split at k5
                  · rename_i acc hacc
                    split at k5
                    · rename_i hl
                      obtain ⟨ws, h1, h2⟩ := R5.obj _ D _ hD5 hacc
                      refine ⟨ws, h1, by rw [h2.length]; exact Nat.lt_of_lt_of_le hl (by decide), ?_⟩
                      exact ⟨G5, ρ5, _, ((s'.trans s2).trans s4').trans s5', (p'.trans p4).trans p5, R5.write hD5 hacc (fun z => by cases z) (o := .lst (acc ++ [y])) ⟨_, upd_same, h2.append (.cons sy .nil)⟩, k5⟩
                    · exact k5.elim
                  · exact k5.elim
          · simp only at k'
            rw [ifB_bad (fun bb z => hx ⟨bb, z⟩)] at k'
            exact k'.elim
    · have e0 : ds.drop i = [] := List.drop_eq_nil_of_le (by omega)
      rw [e0] at k'
      refine .inl ⟨q2 (by omega), ?_⟩
      unfold lcGo at k'
      split at k'
      · rename_i acc hacc
        split at k'
        · rename_i hl
          obtain ⟨ws, h1, h2⟩ := R'.obj _ D _ hD' hacc
          obtain ⟨sm, RF⟩ := R'.freeze (Nat.le_refl _) hD' hacc h1 h2 hl.2
          have hp : ρ1 <+: ρ'.take s0.length := pre_take ((List.prefix_append _ _).trans p') hn
          exact k' _ _ _ H' ((s1.trans s').trans sm) (p1.trans hp) RF (.lst upd_same (h2.mono sm))
        · exact k'.elim
      · exact k'.elim
/-- [elt for tg in iter], [.. if test] -/
theorem m_lc {elt tg iter : Expr} {scope : Scope} {own : List (Str × Nat)} {src : IX} {gx : GX} (hc : X.calm = true) (hN : X.N.Nodup) (hi : PI X tg iter (trI X.K ca W src)) (ok : BlkOk X.N X.env.scope scope own)
    (hg : ∀ (s : Shared) (H : Hp) (C : Addr) (cl : List (Str × Addr)) (fp : List Addr), PG (X.blk s H scope (compEnvC scope cl C X.env) fp) tg (trGw X.K ca (own.map (·.2)) gx))
    (he : ∀ (s : Shared) (H : Hp) (C : Addr) (cl : List (Str × Addr)) (fp : List Addr), PE (X.blk s H scope (compEnvC scope cl C X.env) fp) elt (tr X.K ca W0 f)) (hs : ∀ x, foldedSetIterable iter X.env x = pure x := by intro _; rfl) :
    PE X (.ListComp elt [⟨tg, iter, [], 0⟩] scope pos) (tr X.K ca W (sLc (own.map (·.2)) src gx (sC (.bool true)) f)) :=
  (pe_lc hc hN hi ok hg (fun _ _ _ _ _ => pts_nil) he hs).imp fun σ H Q q => lc_in (fun σ H Q q => by
    obtain ⟨G, ρ, env, st, hR, hE, k⟩ := q
    obtain ⟨b, e, q⟩ := k G ρ (.bl true) H (Same.refl _) (List.prefix_refl _) hR (DR.bl true)
    cases e
    exact q) q
theorem m_lcIf {elt tg iter test : Expr} {scope : Scope} {own : List (Str × Nat)} {src : IX} {gx : GX} (hc : X.calm = true) (hN : X.N.Nodup) (hi : PI X tg iter (trI X.K ca W src)) (ok : BlkOk X.N X.env.scope scope own)
    (hg : ∀ (s : Shared) (H : Hp) (C : Addr) (cl : List (Str × Addr)) (fp : List Addr), PG (X.blk s H scope (compEnvC scope cl C X.env) fp) tg (trGw X.K ca (own.map (·.2)) gx))
    (ht : ∀ (s : Shared) (H : Hp) (C : Addr) (cl : List (Str × Addr)) (fp : List Addr), PT (X.blk s H scope (compEnvC scope cl C X.env) fp) test (tB (tr X.K ca W0 g)))
    (he : ∀ (s : Shared) (H : Hp) (C : Addr) (cl : List (Str × Addr)) (fp : List Addr), PE (X.blk s H scope (compEnvC scope cl C X.env) fp) elt (tr X.K ca W0 f)) (hs : ∀ x, foldedSetIterable iter X.env x = pure x := by intro _; rfl) :
    PE X (.ListComp elt [⟨tg, iter, [test], 0⟩] scope pos) (tr X.K ca W (sLc (own.map (·.2)) src gx g f)) :=
  (pe_lc hc hN hi ok hg (fun s H C cl fp => pts_one (ht s H C cl fp)) he hs).imp fun σ H Q q => lc_in (fun σ H Q q => q) q
/-- name = [..] -/
theorem ms_lc (i : Nat) {y : Str} {py spos : Pos} {elt tg iter : Expr} {scope : Scope} {own : List (Str × Nat)} {src : IX} {gx : GX} (hc : X.calm = true) (hN : X.N.Nodup) (hi : PI X tg iter (trI X.K ca W src)) (ok : BlkOk X.N X.env.scope scope own)
    (hg : ∀ (s : Shared) (H : Hp) (C : Addr) (cl : List (Str × Addr)) (fp : List Addr), PG (X.blk s H scope (compEnvC scope cl C X.env) fp) tg (trGw X.K ca (own.map (·.2)) gx))
    (he : ∀ (s : Shared) (H : Hp) (C : Addr) (cl : List (Str × Addr)) (fp : List Addr), PE (X.blk s H scope (compEnvC scope cl C X.env) fp) elt (tr X.K ca W0 f)) (hy : X.N[i]? = some y := by rfl) (hyl : X.env.scope.names.lookup y = some .local := by rfl)
    (hsw : swapsWith (.ListComp elt [⟨tg, iter, [], 0⟩] scope pos) (some (.Name y py)) spos.line X.env = pure true := by exact sw_true rfl rfl rfl (by decide +kernel)) (hs : ∀ x, foldedSetIterable iter X.env x = pure x := by intro _; rfl) :
    PS X (.Assign [.Name y py] (.ListComp elt [⟨tg, iter, [], 0⟩] scope pos) spos) (trS X.K ca W (bSet i (sLc (own.map (·.2)) src gx (sC (.bool true)) f))) :=
  (ps_setLc hc hN hy hyl hsw hi ok hg (fun _ _ _ _ _ => pts_nil) he hs).imp fun D σ H q => by
    have q' := set_in q
    exact lc_in (fun σ H Q q => by
      obtain ⟨G, ρ, env, st, hR, hE, k⟩ := q
      obtain ⟨b, e, q⟩ := k G ρ (.bl true) H (Same.refl _) (List.prefix_refl _) hR (DR.bl true)
      cases e
      exact q) q'
theorem ms_lcIf (i : Nat) {y : Str} {py spos : Pos} {elt tg iter test : Expr} {scope : Scope} {own : List (Str × Nat)} {src : IX} {gx : GX} (hc : X.calm = true) (hN : X.N.Nodup) (hi : PI X tg iter (trI X.K ca W src)) (ok : BlkOk X.N X.env.scope scope own)
    (hg : ∀ (s : Shared) (H : Hp) (C : Addr) (cl : List (Str × Addr)) (fp : List Addr), PG (X.blk s H scope (compEnvC scope cl C X.env) fp) tg (trGw X.K ca (own.map (·.2)) gx))
    (ht : ∀ (s : Shared) (H : Hp) (C : Addr) (cl : List (Str × Addr)) (fp : List Addr), PT (X.blk s H scope (compEnvC scope cl C X.env) fp) test (tB (tr X.K ca W0 g)))
    (he : ∀ (s : Shared) (H : Hp) (C : Addr) (cl : List (Str × Addr)) (fp : List Addr), PE (X.blk s H scope (compEnvC scope cl C X.env) fp) elt (tr X.K ca W0 f)) (hy : X.N[i]? = some y := by rfl) (hyl : X.env.scope.names.lookup y = some .local := by rfl)
    (hsw : swapsWith (.ListComp elt [⟨tg, iter, [test], 0⟩] scope pos) (some (.Name y py)) spos.line X.env = pure true := by exact sw_true rfl rfl rfl (by decide +kernel)) (hs : ∀ x, foldedSetIterable iter X.env x = pure x := by intro _; rfl) :
    PS X (.Assign [.Name y py] (.ListComp elt [⟨tg, iter, [test], 0⟩] scope pos) spos) (trS X.K ca W (bSet i (sLc (own.map (·.2)) src gx g f))) :=
  (ps_setLc hc hN hy hyl hsw hi ok hg (fun s H C cl fp => pts_one (ht s H C cl fp)) he hs).imp fun D σ H q => by
    have q' := set_in q
    exact lc_in (fun σ H Q q => q) q'
end

def isLst (x : Sv) (s : Stt) : Bool := match x with
  | .r n => match s[n]? with
    | some (.lst _) => true
    | _ => false
  | _ => false
def appR (x y : Sv) (s : Stt) : R Sv := match x, y with
  | .r n, .d d => (match s[n]? with
    | some (.lst ds) => if ds.length < 100000 then .ok (.d .none) (s.set n (.lst (ds ++ [d]))) else .bad
    | _ => .bad)
  | _, _ => .bad
def extR (x y : Sv) (s : Stt) : R Sv := match x with
  | .r n => (match s[n]?, toL s y with
    | some (.lst ds), some es => if ds.length + es.length ≤ 100000 then .ok (.d .none) (s.set n (.lst (ds ++ es))) else .bad
    | _, _ => .bad)
  | _ => .bad
def popR (x : Sv) (s : Stt) : R Sv := match x with
  | .r n => (match s[n]? with
    | some (.lst ds) => (match ds[ds.length - 1]? with
      | some d => .ok (.d d) (s.set n (.lst ds.dropLast))
      | none => .bad)
    | _ => .bad)
  | _ => .bad
def sMut (m : Sv → Sv → Stt → R Sv) (f g : EX) : EX := fun env st => bindR (f env st) fun x s => if isLst x s then bindR (g env s) fun y s => m x y s else .bad
def sPop (f : EX) : EX := fun env st => bindR (f env st) fun x s => popR x s
theorem DRA.dropLast {K : PySem.W.Frag} {G : Hp} {vs : List V} {ds : List D} (h : DRA K G vs ds) : DRA K G vs.dropLast ds.dropLast := by
  rw [List.dropLast_eq_take, List.dropLast_eq_take, h.length]
  exact h.take _
theorem lst_ty {K : PySem.W.Frag} {ca : Nat → Addr} {G H : Hp} {ρ : List Addr} {st : Stt} {x : Sv} {v : V} (R : Rel K ca G ρ st H) (h : SR K G ρ x v) (e : isLst x st = true) : tyV K "list" v H := by
  unfold isLst at e
  split at e
  · rename_i n
    obtain ⟨a, h1, rfl⟩ := h
    split at e
    · rename_i ds hs
      obtain ⟨vs, g1, g2⟩ := R.obj n a _ h1 hs
      exact .inl ⟨rfl, _, SqL.of g1⟩
    · cases e
  · cases e
section
variable {X : Cx} {ca : Nat → Addr} {W : WX} {o e : Expr} {f g : EX} {apos cpos : Pos}
theorem m_append (ho : PE X o (tr X.K ca W f)) (he : PE X e (tr X.K ca W g)) (hbase : attributeBase o "append" X.env (eval o X.env) = eval o X.env := by rfl)
    (hfew : ((backTo cpos (starEach [e] X.env)).all (fun x => !x.1) && (backToKw cpos (keywordEach [] X.env)).all (fun x => x.1.isSome)
      && decide (([e] : List Expr).length + ([] : List Keyword).length + (if ([] : List Keyword).isEmpty then 0 else 1) < 30)) = true := by rfl)
    (hline : (apos.endLine == cpos.line) = true := by rfl) (hs : starEach [e] X.env = (false, eval e X.env) :: starEach [] X.env := by rfl) (hpl : (backTo cpos (starEach [] X.env)).any (·.1) = false := by rfl) : PE X (.Call (.Attribute o "append" apos) [e] [] cpos) (tr X.K ca W (sMut appR f g)) :=
  (pe_bm PySem.F.plainAttrs_list PySem.F.slot_list_append PySem.F.type_list_append mt_append ho (pa_cons he pa_nil hs) hbase hfew hline hs hpl).imp fun σ H Q q => by
  obtain ⟨G, ρ, env, st, hR, hE, k⟩ := q
  refine tr_seq hR hE k fun G1 ρ1 v H1 x st1 s1 p1 R1 E1 sx k1 => ?_
  by_cases hl : isLst x st1 = true
  · rw [if_pos hl] at k1
    refine ⟨lst_ty R1 sx hl, tr_seq R1 E1 k1 fun G2 ρ2 w H2 y st2 s2 p2 R2 E2 sy k2 => ?_⟩
    unfold appR at k2
    split at k2
    · rename_i n d
      obtain ⟨a, h1, rfl⟩ := sx
      split at k2
      · rename_i ds hs
        split at k2
        · rename_i hz
          obtain ⟨vs, g1, g2⟩ := R2.obj n a _ (pre_get p2 h1) hs
          refine ⟨a, vs, w, rfl, rfl, g1, by rw [g2.length]; exact Nat.lt_of_lt_of_le hz (by decide), ?_⟩
          exact k2 G2 ρ2 .non _ (Same.refl _) (List.prefix_refl _) (R2.write (pre_get p2 h1) hs (fun z => by cases z) (o := .lst (ds ++ [d])) ⟨_, upd_same, g2.append (.cons sy .nil)⟩) .non
        · exact k2.elim
      · exact k2.elim
    · exact k2.elim
  · rw [if_neg hl] at k1
    exact k1.elim
theorem m_extend (ho : PE X o (tr X.K ca W f)) (he : PE X e (tr X.K ca W g)) (hbase : attributeBase o "extend" X.env (eval o X.env) = eval o X.env := by rfl)
    (hfew : ((backTo cpos (starEach [e] X.env)).all (fun x => !x.1) && (backToKw cpos (keywordEach [] X.env)).all (fun x => x.1.isSome)
      && decide (([e] : List Expr).length + ([] : List Keyword).length + (if ([] : List Keyword).isEmpty then 0 else 1) < 30)) = true := by rfl)
    (hline : (apos.endLine == cpos.line) = true := by rfl) (hs : starEach [e] X.env = (false, eval e X.env) :: starEach [] X.env := by rfl) (hpl : (backTo cpos (starEach [] X.env)).any (·.1) = false := by rfl) : PE X (.Call (.Attribute o "extend" apos) [e] [] cpos) (tr X.K ca W (sMut extR f g)) :=
  (pe_bm PySem.F.plainAttrs_list PySem.F.slot_list_extend PySem.F.type_list_extend mt_extend ho (pa_cons he pa_nil hs) hbase hfew hline hs hpl).imp fun σ H Q q => by
  obtain ⟨G, ρ, env, st, hR, hE, k⟩ := q
  refine tr_seq hR hE k fun G1 ρ1 v H1 x st1 s1 p1 R1 E1 sx k1 => ?_
  by_cases hl : isLst x st1 = true
  · rw [if_pos hl] at k1
    refine ⟨lst_ty R1 sx hl, tr_seq R1 E1 k1 fun G2 ρ2 w H2 y st2 s2 p2 R2 E2 sy k2 => ?_⟩
    unfold extR at k2
    split at k2
    · rename_i n
      obtain ⟨a, h1, rfl⟩ := sx
      split at k2
      · rename_i ds es hs hy
        split at k2
        · rename_i hz
          obtain ⟨vs, g1, g2⟩ := R2.obj n a _ (pre_get p2 h1) hs
          obtain ⟨b, ws, rfl, j1, j2⟩ := sy.toL R2 hy
          refine ⟨a, b, vs, ws, rfl, rfl, g1, j1, by rw [g2.length, j2.length]; exact sz100 hz, ?_⟩
          exact k2 G2 ρ2 .non _ (Same.refl _) (List.prefix_refl _) (R2.write (pre_get p2 h1) hs (fun z => by cases z) (o := .lst (ds ++ es)) ⟨_, upd_same, g2.append j2⟩) .non
        · exact k2.elim
      · exact k2.elim
    · exact k2.elim
  · rw [if_neg hl] at k1
    exact k1.elim
theorem m_pop (ho : PE X o (tr X.K ca W f)) (hbase : attributeBase o "pop" X.env (eval o X.env) = eval o X.env := by rfl) (hline : (apos.endLine == cpos.line) = true := by rfl) : PE X (.Call (.Attribute o "pop" apos) [] [] cpos) (tr X.K ca W (sPop f)) :=
  (pe_bm0 PySem.F.plainAttrs_list PySem.F.slot_list_pop PySem.F.type_list_pop mt_pop ho hbase hline).imp fun σ H Q q => by
  obtain ⟨G, ρ, env, st, hR, hE, k⟩ := q
  refine tr_seq hR hE k fun G1 ρ1 v H1 x st1 s1 p1 R1 E1 sx k1 => ?_
  unfold popR at k1
  split at k1
  · rename_i n
    obtain ⟨a, h1, rfl⟩ := sx
    split at k1
    · rename_i ds hs
      split at k1
      · rename_i d hd
        obtain ⟨vs, g1, g2⟩ := R1.obj n a _ h1 hs
        obtain ⟨u, e1, r1⟩ := g2.get hd
        refine ⟨.inl ⟨rfl, _, SqL.of g1⟩, a, vs, u, rfl, rfl, g1, by rw [g2.length]; exact e1, ?_⟩
        exact k1 G1 ρ1 u _ (Same.refl _) (List.prefix_refl _) (R1.write h1 hs (fun z => by cases z) (o := .lst ds.dropLast) ⟨_, upd_same, g2.dropLast⟩) r1
      · exact k1.elim
    · exact k1.elim
  · exact k1.elim
end
end DL

namespace DL
open PySem PySem.Spec PyProof.Rows L2

def negD (x : Sv) (_ : Stt) : Option D := match x with
  | .d (.int i) => some (.int (-i))
  | _ => none
/-- a list times an int -/
def repLD (x y : Sv) (_ : Stt) : Option D := match x, y with
  | .d (.list ds), .d (.int k) => if -(2 ^ 63) ≤ k ∧ k < 2 ^ 63 ∧ szOk (ds.length * k.toNat) = true then some (.list (List.replicate k.toNat ds).flatten) else none
  | _, _ => none
section
variable {X : Cx} {ca : Nat → Addr} {W : WX}
theorem us_neg : UnS X.K ca (rU fun i => .int (-i)) negD := by
  intro G ρ st H x v d Q R sx e k
  unfold negD at e
  split at e
  · cases e
    cases int_of sx
    exact ⟨_, rfl, k G _ H (Same.refl _) R (.int _)⟩
  · cases e
theorem os_repL : OpS X.K ca rRep repLD := by
  intro G ρ st H x y v w d Q R sx sy e k
  unfold repLD at e
  split at e
  · split at e
    · rename_i h
      cases e
      cases int_of sy
      cases sx with
      | lst h1 h2 =>
        refine ⟨_, _, _, rfl, rfl, R.sub _ _ h1, h.1, h.2.1, by rw [h2.length]; exact szOk_le h.2.2, fun p hp => ?_⟩
        obtain ⟨s', R'⟩ := R.frozen (o := .lst _) hp
        exact k _ _ _ s' R' (.lst upd_same ((h2.rep _).mono s'))
    · cases e
  · cases e
end
/-- a constant of the module -/
structure Gl1 (K : PySem.W.Frag) (mg : Str → Option Value) (x : Str) (d : D) : Prop where
  ex : ∃ v u, mg x = some u ∧ RelV v u ∧ ∀ G, DR K G v d
theorem m_gl {X : Cx} {ca : Nat → Addr} {W : WX} {x : Str} {d : D} {pos : Pos} (T : Gl1 X.K X.mg x d) (hg : Gl X x := by rfl) (hd : (x == ("__debug__" : Str)) = false := by decide) : PE X (.Name x pos) (tr X.K ca W (sC d)) := by
  obtain ⟨v, u, h1, h2, h3⟩ := T.ex
  exact m_c h3 (pe_glob hg h1 h2 hd)
theorem gl_int {K : PySem.W.Frag} {mg : Str → Option Value} {x : Str} {i : Int} {t : Tok} (h : mg x = some (.int i t)) : Gl1 K mg x (.int i) := ⟨.int i, _, h, ⟨t, rfl⟩, fun _ => .int i⟩
theorem gl_str {K : PySem.W.Frag} {mg : Str → Option Value} {x : Str} {i : Str} {t : Tok} (h : mg x = some (.str i t)) : Gl1 K mg x (.str i) := ⟨.str i, _, h, ⟨t, rfl⟩, fun _ => .str i⟩
theorem gl_top {K : PySem.W.Frag} {mg : Str → Option Value} {x : Str} {a : Addr} {i j : Int} {t u : Tok} {dd : Option Addr} {n : Nat} {sl : Array (Option Value)} (h : mg x = some (.ref a)) (l : K.lookup a = some ⟨.type "tuple", dd, .seq #[.int i t, .int j u] n, sl⟩) : Gl1 K mg x (.tuple [.int i, .int j]) :=
  ⟨.ref a, _, h, rfl, fun G => .tup (.inr ⟨_, _, _, l, rfl, rfl, by show 2 ≤ sizeLine; decide, .cons (show RelV (V.int i) _ from ⟨t, rfl⟩) (.cons (show RelV (V.int j) _ from ⟨u, rfl⟩) .nil)⟩) (.cons (.int i) (.cons (.int j) .nil))⟩
/-- a def of the module -/
structure FnT (K : PySem.W.Frag) (mg : Str → Option Value) (x : Str) (st : Stmt) (ps : List Str) where
  f : Addr
  fd : FuncData
  F : Fun K x x st f fd
  g : mg x = some (.ref f)
  b : Binds K fd ps []
/-- an exception class of the module -/
structure ExT (K : PySem.W.Frag) (mg : Str → Option Value) (x : Str) (C : Addr) : Prop where
  g : mg x = some (.ref C)
  x : PySem.W.excIn K C [.type "ValueError", .type "Exception", .type "BaseException", .type "object"] "ValueError.__new__" = true
  k : PySem.W.keepIn K (.ref C) = true
  s : PySem.W.subIn K (.ref C) (.type "BaseException") = some true
  t : PySem.W.typeIn K (.ref C) = some (.type "type")
theorem ExT.r {K : PySem.W.Frag} {mg : Str → Option Value} {x : Str} {C : Addr} (T : ExT K mg x C) {X : Cx} (h : X.K = K) : Raises X (.ref C) := raises_own (by rw [h]; exact T.s) (by rw [h]; exact T.t)
theorem Room.units1 {k : Nat} {A : Around} (r : L2.Room k A) : A.units + 65 < cLine := by
  have := r.un
  omega
def spLaw (K : PySem.W.Frag) : Sp := fun vs H Q _ => ∃ (a : Addr) (ns : List Int), vs = [.ref a] ∧ SqL K H a (ns.map V.int) ∧ ns.length ≤ 63 ∧ ∀ H', Q (.bl true) H'
theorem law_ok {P : Program} {w : World} {K : PySem.W.Frag} {mg : Str → Option Value} {base : Heap} {ca : Nat → Addr} {k : Nat} {f : Addr} {fd : FuncData} {ps : List Str} {F : List Sv → Stt → R Sv} (h : FnOk P w K mg base (L2.CX P w) k f fd ps (spF K ca F))
    (hF : ∀ ns : List Int, ns.length ≤ 63 → ∃ s, F [.s ns] [] = .ok (.d (.bool true)) s) : FnOk P w K mg base (L2.CX P w) k f fd ps (spLaw K) := by
  refine h.imp fun vs H Q E q => ?_
  obtain ⟨a, ns, rfl, hS, hl, q⟩ := q
  obtain ⟨s, e⟩ := hF ns hl
  refine ⟨H, [], [], [.s ns], ⟨Same.refl _, rfl, List.nodup_nil, (fun n a o h1 => by cases n <;> cases h1), (fun n a o h1 => by cases h1)⟩, .cons ⟨a, rfl, hS⟩ .nil, ?_⟩
  rw [e]
  intro G' ρ' v H' s' p R d
  cases bool_of d
  exact q H'
theorem law_cx {P : Program} {w : World} {H : Hp} {s : Shared} {e : Value} {s' : Shared} (h : L2.CX P w [] H s (fun _ _ _ => False) e s') : False := by
  obtain ⟨_, _, _, _, _, _, _, _, _, _, _, _, q⟩ := h
  exact q
end DL

namespace DL
open PySem PySem.Spec PyProof.Rows L2

section
variable {α β : Type} {env : En} {st s : Stt} {f g h c a b : EX} {fs : AX} {B C : SX} {x y : Sv} {i j l n : Nat} {d d' : D}
@[simp] theorem bindR_ok {a : α} {k : α → Stt → R β} : bindR (.ok a s) k = k a s := rfl
@[simp] theorem bindR_ex {k : α → Stt → R β} : bindR (.ex n s : R α) k = .ex n s := rfl
@[simp] theorem bindR_bad {k : α → Stt → R β} : bindR (.bad : R α) k = .bad := rfl
@[simp] theorem bindS_ok {k : Sv → Stt → RS} : bindS (.ok x s) k = k x s := rfl
@[simp] theorem bindS_ex {k : Sv → Stt → RS} : bindS (.ex n s) k = .ex n s := rfl
@[simp] theorem bindS_bad {k : Sv → Stt → RS} : bindS .bad k = .bad := rfl
def varR (o : Option (Option Sv)) (st : Stt) : R Sv := match o with
  | some (some x) => .ok x st
  | _ => .bad
@[simp] theorem sVar_ap : sVar i env st = varR env[i]? st := by unfold sVar varR; rfl
@[simp] theorem varR_ap : varR (some (some x)) st = .ok x st := rfl
@[simp] theorem sC_ap : sC d env st = .ok (.d d) st := rfl
@[simp] theorem optR_some : optR (some d) s = .ok (.d d) s := rfl
@[simp] theorem optR_none : optR none s = .bad := rfl
@[simp] theorem sBin_ap {g : Sv → Sv → Stt → Option D} : sBin g a b env st = bindR (a env st) fun x s => bindR (b env s) fun y s => optR (g x y s) s := rfl
@[simp] theorem sUn_ap {g : Sv → Stt → Option D} : sUn g a env st = bindR (a env st) fun x s => optR (g x s) s := rfl
@[simp] theorem aNil_ap : aNil env st = .ok [] st := rfl
@[simp] theorem aCons_ap : aCons f fs env st = bindR (f env st) fun x s => bindR (fs env s) fun xs s => .ok (x :: xs) s := rfl
@[simp] theorem sCB_ap {g : List Sv → Stt → Option D} : sCB g fs env st = bindR (fs env st) fun xs s => optR (g xs s) s := rfl
@[simp] theorem sCall_ap {F : List Sv → Stt → R Sv} : sCall F fs env st = bindR (fs env st) fun xs s => F xs s := rfl
@[simp] theorem asData_nil : asData [] = some [] := rfl
@[simp] theorem asData_cons {xs : List Sv} : asData (.d d :: xs) = (asData xs).map (d :: ·) := by
  show (match asData xs with | some ds => some (d :: ds) | none => none) = _
  cases asData xs <;> rfl
def tupD (xs : List Sv) (_ : Stt) : Option D := match asData xs with
  | some ds => if ds.length ≤ 100000 then some (.tuple ds) else none
  | none => none
def lstD (xs : List Sv) (_ : Stt) : Option D := match asData xs with
  | some ds => if ds.length ≤ 100000 then some (.list ds) else none
  | none => none
theorem tupD_ap {xs : List Sv} {ds : List D} (h : asData xs = some ds) (hl : ds.length ≤ 100000) : tupD xs s = some (.tuple ds) := by
  unfold tupD
  rw [h]
  exact if_pos hl
@[simp] theorem sTup_ap : sTup fs env st = bindR (fs env st) fun xs s => optR (tupD xs s) s := rfl
@[simp] theorem sLst_ap : sLst fs env st = bindR (fs env st) fun xs s => optR (lstD xs s) s := rfl
@[simp] theorem tupD_0 : tupD [] s = some (.tuple []) := rfl
@[simp] theorem tupD_1 : tupD [.d d] s = some (.tuple [d]) := rfl
@[simp] theorem tupD_2 {d1 d2 : D} : tupD [.d d1, .d d2] s = some (.tuple [d1, d2]) := rfl
@[simp] theorem tupD_3 {d1 d2 d3 : D} : tupD [.d d1, .d d2, .d d3] s = some (.tuple [d1, d2, d3]) := rfl
@[simp] theorem lstD_0 : lstD [] s = some (.list []) := rfl
@[simp] theorem lstD_1 : lstD [.d d] s = some (.list [d]) := rfl
@[simp] theorem lstD_2 {d1 d2 : D} : lstD [.d d1, .d d2] s = some (.list [d1, d2]) := rfl
@[simp] theorem lstD_3 {d1 d2 d3 : D} : lstD [.d d1, .d d2, .d d3] s = some (.list [d1, d2, d3]) := rfl
def lstMR (xs : List Sv) (s : Stt) : R Sv := match asData xs with | some ds => if ds.length ≤ 100000 then .ok (.r s.length) (s ++ [.lst ds]) else .bad | none => .bad
@[simp] theorem sLstM_ap : sLstM fs env st = bindR (fs env st) fun xs s => lstMR xs s := rfl
theorem lstMR_0 : lstMR [] s = .ok (.r s.length) (s ++ [.lst []]) := rfl
theorem lstMR_ap {xs : List Sv} {ds : List D} (h : asData xs = some ds) (hl : ds.length ≤ 100000) : lstMR xs s = .ok (.r s.length) (s ++ [.lst ds]) := by
  unfold lstMR
  rw [h]
  exact if_pos hl
@[simp] theorem ifB_t {t e : R α} : ifB (.d (.bool true)) t e = t := rfl
@[simp] theorem ifB_f {t e : R α} : ifB (.d (.bool false)) t e = e := rfl
@[simp] theorem ifB_b {t e : R α} {b : Bool} : ifB (.d (.bool b)) t e = if b = true then t else e := by cases b <;> rfl
@[simp high] theorem ifB_and {b x : Bool} {s : Stt} : ifB (.d (.bool b)) (.ok (.d (.bool x)) s : R Sv) (.ok (.d (.bool false)) s) = .ok (.d (.bool (b && x))) s := by cases b <;> rfl
@[simp high] theorem ifB_or {b x : Bool} {s : Stt} : ifB (.d (.bool b)) (.ok (.d (.bool true)) s : R Sv) (.ok (.d (.bool x)) s) = .ok (.d (.bool (b || x))) s := by cases b <;> rfl
@[simp] theorem ifS_t {t e : RS} : ifS (.d (.bool true)) t e = t := rfl
@[simp] theorem ifS_f {t e : RS} : ifS (.d (.bool false)) t e = e := rfl
@[simp] theorem ifS_b {t e : RS} {b : Bool} : ifS (.d (.bool b)) t e = if b = true then t else e := by cases b <;> rfl
@[simp] theorem notB_b {b : Bool} : notB (.d (.bool b)) s = .ok (.d (.bool (!b))) s := rfl
@[simp] theorem sAnd_ap : sAnd a b env st = bindR (a env st) fun x s => ifB x (b env s) (.ok (.d (.bool false)) s) := rfl
@[simp] theorem sOr_ap : sOr a b env st = bindR (a env st) fun x s => ifB x (.ok (.d (.bool true)) s) (b env s) := rfl
@[simp] theorem sNot_ap : sNot a env st = bindR (a env st) fun x s => notB x s := rfl
@[simp] theorem sIte_ap : sIte c a b env st = bindR (c env st) fun x s => ifB x (a env s) (b env s) := rfl
def chR (o : Option D) (s : Stt) (k : R Sv) : R Sv := match o with
  | some (.bool true) => k
  | some (.bool false) => .ok (.d (.bool false)) s
  | _ => .bad
@[simp] theorem chR_b {b : Bool} {k : R Sv} : chR (some (.bool b)) s k = if b = true then k else .ok (.d (.bool false)) s := by cases b <;> rfl
@[simp high] theorem chR_and {b x : Bool} {s : Stt} : chR (some (.bool b)) s (.ok (.d (.bool x)) s) = .ok (.d (.bool (b && x))) s := by cases b <;> rfl
@[simp] theorem sChain_ap {g g' : Sv → Sv → Stt → Option D} : sChain g g' a b c env st = bindR (a env st) fun x s => bindR (b env s) fun y s => chR (g x y s) s (bindR (c env s) fun z s => optR (g' y z s) s) := by
  unfold sChain chR
  rfl
@[simp] theorem bRet_ap : bRet f env st = bindS (f env st) fun x s => .rt x s := rfl
@[simp] theorem bRetN_ap : bRetN env st = .rt (.d .none) st := rfl
@[simp] theorem bDrop_ap : bDrop f env st = bindS (f env st) fun _ s => .nx env s := rfl
@[simp] theorem bSet_ap : bSet i f env st = bindS (f env st) fun x s => .nx (env.set i (some x)) s := rfl
@[simp] theorem bPar_ap : bPar i j f g env st = bindS (f env st) fun x s => bindS (g env s) fun y s => .nx ((env.set i (some x)).set j (some y)) s := rfl
@[simp] theorem bPar3_ap : bPar3 i j l f g h env st = bindS (f env st) fun x s => bindS (g env s) fun y s => bindS (h env s) fun z s => .nx (((env.set i (some x)).set j (some y)).set l (some z)) s := rfl
@[simp] theorem bNext_ap : bNext env st = .nx env st := rfl
def seqR (r : RS) (g : SX) : RS := match r with
  | .nx e s => g e s
  | .rt x s => .rt x s
  | .ex c s => .ex c s
  | .bad => .bad
@[simp] theorem seqR_nx {e : En} : seqR (.nx e s) B = B e s := rfl
@[simp] theorem seqR_rt : seqR (.rt x s) B = .rt x s := rfl
@[simp] theorem seqR_ex : seqR (.ex n s) B = .ex n s := rfl
@[simp] theorem seqR_bad : seqR .bad B = .bad := rfl
@[simp] theorem bSeq_ap : bSeq B C env st = seqR (B env st) C := by unfold bSeq seqR; rfl
def frzL (i n : Nat) (o : Option Ob) (env : En) (st : Stt) (g : SX) : RS := match o with
  | some (.lst ds) => g (env.set i (some (.d (.list ds)))) (st.set n .gone)
  | _ => .bad
def frzR (i : Nat) (o : Option (Option Sv)) (env : En) (st : Stt) (g : SX) : RS := match o with
  | some (some (.r n)) => frzL i n st[n]? env st g
  | _ => .bad
@[simp] theorem frzL_ap {ds : List D} : frzL i n (some (.lst ds)) env st B = B (env.set i (some (.d (.list ds)))) (st.set n .gone) := rfl
@[simp] theorem frzR_ap : frzR i (some (some (.r n))) env st B = frzL i n st[n]? env st B := rfl
@[simp] theorem bFrz_ap : bFrz i B env st = frzR i env[i]? env st B := by unfold bFrz frzR frzL; rfl
@[simp] theorem bIf_ap : bIf c B C env st = bindS (c env st) fun x s => ifS x (B env s) (C env s) := rfl
@[simp] theorem bRaise_ap : bRaise n env st = .ex n st := rfl
def tgtR (g : GX) (x : Sv) (env : En) (s : Stt) : RS := match x with
  | .d d => match g d env with
    | some e => .nx e s
    | none => .bad
  | _ => .bad
@[simp] theorem bTgt_ap {g : GX} : bTgt g f env st = bindS (f env st) fun x s => tgtR g x env s := rfl
def oNx (o : Option En) (s : Stt) : RS := match o with
  | some e => .nx e s
  | none => .bad
@[simp] theorem oNx_some {e : En} : oNx (some e) s = .nx e s := rfl
@[simp] theorem tgtR_d {g : GX} : tgtR g (.d d) env s = oNx (g d env) s := rfl
@[simp] theorem gN_ap : gN i d env = some (env.set i (some (.d d))) := rfl
@[simp] theorem gsNil_ap : gsNil [] env = some env := rfl
@[simp] theorem gsCons_ap {g : GX} {gs : GXs} {r : List D} : gsCons g gs (d :: r) env = (g d env).bind fun e => gs r e := by
  show (match g d env with | some e => gs r e | none => none) = _
  cases g d env <;> rfl
@[simp] theorem gT_ap {gs : GXs} {ds : List D} : gT n gs (.tuple ds) env = if ds.length = n then gs ds env else none := rfl
@[simp] theorem gL_ap {gs : GXs} {ds : List D} : gL n gs (.list ds) env = if ds.length = n then gs ds env else none := rfl
theorem bWhile_ap : bWhile c B env st = wh c B fuel env st := rfl
theorem wh_succ : wh c B (n + 1) env st = bindS (c env st) fun x s => ifS x (seqR (B env s) (wh c B n)) (.nx env s) := rfl
theorem bFor_ap {src : IX} {g : GX} {ds : List D} (h : src env st = .ok ds s) : bFor src g B env st = fo g B ds env s := by
  unfold bFor
  rw [h]
@[simp] theorem fo_nil {g : GX} : fo g B [] env st = .nx env st := rfl
theorem fo_cons {g : GX} {r : List D} {e : En} (h : g d env = some e) : fo g B (d :: r) env st = seqR (B e st) (fo g B r) := by
  show (match g d env with | some e => _ | none => _) = _
  rw [h]
  rfl
@[simp] theorem foN_cons {r : List D} : fo (gN i) B (d :: r) env st = seqR (B (env.set i (some (.d d))) st) (fo (gN i) B r) := fo_cons rfl
@[simp] theorem outR_nx : outR (.nx env s) = .ok (.d .none) s := rfl
@[simp] theorem outR_rt : outR (.rt x s) = .ok x s := rfl
@[simp] theorem outR_ex : outR (.ex n s) = .ex n s := rfl
@[simp] theorem outR_bad : outR .bad = .bad := rfl
theorem runB_ap {xs : List Sv} : runB n B xs st = outR (B (startE n xs) st) := rfl
@[simp] theorem addD_ii {i j : Int} : addD (.d (.int i)) (.d (.int j)) s = some (.int (i + j)) := rfl
@[simp] theorem subD_ii {i j : Int} : subD (.d (.int i)) (.d (.int j)) s = some (.int (i - j)) := rfl
@[simp] theorem mulD_ii {i j : Int} : mulD (.d (.int i)) (.d (.int j)) s = if mulOk i j then some (.int (i * j)) else none := rfl
@[simp] theorem fdivD_ii {i j : Int} : fdivD (.d (.int i)) (.d (.int j)) s = if 0 < j ∧ j < 1073741824 then some (.int (i / j)) else none := rfl
@[simp] theorem modD_ii {i j : Int} : modD (.d (.int i)) (.d (.int j)) s = if 0 < j then some (.int (i % j)) else none := rfl
@[simp] theorem powD_ii {i j : Int} : powD (.d (.int i)) (.d (.int j)) s = if 0 ≤ j ∧ j ≤ 1000000 ∧ i.natAbs < 2 ^ 64 then some (.int (i ^ j.toNat)) else none := rfl
@[simp] theorem negD_i {i : Int} : negD (.d (.int i)) s = some (.int (-i)) := rfl
@[simp] theorem cmpD_ii {p : Int → Int → Bool} {i j : Int} : cmpD p (.d (.int i)) (.d (.int j)) s = some (.bool (p i j)) := rfl
@[simp] theorem eqD_ii {i j : Int} : eqD (.d (.int i)) (.d (.int j)) s = some (.bool (i == j)) := rfl
@[simp] theorem neD_ii {i j : Int} : neD (.d (.int i)) (.d (.int j)) s = some (.bool (!(i == j))) := rfl
@[simp] theorem eqD_bb {i j : Bool} : eqD (.d (.bool i)) (.d (.bool j)) s = some (.bool (i == j)) := rfl
@[simp] theorem neD_bb {i j : Bool} : neD (.d (.bool i)) (.d (.bool j)) s = some (.bool (!(i == j))) := rfl
@[simp] theorem isBD_bb {i j : Bool} : isBD (.d (.bool i)) (.d (.bool j)) s = some (.bool (decide (i = j))) := rfl
@[simp] theorem notBD_bb {i j : Bool} : notBD (.d (.bool i)) (.d (.bool j)) s = some (.bool (!decide (i = j))) := rfl
@[simp] theorem isND_n {x : Sv} : isND x (.d .none) s = some (.bool (isN x)) := rfl
@[simp] theorem notND_n {x : Sv} : notND x (.d .none) s = some (.bool (!isN x)) := rfl
@[simp] theorem ixD_t {ds : List D} {i : Int} : ixD (.d (.tuple ds)) (.d (.int i)) s = atI ds i := rfl
@[simp] theorem ixD_l {ds : List D} {i : Int} : ixD (.d (.list ds)) (.d (.int i)) s = atI ds i := rfl
@[simp] theorem at2_0 {a b : α} : atI [a, b] 0 = some a := rfl
@[simp] theorem at2_1 {a b : α} : atI [a, b] 1 = some b := rfl
@[simp] theorem max2D_ii {i j : Int} : max2D [.d (.int i), .d (.int j)] s = some (.int (if j > i then j else i)) := rfl
@[simp] theorem min2D_ii {i j : Int} : min2D [.d (.int i), .d (.int j)] s = some (.int (if j < i then j else i)) := rfl
@[simp] theorem lenD_t {ds : List D} : lenD [.d (.tuple ds)] s = some (.int ds.length) := rfl
@[simp] theorem lenD_l {ds : List D} : lenD [.d (.list ds)] s = some (.int ds.length) := rfl
@[simp] theorem lenD_s {ns : List Int} : lenD [.s ns] s = some (.int ns.length) := by
  show some (PyData.int ((ns.map PyData.int).length : Int)) = _
  rw [List.length_map]
theorem mulOk_l {i j : Int} (h : i.natAbs < 18446744073709551616) : mulOk i j = true := by
  unfold mulOk
  rw [decide_eq_true (show i.natAbs < 2 ^ 64 from h), Bool.true_or]
theorem mulOk_r {i j : Int} (h : j.natAbs < 18446744073709551616) : mulOk i j = true := by
  unfold mulOk
  rw [decide_eq_true (show j.natAbs < 2 ^ 64 from h), Bool.or_true]
end
mutual
def pl : Nat → D → Bool
  | _, .none => true
  | _, .int _ => true
  | _, .str x => PyData.strOk x
  | n + 1, .list xs => plA n xs
  | n + 1, .tuple xs => plA n xs
  | 0, .list _ => false
  | 0, .tuple _ => false
  | _, .bool _ => false
  | _, .dict _ => false
def plA : Nat → List D → Bool
  | _, [] => true
  | n, x :: xs => pl n x && plA n xs
end
mutual
theorem pl_can : ∀ {n : Nat} {d : D}, pl n d = true → d.canLay0 = true ∧ d.depth ≤ n
  | n, .none, _ => ⟨rfl, by unfold PyData.depth; omega⟩
  | n, .int _, _ => ⟨rfl, by unfold PyData.depth; omega⟩
  | n, .str x, h => by
    unfold pl at h
    exact ⟨by unfold PyData.canLay0; exact h, by unfold PyData.depth; omega⟩
  | n + 1, .list xs, h => by
    unfold pl at h
    have := plA_can h
    exact ⟨by unfold PyData.canLay0; exact this.1, by unfold PyData.depth; omega⟩
  | n + 1, .tuple xs, h => by
    unfold pl at h
    have := plA_can h
    exact ⟨by unfold PyData.canLay0; exact this.1, by unfold PyData.depth; omega⟩
  | 0, .list _, h => by unfold pl at h; cases h
  | 0, .tuple _, h => by unfold pl at h; cases h
  | n, .bool _, h => by unfold pl at h; cases h
  | n, .dict _, h => by unfold pl at h; cases h
theorem plA_can : ∀ {n : Nat} {xs : List D}, plA n xs = true → PyData.canLayAll0 xs = true ∧ PyData.depthAll xs ≤ n
  | n, [], _ => ⟨rfl, by unfold PyData.depthAll; omega⟩
  | n, x :: xs, h => by
    unfold plA at h
    rw [Bool.and_eq_true] at h
    have a := pl_can h.1
    have b := plA_can h.2
    refine ⟨?_, ?_⟩
    · unfold PyData.canLayAll0
      rw [a.1, b.1]
      rfl
    · unfold PyData.depthAll
      omega
end
mutual
theorem pl_eqv : ∀ {n m : Nat} {a b : D}, pl n a = true → pl m b = true → PyData.eqv a b = true → a = b
  | n, m, .none, b, _, h, e => by cases b <;> simp [PyData.eqv] at e ⊢
  | n, m, .int i, b, _, h, e => by cases b <;> simp [PyData.eqv, pl] at e h ⊢; exact e
  | n, m, .str x, b, _, h, e => by cases b <;> simp [PyData.eqv, pl] at e h ⊢; exact e
  | n + 1, m, .list xs, .list ys, h, h', e => by
    cases m with
    | zero => unfold pl at h'; cases h'
    | succ m =>
      unfold pl at h h'
      unfold PyData.eqv at e
      rw [plA_eqv h h' e]
  | n + 1, m, .tuple xs, .tuple ys, h, h', e => by
    cases m with
    | zero => unfold pl at h'; cases h'
    | succ m =>
      unfold pl at h h'
      unfold PyData.eqv at e
      rw [plA_eqv h h' e]
  | 0, _, .list _, _, h, _, _ => by unfold pl at h; cases h
  | 0, _, .tuple _, _, h, _, _ => by unfold pl at h; cases h
  | n, _, .bool _, _, h, _, _ => by unfold pl at h; cases h
  | n, _, .dict _, _, h, _, _ => by unfold pl at h; cases h
  | n + 1, m, .list xs, .none, h, h', e => by simp [PyData.eqv] at e
  | n + 1, m, .list xs, .int _, h, h', e => by simp [PyData.eqv] at e
  | n + 1, m, .list xs, .bool _, h, h', e => by simp [PyData.eqv] at e
  | n + 1, m, .list xs, .str _, h, h', e => by simp [PyData.eqv] at e
  | n + 1, m, .list xs, .tuple _, h, h', e => by simp [PyData.eqv] at e
  | n + 1, m, .list xs, .dict _, h, h', e => by simp [PyData.eqv] at e
  | n + 1, m, .tuple xs, .none, h, h', e => by simp [PyData.eqv] at e
  | n + 1, m, .tuple xs, .int _, h, h', e => by simp [PyData.eqv] at e
  | n + 1, m, .tuple xs, .bool _, h, h', e => by simp [PyData.eqv] at e
  | n + 1, m, .tuple xs, .str _, h, h', e => by simp [PyData.eqv] at e
  | n + 1, m, .tuple xs, .list _, h, h', e => by simp [PyData.eqv] at e
  | n + 1, m, .tuple xs, .dict _, h, h', e => by simp [PyData.eqv] at e
theorem plA_eqv : ∀ {n m : Nat} {a b : List D}, plA n a = true → plA m b = true → PyData.eqvAll a b = true → a = b
  | _, _, [], [], _, _, _ => rfl
  | _, _, [], _ :: _, _, _, e => by simp [PyData.eqvAll] at e
  | _, _, _ :: _, [], _, _, e => by simp [PyData.eqvAll] at e
  | n, m, x :: xs, y :: ys, h, h', e => by
    unfold plA at h h'
    unfold PyData.eqvAll at e
    rw [Bool.and_eq_true] at h h' e
    rw [pl_eqv h.1 h'.1 e.1, plA_eqv h.2 h'.2 e.2]
end
theorem pl_shaped {n : Nat} {d : D} (h : pl n d = true) (hn : n ≤ 60) : SeqAt.shaped d = true := by
  have := pl_can h
  unfold SeqAt.shaped
  rw [this.1, decide_eq_true (by omega)]
  rfl
theorem pl_iff {n m : Nat} {a b : D} (h : pl n a = true) (h' : pl m b = true) : PyData.eqv a b = true ↔ a = b :=
  ⟨pl_eqv h h', fun e => by subst e; exact PySem.SeqAt.eqv_refl a (pl_can h).1⟩
theorem eqD_pl {n m : Nat} {a b : D} {s : Stt} (h : pl n a = true) (h' : pl m b = true) (hn : n ≤ 60 := by decide) (hm : m ≤ 60 := by decide) : eqD (.d a) (.d b) s = some (.bool (PyData.eqv a b)) := by
  unfold eqD
  simp only [toRd, pl_shaped h hn, pl_shaped h' hm, Bool.and_self, if_true]
theorem neD_pl {n m : Nat} {a b : D} {s : Stt} (h : pl n a = true) (h' : pl m b = true) (hn : n ≤ 60 := by decide) (hm : m ≤ 60 := by decide) : neD (.d a) (.d b) s = some (.bool (!PyData.eqv a b)) := by
  unfold neD
  simp only [toRd, pl_shaped h hn, pl_shaped h' hm, Bool.and_self, if_true]
theorem eqD_same {n : Nat} {a : D} {s : Stt} (h : pl n a = true) (hn : n ≤ 60 := by decide) : eqD (.d a) (.d a) s = some (.bool true) := by
  rw [eqD_pl h h hn hn, (pl_iff h h).mpr rfl]
theorem neD_same {n : Nat} {a : D} {s : Stt} (h : pl n a = true) (hn : n ≤ 60 := by decide) : neD (.d a) (.d a) s = some (.bool false) := by
  rw [neD_pl h h hn hn, (pl_iff h h).mpr rfl]
  rfl
theorem eqD_dif {n m : Nat} {a b : D} {s : Stt} (h : pl n a = true) (h' : pl m b = true) (e : a ≠ b) (hn : n ≤ 60 := by decide) (hm : m ≤ 60 := by decide) : eqD (.d a) (.d b) s = some (.bool false) := by
  rw [eqD_pl h h' hn hm, Bool.eq_false_iff.mpr fun z => e ((pl_iff h h').mp z)]
theorem neD_dif {n m : Nat} {a b : D} {s : Stt} (h : pl n a = true) (h' : pl m b = true) (e : a ≠ b) (hn : n ≤ 60 := by decide) (hm : m ≤ 60 := by decide) : neD (.d a) (.d b) s = some (.bool true) := by
  rw [neD_pl h h' hn hm, Bool.eq_false_iff.mpr fun z => e ((pl_iff h h').mp z)]
  rfl
@[simp] theorem eqv_ii {i j : Int} : PyData.eqv (.int i) (.int j) = (i == j) := by unfold PyData.eqv; rfl
@[simp] theorem eqv_ss {i j : Str} : PyData.eqv (.str i) (.str j) = (i == j) := by unfold PyData.eqv; rfl
@[simp] theorem eqv_ll {i j : List D} : PyData.eqv (.list i) (.list j) = PyData.eqvAll i j := by rw [PyData.eqv]
@[simp] theorem eqv_tt {i j : List D} : PyData.eqv (.tuple i) (.tuple j) = PyData.eqvAll i j := by rw [PyData.eqv]
@[simp] theorem eqvA_nn : PyData.eqvAll [] [] = true := by rw [PyData.eqvAll]
@[simp] theorem eqvA_cc {x y : D} {xs ys : List D} : PyData.eqvAll (x :: xs) (y :: ys) = (PyData.eqv x y && PyData.eqvAll xs ys) := by rw [PyData.eqvAll]
@[simp] theorem eqvA_nc {x : D} {xs : List D} : PyData.eqvAll [] (x :: xs) = false := by rw [PyData.eqvAll]
@[simp] theorem eqvA_cn {x : D} {xs : List D} : PyData.eqvAll (x :: xs) [] = false := by rw [PyData.eqvAll]
@[simp] theorem pl_int {n : Nat} {i : Int} : pl n (.int i) = true := by unfold pl; rfl
@[simp] theorem pl_non {n : Nat} : pl n .none = true := by unfold pl; rfl
@[simp] theorem pl_lst {n : Nat} {xs : List D} : pl (n + 1) (.list xs) = plA n xs := by rw [pl]
@[simp] theorem pl_tup {n : Nat} {xs : List D} : pl (n + 1) (.tuple xs) = plA n xs := by rw [pl]
@[simp] theorem plA_nil {n : Nat} : plA n [] = true := by rw [plA]
@[simp] theorem plA_cons {n : Nat} {x : D} {xs : List D} : plA n (x :: xs) = (pl n x && plA n xs) := by rw [plA]
theorem plA_iff {n : Nat} : ∀ {xs : List D}, plA n xs = true ↔ ∀ x ∈ xs, pl n x = true
  | [] => by simp
  | x :: xs => by rw [plA_cons, Bool.and_eq_true, plA_iff]; simp
theorem pl_2 {a b : Int} : pl 1 (.tuple [.int a, .int b]) = true := by simp
@[simp] theorem eqD_2 {a b c d : Int} {s : Stt} : eqD (.d (.tuple [.int a, .int b])) (.d (.tuple [.int c, .int d])) s = some (.bool (a == c && b == d)) := by
  rw [eqD_pl (n := 1) (m := 1) pl_2 pl_2]
  simp
@[simp] theorem neD_2 {a b c d : Int} {s : Stt} : neD (.d (.tuple [.int a, .int b])) (.d (.tuple [.int c, .int d])) s = some (.bool (!(a == c && b == d))) := by
  rw [neD_pl (n := 1) (m := 1) pl_2 pl_2]
  simp
theorem isi_eval {T : String} {s : Stt} {x : Sv} {k : String} {b : Bool} (h : kindOf s x = some k) (e : subTy k T = some b) : isiD T x s = some (.bool b) := by
  unfold isiD
  rw [h]
  simp only [e]
@[simp] theorem isi_int_NoneType {s : Stt}  : isiD "int" (.d .none) s = some (.bool false) := isi_eval (k := "NoneType") rfl (by decide +kernel)
@[simp] theorem isi_int_bool {s : Stt} {b : Bool} : isiD "int" (.d (.bool b)) s = some (.bool true) := isi_eval (k := "bool") rfl (by decide +kernel)
@[simp] theorem isi_int_int {s : Stt} {b : Int} : isiD "int" (.d (.int b)) s = some (.bool true) := isi_eval (k := "int") rfl (by decide +kernel)
@[simp] theorem isi_int_str {s : Stt} {b : Str} : isiD "int" (.d (.str b)) s = some (.bool false) := isi_eval (k := "str") rfl (by decide +kernel)
@[simp] theorem isi_int_list {s : Stt} {b : List D} : isiD "int" (.d (.list b)) s = some (.bool false) := isi_eval (k := "list") rfl (by decide +kernel)
@[simp] theorem isi_int_tuple {s : Stt} {b : List D} : isiD "int" (.d (.tuple b)) s = some (.bool false) := isi_eval (k := "tuple") rfl (by decide +kernel)
@[simp] theorem isi_bool_NoneType {s : Stt}  : isiD "bool" (.d .none) s = some (.bool false) := isi_eval (k := "NoneType") rfl (by decide +kernel)
@[simp] theorem isi_bool_bool {s : Stt} {b : Bool} : isiD "bool" (.d (.bool b)) s = some (.bool true) := isi_eval (k := "bool") rfl (by decide +kernel)
@[simp] theorem isi_bool_int {s : Stt} {b : Int} : isiD "bool" (.d (.int b)) s = some (.bool false) := isi_eval (k := "int") rfl (by decide +kernel)
@[simp] theorem isi_bool_str {s : Stt} {b : Str} : isiD "bool" (.d (.str b)) s = some (.bool false) := isi_eval (k := "str") rfl (by decide +kernel)
@[simp] theorem isi_bool_list {s : Stt} {b : List D} : isiD "bool" (.d (.list b)) s = some (.bool false) := isi_eval (k := "list") rfl (by decide +kernel)
@[simp] theorem isi_bool_tuple {s : Stt} {b : List D} : isiD "bool" (.d (.tuple b)) s = some (.bool false) := isi_eval (k := "tuple") rfl (by decide +kernel)
@[simp] theorem isi_tuple_NoneType {s : Stt}  : isiD "tuple" (.d .none) s = some (.bool false) := isi_eval (k := "NoneType") rfl (by decide +kernel)
@[simp] theorem isi_tuple_bool {s : Stt} {b : Bool} : isiD "tuple" (.d (.bool b)) s = some (.bool false) := isi_eval (k := "bool") rfl (by decide +kernel)
@[simp] theorem isi_tuple_int {s : Stt} {b : Int} : isiD "tuple" (.d (.int b)) s = some (.bool false) := isi_eval (k := "int") rfl (by decide +kernel)
@[simp] theorem isi_tuple_str {s : Stt} {b : Str} : isiD "tuple" (.d (.str b)) s = some (.bool false) := isi_eval (k := "str") rfl (by decide +kernel)
@[simp] theorem isi_tuple_list {s : Stt} {b : List D} : isiD "tuple" (.d (.list b)) s = some (.bool false) := isi_eval (k := "list") rfl (by decide +kernel)
@[simp] theorem isi_tuple_tuple {s : Stt} {b : List D} : isiD "tuple" (.d (.tuple b)) s = some (.bool true) := isi_eval (k := "tuple") rfl (by decide +kernel)
@[simp] theorem isi_list_NoneType {s : Stt}  : isiD "list" (.d .none) s = some (.bool false) := isi_eval (k := "NoneType") rfl (by decide +kernel)
@[simp] theorem isi_list_bool {s : Stt} {b : Bool} : isiD "list" (.d (.bool b)) s = some (.bool false) := isi_eval (k := "bool") rfl (by decide +kernel)
@[simp] theorem isi_list_int {s : Stt} {b : Int} : isiD "list" (.d (.int b)) s = some (.bool false) := isi_eval (k := "int") rfl (by decide +kernel)
@[simp] theorem isi_list_str {s : Stt} {b : Str} : isiD "list" (.d (.str b)) s = some (.bool false) := isi_eval (k := "str") rfl (by decide +kernel)
@[simp] theorem isi_list_list {s : Stt} {b : List D} : isiD "list" (.d (.list b)) s = some (.bool true) := isi_eval (k := "list") rfl (by decide +kernel)
@[simp] theorem isi_list_tuple {s : Stt} {b : List D} : isiD "list" (.d (.tuple b)) s = some (.bool false) := isi_eval (k := "tuple") rfl (by decide +kernel)
@[simp] theorem isi_str_NoneType {s : Stt}  : isiD "str" (.d .none) s = some (.bool false) := isi_eval (k := "NoneType") rfl (by decide +kernel)
@[simp] theorem isi_str_bool {s : Stt} {b : Bool} : isiD "str" (.d (.bool b)) s = some (.bool false) := isi_eval (k := "bool") rfl (by decide +kernel)
@[simp] theorem isi_str_int {s : Stt} {b : Int} : isiD "str" (.d (.int b)) s = some (.bool false) := isi_eval (k := "int") rfl (by decide +kernel)
@[simp] theorem isi_str_str {s : Stt} {b : Str} : isiD "str" (.d (.str b)) s = some (.bool true) := isi_eval (k := "str") rfl (by decide +kernel)
@[simp] theorem isi_str_list {s : Stt} {b : List D} : isiD "str" (.d (.list b)) s = some (.bool false) := isi_eval (k := "list") rfl (by decide +kernel)
@[simp] theorem isi_str_tuple {s : Stt} {b : List D} : isiD "str" (.d (.tuple b)) s = some (.bool false) := isi_eval (k := "tuple") rfl (by decide +kernel)
/-- a def's spec F against its denotation B (n slots, m parameters) -/
def Hok (n m : Nat) (B : SX) (F : List Sv → Stt → R Sv) : Prop := ∀ xs s, s.all (refsLt s.length) = true → F xs s = .bad ∨ (xs.length = m ∧ (gcR s.length (runB n B xs s) = F xs s ∨ runB n B xs s = F xs s))
theorem hok_bad {n m : Nat} {B : SX} {F : List Sv → Stt → R Sv} {xs : List Sv} {s : Stt} (h : F xs s = .bad) : F xs s = .bad ∨ (xs.length = m ∧ (gcR s.length (runB n B xs s) = F xs s ∨ runB n B xs s = F xs s)) := .inl h
/-- a law: from the script, at an empty store, it gives True -/
def F_law (xs : List Sv) (s : Stt) : R Sv := match xs, s with
  | [.s ns], [] => if ns.length ≤ 63 then .ok (.d (.bool true)) [] else .bad
  | _, _ => .bad
theorem law_true (ns : List Int) (h : ns.length ≤ 63) : ∃ s, F_law [.s ns] [] = .ok (.d (.bool true)) s := ⟨[], if_pos h⟩
theorem law_hok {n : Nat} {B : SX} (h : ∀ ns : List Int, ns.length ≤ 63 → ∃ s1, runB n B [.s ns] [] = .ok (.d (.bool true)) s1) : Hok n 1 B F_law := by
  intro xs s hw
  unfold F_law
  split
  · rename_i ns
    by_cases hl : ns.length ≤ 63
    · rw [if_pos hl]
      refine .inr ⟨rfl, .inl ?_⟩
      obtain ⟨s1, e⟩ := h ns hl
      rw [e]
      rfl
    · exact .inl (if_neg hl)
  · exact .inl rfl
theorem sLc_ap {vs : List Nat} {src : IX} {g : GX} {c f : EX} {env : En} {st s : Stt} {ds : List D} (h : src env st = .ok ds s) : sLc vs src g c f env st = lcGo g c f (wipeE env vs) s.length ds (s ++ [.lst []]) := by
  unfold sLc
  rw [h]
theorem lcGo_nil {g : GX} {c f : EX} {e0 : En} {n : Nat} {s : Stt} {acc : List D} (h : s[n]? = some (.lst acc)) (hn : s.length = n + 1) (hw : (s.take n).all (refsLt n) = true) : lcGo g c f e0 n [] s = .ok (.d (.list acc)) (s.take n) := by
  unfold lcGo
  simp only [h]
  exact if_pos ⟨hn, hw⟩
/-- a comprehension whose element leaves the store as it is -/
theorem lcGo_map {g : GX} {f : EX} {e0 : En} {h : D → D} {ge : D → En} : ∀ {ds : List D} {s : Stt} {acc : List D}, s.all (refsLt s.length) = true → (∀ d ∈ ds, g d e0 = some (ge d)) → (∀ d ∈ ds, ∀ t : Stt, f (ge d) t = .ok (.d (h d)) t) → acc.length + ds.length ≤ 100000 →
    lcGo g (sC (.bool true)) f e0 s.length ds (s ++ [.lst acc]) = .ok (.d (.list (acc ++ ds.map h))) s
  | [], s, acc, hw, _, _, _ => by
    have e := lcGo_nil (g := g) (c := sC (.bool true)) (f := f) (e0 := e0) (n := s.length) (s := s ++ [.lst acc]) (acc := acc) (by rw [List.getElem?_append_right (Nat.le_refl _), Nat.sub_self]; rfl) (by rw [List.length_append]; rfl) (by rw [List.take_left]; exact hw)
    rw [List.take_left] at e
    rw [List.map_nil, List.append_nil]
    exact e
  | d :: r, s, acc, hw, hg, hf, hl => by
    rw [List.length_cons] at hl
    have ih := lcGo_map (g := g) (f := f) (e0 := e0) (h := h) (ge := ge) (ds := r) (s := s) (acc := acc ++ [h d]) hw (fun x hx => hg x (List.mem_cons_of_mem _ hx)) (fun x hx => hf x (List.mem_cons_of_mem _ hx)) (by rw [List.length_append]; simp; omega)
    rw [List.append_assoc] at ih
    rw [List.map_cons]
    unfold lcGo
    simp only [hg d List.mem_cons_self, sC_ap, ifB_t, hf d List.mem_cons_self]
    rw [List.getElem?_append_right (Nat.le_refl _), Nat.sub_self]
    simp only [List.getElem?_cons_zero]
    rw [if_pos (by omega), List.set_append_right _ _ (Nat.le_refl _), Nat.sub_self]
    exact ih
/-- with a test -/
theorem lcGo_filter {g : GX} {c f : EX} {e0 : En} {p : D → Bool} {h : D → D} {ge : D → En} : ∀ {ds : List D} {s : Stt} {acc : List D}, s.all (refsLt s.length) = true → (∀ d ∈ ds, g d e0 = some (ge d)) → (∀ d ∈ ds, ∀ t : Stt, c (ge d) t = .ok (.d (.bool (p d))) t) → (∀ d ∈ ds, p d = true → ∀ t : Stt, f (ge d) t = .ok (.d (h d)) t) → acc.length + ds.length ≤ 100000 →
    lcGo g c f e0 s.length ds (s ++ [.lst acc]) = .ok (.d (.list (acc ++ (ds.filter p).map h))) s
  | [], s, acc, hw, _, _, _, _ => by
    have e := lcGo_nil (g := g) (c := c) (f := f) (e0 := e0) (n := s.length) (s := s ++ [.lst acc]) (acc := acc) (by rw [List.getElem?_append_right (Nat.le_refl _), Nat.sub_self]; rfl) (by rw [List.length_append]; rfl) (by rw [List.take_left]; exact hw)
    rw [List.take_left] at e
    rw [List.filter_nil, List.map_nil, List.append_nil]
    exact e
  | d :: r, s, acc, hw, hg, hc, hf, hl => by
    rw [List.length_cons] at hl
    unfold lcGo
    simp only [hg d List.mem_cons_self, hc d List.mem_cons_self]
    cases hp : p d with
    | false =>
      simp only [ifB_f]
      rw [List.filter_cons_of_neg (by rw [hp]; exact Bool.false_ne_true)]
      exact lcGo_filter hw (fun x hx => hg x (List.mem_cons_of_mem _ hx)) (fun x hx => hc x (List.mem_cons_of_mem _ hx)) (fun x hx => hf x (List.mem_cons_of_mem _ hx)) (by omega)
    | true =>
      rw [List.filter_cons_of_pos hp, List.map_cons]
      have ih := lcGo_filter (g := g) (c := c) (f := f) (e0 := e0) (p := p) (h := h) (ge := ge) (ds := r) (s := s) (acc := acc ++ [h d]) hw (fun x hx => hg x (List.mem_cons_of_mem _ hx)) (fun x hx => hc x (List.mem_cons_of_mem _ hx)) (fun x hx => hf x (List.mem_cons_of_mem _ hx)) (by rw [List.length_append]; simp; omega)
      rw [List.append_assoc] at ih
      simp only [ifB_t, hf d List.mem_cons_self hp]
      rw [List.getElem?_append_right (Nat.le_refl _), Nat.sub_self]
      simp only [List.getElem?_cons_zero]
      rw [if_pos (by omega), List.set_append_right _ _ (Nat.le_refl _), Nat.sub_self]
      exact ih
/-- a run that ends in True -/
def okT (r : RS) : Bool := match r with
  | .rt (.d (.bool true)) _ => true
  | _ => false
theorem okT_ex {r : RS} (h : okT r = true) : ∃ s, r = .rt (.d (.bool true)) s := by
  unfold okT at h
  split at h
  · exact ⟨_, rfl⟩
  · cases h
theorem okT_out {r : RS} (h : okT r = true) : ∃ s, outR r = .ok (.d (.bool true)) s := by
  obtain ⟨s, e⟩ := okT_ex h
  exact ⟨s, by rw [e]; rfl⟩
end DL

open PySem PySem.Spec in
theorem L2H.RoomH.units {k : Nat} {A : Around} (r : L2H.RoomH k A) : A.units + 64 < cLine := by
  have := r.un
  omega
namespace DL
open PySem PySem.Spec PyProof.Rows L2 L2H

/-- what it promises: the exception at a is of the c-th class -/
structure FnE (P : Program) (w : World) (K : PySem.W.Frag) (mg : Str → Option Value) (base : Heap) (ca : Nat → Addr) (k : Nat) (f : Addr) (fd : FuncData) (ps : List Str) (F : Addr → Nat → List Sv → Stt → R Sv) : Prop where
  run : ∀ (B : Around) (stk : List Env) (t : Shared) (H : Hp) (ar : Args) (us : List Value) (xs : List V) (Q : VK) (E : XK) (a : Addr) (oe : Obj) (c : Nat), c < 13 → L2H.RoomH k B → Zc (.ref (ca c)) none oe → (∃ fv, oe.data = .fields fv) → L2H.PinOk stk H t (a, oe) →
    Env0 P w K mg base B stk t H → BindsTo t fd ar (ps.zip us) → Vals xs us → xs.length = ps.length → spF K ca (F a c) xs H Q E → codeAny (model P w) B (.call (.ref f) ar) (CR (L2.CX P w) stk P w H t Q E) t

section
variable {P : Program} {w : World} {K : PySem.W.Frag} {mg : Str → Option Value} {base : Heap} {ca : Nat → Addr}
theorem def_okE {x qual : Str} {st : Stmt} {f : Addr} {fd : FuncData} {N ps : List Str} {k : Nat} {B : Addr → Nat → SX} {F : Addr → Nat → List Sv → Stt → R Sv} (Fn : Fun K x qual st f fd) (S : FnScope N ps (defScope st))
    (hF : ∀ a c, Hok N.length ps.length (B a c) (F a c))
    (hB : ∀ (cdv : Value) (A : Around) (stk : List Env) (t : Shared) (H : Hp) (E : XK) (a : Addr) (oe : Obj) (c : Nat), c < 13 → L2H.RoomH k (A.deeper (envOfC qual (defScope st) t.heap.objs.size f cdv)) → Zc (.ref (ca c)) none oe → (∃ fv, oe.data = .fields fv) →
      PSs (L2H.cxH (L2.CX P w) P w K mg base N qual (defScope st) f cdv A stk t H E (a, oe)) (defBody st) (trS K ca (fun cls d _ H => E cls d H) (B a c))) : FnE P w K mg base ca (k + 1) f fd ps F := by
  obtain ⟨oc, od, kV, doc, pm, an, cdv, ct, osl, rfl, lk, hcd⟩ := Fn.ex
  refine ⟨fun A stk t H ar us xs Q E a oe c c13 rm hz hf pin en bi va ln sp => ?_⟩
  have KX : K.In t.heap := en.mod.kin.keeps fun b o e => (en.bs b o e).1
  have lim : t.heap.NoLimit := en.mod.nolimit.keeps fun b o e => (en.bs b o e).1
  refine codeAny_call_function rm.depth (KX _ _ lk) rfl S.co S.gen rfl (PySem.W.codeRec_of KX hcd) (bi _ _ _ _ (wpAny_newFunctionEnv_cells S.kind (fun y hy => ?_) fun env he t1 ic => ?_))
  · obtain ⟨nm, vv⟩ := y
    rcases S.par nm (List.of_mem_zip hy).1 with q | q
    · exact Or.inl q
    · exact Or.inr ⟨q, PySem.W.cellsFrom_some _ _ _ (Or.inl q)⟩
  · subst he
    refine ⟨lim.keeps ic.toInCall.keep, codeAny_func ?_⟩
    have J : Inv (L2H.cxH (L2.CX P w) P w K mg base N qual (defScope st) f cdv A stk t H E (a, oe)) [] (L2.start N xs) H t1 := L2H.inv_startH S pin en ln va ic
    have go : trS K ca (fun cls d _ H => E cls d H) (B a c) { nx := fun _ H' => Q .non H', rt := Q } (L2.start N xs) H := by
      obtain ⟨G, ρ, s0, zs, R, r, kk⟩ := sp
      refine ⟨G, ρ, startE N.length zs, s0, R, start_rel r, ?_⟩
      rcases hF a c zs s0 R.wf with e | ⟨_, e | e⟩
      · rw [e] at kk
        exact kk.elim
      · rw [← e] at kk
        exact gc_out rfl R.len kk
      · rw [← e] at kk
        exact kn_out rfl kk
    refine wpAny_mono ((hB cdv A stk t H E a oe c c13 (rm.deeper _) hz hf).run [] t1 (L2.start N xs) H _ J go) (fun fl t2 hs => ?_) fun e t2 hs => hs
    have out : ∀ {σ' : L2.St} {H' : Hp} {v : V} {u : Value}, Inv (L2H.cxH (L2.CX P w) P w K mg base N qual (defScope st) f cdv A stk t H E (a, oe)) [] σ' H' t2 → RelV v u → Q v H' → CE stk P w H t Q u t2 := fun {_ H' v _} M rv q => ⟨v, H', M.os, M.bare, M.base, M.hok, rv, q⟩
    cases fl with
    | next => obtain ⟨_, H', M, q⟩ := hs; exact out (v := V.non) (u := Value.none) M rfl q
    | ret u => obtain ⟨v, _, H', M, rv, q⟩ := hs; exact out M rv q
    | brk => obtain ⟨_, _, _, q⟩ := hs; exact q.elim
    | cont => obtain ⟨_, _, _, q⟩ := hs; exact q.elim
end

/-- isinstance of the caught exception -/
def isE (a : Addr) (b : Bool) (x : Sv) : Option D := match x with
  | .x a' => if a' = a then some (.bool b) else none
  | _ => none
def sIsE (a : Addr) (b : Bool) (f : EX) : EX := sUn (fun x _ => isE a b x) f
theorem law_cx' {P : Program} {w : World} {stk : List Env} {H : Hp} {s : Shared} {e : Value} {s' : Shared} (h : L2.CX P w stk H s (fun _ _ _ => False) e s') : False := by
  obtain ⟨_, _, _, _, _, _, _, _, _, _, _, _, q⟩ := h
  exact q
section
variable {X : Cx} {ca : Nat → Addr} {W : WX} {e : Expr} {es : List Expr} {f : EX} {fs : AX} {pos p p2 : Pos} {a D : Addr} {oe : Obj}
theorem call_isX (C : ExcC X.K D) (hp : (a, oe) ∈ X.pn) (hz : Zc (.ref D) none oe) (hf : ∃ vs, oe.data = .fields vs) : CallR X (.builtin "isinstance") (rIsE X.K D a) := by
  intro pins s σ H xs us Q I r h
  obtain ⟨cl, cv, b, rfl, hcv, eq, q⟩ := h
  cases r with
  | cons r1 r2 =>
    cases r2 with
    | cons r3 r4 =>
      cases r4
      cases r1
      cases hcv _ r3
      have pa := (I.pin (a, oe) (List.mem_append_left _ hp)).1
      obtain ⟨vs, hv⟩ := hf
      obtain ⟨oc, od, oda, osl⟩ := oe
      obtain ⟨z1, z2⟩ := hz
      simp only at z1 z2 hv
      subst z1; subst z2; subst hv
      exact PySem.W.kia_one (PySem.W.handS_kitx_exc C.hg C.hk C.hs C.hd C.ha C.hn C.ht C.hm) I.kIn (show PySem.W.InstAt s.heap a _ D none from ⟨pa, rfl, rfl, trivial⟩) eq (fun z => nomatch z) fun tk => ⟨.bl b, H, I.kept (t' := tk) fun _ _ z => z, rfl, q⟩
theorem isx_in {b : Bool} {cv : Value} {c : V} (hc : ∀ u, RelV c u → u = cv) (hb : PySem.W.kitOne X.K (.ref D) cv = some b) {σ : L2.St} {H : Hp} {Q : VK} (q : tr X.K ca W (sIsE a b f) σ H Q) :
    tr X.K ca W f σ H (fun v H1 => tC c σ H1 fun y H2 => rIsE X.K D a [v, y] H2 Q) := by
  obtain ⟨G, ρ, env, st, hR, hE, k⟩ := q
  refine tr_seq hR hE k fun G1 ρ1 v H1 x st1 s1 p1 R1 E1 sx k1 => ?_
  cases x with
  | d y => exact k1.elim
  | r y => exact k1.elim
  | s y => exact k1.elim
  | x a' =>
    unfold isE at k1
    simp only at k1
    split at k1
    · rename_i ha
      subst ha
      cases sx
      exact ⟨c, cv, b, rfl, hc, hb, k1 G1 ρ1 _ H1 (Same.refl _) (List.prefix_refl _) R1 (DR.bl b)⟩
    · exact k1.elim
/-- isinstance(e, C), C a class of the module -/
theorem m_isE {t : Str} {C : Addr} {b : Bool} (EC : ExcC X.K D) (hp : (a, oe) ∈ X.pn) (hz : Zc (.ref D) none oe) (hf : ∃ vs, oe.data = .fields vs) (hb : PySem.W.kitOne X.K (.ref D) (.ref C) = some b) (hm : X.mg "isinstance" = none) (ht : X.mg t = some (.ref C)) (he : PE X e (tr X.K ca W f))
    (hg : Gl X "isinstance" := by rfl) (hgt : Gl X t := by rfl) (hd : (t == ("__debug__" : Str)) = false := by decide)
    (h1 : starEach [e, .Name t p2] X.env = (false, eval e X.env) :: starEach [.Name t p2] X.env := by rfl) (h2 : starEach [.Name t p2] X.env = (false, eval (.Name t p2) X.env) :: starEach [] X.env := by rfl) (hpl : (backTo pos (starEach [.Name t p2] X.env)).any (·.1) = false := by rfl) :
    PE X (.Call (.Name "isinstance" p) [e, .Name t p2] [] pos) (tr X.K ca W (sIsE a b f)) :=
  (pe_callB (call_isX EC hp hz hf) hg hm (by decide +kernel) (pa_cons he (pa_cons (pe_glob (v := .ref C) hgt ht rfl hd) pa_nil h2) h1) (by decide) (by decide) h1 hpl).imp fun σ H Q q => isx_in (c := .ref C) (cv := .ref C) (fun u r => r) hb q
/-- isinstance(e, ValueError) -/
theorem m_isV {t : Str} {T : String} {b : Bool} (EC : ExcC X.K D) (hp : (a, oe) ∈ X.pn) (hz : Zc (.ref D) none oe) (hf : ∃ vs, oe.data = .fields vs) (hb : PySem.W.kitOne X.K (.ref D) (.type T) = some b) (hm : X.mg "isinstance" = none) (ht : X.mg t = none) (he : PE X e (tr X.K ca W f)) (hv : bootBuiltins t = some (.type T) := by decide +kernel)
    (hg : Gl X "isinstance" := by rfl) (hgt : Gl X t := by rfl) (hn : t ≠ "__name__" := by decide) (hd : (t == ("__debug__" : Str)) = false := by decide)
    (h1 : starEach [e, .Name t p2] X.env = (false, eval e X.env) :: starEach [.Name t p2] X.env := by rfl) (h2 : starEach [.Name t p2] X.env = (false, eval (.Name t p2) X.env) :: starEach [] X.env := by rfl) (hpl : (backTo pos (starEach [.Name t p2] X.env)).any (·.1) = false := by rfl) :
    PE X (.Call (.Name "isinstance" p) [e, .Name t p2] [] pos) (tr X.K ca W (sIsE a b f)) :=
  (pe_callB (call_isX EC hp hz hf) hg hm (by decide +kernel) (pa_cons he (pa_cons (pe_bltn (v := .ty T) hgt ht hv rfl hn hd) pa_nil h2) h1) (by decide) (by decide) h1 hpl).imp fun σ H Q q => isx_in (c := .ty T) (cv := .type T) (fun u r => r) hb q
/-- a call of such a def -/
theorem m_callE {k : Nat} {g : Addr} {fd : FuncData} {ps : List Str} {F : Addr → Nat → List Sv → Stt → R Sv} {x : Str} {q : Pos} {c : Nat} (c13 : c < 13) (Fn : FnE X.prog X.w X.K X.mg X.base ca k g fd ps F) (hr : L2H.RoomH k X.A) (hp : (a, oe) ∈ X.pn) (hz : Zc (.ref (ca c)) none oe) (hf : ∃ vs, oe.data = .fields vs)
    (hm : X.mg x = some (.ref g)) (hk : PySem.W.keepIn X.K (.ref g) = true) (hb : Binds X.K fd ps []) (hlen : ∀ xs s, F a c xs s ≠ .bad → xs.length = ps.length) (ha : PA X (e :: es) (trA X.K ca W0 fs)) (hg : Gl X x := by rfl) (hdb : (x == ("__debug__" : Str)) = false := by decide)
    (he : starEach (e :: es) X.env = (false, eval e X.env) :: starEach es X.env := by rfl) (hpl : (backTo pos (starEach es X.env)).any (·.1) = false := by rfl) : PE X (.Call (.Name x q) (e :: es) [] pos) (tr X.K ca W0 (sCall (F a c) fs)) := by
  refine ⟨fun pins s σ H Q I h => ?_⟩
  have hread : trA X.K ca W0 fs σ H (fun vs H1 => vs.length = ps.length ∧ spF X.K ca (F a c) vs H1 Q (fun _ _ _ => False)) := by
    obtain ⟨G, ρ, env, st, hR, hE, kk⟩ := h
    refine trA_seq hR hE kk fun G1 ρ1 vs H1 xs st1 s1 p1 R1 E1 sx k1 => ?_
    have hl : xs.length = ps.length := by
      refine hlen xs st1 fun z => ?_
      rw [z] at k1
      exact k1
    refine ⟨by rw [← Paired.length sx]; exact hl, G1, ρ1, st1, xs, R1, sx, ?_⟩
    exact k1.wish fun _ _ z => z
  refine wpAny_Call_Name_kw (ld_glob I hg hm ?_ hdb)
  refine PySem.W.callWith_K (h₀ := X.base) I.ok.mod.kin hk (thn (ha.run pos pins s σ H _ I hread) fun us t ⟨vs, H1, J, r, hl, sp⟩ => ⟨J.kIn, ?_⟩) he hpl
  have hbt : BindsTo t fd ⟨us, []⟩ (ps.zip us) := by
    have b := hb t us J.kIn (by rw [List.append_nil, ← r.length]; exact hl)
    rw [List.append_nil] at b
    exact b
  have pp := J.pin (a, oe) (List.mem_append_left _ hp)
  refine wpAny_call (codeAny_mono (Fn.run X.A X.stack t H1 ⟨us, []⟩ us vs Q (fun _ _ _ => False) a oe c c13 hr hz hf ⟨pp.1, pp.2.1, fun hm => (List.mem_cons.mp (J.stkSub a hm)).elim pp.2.2.1 pp.2.2.2.1, pp.2.2.2.2⟩ J.env0 hbt r hl sp) fun rs t' hq => ?_)
  cases rs with
  | error e => exact (law_cx' hq).elim
  | ok fl =>
    cases fl with
    | ret u => exact J.after hq
    | next => exact hq.elim
    | brk => exact hq.elim
    | cont => exact hq.elim
end

def boolsOf : List D → Option (List Bool)
  | [] => some []
  | .bool b :: r => (boolsOf r).map (b :: ·)
  | _ :: _ => none
theorem bools_of {K : PySem.W.Frag} {G : Hp} : ∀ {vs : List V} {ds : List D} {bs : List Bool}, DRA K G vs ds → boolsOf ds = some bs → vs = bs.map V.bl
  | _, [], bs, h, e => by
    cases h
    cases e
    rfl
  | _, .bool b :: r, bs, h, e => by
    cases h with
    | cons h1 h2 =>
      cases h1
      unfold boolsOf at e
      cases e2 : boolsOf r with
      | none => rw [e2] at e; cases e
      | some cs =>
        rw [e2] at e
        cases e
        rw [bools_of h2 e2]
        rfl
  | _, .none :: r, bs, h, e => by cases e
  | _, .int _ :: r, bs, h, e => by cases e
  | _, .str _ :: r, bs, h, e => by cases e
  | _, .list _ :: r, bs, h, e => by cases e
  | _, .tuple _ :: r, bs, h, e => by cases e
  | _, .dict _ :: r, bs, h, e => by cases e
def rCntB : V → List V → Hp → VK → Prop := fun x xs H Q => ∃ (p : Addr) (bs : List Bool), x = .ref p ∧ xs = [.bl true] ∧ H p = some (.lst (bs.map V.bl)) ∧ Q (.int (bs.countP id : Nat)) H
theorem flat_bools : ∀ bs : List Bool, (bs.map V.bl).all flatV = true
  | [] => rfl
  | b :: bs => by
    rw [List.map_cons, List.all_cons, flat_bools bs]
    rfl
theorem count_bools : ∀ {bs : List Bool} {us : List Value}, Vals (bs.map V.bl) us → us.countP (eqU (.bl true)) = bs.countP id
  | [], _, h => by cases h; rfl
  | b :: bs, _, h => by
    cases h with
    | cons h1 h2 =>
      rw [List.countP_cons, List.countP_cons, count_bools h2, eqU_of h1 rfl]
      cases b <;> rfl
theorem mt_countB {X : Cx} : MtR X "list.count" rCntB := by
  intro pins s σ H x xs v us Q I rx rxs h
  obtain ⟨p, bs, rfl, rfl, hH, q⟩ := h
  cases rx
  obtain ⟨u, rfl, ru⟩ := rxs.one
  obtain ⟨its, rv, ⟨⟨cl, dd, da, sl⟩, n, ho, hc, hdn, hd⟩, hlen⟩ := I.list (SqL.of hH)
  simp only at hc hd
  subst hc; subst hd
  refine call_meets PySem.F.slot_list_count ⟨_, ho, rfl⟩ PySem.F.entry_list_count (PySem.F.args_list_count_2 _ _) (SeqAt.list_countAt p its.toArray n dd sl u (eqU (.bl true)))
    ⟨ho, fun y hy => mem_eqAt ru rfl rv (flat_bools bs) y (by simpa using hy), ?_⟩
  refine ⟨.int (bs.countP id : Nat), H, I.tok _, ⟨s.toks, ?_⟩, q⟩
  rw [← count_bools rv]
def cntB (x y : Sv) (s : Stt) : Option D := match x, y with
  | .r n, .d (.bool true) => (match s[n]? with
    | some (.lst ds) => (match boolsOf ds with
      | some bs => some (.int (bs.countP id : Nat))
      | none => none)
    | _ => none)
  | _, _ => none
def firstT : List Bool → Option Nat
  | [] => none
  | true :: _ => some 0
  | false :: r => (firstT r).map (· + 1)
def idxB (x y : Sv) (s : Stt) : Option D := match x, y with
  | .r n, .d (.bool true) => (match s[n]? with
    | some (.lst ds) => (match boolsOf ds with
      | some bs => (match firstT bs with
        | some j => some (.int (j : Nat))
        | none => none)
      | none => none)
    | _ => none)
  | _, _ => none
theorem first_is : ∀ {bs : List Bool} {j : Nat}, firstT bs = some j → bs[j]? = some true ∧ ∀ m z, m < j → bs[m]? = some z → z = false
  | [], _, e => by cases e
  | true :: r, j, e => by
    cases e
    exact ⟨rfl, fun m z h => absurd h (Nat.not_lt_zero m)⟩
  | false :: r, j, e => by
    unfold firstT at e
    cases e2 : firstT r with
    | none => rw [e2] at e; cases e
    | some i =>
      rw [e2] at e
      cases e
      obtain ⟨h1, h2⟩ := first_is e2
      refine ⟨h1, fun m z hm hz => ?_⟩
      cases m with
      | zero => cases hz; rfl
      | succ m => exact h2 m z (Nat.lt_of_succ_lt_succ hm) hz
/-- a method of a list of the store that only reads -/
def sMeth (h : Sv → Sv → Stt → Option D) (f g : EX) : EX := fun env st => bindR (f env st) fun x s => if isLst x s then bindR (g env s) fun y s => optR (h x y s) s else .bad
def MthS (K : PySem.W.Frag) (ca : Nat → Addr) (r : V → List V → Hp → VK → Prop) (h : Sv → Sv → Stt → Option D) : Prop := ∀ G ρ st H x y v w d Q, Rel K ca G ρ st H → SR K G ρ x v → SR K G ρ y w → h x y st = some d →
  (∀ v', DR K G v' d → Q v' H) → r v [w] H Q
section
variable {X : Cx} {ca : Nat → Addr} {W : WX} {o e : Expr} {f g : EX} {apos cpos : Pos} {h : Sv → Sv → Stt → Option D} {r : V → List V → Hp → VK → Prop}
theorem meth_in (hm : MthS X.K ca r h) {σ : L2.St} {H : Hp} {Q : VK} (q : tr X.K ca W (sMeth h f g) σ H Q) : tBM X.K "list" r (tr X.K ca W f) (tCons (tr X.K ca W g) tNil) σ H Q := by
  obtain ⟨G, ρ, env, st, hR, hE, k⟩ := q
  refine tr_seq hR hE k fun G1 ρ1 v H1 x st1 s1 p1 R1 E1 sx k1 => ?_
  by_cases hl : isLst x st1 = true
  · rw [if_pos hl] at k1
    refine ⟨lst_ty R1 sx hl, tr_seq R1 E1 k1 fun G2 ρ2 w H2 y st2 s2 p2 R2 E2 sy k2 => ?_⟩
    cases e : h x y st2 with
    | none => rw [e] at k2; exact k2.elim
    | some d =>
      rw [e] at k2
      exact hm G2 ρ2 st2 H2 x y v w d _ R2 (sx.mono s2 p2) sy e fun v' dd => k2 G2 ρ2 v' H2 (Same.refl _) (List.prefix_refl _) R2 dd
  · rw [if_neg hl] at k1
    exact k1.elim
theorem ms_countB : MthS X.K ca rCntB cntB := by
  intro G ρ st H x y v w d Q R sx sy e k
  unfold cntB at e
  split at e
  · rename_i n
    split at e
    · rename_i ds hs
      split at e
      · rename_i bs hb
        cases e
        obtain ⟨a, g1, rfl⟩ := sx
        obtain ⟨vs, g2, g3⟩ := R.obj n a _ g1 hs
        cases bool_of sy
        rw [bools_of g3 hb] at g2
        exact ⟨a, bs, rfl, rfl, g2, k _ (.int _)⟩
      · cases e
    · cases e
  · cases e
theorem ms_idxB : MthS X.K ca (rIndex X.K) idxB := by
  intro G ρ st H x y v w d Q R sx sy e k
  unfold idxB at e
  split at e
  · rename_i n
    split at e
    · rename_i ds hs
      split at e
      · rename_i bs hb
        split at e
        · rename_i j hj
          cases e
          obtain ⟨a, g1, rfl⟩ := sx
          obtain ⟨vs, g2, g3⟩ := R.obj n a _ g1 hs
          cases bool_of sy
          rw [bools_of g3 hb] at g2
          obtain ⟨f1, f2⟩ := first_is hj
          refine ⟨a, _, _, j, .bl true, rfl, rfl, SqL.of g2, rfl, flat_bools bs, by rw [List.getElem?_map, f1]; rfl, rfl, fun m z hm hz => ?_, k _ (.int _)⟩
          rw [List.getElem?_map] at hz
          cases e3 : bs[m]? with
          | none => rw [e3] at hz; cases hz
          | some b =>
            rw [e3] at hz
            cases hz
            rw [f2 m b hm e3]
            rfl
        · cases e
      · cases e
    · cases e
  · cases e
theorem m_countB (ho : PE X o (tr X.K ca W f)) (he : PE X e (tr X.K ca W g)) (hbase : attributeBase o "count" X.env (eval o X.env) = eval o X.env := by rfl)
    (hfew : ((backTo cpos (starEach [e] X.env)).all (fun x => !x.1) && (backToKw cpos (keywordEach [] X.env)).all (fun x => x.1.isSome) && decide (([e] : List Expr).length + ([] : List Keyword).length + (if ([] : List Keyword).isEmpty then 0 else 1) < 30)) = true := by rfl)
    (hline : (apos.endLine == cpos.line) = true := by rfl) (hs : starEach [e] X.env = (false, eval e X.env) :: starEach [] X.env := by rfl) (hpl : (backTo cpos (starEach [] X.env)).any (·.1) = false := by rfl) : PE X (.Call (.Attribute o "count" apos) [e] [] cpos) (tr X.K ca W (sMeth cntB f g)) :=
  (pe_bm PySem.F.plainAttrs_list PySem.F.slot_list_count PySem.F.type_list_count mt_countB ho (pa_cons he pa_nil hs) hbase hfew hline hs hpl).imp fun _ _ _ q => meth_in ms_countB q
theorem m_indexB (ho : PE X o (tr X.K ca W f)) (he : PE X e (tr X.K ca W g)) (hbase : attributeBase o "index" X.env (eval o X.env) = eval o X.env := by rfl)
    (hfew : ((backTo cpos (starEach [e] X.env)).all (fun x => !x.1) && (backToKw cpos (keywordEach [] X.env)).all (fun x => x.1.isSome) && decide (([e] : List Expr).length + ([] : List Keyword).length + (if ([] : List Keyword).isEmpty then 0 else 1) < 30)) = true := by rfl)
    (hline : (apos.endLine == cpos.line) = true := by rfl) (hs : starEach [e] X.env = (false, eval e X.env) :: starEach [] X.env := by rfl) (hpl : (backTo cpos (starEach [] X.env)).any (·.1) = false := by rfl) : PE X (.Call (.Attribute o "index" apos) [e] [] cpos) (tr X.K ca W (sMeth idxB f g)) :=
  (pe_bm PySem.F.plainAttrs_list PySem.F.slot_list_index PySem.F.type_list_index mt_index ho (pa_cons he pa_nil hs) hbase hfew hline hs hpl).imp fun _ _ _ q => meth_in ms_idxB q
@[simp] theorem sMeth_ap {env : En} {st : Stt} : sMeth h f g env st = bindR (f env st) fun x s => if isLst x s then bindR (g env s) fun y s => optR (h x y s) s else .bad := rfl
end
def raised (c : Nat) : D := .tuple [.str "raised", .int (c : Nat)]
def bTry (i : Nat) (B : SX) : SX := fun env st => match B env st with
  | .ex c s => if c < 13 ∧ i < env.length then .rt (.d (raised c)) s else .bad
  | .nx e s => .nx e s
  | .rt x s => .rt x s
  | .bad => .bad
/-- what _law_which answers of the exception at a, of the c-th class -/
def F_l_which (a : Addr) (c : Nat) (xs : List Sv) (s : Stt) : R Sv := match xs with
  | [.x b] => if b = a ∧ c < 13 then .ok (.d (raised c)) s else .bad
  | _ => .bad
theorem which_len {a : Addr} {c : Nat} {xs : List Sv} {s : Stt} (h : F_l_which a c xs s ≠ .bad) : xs.length = 1 := by
  unfold F_l_which at h
  split at h
  · rfl
  · exact absurd rfl h
/-- what is known of the classes -/
structure ExF (K : PySem.W.Frag) (ca : Nat → Addr) : Prop where
  one : ∀ c i, c < 13 → i < 13 → PySem.W.kitOne K (.ref (ca c)) (.ref (ca i)) = some (decide (c = i))
  val : ∀ c, c < 13 → PySem.W.kitOne K (.ref (ca c)) (.type "ValueError") = some true
  exm : ∀ c, c < 13 → PySem.W.exmOne K (.ref (ca c)) (.ref (ca 14)) = some true
  cls : ∀ c, c < 13 → ExcC K (ca c)
def exB1 (K : PySem.W.Frag) (l : List Addr) (c : Nat) : Bool :=
  ((List.range 13).all fun i => decide (PySem.W.kitOne K (.ref (l.getD c 0)) (.ref (l.getD i 0)) = some (decide (c = i))))
  && (decide (PySem.W.kitOne K (.ref (l.getD c 0)) (.type "ValueError") = some true)
  && (decide (PySem.W.exmOne K (.ref (l.getD c 0)) (.ref (l.getD 14 0)) = some true)
  && (decide (PySem.W.findIn K (.ref (l.getD c 0)) "__getattribute__" = some (some (.builtin "BaseException.__getattribute__")))
  && (decide (PySem.W.findIn K (.ref (l.getD c 0)) "__getattr__" = some none)
  && (decide (PySem.W.subIn K (.ref (l.getD c 0)) (.type "BaseException") = some true)
  && (PySem.W.hasDictIn K (l.getD c 0)
  && (decide (PySem.W.findIn K (.ref (l.getD c 0)) "__class__" = some (some (.builtin "object.__class__")))
  && (decide (PySem.W.specialIn K (.builtin "object.__class__") "__get__" = some (some (.builtin "getset_descriptor.__get__")))
  && (decide (PySem.W.takesIn K (.builtin "object.__class__") = some true)
  && decide (PySem.W.mroIn K (l.getD c 0) (.type "object") = some true))))))))))
def exBool (K : PySem.W.Frag) (l : List Addr) : Bool := (List.range 13).all (exB1 K l)
theorem exF_of {K : PySem.W.Frag} {l : List Addr} (h : exBool K l = true) : ExF K (fun n => l.getD n 0) := by
  have h1 : ∀ c, c < 13 → exB1 K l c = true := fun c hc => List.all_eq_true.mp h c (List.mem_range.mpr hc)
  have h2 := fun c hc => by
    have := h1 c hc
    unfold exB1 at this
    simp only [Bool.and_eq_true] at this
    exact this
  refine ⟨fun c i hc hi => ?_, fun c hc => ?_, fun c hc => ?_, fun c hc => ?_⟩
  · exact of_decide_eq_true (List.all_eq_true.mp (h2 c hc).1 i (List.mem_range.mpr hi))
  · exact of_decide_eq_true (h2 c hc).2.1
  · exact of_decide_eq_true (h2 c hc).2.2.1
  · obtain ⟨_, _, _, a1, a2, a3, a4, a5, a6, a7, a8⟩ := h2 c hc
    exact ⟨of_decide_eq_true a1, of_decide_eq_true a2, of_decide_eq_true a3, a4, of_decide_eq_true a5, of_decide_eq_true a6, of_decide_eq_true a7, of_decide_eq_true a8⟩
section
variable {X : Cx} {ca : Nat → Addr} {W : WX} {body : List Stmt} {B : SX} {np pos pos' q q2 q3 q4 : Pos} {n wh fe : Str} {k : Nat} {g : Addr} {fd : FuncData} {ps : List Str}
theorem ms_try (i : Nat) (hfe : X.mg fe = some (.ref (ca 14))) (hx : ∀ c, c < 13 → PySem.W.exmOne X.K (.ref (ca c)) (.ref (ca 14)) = some true) (Fn : FnE X.prog X.w X.K X.mg X.base ca k g fd ps F_l_which) (hps : ps.length = 1) (hr : Room k X.A)
    (hm : X.mg wh = some (.ref g)) (hk : PySem.W.keepIn X.K (.ref g) = true) (hbd : Binds X.K fd ps []) (tk : Takes X W) (hN : X.N.Nodup)
    (hb : ∀ (W1 : WX) (pn : List (Addr × Obj)) (xe : Value → Shared → Prop), Takes (X.tr pn xe) W1 → PassesOwn (model X.prog X.w) X.A X.env xe → PSs (X.tr pn xe) body (trS X.K ca W1 B))
    (hs : X.stack = X.env :: X.outer := by rfl) (hf : X.env.frame = some X.env.locals := by rfl) (hi : X.N[i]? = some n := by rfl) (hln : X.env.kindOf n = some .local := by rfl) (hgf : Gl X fe := by rfl) (hgw : Gl X wh := by rfl) (hdf : (fe == ("__debug__" : Str)) = false := by decide) (hdw : (wh == ("__debug__" : Str)) = false := by decide)
    (hv : Vis X.env.scope n := by first | exact Or.inl rfl | exact Or.inr (Or.inl rfl) | exact Or.inr (Or.inr rfl)) (hdn : (n == ("__debug__" : Str)) = false := by decide) (hcn : (n == ("__classdict__" : Str)) = false := by decide) :
    PS X (.Try body [.ExceptHandler (some (.Name fe np)) (some n) [.Return (some (.Call (.Name wh q) [.Name n q2] [] q3)) q4] pos'] [] [] pos) (trS X.K ca W (bTry i B)) := by
  refine (L2.ps_try_as (i := i) (c := .ref (ca 14)) (tb := fun W1 => trS X.K ca W1 B) (Wout := W)
    (ts := fun a cls d D σ H => ∃ (G : Hp) (ρ : List Addr) (st : Stt) (c : Nat), c < 13 ∧ cls = .ref (ca c) ∧ d = none ∧ Rel X.K ca G ρ st H ∧ i < σ.length ∧ σ[i]? = some (some (.ref a)) ∧ ∀ G' ρ' v H', Same G G' → ρ <+: ρ' → Rel X.K ca G' ρ' st H' → DR X.K G' v (raised c) → D.rt v H')
    hs hf hN hi hln ⟨hgf, hdf, .inl hfe⟩ tk hb (fun a oe cls d pn hz hfd => ?_)).imp fun D σ H qq => ?_
  · refine ⟨fun pins s σ H D I h => ?_⟩
    obtain ⟨G, ρ, st, c, hc, rfl, rfl, hR, hl, hσ, kk⟩ := h
    have P1 : PE (X.suite a ((a, oe) :: pn)) (.Call (.Name wh q) [.Name n q2] [] q3) (tr X.K ca W0 (sCall (F_l_which a c) (aCons (sVar i) aNil))) :=
      m_callE (X := X.suite a ((a, oe) :: pn)) hc Fn ⟨hr.dp, hr.un⟩ List.mem_cons_self hz hfd hm hk hbd (fun xs s z => by rw [hps]; exact which_len z) (ma_cons (m_var (X := X.suite a ((a, oe) :: pn)) i hi hv hdn hcn) ma_nil) hgw hdw
    refine (ms_one (ms_ret P1)).run pins s σ H D I ⟨G, ρ, (List.replicate σ.length none).set i (some (.x a)), st, hR, ⟨by rw [List.length_set, List.length_replicate], fun j x hj => ?_⟩, ?_⟩
    · by_cases e : i = j
      · subst e
        rw [List.getElem?_set_self (by rw [List.length_replicate]; exact hl)] at hj
        cases hj
        exact ⟨_, hσ, rfl⟩
      · rw [List.getElem?_set_ne e, List.getElem?_replicate] at hj
        split at hj <;> cases hj
    · have e1 : (sCall (F_l_which a c) (aCons (sVar i) aNil)) ((List.replicate σ.length none).set i (some (.x a))) st = .ok (.d (raised c)) st := by
        have e2 : ((List.replicate σ.length none).set i (some (Sv.x a)))[i]? = some (some (.x a)) := List.getElem?_set_self (by rw [List.length_replicate]; exact hl)
        simp [e2, F_l_which, hc]
      show KnS X.K ca W0 D G ρ σ (bindS ((sCall (F_l_which a c) (aCons (sVar i) aNil)) _ st) fun x s => .rt x s)
      rw [e1]
      exact fun G' ρ' v H' s p R d => kk G' ρ' v H' s p R d
  · obtain ⟨G, ρ, env, st, hR, hE, kk⟩ := qq
    refine ⟨G, ρ, env, st, hR, hE, ?_⟩
    unfold bTry at kk
    cases eb : B env st with
    | bad => rw [eb] at kk; exact kk
    | nx e s => rw [eb] at kk; exact kk
    | rt x s => rw [eb] at kk; exact kk
    | ex c s =>
      rw [eb] at kk
      intro G' ρ' σ' H' s' p' R' l'
      by_cases hc' : c < 13 ∧ i < env.length
      · simp only [hc', and_self, if_true] at kk
        obtain ⟨hc, hil⟩ := hc'
        have hi2 : i < σ'.length := by rw [l', ← hE.1]; exact hil
        refine ⟨true, hx c hc, fun _ a ha => ⟨G', ρ', s, c, hc, rfl, rfl, R', ?_, ?_, fun G2 ρ2 v H2 s2 p2 R2 d2 => kk G2 ρ2 v H2 (s'.trans s2) (p'.trans p2) R2 d2⟩, fun z => by cases z⟩
        · rw [List.length_set]
          exact hi2
        · exact List.getElem?_set_self hi2
      · simp only [hc', if_false] at kk
        exact kk.elim
end
@[simp] theorem sIsE_ap {a : Addr} {b : Bool} {f : EX} {env : En} {st : Stt} : sIsE a b f env st = bindR (f env st) fun x s => optR (isE a b x) s := rfl
@[simp] theorem isE_x {a : Addr} {b : Bool} : isE a b (.x a) = some (.bool b) := by
  unfold isE
  simp
def tryR (i : Nat) (n : Nat) (r : RS) : RS := match r with
  | .ex c s => if c < 13 ∧ i < n then .rt (.d (raised c)) s else .bad
  | .nx e s => .nx e s
  | .rt x s => .rt x s
  | .bad => .bad
@[simp] theorem bTry_ap {i : Nat} {B : SX} {env : En} {st : Stt} : bTry i B env st = tryR i env.length (B env st) := by
  unfold bTry tryR
  rfl
@[simp] theorem tryR_ex {i n c : Nat} {s : Stt} : tryR i n (.ex c s) = if c < 13 ∧ i < n then .rt (.d (raised c)) s else .bad := rfl
@[simp] theorem tryR_nx {i n : Nat} {e : En} {s : Stt} : tryR i n (.nx e s) = .nx e s := rfl
@[simp] theorem tryR_rt {i n : Nat} {x : Sv} {s : Stt} : tryR i n (.rt x s) = .rt x s := rfl
@[simp] theorem tryR_bad {i n : Nat} : tryR i n .bad = .bad := rfl
def F0 (n m : Nat) (B : SX) (xs : List Sv) (s : Stt) : R Sv := if xs.length = m then runB n B xs s else .bad
def Fg (n m : Nat) (B : SX) (xs : List Sv) (s : Stt) : R Sv := if xs.length = m then gcR s.length (runB n B xs s) else .bad
theorem hok0 {n m : Nat} {B : SX} : Hok n m B (F0 n m B) := by
  intro xs s _
  by_cases h : xs.length = m
  · exact .inr ⟨h, .inr (if_pos h).symm⟩
  · exact .inl (if_neg h)
theorem hokg {n m : Nat} {B : SX} : Hok n m B (Fg n m B) := by
  intro xs s _
  by_cases h : xs.length = m
  · exact .inr ⟨h, .inl (if_pos h).symm⟩
  · exact .inl (if_neg h)
/-- a store that holds no references -/
def flatOb : Ob → Bool
  | .ins _ _ => false
  | _ => true
theorem flat_refs {n : Nat} : ∀ {s : Stt}, s.all flatOb = true → s.all (refsLt n) = true
  | [], _ => rfl
  | o :: s, h => by
    rw [List.all_cons, Bool.and_eq_true] at h
    rw [List.all_cons, flat_refs h.2]
    cases o with
    | ins _ _ => cases h.1
    | lst _ => rfl
    | dic _ => rfl
    | gone => rfl
theorem gcR_d {n : Nat} {z : D} {s : Stt} (h : (s.take n).all flatOb = true) : gcR n (.ok (.d z) s) = .ok (.d z) (s.take n) := by
  unfold gcR
  simp only [flat_refs h, if_true]
theorem gcR_ex {n c : Nat} {s : Stt} (h : (s.take n).all flatOb = true) : gcR n (.ex c s) = .ex c (s.take n) := by
  unfold gcR
  simp only [flat_refs h, if_true]
theorem gcR_r {n m : Nat} {ds : List D} {s : Stt} (h : (s.take n).all flatOb = true) (hm : n ≤ m) (hs : s[m]? = some (.lst ds)) : gcR n (.ok (.r m) s) = .ok (.d (.list ds)) (s.take n) := by
  unfold gcR
  simp only [flat_refs h, if_true, if_neg (Nat.not_lt.mpr hm), hs]
section
variable {s : Stt} {o o' : Ob} {d : D} {ds es : List D}
@[simp] theorem get_end : (s ++ [o])[s.length]? = some o := by simp
@[simp] theorem set_end : (s ++ [o]).set s.length o' = s ++ [o'] := by
  rw [List.set_append_right _ _ (Nat.le_refl _), Nat.sub_self]
  rfl
@[simp] theorem take_end : (s ++ [o]).take s.length = s := by
  rw [List.take_append_of_le_length (Nat.le_refl _), List.take_length]
@[simp] theorem isLst_end : isLst (.r s.length) (s ++ [.lst ds]) = true := by
  unfold isLst
  simp
theorem appR_end (h : ds.length < 100000) : appR (.r s.length) (.d d) (s ++ [.lst ds]) = .ok (.d .none) (s ++ [.lst (ds ++ [d])]) := by
  unfold appR
  simp [h]
theorem extR_end (h : (ds.length + es.length) ≤ 100000) : extR (.r s.length) (.d (.list es)) (s ++ [.lst ds]) = .ok (.d .none) (s ++ [.lst (ds ++ es)]) := by
  unfold extR toL
  simp [szOk, h]
theorem gcR_end (h : s.all (refsLt s.length) = true) : gcR s.length (.ok (.r s.length) (s ++ [.lst ds])) = .ok (.d (.list ds)) s := by
  unfold gcR
  simp [h]
theorem gcR_dend (h : s.all (refsLt s.length) = true) : gcR s.length (.ok (.d d) (s ++ [o])) = .ok (.d d) s := by
  unfold gcR
  simp [h]
theorem gcR_d0 (h : s.all (refsLt s.length) = true) : gcR s.length (.ok (.d d) s) = .ok (.d d) s := by
  unfold gcR
  simp [h]
end
end DL

namespace DL
open PySem PySem.Spec PyProof.Rows L2

def iArgs (k : List Sv → Stt → R (List D)) (fs : AX) : IX := fun env st => bindR (fs env st) k
section
variable {X : Cx} {ca : Nat → Addr} {W : WX} {fs : AX} {tg : Expr} {σ : L2.St} {H : Hp} {R : It → Hp → Prop}
theorem trI_args {k : List Sv → Stt → DL.R (List D)} (q : trI X.K ca W (iArgs k fs) σ H R) {P : List V → Hp → Prop}
    (hP : ∀ G1 ρ1 vs H1 xs st1 env, Rel X.K ca G1 ρ1 st1 H1 → RelE X.K G1 ρ1 env σ → Paired (SR X.K G1 ρ1) xs vs → (match k xs st1 with
      | .ok ds st' => ∀ G' ρ' H' J, Same G1 G' → ρ1 <+: ρ' → Rel X.K ca G' ρ' st' H' → Src X.K ca J G' ds → R J H'
      | .ex c st' => ∀ G' ρ' H', Same G1 G' → ρ1 <+: ρ' → Rel X.K ca G' ρ' st' H' → W (.ref (ca c)) none σ H'
      | .bad => False) → P vs H1) : trA X.K ca W fs σ H P := by
  obtain ⟨G, ρ, env, st, hR, hE, kk⟩ := q
  refine ⟨G, ρ, env, st, hR, hE, ?_⟩
  unfold iArgs at kk
  cases e : fs env st with
  | bad => rw [e] at kk; exact kk
  | ex c s => rw [e] at kk; exact kk
  | ok xs st1 =>
    rw [e] at kk
    intro G1 ρ1 vs H1 s1 p1 R1 sx
    refine hP G1 ρ1 vs H1 xs st1 env R1 (hE.mono s1 p1) sx ?_
    have kk' : (match k xs st1 with
      | .ok ds st' => ∀ G' ρ' H' J, Same G G' → ρ <+: ρ' → Rel X.K ca G' ρ' st' H' → Src X.K ca J G' ds → R J H'
      | .ex c st' => ∀ G' ρ' H', Same G G' → ρ <+: ρ' → Rel X.K ca G' ρ' st' H' → W (.ref (ca c)) none σ H'
      | .bad => False) := kk
    revert kk'
    cases k xs st1 with
    | bad => exact fun k => k
    | ex c s => exact fun k G' ρ' H' s p => k G' ρ' H' (s1.trans s) (p1.trans p)
    | ok ds s => exact fun k G' ρ' H' J s p => k G' ρ' H' J (s1.trans s) (p1.trans p)
def bndI (i : Int) : Bool := Nat.ble i.natAbs 1000000000000
theorem bndI_of {i : Int} (h : i.natAbs ≤ 1000000000000) : bndI i = true := Nat.ble_eq.mpr h
theorem of_bndI {i : Int} (h : bndI i = true) : i.natAbs ≤ 1000000000000 := Nat.ble_eq.mp h
def rng2 (xs : List Sv) (s : Stt) : DL.R (List D) := match xs with
  | [.d (.int i), .d (.int j)] => if bndI i && bndI j then .ok (intsD i (j - i).toNat) s else .bad
  | _ => .bad
theorem mi_range2 {a b : Expr} {p pos : Pos} (hm : X.mg "range" = none) (ha : PA X [a, b] (trA X.K ca W fs)) (hg : Gl X "range" := by rfl) (hs : starEach [a, b] X.env = [(false, eval a X.env), (false, eval b X.env)] := by rfl) (hs2 : starEach [b] X.env = [(false, eval b X.env)] := by rfl) :
    PI X tg (.Call (.Name "range" p) [a, b] [] pos) (trI X.K ca W (iArgs rng2 fs)) := PI.imp (pi_range2 hg hm ha hs hs2) fun σ H R q => by
  refine trI_args q fun G1 ρ1 vs H1 xs st1 env R1 E1 sx k1 => ?_
  cases e : rng2 xs st1 with
  | bad => rw [e] at k1; exact k1.elim
  | ex c s => unfold rng2 at e; split at e <;> (try split at e) <;> cases e
  | ok ds s =>
    rw [e] at k1
    unfold rng2 at e
    split at e
    · rename_i i j
      obtain ⟨v, w, rfl, s1, s2⟩ := cs2 sx
      cases int_of s1
      cases int_of s2
      split at e
      · rename_i h
        cases e
        rw [Bool.and_eq_true] at h
        have b1 := of_bndI h.1
        have b2 := of_bndI h.2
        exact ⟨i, j, rfl, by omega, k1 G1 ρ1 H1 _ (Same.refl _) (List.prefix_refl _) R1 src_range⟩
      · cases e
    · cases e
def enumD (ds : List D) : List D := (List.range ds.length).map fun i => .tuple [.int (i : Nat), ds.getD i .none]
def enmA (xs : List Sv) (s : Stt) : DL.R (List D) := match xs with
  | [.d (.list ds)] => .ok (enumD ds) s
  | _ => .bad
theorem src_enum {a : Addr} {vs : List V} {ds : List D} {G : Hp} (h : SqL X.K G a vs) (hd : DRA X.K G vs ds) : Src X.K ca (Ite X.K a) G (enumD ds) := by
  intro G' ρ st H i s R
  have hs : SqL X.K H a vs := R.sub.seq (s.seq h)
  refine ⟨fun d e => ?_, fun hl => ⟨vs, hs, by unfold enumD at hl; rw [List.length_map, List.length_range] at hl; rw [hd.length]; exact hl⟩⟩
  unfold enumD at e
  rw [List.getElem?_map] at e
  have hi : i < ds.length := by
    cases q : (List.range ds.length)[i]? with
    | none => rw [q] at e; cases e
    | some j =>
      have := (List.getElem?_eq_some_iff.mp q).1
      rw [List.length_range] at this
      exact this
  rw [List.getElem?_range hi] at e
  cases e
  obtain ⟨v, h1, h2⟩ := hd.get (List.getElem?_eq_getElem hi)
  refine ⟨⟨vs, v, hs, h1⟩, fun x H' y => ?_⟩
  obtain ⟨T, w, rfl, hT, rfl, y⟩ := y
  have e2 := y vs hs
  rw [h1] at e2
  cases e2
  obtain ⟨s', R'⟩ := R.frozen (o := .tup [.int (i : Nat), v]) hT
  refine ⟨_, s', R', .tup (SqT.of upd_same) (.cons (.int _) (.cons ?_ .nil))⟩
  rw [List.getD_eq_getElem?_getD, List.getElem?_eq_getElem hi]
  exact (h2.mono s).mono s'
theorem mi_enum {e : Expr} {p pos tpos : Pos} {elts : List Expr} {kk : Nat} (hm : X.mg "enumerate" = none) (ha : PA X [e] (trA X.K ca W fs)) (hg : Gl X "enumerate" := by rfl) (hs : starEach [e] X.env = [(false, eval e X.env)] := by rfl) :
    PI X (.Tuple elts kk tpos) (.Call (.Name "enumerate" p) [e] [] pos) (trI X.K ca W (iArgs enmA fs)) := PI.imp (pi_enum hg hm ha hs) fun σ H R q => by
  refine trI_args q fun G1 ρ1 vs H1 xs st1 env R1 E1 sx k1 => ?_
  cases e : enmA xs st1 with
  | bad => rw [e] at k1; exact k1.elim
  | ex c s => unfold enmA at e; split at e <;> cases e
  | ok ds s =>
    rw [e] at k1
    unfold enmA at e
    split at e
    · cases e
      obtain ⟨v, rfl, s1⟩ := cs1 sx
      cases s1 with
      | lst h1 h2 => exact ⟨_, _, rfl, SqL.of (R1.sub _ _ h1), k1 G1 ρ1 H1 _ (Same.refl _) (List.prefix_refl _) R1 (src_enum (SqL.of h1) h2)⟩
    · cases e
def zipD (ds es : List D) : List D := (List.range (min ds.length es.length)).map fun i => .tuple [ds.getD i .none, es.getD i .none]
def zipA (xs : List Sv) (s : Stt) : DL.R (List D) := match xs with
  | [.d (.list ds), .d (.list es)] => .ok (zipD ds es) s
  | _ => .bad
theorem src_zip {a b : Addr} {vs ws : List V} {ds es : List D} {G : Hp} (h : SqL X.K G a vs) (hd : DRA X.K G vs ds) (g : SqL X.K G b ws) (ge : DRA X.K G ws es) : Src X.K ca (Itz X.K a b) G (zipD ds es) := by
  intro G' ρ st H i s R
  have hs : SqL X.K H a vs := R.sub.seq (s.seq h)
  have gs : SqL X.K H b ws := R.sub.seq (s.seq g)
  have l1 := hd.length
  have l2 := ge.length
  refine ⟨fun d e => ?_, fun hl => ⟨vs, ws, hs, gs, by unfold zipD at hl; rw [List.length_map, List.length_range] at hl; omega⟩⟩
  unfold zipD at e
  rw [List.getElem?_map] at e
  have hi : i < min ds.length es.length := by
    cases q : (List.range (min ds.length es.length))[i]? with
    | none => rw [q] at e; cases e
    | some j =>
      have := (List.getElem?_eq_some_iff.mp q).1
      rw [List.length_range] at this
      exact this
  rw [List.getElem?_range hi] at e
  cases e
  have hi1 : i < ds.length := by omega
  have hi2 : i < es.length := by omega
  obtain ⟨v, h1, h2⟩ := hd.get (List.getElem?_eq_getElem hi1)
  obtain ⟨w, g1, g2⟩ := ge.get (List.getElem?_eq_getElem hi2)
  refine ⟨⟨vs, ws, v, w, hs, gs, h1, g1⟩, fun x H' y => ?_⟩
  obtain ⟨T, x1, y1, rfl, hT, rfl, z1, z2⟩ := y
  have e1 := z1 vs hs
  have e2 := z2 ws gs
  rw [h1] at e1
  rw [g1] at e2
  cases e1
  cases e2
  obtain ⟨s', R'⟩ := R.frozen (o := .tup [v, w]) hT
  refine ⟨_, s', R', .tup (SqT.of upd_same) (.cons ?_ (.cons ?_ .nil))⟩
  · rw [List.getD_eq_getElem?_getD, List.getElem?_eq_getElem hi1]
    exact (h2.mono s).mono s'
  · rw [List.getD_eq_getElem?_getD, List.getElem?_eq_getElem hi2]
    exact (g2.mono s).mono s'
theorem mi_zip {e e2 : Expr} {p pos tpos : Pos} {elts : List Expr} {kk : Nat} (hm : X.mg "zip" = none) (ha : PA X [e, e2] (trA X.K ca W fs)) (hg : Gl X "zip" := by rfl)
    (hs : starEach [e, e2] X.env = (false, eval e X.env) :: starEach [e2] X.env := by rfl) (hpl : (backTo pos (starEach [e2] X.env)).any (·.1) = false := by rfl) :
    PI X (.Tuple elts kk tpos) (.Call (.Name "zip" p) [e, e2] [] pos) (trI X.K ca W (iArgs zipA fs)) := PI.imp (pi_zip hg hm ha hs hpl) fun σ H R q => by
  refine trI_args q fun G1 ρ1 vs H1 xs st1 env R1 E1 sx k1 => ?_
  cases e : zipA xs st1 with
  | bad => rw [e] at k1; exact k1.elim
  | ex c s => unfold zipA at e; split at e <;> cases e
  | ok ds s =>
    rw [e] at k1
    unfold zipA at e
    split at e
    · cases e
      obtain ⟨v, w, rfl, s1, s2⟩ := cs2 sx
      cases s1 with
      | lst h1 h2 =>
        cases s2 with
        | lst g1 g2 => exact ⟨_, _, _, _, rfl, SqL.of (R1.sub _ _ h1), SqL.of (R1.sub _ _ g1), k1 G1 ρ1 H1 _ (Same.refl _) (List.prefix_refl _) R1 (src_zip (SqL.of h1) h2 (SqL.of g1) g2)⟩
    · cases e
end
def strD (xs : List Sv) (_ : Stt) : Option D := match xs with
  | [.d (.int i)] => if i.natAbs.log2 < 1920 then some (.str (toString i)) else none
  | _ => none
def intD (xs : List Sv) (_ : Stt) : Option D := match xs with
  | [.d (.str a)] => (match PySem.intText? a with
    | some n => if a.length ≤ 640 then some (.int n) else none
    | none => none)
  | _ => none
def listL (xs : List Sv) (st : Stt) : Option D := match xs with
  | [.d (.tuple ds)] => some (.list ds)
  | [x] => (match toL st x with
    | some ds => some (.list ds)
    | _ => none)
  | _ => none
section
variable {K : PySem.W.Frag} {ca : Nat → Addr} {X : Cx}
theorem cs_tuple : CaS K ca (fun xs H Q => ∃ p ys, xs = [.ref p] ∧ ((SqL K H p ys ∧ ∀ l, H l = none → Q (.ref l) (upd H l (.tup ys))) ∨ (SqT K H p ys ∧ Q (.ref p) H))) tupleD := by
  intro G ρ st H xs vs d Q R sx e k
  unfold tupleD at e
  split at e
  · rename_i ds
    cases e
    obtain ⟨v, rfl, s1⟩ := cs1 sx
    cases s1 with
    | tup h1 h2 => exact ⟨_, _, rfl, .inr ⟨sameT R.sub h1, k G _ H (Same.refl _) R (.tup h1 h2)⟩⟩
  · rename_i x hx
    obtain ⟨v, rfl, s1⟩ := cs1 sx
    split at e
    · rename_i ds hd
      cases e
      obtain ⟨a, ws, rfl, h1, h2⟩ := s1.toL R hd
      refine ⟨_, _, rfl, .inl ⟨SqL.of h1, fun p hp => ?_⟩⟩
      obtain ⟨s', R'⟩ := R.frozen (o := .tup ws) hp
      exact k _ _ _ s' R' (.tup (SqT.of upd_same) (h2.mono s'))
    · cases e
  · cases e
theorem cs_list : CaS K ca (fun xs H Q => ∃ p ys, xs = [.ref p] ∧ (SqL K H p ys ∨ SqT K H p ys) ∧ ∀ l, H l = none → Q (.ref l) (upd H l (.lst ys))) listL := by
  intro G ρ st H xs vs d Q R sx e k
  unfold listL at e
  split at e
  · rename_i ds
    cases e
    obtain ⟨v, rfl, s1⟩ := cs1 sx
    cases s1 with
    | tup h1 h2 =>
      refine ⟨_, _, rfl, .inr (sameT R.sub h1), fun p hp => ?_⟩
      obtain ⟨s', R'⟩ := R.frozen (o := .lst _) hp
      exact k _ _ _ s' R' (.lst upd_same (h2.mono s'))
  · rename_i x hx
    obtain ⟨v, rfl, s1⟩ := cs1 sx
    split at e
    · rename_i ds hd
      cases e
      obtain ⟨a, ws, rfl, h1, h2⟩ := s1.toL R hd
      refine ⟨_, _, rfl, .inl (SqL.of h1), fun p hp => ?_⟩
      obtain ⟨s', R'⟩ := R.frozen (o := .lst ws) hp
      exact k _ _ _ s' R' (.lst upd_same (h2.mono s'))
    · cases e
  · cases e
theorem cs_str : CaS K ca (fun xs H Q => ∃ i, xs = [.int i] ∧ i.natAbs.log2 < 1920 ∧ Q (.str (toString i)) H) strD := by
  intro G ρ st H xs vs d Q R sx e k
  unfold strD at e
  split at e
  · split at e
    · rename_i h
      cases e
      obtain ⟨v, rfl, s1⟩ := cs1 sx
      cases int_of s1
      exact ⟨_, rfl, h, k G _ H (Same.refl _) R (.str _)⟩
    · cases e
  · cases e
theorem cs_int : CaS K ca (fun xs H Q => ∃ a n, xs = [.str a] ∧ PySem.intText? a = some n ∧ a.length ≤ 640 ∧ Q (.int n) H) intD := by
  intro G ρ st H xs vs d Q R sx e k
  unfold intD at e
  split at e
  · split at e
    · rename_i n hn
      split at e
      · rename_i hl
        cases e
        obtain ⟨v, rfl, s1⟩ := cs1 sx
        cases str_of s1
        exact ⟨_, _, rfl, hn, hl, k G _ H (Same.refl _) R (.int _)⟩
      · cases e
    · cases e
  · cases e
end
def cutA {α : Type} (xs : List α) (lo hi : Option Int) : List α := (xs.drop (HT.sIx xs.length 0 lo)).take (HT.sIx xs.length xs.length hi - HT.sIx xs.length 0 lo)
abbrev OX := En → Stt → DL.R (Option Int)
def oNone : OX := fun _ st => .ok none st
def oSome (f : EX) : OX := fun env st => bindR (f env st) fun x s => match x with
  | .d (.int i) => .ok (some i) s
  | _ => .bad
def slD (x : Sv) (lo hi : Option Int) (st : Stt) : Option D := match x with
  | .d (.tuple ds) => some (.tuple (cutA ds lo hi))
  | .d (.str z) => if z.length ≤ 100000 then some (.str (cutS z lo hi)) else none
  | x => (match toL st x with
    | some ds => some (.list (cutA ds lo hi))
    | none => none)
def sSl (f : EX) (l u : OX) : EX := fun env st => bindR (f env st) fun x s => bindR (l env s) fun lo s => bindR (u env s) fun hi s => optR (slD x lo hi s) s
structure MO (X : Cx) (ca : Nat → Addr) (W : WX) (e : Option Expr) (o : OX) (t : TO) : Prop where
  po : PO X e t
  rd : ∀ (G : Hp) (ρ : List Addr) (env : En) (st : Stt) (σ : L2.St) (H : Hp) (k : Option Int → Stt → DL.R Sv) (Q : VK) (P : Option Int → Hp → Prop), Rel X.K ca G ρ st H → RelE X.K G ρ env σ → Kn X.K ca W G ρ σ (bindR (o env st) k) Q →
    (∀ G1 ρ1 H1 i st1, Same G G1 → ρ <+: ρ1 → Rel X.K ca G1 ρ1 st1 H1 → RelE X.K G1 ρ1 env σ → Kn X.K ca W G1 ρ1 σ (k i st1) Q → P i H1) → t σ H P
section
variable {X : Cx} {ca : Nat → Addr} {W : WX} {e : Expr} {f : EX} {K : PySem.W.Frag} {G : Hp}
theorem DRA.cut {vs : List V} {ds : List D} (h : DRA K G vs ds) (lo hi : Option Int) : DRA K G (cutV vs lo hi) (cutA ds lo hi) := by
  unfold cutV cutA
  rw [h.length]
  exact DRA.take _ (DRA.drop _ h)
theorem mo_none : MO X ca W none oNone tNoPart := ⟨po_none, fun G ρ env st σ H k Q P R E kk h => h G ρ H none st (Same.refl _) (List.prefix_refl _) R E kk⟩
theorem mo_some (he : PE X e (tr X.K ca W f)) : MO X ca W (some e) (oSome f) (tPart (tr X.K ca W f)) := ⟨po_some he, fun G ρ env st σ H k Q P R E kk h => by
  have e1 : bindR (oSome f env st) k = bindR (f env st) fun x s => bindR (match x with | .d (.int i) => DL.R.ok (some i) s | _ => .bad) k := by
    unfold oSome
    cases f env st <;> rfl
  rw [e1] at kk
  refine tr_seq R E kk fun G1 ρ1 v H1 x st1 s1 p1 R1 E1 sx k1 => ?_
  cases x with
  | r n => exact k1.elim
  | s n => exact k1.elim
  | x n => exact k1.elim
  | d d =>
    cases sx with
    | int i => exact ⟨i, rfl, h G1 ρ1 H1 (some i) st1 s1 p1 R1 E1 k1⟩
    | non => exact k1.elim
    | bl => exact k1.elim
    | str => exact k1.elim
    | lst _ _ => exact k1.elim
    | tup _ _ => exact k1.elim⟩
theorem m_slice {lo hi : Option Expr} {l u : OX} {tl th : TO} {p2 pos : Pos} (he : PE X e (tr X.K ca W f)) (hl : MO X ca W lo l tl) (hu : MO X ca W hi u th) : PE X (.Subscript e (.Slice lo hi none p2) pos) (tr X.K ca W (sSl f l u)) :=
  (pe_slice ((sl_list (X := X)).or ((sl_tupA (X := X)).or (sl_str (X := X)))) he hl.po hu.po).imp fun σ H Q q => by
  obtain ⟨G, ρ, env, st, hR, hE, k⟩ := q
  refine tr_seq hR hE k fun G1 ρ1 v H1 x st1 s1 p1 R1 E1 sx k1 => ?_
  refine hl.rd G1 ρ1 env st1 σ H1 _ Q _ R1 E1 k1 fun G2 ρ2 H2 i st2 s2 p2 R2 E2 k2 => ?_
  refine hu.rd G2 ρ2 env st2 σ H2 _ Q _ R2 E2 k2 fun G3 ρ3 H3 j st3 s3 p3 R3 E3 k3 => ?_
  have sx := (sx.mono s2 p2).mono s3 p3
  cases ed : slD x i j st3 with
  | none => rw [ed] at k3; exact k3.elim
  | some d =>
    rw [ed] at k3
    have kk : ∀ G' v' H', Same G3 G' → Rel X.K ca G' ρ3 st3 H' → DR X.K G' v' d → Q v' H' := fun G' v' H' s R dd => k3 G' ρ3 v' H' s (List.prefix_refl _) R dd
    unfold slD at ed
    split at ed
    · rename_i ds
      cases ed
      cases sx with
      | tup h1 h2 =>
        rename_i dd a vs
        have hT := sameT R3.sub h1
        refine .inr (.inl ⟨a, vs, rfl, hT, fun hw => ?_, fun hw p hp => ?_⟩)
        · have ec : cutA dd i j = dd := by
            unfold cutA
            rw [← h2.length, hw.1, hw.2, Nat.sub_zero, List.drop_zero, h2.length, List.take_length]
          rw [ec] at kk
          exact kk G3 _ H3 (Same.refl _) R3 (.tup h1 h2)
        · obtain ⟨s', R'⟩ := R3.frozen (o := .tup _) hp
          exact kk _ _ _ s' R' (.tup (SqT.of upd_same) ((h2.cut i j).mono s'))
    · rename_i z
      split at ed
      · rename_i hz
        cases ed
        cases sx
        exact .inr (.inr ⟨_, rfl, sz100 hz, kk G3 _ H3 (Same.refl _) R3 (.str _)⟩)
      · cases ed
    · rename_i x' hx1 hx2
      split at ed
      · rename_i ds hd
        cases ed
        obtain ⟨a, ws, rfl, h1, h2⟩ := sx.toL R3 hd
        refine .inl ⟨a, ws, rfl, SqL.of h1, fun p hp => ?_⟩
        obtain ⟨s', R'⟩ := R3.frozen (o := .lst _) hp
        exact kk _ _ _ s' R' (.lst upd_same ((h2.cut i j).mono s'))
      · cases ed
/-- x[::-1], a list -/
def revD (x : Sv) (st : Stt) : Option D := match toL st x with
  | some ds => some (.list ds.reverse)
  | none => none
theorem m_rev {k : Nat} {p1 p2 p3 pos : Pos} (he : PE X e (tr X.K ca W f)) : PE X (.Subscript e (.Slice none none (some (.UnaryOp .USub (.Constant (.int 1) k p1) p2)) p3) pos) (tr X.K ca W (sUn revD f)) := (pe_revL he).imp fun σ H Q q => by
  obtain ⟨G, ρ, env, st, hR, hE, kk⟩ := q
  refine tr_seq hR hE kk fun G1 ρ1 v H1 x st1 s1 p1 R1 E1 sx k1 => ?_
  unfold revD at k1
  split at k1
  · rename_i ds hd
    obtain ⟨a, ws, rfl, h1, h2⟩ := sx.toL R1 hd
    refine ⟨a, ws, rfl, SqL.of h1, fun p hp => ?_⟩
    obtain ⟨s', R'⟩ := R1.frozen (o := .lst _) hp
    exact k1 _ ρ1 _ _ s' (List.prefix_refl _) R' (.lst upd_same ((h2.reverse).mono s'))
  · exact k1.elim
end
section
variable {α : Type} {env : En} {st s : Stt} {f : EX} {l u : OX} {ds : List D} {lo hi : Option Int}
@[simp] theorem oNone_ap : oNone env st = .ok none st := rfl
def intO (x : Sv) (s : Stt) : DL.R (Option Int) := match x with
  | .d (.int i) => .ok (some i) s
  | _ => .bad
@[simp] theorem oSome_ap : oSome f env st = bindR (f env st) fun x s => intO x s := rfl
@[simp] theorem intO_i {i : Int} : intO (.d (.int i)) s = .ok (some i) s := rfl
@[simp] theorem sSl_ap : sSl f l u env st = bindR (f env st) fun x s => bindR (l env s) fun lo s => bindR (u env s) fun hi s => optR (slD x lo hi s) s := rfl
@[simp] theorem slD_l : slD (.d (.list ds)) lo hi s = some (.list (cutA ds lo hi)) := rfl
@[simp] theorem slD_t : slD (.d (.tuple ds)) lo hi s = some (.tuple (cutA ds lo hi)) := rfl
theorem slD_s {z : Str} (h : z.length ≤ 100000) : slD (.d (.str z)) lo hi s = some (.str (cutS z lo hi)) := if_pos h
theorem cut_init (xs : List α) : cutA xs none (some (-1)) = xs.dropLast := by
  have e : HT.sIx xs.length xs.length (some (-1)) = xs.length - 1 := by
    show (if (-1 : Int) < 0 then ((-1 : Int) + (xs.length : Int)).toNat else min (-1 : Int).toNat xs.length) = _
    rw [if_pos (by decide)]
    omega
  unfold cutA
  rw [e, HT.sIx_none, List.drop_zero, Nat.sub_zero, List.dropLast_eq_take]
theorem cut_take (xs : List α) (k : Nat) : cutA xs none (some (k : Int)) = xs.take k := by
  unfold cutA
  rw [HT.sIx_nat, HT.sIx_none, List.drop_zero, Nat.sub_zero]
  by_cases h : k ≤ xs.length
  · rw [Nat.min_eq_left h]
  · rw [Nat.min_eq_right (by omega), List.take_length, List.take_of_length_le (by omega)]
theorem cut_drop (xs : List α) (k : Nat) : cutA xs (some (k : Int)) none = xs.drop k := by
  unfold cutA
  rw [HT.sIx_nat, HT.sIx_none]
  by_cases h : k ≤ xs.length
  · rw [Nat.min_eq_left h, List.take_of_length_le (by rw [List.length_drop]; omega)]
  · rw [Nat.min_eq_right (by omega), List.drop_length, List.take_nil, List.drop_of_length_le (by omega)]
@[simp] theorem revD_l : revD (.d (.list ds)) s = some (.list ds.reverse) := rfl
@[simp] theorem iArgs_ap {k : List Sv → Stt → DL.R (List D)} {fs : AX} : iArgs k fs env st = bindR (fs env st) k := rfl
@[simp] theorem tupleD_l : tupleD [.d (.list ds)] s = some (.tuple ds) := rfl
@[simp] theorem tupleD_t : tupleD [.d (.tuple ds)] s = some (.tuple ds) := rfl
@[simp] theorem listL_l : listL [.d (.list ds)] s = some (.list ds) := rfl
@[simp] theorem listL_t : listL [.d (.tuple ds)] s = some (.list ds) := rfl
@[simp] theorem enmA_ap : enmA [.d (.list ds)] s = .ok (enumD ds) s := rfl
@[simp] theorem zipA_ap {es : List D} : zipA [.d (.list ds), .d (.list es)] s = .ok (zipD ds es) s := rfl
theorem rng2_ap {i j : Int} (h1 : i.natAbs ≤ 1000000000000) (h2 : j.natAbs ≤ 1000000000000) : rng2 [.d (.int i), .d (.int j)] s = .ok (intsD i (j - i).toNat) s := if_pos (by rw [bndI_of h1, bndI_of h2]; rfl)
theorem rng2_up {n : Nat} (h : n ≤ 1000000) : rng2 [.d (.int 1), .d (.int ((n : Int) + 1))] s = .ok (intsD 1 n) s := by
  have e := rng2_ap (s := s) (i := 1) (j := (n : Int) + 1) (by omega) (by omega)
  rw [show ((n : Int) + 1 - 1).toNat = n by omega] at e
  exact e
theorem iSeq_ap (h : f env st = .ok (.d (.list ds)) s) : iSeq f env st = .ok ds s := by
  unfold iSeq
  rw [h]
theorem iTupl_ap (h : f env st = .ok (.d (.tuple ds)) s) : iTupl f env st = .ok ds s := by
  unfold iTupl
  rw [h]
theorem fo_append {g : GX} {B : SX} : ∀ (a b : List D) (env : En) (st : Stt), fo g B (a ++ b) env st = seqR (fo g B a env st) (fo g B b)
  | [], b, env, st => rfl
  | d :: a, b, env, st => by
    rw [List.cons_append]
    show (match g d env with | some e => _ | none => _) = seqR (match g d env with | some e => _ | none => _) _
    cases g d env with
    | none => rfl
    | some e =>
      simp only
      cases B e st with
      | nx e' s' => exact fo_append a b e' s'
      | rt x s' => rfl
      | ex c s' => rfl
      | bad => rfl
end
end DL

namespace DL
open PySem PySem.Spec PyProof.Rows L2

def repS (z : Str) (k : Int) : Str := if k < 1 then Str.empty else if (k == 1 || z.length == 0) = true then z else ⟨(List.replicate k.toNat z.cps).foldl (· ++ ·) #[]⟩
theorem fold_size (z : Array Nat) : ∀ (m : Nat) (acc : Array Nat), ((List.replicate m z).foldl (· ++ ·) acc).size = acc.size + m * z.size
  | 0, acc => by simp
  | m + 1, acc => by
    rw [List.replicate_succ, List.foldl_cons, fold_size z m, Array.size_append, Nat.add_mul, Nat.one_mul]
    omega
def rRepS : R2 := fun x y H Q => ∃ z k, x = .str z ∧ y = .int k ∧ 0 ≤ k ∧ k ≤ 100000 ∧ z.length ≤ 1 ∧ Q (.str (repS z k)) H
def repSD (x y : Sv) (_ : Stt) : Option D := match x, y with
  | .d (.str z), .d (.int k) => if 0 ≤ k ∧ k ≤ 100000 ∧ z.length ≤ 1 then some (.str (repS z k)) else none
  | _, _ => none
section
variable {X : Cx} {ca : Nat → Addr} {W : WX}
theorem op_repS : OpR X (binaryOp .Mult) rRepS := by
  intro pins s σ H x y v u Q I rx ry h
  obtain ⟨z, k, rfl, rfl, h0, h1, hz, q⟩ := h
  obtain ⟨t, rfl⟩ := rx
  obtain ⟨t', rfl⟩ := ry
  have hd : 1 ≤ k → (z.length : Int) ≤ (2 ^ 63 - 1) / k := fun hk => by
    rw [Int.le_ediv_iff_mul_le (by omega)]
    have : (z.length : Int) * k ≤ 1 * k := Int.mul_le_mul_of_nonneg_right (by omega) (by omega)
    omega
  refine PySem.P.mul_str (by rw [decide_eq_false (by omega), decide_eq_false (by omega)]; rfl) (fun a _ => by have := hd (by omega); omega) (fun a _ => ?_) ?_
  · have : z.length * k.toNat ≤ 1 * 100000 := Nat.mul_le_mul hz (by omega)
    exact decide_eq_false (by have := sz100 (show z.length * k.toNat ≤ 100000 by omega); omega)
  · have fin : ∀ (y : Str), repS z k = y → y.length ≤ sizeLine → Made.post (.str y) (EP X pins σ Q) s := fun y e hy => ⟨hy, .str y, H, I.tok _, ⟨_, rfl⟩, e ▸ q⟩
    unfold repS at fin q
    by_cases c1 : k < 1
    · rw [if_pos c1] at fin ⊢
      exact fin _ rfl (by decide)
    · rw [if_neg c1] at fin q ⊢
      by_cases c2 : (k == 1 || z.length == 0) = true
      · rw [if_pos c2] at q ⊢
        exact ⟨.str z, H, I, ⟨t, rfl⟩, q⟩
      · rw [if_neg c2] at fin ⊢
        refine fin _ rfl ?_
        show ((List.replicate k.toNat z.cps).foldl (· ++ ·) #[]).size ≤ sizeLine
        rw [fold_size]
        have : k.toNat * z.cps.size ≤ 100000 * 1 := Nat.mul_le_mul (by omega) hz
        exact sz100 (by simpa using this)
theorem os_repS : OpS X.K ca rRepS repSD := by
  intro G ρ st H x y v w d Q R sx sy e k
  unfold repSD at e
  split at e
  · split at e
    · rename_i h
      cases e
      cases str_of sx
      cases int_of sy
      exact ⟨_, _, rfl, rfl, h.1, h.2.1, h.2.2, k G _ H (Same.refl _) R (.str _)⟩
    · cases e
  · cases e
/-- x += e: numbers, texts -/
def augD (x y : Sv) (_ : Stt) : Option D := match x, y with
  | .d (.int i), .d (.int j) => some (.int (i + j))
  | .d (.str a), .d (.str b) => if szOk (a.length + b.length) then some (.str (a ++ b)) else none
  | _, _ => none
def bAug (i : Nat) (f : EX) : SX := bSet i (sBin augD (sVar i) f)
def rAug : R2 := fun x y H Q => (∃ i j, x = .int i ∧ y = .int j ∧ Q (.int (i + j)) H) ∨ (∃ a b, x = .str a ∧ y = .str b ∧ a.length + b.length ≤ sizeLine ∧ Q (.str (a ++ b)) H)
theorem ip_aug : PIp X .Add rAug := by
  intro pins s σ H x y v u Q I rx ry h
  rcases h with ⟨i, j, rfl, rfl, q⟩ | ⟨a, b, rfl, rfl, hz, q⟩
  · obtain ⟨t, rfl⟩ := rx
    obtain ⟨t', rfl⟩ := ry
    exact iadd_int ⟨.int _, H, I.tok _, ⟨_, rfl⟩, q⟩
  · exact iop_add_str pins s σ H _ _ v u Q I rx ry ⟨a, b, rfl, rfl, hz, q⟩
theorem ms_aug (i : Nat) {x : Str} {e : Expr} {f : EX} {p pos : Pos} (hN : X.N.Nodup) (he : PE X e (tr X.K ca W f)) (hi : X.N[i]? = some x := by rfl) (hx : Loc X.env.scope x := by first | exact .inl rfl | exact .inr rfl) (hf : X.fn x = true ∨ X.env.scope.names.lookup x = some .local := by first | exact .inl rfl | exact .inr rfl) :
    PS X (.AugAssign (.Name x p) .Add e pos) (trS X.K ca W (bAug i f)) := (ps_aug (ti := rAug) hN hi hx he ip_aug hf).imp fun D σ H q => by
  obtain ⟨G, ρ, env, st, hR, hE, k⟩ := q
  cases ev : env[i]? with
  | none => simp [bAug, bSet, sBin, sVar, ev, bindS, bindR, KnS] at k
  | some o =>
    cases o with
    | none => simp [bAug, bSet, sBin, sVar, ev, bindS, bindR, KnS] at k
    | some x0 =>
      obtain ⟨v, h1, h2⟩ := hE.2 i x0 ev
      refine ⟨v, h1, ?_⟩
      have k' : KnS X.K ca W D G ρ σ (bindS (f env st) fun y s => match augD x0 y s with | some d => .nx (env.set i (some (.d d))) s | none => .bad) := by
        have e1 : bAug i f env st = bindS (f env st) fun y s => match augD x0 y s with | some d => .nx (env.set i (some (.d d))) s | none => .bad := by
          show bindS (bindR (sVar i env st) fun x s => bindR (f env s) fun y s => optR (augD x y s) s) _ = _
          have e2 : sVar i env st = .ok x0 st := by unfold sVar; rw [ev]
          rw [e2]
          show bindS (bindR (f env st) fun y s => optR (augD x0 y s) s) _ = _
          cases f env st with
          | ok y s =>
            show bindS (optR (augD x0 y s) s) _ = _
            show _ = match augD x0 y s with | some d => RS.nx (env.set i (some (.d d))) s | none => .bad
            cases augD x0 y s <;> rfl
          | ex c s => rfl
          | bad => rfl
        rw [← e1]
        exact k
      refine trS_seq hR hE k' fun G1 ρ1 w H1 y st1 s1 p1 R1 E1 sy k1 => ?_
      have h2 := h2.mono s1 p1
      unfold augD at k1
      split at k1
      · rename_i d hd
        split at hd
        · cases hd
          cases int_of h2
          cases int_of sy
          refine .inl ⟨_, _, rfl, rfl, ?_⟩
          exact k1 G1 ρ1 _ H1 (Same.refl _) (List.prefix_refl _) R1 (E1.set (x := .d _) (DR.int _)) (List.length_set ..)
        · split at hd
          · rename_i hz
            cases hd
            cases str_of h2
            cases str_of sy
            refine .inr ⟨_, _, rfl, rfl, szOk_le hz, ?_⟩
            exact k1 G1 ρ1 _ H1 (Same.refl _) (List.prefix_refl _) R1 (E1.set (x := .d _) (DR.str _)) (List.length_set ..)
          · cases hd
        · cases hd
      · exact k1.elim
end
def strsOf : List D → Option (List Str)
  | [] => some []
  | .str b :: r => (strsOf r).map (b :: ·)
  | _ :: _ => none
theorem strs_of {K : PySem.W.Frag} {G : Hp} : ∀ {vs : List V} {ds : List D} {bs : List Str}, DRA K G vs ds → strsOf ds = some bs → vs = bs.map V.str
  | _, [], bs, h, e => by
    cases h
    cases e
    rfl
  | _, .str b :: r, bs, h, e => by
    cases h with
    | cons h1 h2 =>
      cases h1
      unfold strsOf at e
      cases e2 : strsOf r with
      | none => rw [e2] at e; cases e
      | some cs =>
        rw [e2] at e
        cases e
        rw [strs_of h2 e2]
        rfl
  | _, .none :: r, bs, h, e => by cases e
  | _, .int _ :: r, bs, h, e => by cases e
  | _, .bool _ :: r, bs, h, e => by cases e
  | _, .list _ :: r, bs, h, e => by cases e
  | _, .tuple _ :: r, bs, h, e => by cases e
  | _, .dict _ :: r, bs, h, e => by cases e
def joinD (a : Str) (y : Sv) (st : Stt) : Option D := match toL st y with
  | some ds => (match strsOf ds with
    | some ys => if (ys.map (·.length)).sum + ys.length * a.length ≤ 16777216 then some (.str (Txt.join a ys)) else none
    | none => none)
  | none => none
def joinR (x : Sv) (r : Stt → DL.R Sv) (s : Stt) (k : Str → Sv → Stt → DL.R Sv) : DL.R Sv := match x with
  | .d (.str a) => bindR (r s) (k a)
  | _ => .bad
def sJoin (f g : EX) : EX := fun env st => bindR (f env st) fun x s => joinR x (g env) s fun a y s => optR (joinD a y s) s
@[simp] theorem sJoin_ap {f g : EX} {env : En} {st : Stt} : sJoin f g env st = bindR (f env st) fun x s => joinR x (g env) s fun a y s => optR (joinD a y s) s := rfl
@[simp] theorem joinR_s {a : Str} {r : Stt → DL.R Sv} {s : Stt} {k : Str → Sv → Stt → DL.R Sv} : joinR (.d (.str a)) r s k = bindR (r s) (k a) := rfl
theorem m_join {X : Cx} {ca : Nat → Addr} {W : WX} {o e : Expr} {f g : EX} {apos pos : Pos} (ho : PE X o (tr X.K ca W f)) (he : PE X e (tr X.K ca W g)) (hs : starEach [e] X.env = [(false, eval e X.env)] := by rfl) (hbase : attributeBase o "join" X.env (eval o X.env) = eval o X.env := by rfl) (hline : (apos.endLine == pos.line) = true := by rfl) :
    PE X (.Call (.Attribute o "join" apos) [e] [] pos) (tr X.K ca W (sJoin f g)) := (pe_join ho he hs hbase hline).imp fun σ H Q q => by
  obtain ⟨G, ρ, env, st, hR, hE, k⟩ := q
  refine tr_seq hR hE k fun G1 ρ1 v H1 x st1 s1 p1 R1 E1 sx k1 => ?_
  unfold joinR at k1
  split at k1
  · rename_i a
    cases str_of sx
    refine ⟨⟨a, rfl⟩, tr_seq R1 E1 k1 fun G2 ρ2 w H2 y st2 s2 p2 R2 E2 sy k2 => ?_⟩
    have k2 : Kn X.K ca W G2 ρ2 σ (optR (joinD a y st2) st2) Q := k2
    cases e1 : joinD a y st2 with
    | none => rw [e1] at k2; exact k2.elim
    | some d =>
      rw [e1] at k2
      unfold joinD at e1
      split at e1
      · rename_i ds hd
        split at e1
        · rename_i ys hy
          split at e1
          · rename_i hz
            cases e1
            obtain ⟨b, ws, rfl, j1, j2⟩ := sy.toL R2 hd
            have ew := strs_of j2 hy
            subst ew
            exact ⟨a, b, ys, rfl, rfl, .inl (SqL.of j1), hz, k2 G2 ρ2 _ H2 (Same.refl _) (List.prefix_refl _) R2 (DR.str _)⟩
          · cases e1
        · cases e1
      · cases e1
  · exact k1.elim
end DL

namespace L2
open PySem PySem.Spec PyProof.Rows
section
variable {X : Cx}
/-- xs[i], by values -/
theorem get_list : PGet X (rIxL X.K) := by
  intro pins s σ H o i ov iv Q I rx ry h
  obtain ⟨p, xs, k, z, rfl, rfl, hq, he, q⟩ := h
  cases rx
  obtain ⟨t, rfl⟩ := ry
  obtain ⟨its, r, pl, hz⟩ := I.list hq
  obtain ⟨j, h1, h2, h3, h4, h5⟩ := atI_get he
  obtain ⟨w, ew, rw'⟩ := r.get h2
  have hl := r.length
  have hn := line63
  have fin : EP X pins σ Q w s := ⟨z, H, I, rw', q⟩
  by_cases h0 : 0 ≤ k
  · have hj : k.toNat = j := by
      rw [seqIndex_of h0 h5] at h1
      exact Option.some.inj h1
    exact wpAny_getItem_list pl.isList h0 (by omega) (by rw [hj]; simpa using ew) fin
  · have hj : (k + (its.toArray.size : Int)).toNat = j := by
      rw [seqIndex_neg (by omega) h4] at h1
      rw [List.size_toArray, ← hl]
      exact Option.some.inj h1
    exact wpAny_getItem_list_neg pl.isList (by omega) (by rw [List.size_toArray] <;> omega) (by omega) (by rw [hj]; simpa using ew) fin
end
end L2
namespace DL
open PySem PySem.Spec PyProof.Rows L2
section
variable {X : Cx} {ca : Nat → Addr} {W : WX} {e a b c : Expr} {es : List Expr} {f g h : EX} {fs : AX} {pos p : Pos}
structure PkOk (X : Cx) (ca : Nat → Addr) (f : Addr) (F : List Sv → Stt → DL.R Sv) : Prop where
  ex : ∃ (k : Nat) (fd : FuncData) (ps : List Str), FnOk X.prog X.w X.K X.mg X.base (L2.CX X.prog X.w) k f fd ps (spF X.K ca F) ∧ Room k X.A ∧ PySem.W.keepIn X.K (.ref f) = true ∧ Binds X.K fd ps []
theorem pk_ok {k : Nat} {f : Addr} {fd : FuncData} {ps : List Str} {F : List Sv → Stt → DL.R Sv} (ok : FnOk X.prog X.w X.K X.mg X.base (L2.CX X.prog X.w) k f fd ps (spF X.K ca F)) (hr : Room k X.A) (hk : PySem.W.keepIn X.K (.ref f) = true) (hb : Binds X.K fd ps []) : PkOk X ca f F := ⟨k, fd, ps, ok, hr, hk, hb⟩
inductive Pks (X : Cx) (ca : Nat → Addr) : List Expr → List Addr → List (List Sv → Stt → DL.R Sv) → Prop
  | nil : Pks X ca [] [] []
  | cons {x : Str} {p : Pos} {f : Addr} {F : List Sv → Stt → DL.R Sv} {es : List Expr} {fs : List Addr} {Fs : List (List Sv → Stt → DL.R Sv)} (hm : X.mg x = some (.ref f)) (ok : PkOk X ca f F) (t : Pks X ca es fs Fs) (hg : Gl X x) (hd : (x == ("__debug__" : Str)) = false)
      (hs : starEach (.Name x p :: es) X.env = (false, eval (.Name x p) X.env) :: starEach es X.env) : Pks X ca (.Name x p :: es) (f :: fs) (F :: Fs)
theorem pks_cons {x : Str} {p : Pos} {f : Addr} {F : List Sv → Stt → DL.R Sv} {es : List Expr} {fs : List Addr} {Fs : List (List Sv → Stt → DL.R Sv)} (hm : X.mg x = some (.ref f)) (ok : PkOk X ca f F) (t : Pks X ca es fs Fs) (hg : Gl X x := by rfl) (hd : (x == ("__debug__" : Str)) = false := by decide)
      (hs : starEach (.Name x p :: es) X.env = (false, eval (.Name x p) X.env) :: starEach es X.env := by rfl) : Pks X ca (.Name x p :: es) (f :: fs) (F :: Fs) := .cons hm ok t hg hd hs
theorem Pks.pa {es : List Expr} {fs : List Addr} {Fs : List (List Sv → Stt → DL.R Sv)} (h : Pks X ca es fs Fs) : PA X es (fun σ H Q => Q (fs.map V.ref) H) := by
  induction h with
  | nil => exact pa_nil
  | cons hm ok t hg hd hs ih => exact (pa_cons (pe_glob (v := V.ref _) hg hm rfl hd) ih hs).imp fun σ H Q q => q
theorem Pks.get {es : List Expr} {fs : List Addr} {Fs : List (List Sv → Stt → DL.R Sv)} (h : Pks X ca es fs Fs) : ∀ {n : Nat} {F : List Sv → Stt → DL.R Sv}, Fs[n]? = some F → ∃ f, fs[n]? = some f ∧ PkOk X ca f F := by
  induction h with
  | nil => intro n F e; simp at e
  | cons hm ok t hg hd hs ih =>
    intro n F e
    cases n with
    | zero =>
      simp at e
      subst e
      exact ⟨_, rfl, ok⟩
    | succ n => exact ih (by simpa using e)
theorem Pks.len {es : List Expr} {fs : List Addr} {Fs : List (List Sv → Stt → DL.R Sv)} (h : Pks X ca es fs Fs) : fs.length = Fs.length := by
  induction h with
  | nil => rfl
  | cons hm ok t hg hd hs ih => rw [List.length_cons, List.length_cons, ih]
def pickR (Fs : List (List Sv → Stt → DL.R Sv)) (fs : AX) (env : En) (x : Sv) (s : Stt) : DL.R Sv := match x with
  | .d (.int (.ofNat n)) => (match Fs[n]? with
    | some F => bindR (fs env s) fun xs s => F xs s
    | none => .bad)
  | _ => .bad
def sPick (Fs : List (List Sv → Stt → DL.R Sv)) (g : EX) (fs : AX) : EX := fun env st => bindR (g env st) (pickR Fs fs env)
theorem m_pick {ns : List Expr} {as : List Addr} {Fs : List (List Sv → Stt → DL.R Sv)} {i : Expr} {p1 p2 : Pos} (pk : Pks X ca ns as Fs) (hi : PE X i (tr X.K ca W g)) (hp : PlainIx i) (ha : PA X (e :: es) (trA X.K ca W fs)) (tk : Takes X W) (hz : Nat.ble Fs.length 100 = true := by rfl)
    (he : starEach (e :: es) X.env = (false, eval e X.env) :: starEach es X.env := by rfl) (hpl : (backTo pos (starEach es X.env)).any (·.1) = false := by rfl) : PE X (.Call (.Subscript (.List ns p1) i p2) (e :: es) [] pos) (tr X.K ca W (sPick Fs g fs)) := by
  refine ⟨fun pins s σ H Q I q => ?_⟩
  have e0 : eval (.Call (.Subscript (.List ns p1) i p2) (e :: es) [] pos) X.env = (do callWith pos (← eval (.Subscript (.List ns p1) i p2) X.env) [] (backTo pos (starEach (e :: es) X.env)) (backToKw pos (keywordEach [] X.env))) := rfl
  rw [e0]
  refine wpAny_bind ?_
  refine thn ((pe_ix ix_list (pe_lst pk.pa) hi hp).run pins s σ H (fun v H1 => ∃ f F, v = .ref f ∧ PkOk X ca f F ∧ trA X.K ca W fs σ H1 (fun vs H2 => spF X.K ca F vs H2 Q (WE W σ))) I ?_) fun u s1 ⟨v, H1, I1, r1, q1⟩ => ?_
  · obtain ⟨G, ρ, env, st, hR, hE, k⟩ := q
    have hlen : (as.map V.ref).length ≤ sizeLine := by
      rw [List.length_map, pk.len]
      exact Nat.le_trans (Nat.ble_eq.mp hz) (by decide)
    refine ⟨hlen, fun p hp => ?_⟩
    obtain ⟨s', R'⟩ := hR.frozen (o := .lst (as.map V.ref)) hp
    refine tr_seq R' (hE.mono s' (List.prefix_refl _)) (k.base s' (List.prefix_refl _)) fun G1 ρ1 w H1 x st1 s1 p1 R1 E1 sx k1 => ?_
    unfold pickR at k1
    split at k1
    · rename_i n
      split at k1
      · rename_i F hF
        obtain ⟨f, hf, ok⟩ := pk.get hF
        cases int_of sx
        refine ⟨p, as.map V.ref, _, .ref f, rfl, rfl, SqL.of (R1.sub _ _ (s1 _ _ upd_same)), atI_nat (j := n) (by rw [List.getElem?_map, hf]; rfl), f, F, rfl, ok, ?_⟩
        refine trA_seq R1 E1 k1 fun G2 ρ2 vs H2 xs st2 s2 p2 R2 E2 sy k2 => ?_
        exact ⟨G2, ρ2, st2, xs, R2, sy, k2.wish fun c H h => h⟩
      · exact k1.elim
    · exact k1.elim
  · obtain ⟨f, F, rfl, ⟨k, fd, ps, ok, hr, hk, hb⟩, qa⟩ := q1
    cases r1
    refine PySem.W.callWith_K (h₀ := X.base) I1.ok.mod.kin hk (thn (ha.run pos pins s1 σ H1 _ I1 qa) fun us s2 ⟨vs, H2, I2, r, q⟩ => ⟨I2.kIn, ?_⟩) he hpl
    exact run_fnS ok hr hb (passAt tk σ) I2 r q
@[simp] theorem sPick_ap {Fs : List (List Sv → Stt → DL.R Sv)} {env : En} {st : Stt} : sPick Fs g fs env st = bindR (g env st) (pickR Fs fs env) := rfl
@[simp] theorem pickR_0 {F : List Sv → Stt → DL.R Sv} {Fs : List (List Sv → Stt → DL.R Sv)} {env : En} {s : Stt} : pickR (F :: Fs) fs env (.d (.int 0)) s = bindR (fs env s) fun xs s => F xs s := rfl
@[simp] theorem pickR_1 {F F1 : List Sv → Stt → DL.R Sv} {Fs : List (List Sv → Stt → DL.R Sv)} {env : En} {s : Stt} : pickR (F :: F1 :: Fs) fs env (.d (.int 1)) s = bindR (fs env s) fun xs s => F1 xs s := rfl
@[simp] theorem pickR_2 {F F1 F2 : List Sv → Stt → DL.R Sv} {Fs : List (List Sv → Stt → DL.R Sv)} {env : En} {s : Stt} : pickR (F :: F1 :: F2 :: Fs) fs env (.d (.int 2)) s = bindR (fs env s) fun xs s => F2 xs s := rfl
theorem pickR_n {F : List Sv → Stt → DL.R Sv} {Fs : List (List Sv → Stt → DL.R Sv)} {env : En} {s : Stt} {n : Nat} (h : Fs[n]? = some F) : pickR Fs fs env (.d (.int (n : Nat))) s = bindR (fs env s) fun xs s => F xs s := by
  show (match Fs[n]? with | some F => _ | none => _) = _
  rw [h]
def getIx (x i : Sv) (st : Stt) : Option Int := match x, i with
  | .r n, .d (.int k) => (match st[n]? with
    | some (.lst ds) => (match atI ds k with
      | some (.int a) => some a
      | _ => none)
    | _ => none)
  | _, _ => none
def setIx (x i : Sv) (d : D) (st : Stt) : Option Stt := match x, i with
  | .r n, .d (.int k) => (match st[n]? with
    | some (.lst ds) => (match ixN ds.length k with
      | some j => some (st.set n (.lst (ds.set j d)))
      | none => none)
    | _ => none)
  | _, _ => none
def augIxR (p : Int → Int → Int) (env : En) (x i : Sv) (a : Int) (y : Sv) (s : Stt) : RS := match y with
  | .d (.int b) => (match setIx x i (.int (p a b)) s with
    | some s' => .nx env s'
    | none => .bad)
  | _ => .bad
def augIxO (p : Int → Int → Int) (env : En) (h : EX) (x i : Sv) (o : Option Int) (s : Stt) : RS := match o with
  | some a => bindS (h env s) fun y s => augIxR p env x i a y s
  | none => .bad
def bAugIx (p : Int → Int → Int) (f g h : EX) : SX := fun env st => bindS (f env st) fun x s => bindS (g env s) fun i s => augIxO p env h x i (getIx x i s) s
theorem getIx_some {x i : Sv} {st : Stt} {a : Int} (h : getIx x i st = some a) : ∃ n k ds, x = .r n ∧ i = .d (.int k) ∧ st[n]? = some (.lst ds) ∧ atI ds k = some (.int a) := by
  unfold getIx at h
  split at h
  · rename_i n k
    cases e : st[n]? with
    | none => simp only [e] at h; cases h
    | some o =>
      cases o with
      | lst ds =>
        simp only [e] at h
        cases e2 : atI ds k with
        | none => simp only [e2] at h; cases h
        | some d =>
          cases d <;> simp only [e2] at h <;> first | (cases h; done) | skip
          cases h
          exact ⟨n, k, ds, rfl, rfl, e, e2⟩
      | _ => simp only [e] at h; cases h
  · cases h
theorem setIx_some {n : Nat} {k : Int} {st s' : Stt} {d : D} (h : setIx (.r n) (.d (.int k)) d st = some s') : ∃ ds j, st[n]? = some (.lst ds) ∧ ixN ds.length k = some j ∧ s' = st.set n (.lst (ds.set j d)) := by
  unfold setIx at h
  cases e : st[n]? with
  | none => simp only [e] at h; cases h
  | some o =>
    cases o with
    | lst ds =>
      simp only [e] at h
      cases e2 : ixN ds.length k with
      | none => simp only [e2] at h; cases h
      | some j =>
        simp only [e2] at h
        cases h
        exact ⟨ds, j, rfl, e2, rfl⟩
    | _ => simp only [e] at h; cases h
theorem ms_augIx {op : Operator} {pp : Int → Int → Int} (hop : PIp X op (ipI pp)) {o i : Expr} {tpos : Pos} (ho : PE X o (tr X.K ca W f)) (hi : PE X i (tr X.K ca W g)) (he : PE X e (tr X.K ca W h))
    (ha : ∀ ov iv new, augStore i ov iv new = (do holding [new, ov, iv] (setItem ov iv new); release [new, ov, iv] []; pure .next) := by intros; rfl) : PS X (.AugAssign (.Subscript o i tpos) op e pos) (trS X.K ca W (bAugIx pp f g h)) :=
  (ps_augS ho hi get_list he hop set_list ha).imp fun D σ H q => by
  obtain ⟨G, ρ, env, st, hR, hE, k⟩ := q
  refine trS_seq hR hE k fun G1 ρ1 v H1 x st1 s1 p1 R1 E1 sx k1 => ?_
  refine trS_seq R1 E1 k1 fun G2 ρ2 w H2 y st2 s2 p2 R2 E2 sy k2 => ?_
  unfold augIxO at k2
  split at k2
  · rename_i a ha
    obtain ⟨n, kk, ds, rfl, rfl, hs, hat⟩ := getIx_some ha
    obtain ⟨ad, h1, rfl⟩ := sx.mono s2 p2
    cases int_of sy
    obtain ⟨vs, g1, g2⟩ := R2.obj n ad _ h1 hs
    obtain ⟨u, u1, u2⟩ := g2.at hat
    cases u2
    refine ⟨ad, vs, kk, _, rfl, rfl, SqL.of g1, u1, trS_seq R2 E2 k2 fun G3 ρ3 z H3 y3 st3 s3 p3 R3 E3 sz k3 => ?_⟩
    unfold augIxR at k3
    split at k3
    · rename_i b
      cases int_of sz
      refine ⟨a, b, rfl, rfl, ?_⟩
      split at k3
      · rename_i s' hs'
        obtain ⟨ds3, j, hs3, hj, rfl⟩ := setIx_some hs'
        obtain ⟨vs3, g3, g4⟩ := R3.obj n ad _ (pre_get p3 h1) hs3
        refine ⟨ad, vs3, kk, j, rfl, rfl, g3, by rw [g4.length]; exact hj, ?_⟩
        exact k3.nx_of (R3.write (pre_get p3 h1) hs3 (fun z => by cases z) (o := .lst (ds3.set j (.int (pp a b)))) ⟨_, upd_same, g4.set (.int _) j⟩) E3 rfl
      · exact k3.elim
    · exact k3.elim
  · exact k2.elim
@[simp] theorem bAugIx_ap {pp : Int → Int → Int} {env : En} {st : Stt} : bAugIx pp f g h env st = bindS (f env st) fun x s => bindS (g env s) fun i s => augIxO pp env h x i (getIx x i s) s := rfl
@[simp] theorem augIxO_some {pp : Int → Int → Int} {env : En} {x i : Sv} {a : Int} {s : Stt} : augIxO pp env h x i (some a) s = bindS (h env s) fun y s => augIxR pp env x i a y s := rfl
theorem getIx_r {n : Nat} {k a : Int} {s : Stt} {ds : List D} (h : s[n]? = some (.lst ds)) (e : atI ds k = some (.int a)) : getIx (.r n) (.d (.int k)) s = some a := by
  unfold getIx
  simp only [h, e]
theorem augIx_r {pp : Int → Int → Int} {env : En} {n j : Nat} {k a b : Int} {s : Stt} {ds : List D} (h : s[n]? = some (.lst ds)) (e : ixN ds.length k = some j) : augIxR pp env (.r n) (.d (.int k)) a (.d (.int b)) s = .nx env (s.set n (.lst (ds.set j (.int (pp a b))))) := by
  unfold augIxR setIx
  simp only [h, e]
def rgL (x : Sv) (s : Stt) : DL.R Sv := match x with
  | .d (.int n) => if Nat.ble n.natAbs 90000 then .ok (.r s.length) (s ++ [.lst (intsD 0 n.toNat)]) else .bad
  | _ => .bad
def sListRg (f : EX) : EX := fun env st => bindR (f env st) rgL
theorem rgV_ints {K : PySem.W.Frag} {G : Hp} (n : Int) : DRA K G (rgV 0 n) (intsD 0 n.toNat) := by
  unfold rgV intsD
  rw [Int.sub_zero]
  generalize n.toNat = m
  have h : ∀ l : List Nat, DRA K G (l.map fun i => V.int (0 + (i : Nat))) (l.map fun i => PyData.int (0 + (i : Nat))) := fun l => by
    induction l with
    | nil => exact .nil
    | cons a l ih => exact .cons (.int _) ih
  exact h _
theorem m_listRg {x : Expr} {p1 p2 p3 : Pos} (hc : X.calm = true) (hm : X.mg "list" = none) (hm2 : X.mg "range" = none) (he : PE X x (tr X.K ca W f)) (hg : Gl X "list" := by rfl) (hg2 : Gl X "range" := by rfl) (na : starEach [x] X.env = (false, eval x X.env) :: starEach [] X.env := by rfl)
    (na2 : starEach [.Call (.Name "range" p1) [x] [] p2] X.env = (false, eval (.Call (.Name "range" p1) [x] [] p2) X.env) :: starEach [] X.env := by rfl) : PE X (.Call (.Name "list" p3) [.Call (.Name "range" p1) [x] [] p2] [] pos) (tr X.K ca W (sListRg f)) :=
  (pe_listRg hc hg hm (prg_1 hg2 hm2 he na) na2).imp fun σ H Q q => by
  obtain ⟨G, ρ, env, st, hR, hE, k⟩ := q
  refine tr_seq hR hE k fun G1 ρ1 v H1 x st1 s1 p1 R1 E1 sx k1 => ?_
  unfold rgL at k1
  split at k1
  · rename_i n
    split at k1
    · rename_i hn
      have hn := Nat.ble_eq.mp hn
      cases int_of sx
      refine ⟨n, rfl, ⟨by decide, by decide, by omega, by omega, by omega⟩, fun q hq => ?_⟩
      refine k1 G1 (ρ1 ++ [q]) _ _ (Same.refl _) (List.prefix_append _ _) (R1.alloc hq (o := .lst (intsD 0 n.toNat)) ⟨_, upd_same, rgV_ints n⟩) ⟨q, ?_, rfl⟩
      rw [← R1.len, List.getElem?_append_right (Nat.le_refl _), Nat.sub_self]
      rfl
    · exact k1.elim
  · exact k1.elim
@[simp] theorem sListRg_ap {env : En} {st : Stt} : sListRg f env st = bindR (f env st) rgL := rfl
theorem rgL_ap {n : Int} {s : Stt} (h : n.natAbs ≤ 90000) : rgL (.d (.int n)) s = .ok (.r s.length) (s ++ [.lst (intsD 0 n.toNat)]) := by
  show (if Nat.ble n.natAbs 90000 then _ else _) = _
  rw [if_pos (Nat.ble_eq.mpr h)]
def stepN (i j c : Int) : Nat := if i < j then ((j - i - 1) / c + 1).toNat else 0
def stepsD (lo c : Int) (n : Nat) : List D := (List.range n).map fun i => .int (lo + (i : Nat) * c)
def rng3 (xs : List Sv) (s : Stt) : DL.R (List D) := match xs with
  | [.d (.int i), .d (.int j), .d (.int c)] => if Nat.ble i.natAbs 100000 && Nat.ble j.natAbs 100000 && Nat.ble 1 c.toNat && Nat.ble c.natAbs 100000 then .ok (stepsD i c (stepN i j c)) s else .bad
  | _ => .bad
theorem cs3 {K : PySem.W.Frag} {G : Hp} {ρ : List Addr} {x y z : Sv} {vs : List V} (h : Paired (SR K G ρ) [x, y, z] vs) : ∃ v w u, vs = [v, w, u] ∧ SR K G ρ x v ∧ SR K G ρ y w ∧ SR K G ρ z u := by
  cases h with
  | cons h1 t1 =>
    cases t1 with
    | cons h2 t2 =>
      cases t2 with
      | cons h3 t3 =>
        cases t3
        exact ⟨_, _, _, rfl, h1, h2, h3⟩
theorem src_rangeC {lo c : Int} {n : Nat} {G : Hp} : Src X.K ca (Itc lo c n) G (stepsD lo c n) := by
  intro G' ρ st H i s R
  refine ⟨fun d e => ?_, fun hl => by unfold stepsD at hl; rw [List.length_map, List.length_range] at hl; exact hl⟩
  unfold stepsD at e
  rw [List.getElem?_map] at e
  have hi : i < n := by
    cases q : (List.range n)[i]? with
    | none => rw [q] at e; cases e
    | some j =>
      have := (List.getElem?_eq_some_iff.mp q).1
      rw [List.length_range] at this
      exact this
  rw [List.getElem?_range hi] at e
  cases e
  refine ⟨hi, fun x H' y => ?_⟩
  obtain ⟨rfl, rfl⟩ := y
  exact ⟨G', Same.refl _, R, .int _⟩
theorem rgC_up {i j c : Int} (h1 : i.natAbs ≤ 100000) (h2 : j.natAbs ≤ 100000) (h3 : 1 ≤ c) (h4 : c ≤ 100000) : RgC i j c (stepN i j c) := by
  have e : Builtin.Range.rangeSize i j c = (stepN i j c : Nat) := by
    unfold Builtin.Range.rangeSize stepN
    rw [if_pos (show c > 0 by omega)]
    by_cases h : i < j
    · rw [if_pos h, if_pos h]
      have := Int.ediv_nonneg (show 0 ≤ j - i - 1 by omega) (show 0 ≤ c by omega)
      omega
    · rw [if_neg h, if_neg h]
      rfl
  refine ⟨by omega, by omega, ?_, e⟩
  have n1 : (stepN i j c : Int) * c ≤ 400000 := by
    unfold stepN
    by_cases h : i < j
    · rw [if_pos h]
      have k1 := Int.ediv_nonneg (show 0 ≤ j - i - 1 by omega) (show 0 ≤ c by omega)
      have k2 := Int.mul_ediv_add_emod (j - i - 1) c
      have k3 := Int.emod_nonneg (j - i - 1) (show c ≠ 0 by omega)
      rw [Int.toNat_of_nonneg (by omega), Int.add_mul, Int.mul_comm _ c]
      omega
    · rw [if_neg h]
      show (0 : Int) * c ≤ _
      rw [Int.zero_mul]
      decide
  have n2 : (stepN i j c : Int) ≤ 400000 := by
    unfold stepN
    by_cases h : i < j
    · rw [if_pos h]
      have k1 := Int.ediv_nonneg (show 0 ≤ j - i - 1 by omega) (show 0 ≤ c by omega)
      have k2 : (j - i - 1) / c ≤ j - i - 1 := Int.ediv_le_self _ (by omega)
      omega
    · rw [if_neg h]
      decide
  have n3 : 0 ≤ (stepN i j c : Int) * c := Int.mul_nonneg (Int.natCast_nonneg _) (by omega)
  unfold Builtin.Range.small
  rw [e]
  simp only [Builtin.Range.rangeFitsLong, Bool.and_eq_true, Bool.or_eq_true, decide_eq_true_eq, beq_iff_eq, show c > 0 by omega, if_true]
  omega
theorem mi_range3 {a b c : Expr} {p pos : Pos} {tg : Expr} (hm : X.mg "range" = none) (ha : PA X [a, b, c] (trA X.K ca W fs)) (hg : Gl X "range" := by rfl)
    (hs : starEach [a, b, c] X.env = (false, eval a X.env) :: starEach [b, c] X.env := by rfl) (hpl : (backTo pos (starEach [b, c] X.env)).any (·.1) = false := by rfl) :
    PI X tg (.Call (.Name "range" p) [a, b, c] [] pos) (trI X.K ca W (iArgs rng3 fs)) := PI.imp (pi_range3 hg hm ha hs hpl) fun σ H R q => by
  refine trI_args q fun G1 ρ1 vs H1 xs st1 env R1 E1 sx k1 => ?_
  cases e : rng3 xs st1 with
  | bad => rw [e] at k1; exact k1.elim
  | ex c s => unfold rng3 at e; split at e <;> (try split at e) <;> cases e
  | ok ds s =>
    rw [e] at k1
    unfold rng3 at e
    split at e
    · rename_i i j c
      obtain ⟨v, w, u, rfl, s1, s2, s3⟩ := cs3 sx
      cases int_of s1
      cases int_of s2
      cases int_of s3
      split at e
      · rename_i h
        cases e
        simp only [Bool.and_eq_true, Nat.ble_eq] at h
        obtain ⟨⟨⟨h1, h2⟩, h3⟩, h4⟩ := h
        exact ⟨i, j, c, _, rfl, rgC_up h1 h2 (by omega) (by omega), k1 G1 ρ1 H1 _ (Same.refl _) (List.prefix_refl _) R1 src_rangeC⟩
      · cases e
    · cases e
theorem rng3_ap {i j c : Int} {s : Stt} (h1 : i.natAbs ≤ 100000) (h2 : j.natAbs ≤ 100000) (h3 : 1 ≤ c) (h4 : c ≤ 100000) : rng3 [.d (.int i), .d (.int j), .d (.int c)] s = .ok (stepsD i c (stepN i j c)) s := by
  refine if_pos ?_
  simp only [Bool.and_eq_true, Nat.ble_eq]
  omega
def splitD (a : Str) (y : Sv) : Option D := match y with
  | .d (.str b) => if (b.length == 0) = false ∧ Nat.ble a.length 90000 = true then some (.list ((Txt.split a b).map PyData.str)) else none
  | _ => none
def sSplit (f g : EX) : EX := fun env st => bindR (f env st) fun x s => joinR x (g env) s fun a y s => optR (splitD a y) s
theorem DRA.strs {K : PySem.W.Frag} {G : Hp} : ∀ l : List Str, DRA K G (l.map V.str) (l.map PyData.str)
  | [] => .nil
  | a :: l => .cons (.str a) (DRA.strs l)
theorem m_split {o e : Expr} {apos : Pos} (ho : PE X o (tr X.K ca W f)) (he : PE X e (tr X.K ca W g)) (hs : starEach [e] X.env = [(false, eval e X.env)] := by rfl) (hbase : attributeBase o "split" X.env (eval o X.env) = eval o X.env := by rfl) (hline : (apos.endLine == pos.line) = true := by rfl) :
    PE X (.Call (.Attribute o "split" apos) [e] [] pos) (tr X.K ca W (sSplit f g)) := (pe_split ho he hs hbase hline).imp fun σ H Q q => by
  obtain ⟨G, ρ, env, st, hR, hE, k⟩ := q
  refine tr_seq hR hE k fun G1 ρ1 v H1 x st1 s1 p1 R1 E1 sx k1 => ?_
  unfold joinR at k1
  split at k1
  · rename_i a
    cases str_of sx
    refine ⟨⟨a, rfl⟩, tr_seq R1 E1 k1 fun G2 ρ2 w H2 y st2 s2 p2 R2 E2 sy k2 => ?_⟩
    have k4 : Kn X.K ca W G2 ρ2 σ (optR (splitD a y) st2) Q := k2
    clear k2
    unfold splitD at k4
    split at k4
    · rename_i b
      split at k4
      · rename_i h
        cases str_of sy
        refine ⟨a, b, rfl, rfl, h.1, ?_, fun p hp => ?_⟩
        · have := Nat.ble_eq.mp h.2
          exact Nat.le_trans (Nat.add_le_add_right this 2) (by decide)
        · obtain ⟨s', R'⟩ := R2.frozen (o := .lst ((Txt.split a b).map V.str)) hp
          exact k4 _ ρ2 _ _ s' (List.prefix_refl _) R' (.lst upd_same (DRA.strs _))
      · exact k4.elim
    · exact k4.elim
  · exact k1.elim
@[simp] theorem sSplit_ap {env : En} {st : Stt} : sSplit f g env st = bindR (f env st) fun x s => joinR x (g env) s fun a y s => optR (splitD a y) s := rfl
@[simp] theorem tupD_4 {d1 d2 d3 d4 : D} {s : Stt} : tupD [.d d1, .d d2, .d d3, .d d4] s = some (.tuple [d1, d2, d3, d4]) := rfl
@[simp] theorem tupD_5 {d1 d2 d3 d4 d5 : D} {s : Stt} : tupD [.d d1, .d d2, .d d3, .d d4, .d d5] s = some (.tuple [d1, d2, d3, d4, d5]) := rfl
def setsE : En → List Nat → List Sv → Option En
  | e, [], [] => some e
  | e, i :: is, x :: xs => setsE (e.set i (some x)) is xs
  | _, _, _ => none
def oNxE (o : Option En) (s : Stt) : RS := match o with
  | some e => .nx e s
  | none => .bad
def bParT (is : List Nat) (fs : AX) : SX := fun env st => bindSA (fs env st) fun xs s => if Nat.ble xs.length 100 then oNxE (setsE env is xs) s else .bad
def gsSet : List Nat → TGs
  | [], vs, σ, H, Q => vs = [] ∧ Q σ H
  | i :: is, vs, σ, H, Q => ∃ v r, vs = v :: r ∧ gsSet is r (σ.set i (some v)) H Q
theorem pgs_set0 : PGs X [] (gsSet []) := pgs_nil
theorem pgs_setC (i : Nat) {is : List Nat} {x : Str} {es : List Expr} (hN : X.N.Nodup) (t : PGs X es (gsSet is)) (hi : X.N[i]? = some x := by rfl) (hx : Loc X.env.scope x := by first | exact .inl rfl | exact .inr rfl) (hf : X.fn x = true ∨ X.env.scope.names.lookup x = some .local := by first | exact .inl rfl | exact .inr rfl | assumption)
    (hs : (assignEach (.Name x p :: es) X.env).map (·.2) = assign (.Name x p) X.env :: (assignEach es X.env).map (·.2) := by rfl) : PGs X (.Name x p :: es) (gsSet (i :: is)) := by
  refine ⟨fun pins s σ H vs us Q I r q => (pgs_cons (pg_name hN hi hx hf) t hs).run pins s σ H vs us Q I r ?_⟩
  obtain ⟨v, rr, e, q⟩ := q
  exact ⟨v, rr, e, q⟩
theorem gsSet_of {K : PySem.W.Frag} {G : Hp} {ρ : List Addr} {H : Hp} {Q : L2.St → Hp → Prop} : ∀ {is : List Nat} {env e : En} {σ : L2.St} {xs : List Sv} {vs : List V}, setsE env is xs = some e → RelE K G ρ env σ → Paired (SR K G ρ) xs vs → (∀ σ', RelE K G ρ e σ' → σ'.length = σ.length → Q σ' H) → gsSet is vs σ H Q
  | [], env, e, σ, xs, vs, h, E, p, q => by
    cases p with
    | nil =>
      cases h
      exact ⟨rfl, q σ E rfl⟩
    | cons a b => cases h
  | i :: is, env, e, σ, xs, vs, h, E, p, q => by
    cases p with
    | nil => cases h
    | cons a b =>
      refine ⟨_, _, rfl, gsSet_of (show setsE (env.set i (some _)) is _ = some e from h) (E.set a) b fun σ' E' l => q σ' E' (by rw [l, List.length_set])⟩
theorem ms_parT {is : List Nat} {tgs : List Expr} {kt k2 : Nat} {pt pt2 : Pos} (hc : X.calm = true) (hg : PGs X tgs (gsSet is)) (ha : PA X es (trA X.K ca W fs)) (hn : (assignEach tgs X.env).length = is.length := by rfl) (hst : (assignEach tgs X.env).findIdx? (·.1) = none := by rfl)
    (hs : swapsWithSole [.Tuple tgs kt pt] (.Tuple es k2 pt2) pos.line X.env = pure false := by rfl) (hw : swappedStores [.Tuple tgs kt pt] (.Tuple es k2 pt2) X.env = pure none := by rfl)
    (h1 : (assignEach [.Tuple tgs kt pt] X.env).map (·.2) = [assign (.Tuple tgs kt pt) X.env] := by rfl) : PS X (.Assign [.Tuple tgs kt pt] (.Tuple es k2 pt2) pos) (trS X.K ca W (bParT is fs)) :=
  (ps_asg (pe_tup ha) (pg_tup hc hg hn hst) hs hw h1).imp fun D σ H q => by
  obtain ⟨G, ρ, env, st, hR, hE, k⟩ := q
  refine trSA_seq hR hE k fun G1 ρ1 vs H1 xs st1 s1 p1 R1 E1 sx k1 => ?_
  split at k1
  · rename_i hz
    have hl : vs.length = xs.length := by
      clear k1 k hz
      induction sx with
      | nil => rfl
      | cons a b ih => rw [List.length_cons, List.length_cons, ih]
    refine ⟨by rw [hl]; exact Nat.le_trans (Nat.ble_eq.mp hz) (by decide), fun p hp => ?_⟩
    obtain ⟨s', R'⟩ := R1.frozen (o := .tup vs) hp
    cases e : setsE env is xs with
    | none => rw [e] at k1; exact k1.elim
    | some en =>
      rw [e] at k1
      have hlen : ∀ {is : List Nat} {xs : List Sv} {env en : En}, setsE env is xs = some en → xs.length = is.length := by
        intro is
        induction is with
        | nil =>
          intro xs env en h
          cases xs with
          | nil => rfl
          | cons a b => cases h
        | cons i is ih =>
          intro xs env en h
          cases xs with
          | nil => cases h
          | cons a b => rw [List.length_cons, List.length_cons, ih (show setsE (env.set i (some a)) is b = some en from h)]
      refine ⟨p, vs, rfl, SqT.of upd_same, by rw [hl, hlen e], gsSet_of e (E1.mono s' (List.prefix_refl _)) (SRs.mono s' (List.prefix_refl _) sx) fun σ' E' l => ?_⟩
      exact k1 _ ρ1 σ' _ s' (List.prefix_refl _) R' E' l
  · exact k1.elim
@[simp] theorem bindSA_ok {xs : List Sv} {s : Stt} {k : List Sv → Stt → RS} : bindSA (.ok xs s) k = k xs s := rfl
@[simp] theorem bParT_ap {is : List Nat} {env : En} {st : Stt} : bParT is fs env st = bindSA (fs env st) fun xs s => if Nat.ble xs.length 100 then oNxE (setsE env is xs) s else .bad := rfl
@[simp] theorem setsE_nil {e : En} : setsE e [] [] = some e := rfl
@[simp] theorem setsE_cons {e : En} {i : Nat} {is : List Nat} {x : Sv} {xs : List Sv} : setsE e (i :: is) (x :: xs) = setsE (e.set i (some x)) is xs := rfl
@[simp] theorem oNxE_some {e : En} {s : Stt} : oNxE (some e) s = .nx e s := rfl
end
end DL

namespace L2
open PySem PySem.Spec PyProof.Rows
section
variable {X : Cx}
def revT (z : Str) : Str := ⟨z.cps.toList.reverse.toArray⟩
theorem pe_revS {e : Expr} {te : TE} {k : Nat} {p1 p2 p3 pos : Pos} (he : PE X e te) : PE X (.Subscript e (.Slice none none (some (.UnaryOp .USub (.Constant (.int 1) k p1) p2)) p3) pos) (fun σ H Q => te σ H fun x H1 => ∃ z, x = .str z ∧ z.length ≤ sizeLine ∧ Q (.str (revT z)) H1) := by
  refine ⟨fun pins s σ H Q I h => ?_⟩
  refine Subscript_ (thn (he.run pins s σ H _ I h) fun v s1 ⟨x, H1, I1, r1, q1⟩ => ?_)
  obtain ⟨z, ex, hz, q⟩ := q1
  subst ex
  obtain ⟨t, rfl⟩ := r1
  have hst : PO X (some (.UnaryOp .USub (.Constant (.int 1) k p1) p2)) (tPart (tUn (rU fun i => .int (-i)) (tC (.int 1)))) := po_some (pe_un un_neg pe_int)
  refine wpAny_Slice (thn (po_none.run pins s1 σ H1 (fun o H2 => o = none ∧ H2 = H1) I1 ⟨rfl, rfl⟩) fun vl s2 ⟨l, H2, I2, pl, el, e2⟩ => ?_)
  subst el e2
  refine thn (po_none.run pins s2 σ H2 (fun o H3 => o = none ∧ H3 = H2) I2 ⟨rfl, rfl⟩) fun vu s3 ⟨u, H3, I3, pu, eu, e3⟩ => ?_
  subst eu e3
  refine thn (hst.run pins s3 σ H3 (fun o H4 => o = some (-1) ∧ H4 = H3) I3 ⟨1, rfl, -1, rfl, rfl, rfl⟩) fun vs s4 ⟨o, H4, I4, ps, eo, e4⟩ => ?_
  subst eo e4
  have I5 : Inv X pins σ H4 { s4 with heap := s4.heap.push { cls := .type "slice", data := .fields #[vl, vu, vs] } } := I4.kept (t' := s4.toks) fun b ob q => Heap.get?_push_of_some _ q
  obtain ⟨l, rfl, hl⟩ := IsPart.raw pl
  obtain ⟨u, rfl, hu⟩ := IsPart.raw pu
  obtain ⟨st, rfl, hst'⟩ := IsPart.raw ps
  show wpAny (model X.prog X.w) X.A (subscriptTail e (.Slice none none (some (.UnaryOp .USub (.Constant (.int 1) k p1) p2)) p3) (.str z t) (.ref s4.heap.objs.size)) (EP X pins σ Q) X.xe { s4 with heap := s4.heap.push { cls := .type "slice", data := .fields #[partValue l, partValue u, partValue st] } }
  refine tail_any (ops := [.str z t, .ref s4.heap.objs.size]) (typeIs_str _ _ _) (F.slot_str_getitem.lookup) ?_ (by with_unfolding_all rfl)
  refine wpAny_getItem_str_slice (l := l) (u := u) (st := st) ⟨_, Heap.get?_push_size _ rfl, rfl, rfl⟩ (by rw [hst']; rfl) ?_
  have e1 : ((slicePicked z l u st).filterMap (z.cps[·]?)).toArray = z.cps.toList.reverse.toArray := by
    have e2 : slicePicked z l u st = Builtin.Str.strSliceIndices (l.map (·.1)) (u.map (·.1)) ((st.map (·.1)).getD 1) z.length := rfl
    rw [e2, hl, hu, hst']
    show ((sliceRange ((z.length : Int) - 1) (-1) (-1)).filterMap (z.cps[·]?)).toArray = _
    rw [PySem.W.krv_sliceRange, PySem.W.krv_range, List.filterMap_reverse]
    show ((List.range z.cps.size).filterMap (z.cps[·]?)).reverse.toArray = _
    rw [PySem.W.krv_all]
  unfold sliceMade
  have c : ((st.map (·.1)).getD 1 == 1 && (slicePicked z l u st).length == z.length) = false := by
    rw [hst']
    rfl
  rw [c, if_neg (by decide), e1]
  refine ⟨?_, .str _, H4, I5.tok _, ⟨_, rfl⟩, q⟩
  show (z.cps.toList.reverse.toArray).size ≤ sizeLine
  rw [List.size_toArray, List.length_reverse, Array.length_toList]
  exact hz
end
end L2
namespace DL
open PySem PySem.Spec PyProof.Rows L2
section
variable {X : Cx} {ca : Nat → Addr} {W : WX} {e a b c : Expr} {es : List Expr} {f g h : EX} {fs : AX} {pos p : Pos}
def revSD (x : Sv) (_ : Stt) : Option D := match x with
  | .d (.str z) => if Nat.ble z.length 90000 then some (.str (revT z)) else none
  | _ => none
theorem m_revS {k : Nat} {p1 p2 p3 : Pos} (he : PE X e (tr X.K ca W f)) : PE X (.Subscript e (.Slice none none (some (.UnaryOp .USub (.Constant (.int 1) k p1) p2)) p3) pos) (tr X.K ca W (sUn revSD f)) := (pe_revS he).imp fun σ H Q q => by
  obtain ⟨G, ρ, env, st, hR, hE, k⟩ := q
  refine tr_seq hR hE k fun G1 ρ1 v H1 x st1 s1 p1 R1 E1 sx k1 => ?_
  cases e : revSD x st1 with
  | none => rw [e] at k1; exact k1.elim
  | some d =>
    rw [e] at k1
    unfold revSD at e
    split at e
    · rename_i z
      split at e
      · rename_i hz
        cases e
        cases str_of sx
        exact ⟨z, rfl, Nat.le_trans (Nat.ble_eq.mp hz) (by decide), k1 G1 ρ1 _ H1 (Same.refl _) (List.prefix_refl _) R1 (DR.str _)⟩
      · cases e
    · cases e
theorem revSD_ap {z : Str} {s : Stt} (h : z.length ≤ 90000) : revSD (.d (.str z)) s = some (.str (revT z)) := if_pos (Nat.ble_eq.mpr h)
end
end DL
namespace PySem
open Sem (wp)
section
variable {prog : Program} {w : World} {A : Around} {E : Value → Shared → Prop} {s : Shared}
theorem DLD.args_min4 (a b c d : Value) : argsOk "min" ⟨[a, b, c, d], []⟩ := by unfold argsOk; kernel_rfl
theorem DLD.args_max4 (a b c d : Value) : argsOk "max" ⟨[a, b, c, d], []⟩ := by unfold argsOk; kernel_rfl
theorem DLD.call_min4 {a b c d : Value} {Q : Value → Shared → Prop}
    (h : wpAny (model prog w) A.in1 (pyIter (.ref s.heap.objs.size)) (fun it s₂ => ∃ I fp wr n P St bt, it = .ref I ∧ Walks prog w A.in1 I fp wr n P St ∧ St 0 s₂.heap ∧ (∀ b ∈ fp, b < s₂.heap.objs.size) ∧ 0 < n ∧ CmpOf prog w A.in1 .Lt P bt ∧
      ∀ v h' tk, P (argBest bt (n - 1)) v → (∀ b o, b ∉ wr → s₂.heap.get? b = some o → h'.get? b = some o) → Q v { s₂ with heap := h', toks := tk }) E
      { s with heap := s.heap.push { cls := .type "tuple", data := .seq #[a, b, c, d] } }) :
    wpAny (model prog w) A (call (.builtin "min") [a, b, c, d]) Q E s := by
  have hname : (toString "min" ++ toString ".loop" : String) = "min.loop" := by decide
  refine call_function_tree F.kind_min F.plain_min F.entry_min (DLD.args_min4 _ _ _ _) ?_
  show wpAny _ A.in1 (Builtin.Builtins.bindParams "min" ["key", "default"] 0 ⟨[], []⟩ >>= _) _ _ s
  refine wpAny_bind (wpAny_of_eq (show Builtin.Builtins.bindParams "min" ["key", "default"] 0 ⟨[], []⟩ = pure [none, none] from rfl) ?_)
  show wpAny _ A.in1 (newTuple [a, b, c, d] >>= _) _ _ s
  refine wpAny_bind (wpAny_newObj_type ?_)
  refine wpAny_bind (wpAny_mono h (fun it s₂ h₂ => ?_) fun _ _ e => e)
  obtain ⟨I, fp, wr, n, P, St, bt, rfl, W, hst, hfp, hn, hcmp, hQ⟩ := h₂
  refine wpAny_bind (wpAny_newObj_type ?_)
  have hSf : s₂.heap.objs.size ∉ fp := fun hm => Nat.lt_irrefl _ (hfp _ hm)
  rw [hname]
  refine wpAny_pure ⟨plainId_quiet F.plain_min_loop _, codeAny_min_loop_first W bt hcmp s₂.heap.objs.size hSf hn (W.frame _ _ _ hst fun b _ o e => Heap.get?_push_of_some _ e) (Heap.get?_push_size _ rfl) fun v h' tk hP hk => ?_⟩
  exact hQ v h' tk hP fun b o hbw e => hk b o hbw (Nat.ne_of_lt (Heap.lt_size e)) (Heap.get?_push_of_some _ e)
theorem DLD.call_max4 {a b c d : Value} {Q : Value → Shared → Prop}
    (h : wpAny (model prog w) A.in1 (pyIter (.ref s.heap.objs.size)) (fun it s₂ => ∃ I fp wr n P St bt, it = .ref I ∧ Walks prog w A.in1 I fp wr n P St ∧ St 0 s₂.heap ∧ (∀ b ∈ fp, b < s₂.heap.objs.size) ∧ 0 < n ∧ CmpOf prog w A.in1 .Gt P bt ∧
      ∀ v h' tk, P (argBest bt (n - 1)) v → (∀ b o, b ∉ wr → s₂.heap.get? b = some o → h'.get? b = some o) → Q v { s₂ with heap := h', toks := tk }) E
      { s with heap := s.heap.push { cls := .type "tuple", data := .seq #[a, b, c, d] } }) :
    wpAny (model prog w) A (call (.builtin "max") [a, b, c, d]) Q E s := by
  have hname : (toString "max" ++ toString ".loop" : String) = "max.loop" := by decide
  refine call_function_tree F.kind_max F.plain_max F.entry_max (DLD.args_max4 _ _ _ _) ?_
  show wpAny _ A.in1 (Builtin.Builtins.bindParams "max" ["key", "default"] 0 ⟨[], []⟩ >>= _) _ _ s
  refine wpAny_bind (wpAny_of_eq (show Builtin.Builtins.bindParams "max" ["key", "default"] 0 ⟨[], []⟩ = pure [none, none] from rfl) ?_)
  show wpAny _ A.in1 (newTuple [a, b, c, d] >>= _) _ _ s
  refine wpAny_bind (wpAny_newObj_type ?_)
  refine wpAny_bind (wpAny_mono h (fun it s₂ h₂ => ?_) fun _ _ e => e)
  obtain ⟨I, fp, wr, n, P, St, bt, rfl, W, hst, hfp, hn, hcmp, hQ⟩ := h₂
  refine wpAny_bind (wpAny_newObj_type ?_)
  have hSf : s₂.heap.objs.size ∉ fp := fun hm => Nat.lt_irrefl _ (hfp _ hm)
  rw [hname]
  refine wpAny_pure ⟨plainId_quiet F.plain_max_loop _, codeAny_max_loop_first W bt hcmp s₂.heap.objs.size hSf hn (W.frame _ _ _ hst fun b _ o e => Heap.get?_push_of_some _ e) (Heap.get?_push_size _ rfl) fun v h' tk hP hk => ?_⟩
  exact hQ v h' tk hP fun b o hbw e => hk b o hbw (Nat.ne_of_lt (Heap.lt_size e)) (Heap.get?_push_of_some _ e)
theorem DLD.four_old {h h' h2 : Heap} {p x : Obj} (e : h2 = (h.push p).push x) (hk : ∀ b o, b ∉ [(h.push p).objs.size] → h2.get? b = some o → h'.get? b = some o) : ∀ d o, h.get? d = some o → h'.get? d = some o := fun d o q => by
  subst e
  refine hk d o (fun hm => ?_) (Heap.get?_push_of_some _ (Heap.get?_push_of_some _ q))
  have hsz : (h.push p).objs.size = h.objs.size + 1 := Heap.size_push ..
  rcases List.mem_cons.mp hm with e1 | hm
  · have := Heap.lt_size q
    rw [e1, hsz] at this
    exact Nat.lt_irrefl _ (Nat.lt_of_succ_lt this)
  · cases hm
theorem DLD.min4 {a b c d : Int} {t u x y : Tok} {Q : Value → Shared → Prop} (hh : A.handled = none)
    (h : ∀ h' tk m t', (∀ d o, s.heap.get? d = some o → h'.get? d = some o) → m ∈ [a, b, c, d] → (∀ z ∈ [a, b, c, d], m ≤ z) → Q (.int m t') { s with heap := h', toks := tk }) :
    wpAny (model prog w) A (call (.builtin "min") [.int a t, .int b u, .int c x, .int d y]) Q E s := by
  have hT : (s.heap.push { cls := .type "tuple", data := .seq #[.int a t, .int b u, .int c x, .int d y] }).IsTuple s.heap.objs.size (intItems #[(a, t), (b, u), (c, x), (d, y)]) := ⟨_, Heap.get?_push_size _ rfl, rfl, 0, by simp [intItems]⟩
  refine DLD.call_min4 (wpAny_pyIter_tuple hT ?_)
  have hsz : (s.heap.push { cls := .type "tuple", data := .seq #[.int a t, .int b u, .int c x, .int d y] }).objs.size = s.heap.objs.size + 1 := Heap.size_push ..
  refine ⟨_, [_, s.heap.objs.size], [_], _, _, _, _, rfl, Walks.tuple (A := A.in1) hh _ s.heap.objs.size (by rw [hsz]; exact Nat.ne_of_lt (Nat.lt_succ_self _)) (intItems #[(a, t), (b, u), (c, x), (d, y)]),
    ⟨⟨_, Heap.get?_push_size _ rfl, rfl, rfl⟩, hT.push _⟩, fun d hd => ?_, by simp [intItems], CmpOf.ints_lt (numAt #[(a, t), (b, u), (c, x), (d, y)]) (fun _ _ => intItems_at), fun v h' tk hP hk => ?_⟩
  · show d < ((s.heap.push _).push _).objs.size
    rw [Heap.size_push, hsz]
    rcases List.mem_cons.mp hd with rfl | hd
    · rw [hsz]; exact Nat.lt_succ_self _
    · rcases List.mem_cons.mp hd with rfl | hd
      · exact Nat.lt_succ_of_lt (Nat.lt_succ_self _)
      · cases hd
  · obtain ⟨t', rfl⟩ := intItems_at hP
    have hsz2 : (intItems #[(a, t), (b, u), (c, x), (d, y)]).size - 1 = 3 := by simp [intItems]
    rw [hsz2]
    obtain ⟨h1, h2⟩ := argBest_lt (numAt #[(a, t), (b, u), (c, x), (d, y)]) 3
    refine h h' tk _ t' (DLD.four_old rfl hk) ?_ fun z hz => ?_
    · generalize argBest _ 3 = k at h1
      match k, h1 with
      | 0, _ => exact List.mem_cons_self
      | 1, _ => exact List.mem_cons_of_mem _ List.mem_cons_self
      | 2, _ => exact List.mem_cons_of_mem _ (List.mem_cons_of_mem _ List.mem_cons_self)
      | 3, _ => exact List.mem_cons_of_mem _ (List.mem_cons_of_mem _ (List.mem_cons_of_mem _ List.mem_cons_self))
    · rcases List.mem_cons.mp hz with rfl | hz
      · exact h2 0 (by decide)
      · rcases List.mem_cons.mp hz with rfl | hz
        · exact h2 1 (by decide)
        · rcases List.mem_cons.mp hz with rfl | hz
          · exact h2 2 (by decide)
          · rcases List.mem_cons.mp hz with rfl | hz
            · exact h2 3 (by decide)
            · cases hz
theorem DLD.max4 {a b c d : Int} {t u x y : Tok} {Q : Value → Shared → Prop} (hh : A.handled = none)
    (h : ∀ h' tk m t', (∀ d o, s.heap.get? d = some o → h'.get? d = some o) → m ∈ [a, b, c, d] → (∀ z ∈ [a, b, c, d], z ≤ m) → Q (.int m t') { s with heap := h', toks := tk }) :
    wpAny (model prog w) A (call (.builtin "max") [.int a t, .int b u, .int c x, .int d y]) Q E s := by
  have hT : (s.heap.push { cls := .type "tuple", data := .seq #[.int a t, .int b u, .int c x, .int d y] }).IsTuple s.heap.objs.size (intItems #[(a, t), (b, u), (c, x), (d, y)]) := ⟨_, Heap.get?_push_size _ rfl, rfl, 0, by simp [intItems]⟩
  refine DLD.call_max4 (wpAny_pyIter_tuple hT ?_)
  have hsz : (s.heap.push { cls := .type "tuple", data := .seq #[.int a t, .int b u, .int c x, .int d y] }).objs.size = s.heap.objs.size + 1 := Heap.size_push ..
  refine ⟨_, [_, s.heap.objs.size], [_], _, _, _, _, rfl, Walks.tuple (A := A.in1) hh _ s.heap.objs.size (by rw [hsz]; exact Nat.ne_of_lt (Nat.lt_succ_self _)) (intItems #[(a, t), (b, u), (c, x), (d, y)]),
    ⟨⟨_, Heap.get?_push_size _ rfl, rfl, rfl⟩, hT.push _⟩, fun d hd => ?_, by simp [intItems], CmpOf.ints_gt (numAt #[(a, t), (b, u), (c, x), (d, y)]) (fun _ _ => intItems_at), fun v h' tk hP hk => ?_⟩
  · show d < ((s.heap.push _).push _).objs.size
    rw [Heap.size_push, hsz]
    rcases List.mem_cons.mp hd with rfl | hd
    · rw [hsz]; exact Nat.lt_succ_self _
    · rcases List.mem_cons.mp hd with rfl | hd
      · exact Nat.lt_succ_of_lt (Nat.lt_succ_self _)
      · cases hd
  · obtain ⟨t', rfl⟩ := intItems_at hP
    have hsz2 : (intItems #[(a, t), (b, u), (c, x), (d, y)]).size - 1 = 3 := by simp [intItems]
    rw [hsz2]
    obtain ⟨h1, h2⟩ := argBest_gt (numAt #[(a, t), (b, u), (c, x), (d, y)]) 3
    refine h h' tk _ t' (DLD.four_old rfl hk) ?_ fun z hz => ?_
    · generalize argBest _ 3 = k at h1
      match k, h1 with
      | 0, _ => exact List.mem_cons_self
      | 1, _ => exact List.mem_cons_of_mem _ List.mem_cons_self
      | 2, _ => exact List.mem_cons_of_mem _ (List.mem_cons_of_mem _ List.mem_cons_self)
      | 3, _ => exact List.mem_cons_of_mem _ (List.mem_cons_of_mem _ (List.mem_cons_of_mem _ List.mem_cons_self))
    · rcases List.mem_cons.mp hz with rfl | hz
      · exact h2 0 (by decide)
      · rcases List.mem_cons.mp hz with rfl | hz
        · exact h2 1 (by decide)
        · rcases List.mem_cons.mp hz with rfl | hz
          · exact h2 2 (by decide)
          · rcases List.mem_cons.mp hz with rfl | hz
            · exact h2 3 (by decide)
            · cases hz
end
end PySem
namespace DL
open PySem PySem.Spec PyProof.Rows L2
section
variable {X : Cx} {ca : Nat → Addr} {W : WX} {e a b c : Expr} {es : List Expr} {f g h : EX} {fs : AX} {pos p : Pos}
theorem vals4 {a b c d : V} {us : List Value} (h : Vals [a, b, c, d] us) : ∃ x y z w, us = [x, y, z, w] ∧ RelV a x ∧ RelV b y ∧ RelV c z ∧ RelV d w := by
  cases h with
  | cons h1 t1 => cases t1 with
    | cons h2 t2 => cases t2 with
      | cons h3 t3 => cases t3 with
        | cons h4 t4 =>
          cases t4
          exact ⟨_, _, _, _, rfl, h1, h2, h3, h4⟩
def rMin4 : List V → Hp → VK → Prop := fun xs H Q => ∃ i j k l : Int, xs = [.int i, .int j, .int k, .int l] ∧ Q (.int (min (min i j) (min k l))) H
def rMax4 : List V → Hp → VK → Prop := fun xs H Q => ∃ i j k l : Int, xs = [.int i, .int j, .int k, .int l] ∧ Q (.int (max (max i j) (max k l))) H
theorem call_min4 (hc : X.calm = true) : CallR X (.builtin "min") rMin4 := by
  intro pins s σ H xs us Q I r h
  obtain ⟨i, j, k, l, rfl, q⟩ := h
  obtain ⟨_, _, _, _, rfl, ⟨t, rfl⟩, ⟨t', rfl⟩, ⟨t2, rfl⟩, ⟨t3, rfl⟩⟩ := vals4 r
  refine DLD.min4 (I.ok.hd hc) fun h' tk m t' hk h1 h2 => ⟨.int m, H, I.kept hk, ⟨_, rfl⟩, ?_⟩
  have e : m = min (min i j) (min k l) := by
    have a1 := h2 i (by simp)
    have a2 := h2 j (by simp)
    have a3 := h2 k (by simp)
    have a4 := h2 l (by simp)
    simp at h1
    omega
  rw [e]
  exact q
theorem call_max4 (hc : X.calm = true) : CallR X (.builtin "max") rMax4 := by
  intro pins s σ H xs us Q I r h
  obtain ⟨i, j, k, l, rfl, q⟩ := h
  obtain ⟨_, _, _, _, rfl, ⟨t, rfl⟩, ⟨t', rfl⟩, ⟨t2, rfl⟩, ⟨t3, rfl⟩⟩ := vals4 r
  refine DLD.max4 (I.ok.hd hc) fun h' tk m t' hk h1 h2 => ⟨.int m, H, I.kept hk, ⟨_, rfl⟩, ?_⟩
  have e : m = max (max i j) (max k l) := by
    have a1 := h2 i (by simp)
    have a2 := h2 j (by simp)
    have a3 := h2 k (by simp)
    have a4 := h2 l (by simp)
    simp at h1
    omega
  rw [e]
  exact q
def min4D (xs : List Sv) (_ : Stt) : Option D := match xs with
  | [.d (.int i), .d (.int j), .d (.int k), .d (.int l)] => some (.int (min (min i j) (min k l)))
  | _ => none
def max4D (xs : List Sv) (_ : Stt) : Option D := match xs with
  | [.d (.int i), .d (.int j), .d (.int k), .d (.int l)] => some (.int (max (max i j) (max k l)))
  | _ => none
theorem cs_min4 : CaS X.K ca rMin4 min4D := by
  intro G ρ st H xs vs d Q R sx e k
  unfold min4D at e
  split at e
  · rename_i i j k' l
    cases e
    cases sx with
    | cons h1 t1 => cases t1 with
      | cons h2 t2 => cases t2 with
        | cons h3 t3 => cases t3 with
          | cons h4 t4 =>
            cases t4
            cases int_of h1
            cases int_of h2
            cases int_of h3
            cases int_of h4
            exact ⟨i, j, k', l, rfl, k G _ H (Same.refl _) R (.int _)⟩
  · cases e
theorem cs_max4 : CaS X.K ca rMax4 max4D := by
  intro G ρ st H xs vs d Q R sx e k
  unfold max4D at e
  split at e
  · rename_i i j k' l
    cases e
    cases sx with
    | cons h1 t1 => cases t1 with
      | cons h2 t2 => cases t2 with
        | cons h3 t3 => cases t3 with
          | cons h4 t4 =>
            cases t4
            cases int_of h1
            cases int_of h2
            cases int_of h3
            cases int_of h4
            exact ⟨i, j, k', l, rfl, k G _ H (Same.refl _) R (.int _)⟩
  · cases e
@[simp] theorem min4D_ap {i j k l : Int} {s : Stt} : min4D [.d (.int i), .d (.int j), .d (.int k), .d (.int l)] s = some (.int (min (min i j) (min k l))) := rfl
@[simp] theorem max4D_ap {i j k l : Int} {s : Stt} : max4D [.d (.int i), .d (.int j), .d (.int k), .d (.int l)] s = some (.int (max (max i j) (max k l))) := rfl
def isP2 : D → Bool
  | .tuple [.int _, .int _] => true
  | _ => false
def isP12 : D → Bool
  | .tuple [.int _, .tuple [.int _, .int _]] => true
  | _ => false
def isI : D → Bool
  | .int _ => true
  | _ => false
def likeB (ds : List D) : Bool := ds.all isI || ds.all isP2 || ds.all isP12
theorem isP2_of {d : D} (h : isP2 d = true) : ∃ i j, d = .tuple [.int i, .int j] := by
  unfold isP2 at h
  split at h
  · exact ⟨_, _, rfl⟩
  · cases h
theorem isP12_of {d : D} (h : isP12 d = true) : ∃ i j k, d = .tuple [.int i, .tuple [.int j, .int k]] := by
  unfold isP12 at h
  split at h
  · exact ⟨_, _, _, rfl⟩
  · cases h
theorem isI_of {d : D} (h : isI d = true) : ∃ i, d = .int i := by
  unfold isI at h
  split at h
  · exact ⟨_, rfl⟩
  · cases h
theorem like_alike {ds : List D} (h : likeB ds = true) : (∀ x ∈ ds, ∀ y ∈ ds, PySem.W.alike x y = true) ∧ (∀ x ∈ ds, x ≠ .none) ∧ ∀ x ∈ ds, x.depth ≤ 2 := by
  unfold likeB at h
  rw [Bool.or_eq_true, Bool.or_eq_true, List.all_eq_true, List.all_eq_true, List.all_eq_true] at h
  rcases h with (h | h) | h
  · refine ⟨fun x hx y hy => ?_, fun x hx => ?_, fun x hx => ?_⟩
    · obtain ⟨i, rfl⟩ := isI_of (h x hx)
      obtain ⟨j, rfl⟩ := isI_of (h y hy)
      simp [PySem.W.alike]
    · obtain ⟨i, rfl⟩ := isI_of (h x hx)
      exact fun z => nomatch z
    · obtain ⟨i, rfl⟩ := isI_of (h x hx)
      simp [PyData.depth]
  · refine ⟨fun x hx y hy => ?_, fun x hx => ?_, fun x hx => ?_⟩
    · obtain ⟨i, j, rfl⟩ := isP2_of (h x hx)
      obtain ⟨k, l, rfl⟩ := isP2_of (h y hy)
      simp [PySem.W.alike, PySem.W.alikeAll]
    · obtain ⟨i, j, rfl⟩ := isP2_of (h x hx)
      exact fun z => nomatch z
    · obtain ⟨i, j, rfl⟩ := isP2_of (h x hx)
      simp [PyData.depth, PyData.depthAll]
  · refine ⟨fun x hx y hy => ?_, fun x hx => ?_, fun x hx => ?_⟩
    · obtain ⟨i, j, k, rfl⟩ := isP12_of (h x hx)
      obtain ⟨l, m, n, rfl⟩ := isP12_of (h y hy)
      simp [PySem.W.alike, PySem.W.alikeAll]
    · obtain ⟨i, j, k, rfl⟩ := isP12_of (h x hx)
      exact fun z => nomatch z
    · obtain ⟨i, j, k, rfl⟩ := isP12_of (h x hx)
      simp [PyData.depth, PyData.depthAll]
theorem depthAll_le {n : Nat} : ∀ {ds : List D}, (∀ x ∈ ds, x.depth ≤ n) → PyData.depthAll ds ≤ n
  | [], _ => by simp [PyData.depthAll]
  | d :: ds, h => by
    have := depthAll_le (ds := ds) fun x hx => h x (List.mem_cons_of_mem _ hx)
    have := h d List.mem_cons_self
    simp only [PyData.depthAll]
    omega
def rBest (K : PySem.W.Frag) (best : D → List D → D) : List V → Hp → VK → Prop := fun vs H Q => ∃ (a : Addr) (xs : List V) (x : D) (ds : List D), vs = [V.ref a] ∧ (SqL K H a xs ∨ SqT K H a xs) ∧ DpAll K H xs (x :: ds) ∧ likeB (x :: ds) = true ∧
  ∀ (i : Nat) (v : V), xs[i]? = some v → (x :: ds)[i]? = some (best x ds) → Q v H
theorem reads_at {h : Heap} : ∀ {vs : List Value} {ds : List D} {as : List Addr}, ReadsAll h vs ds as → ∀ {i : Nat} {v : Value}, vs[i]? = some v → ∃ d bs, ds[i]? = some d ∧ Reads h v d bs
  | _, _, _, .nil, _, _, e => by simp at e
  | _, _, _, .cons r rs, 0, v, e => by
    simp at e
    subst e
    exact ⟨_, _, rfl, r⟩
  | _, _, _, .cons r rs, i + 1, v, e => by
    obtain ⟨d, bs, h1, h2⟩ := reads_at rs (i := i) (v := v) (by simpa using e)
    exact ⟨d, bs, by simpa using h1, h2⟩
theorem vals_at : ∀ {xs : List V} {us : List Value}, Vals xs us → ∀ {i : Nat} {u : Value}, us[i]? = some u → ∃ x, xs[i]? = some x ∧ RelV x u
  | _, _, .nil, _, _, e => by simp at e
  | _, _, .cons r rs, 0, u, e => by
    simp at e
    subst e
    exact ⟨_, rfl, r⟩
  | _, _, .cons r rs, i + 1, u, e => by
    obtain ⟨x, h1, h2⟩ := vals_at rs (i := i) (u := u) (by simpa using e)
    exact ⟨x, by simpa using h1, h2⟩
theorem best_fin {pins : List (Addr × Obj)} {σ : L2.St} {H : Hp} {s : Shared} {Q : VK} {xs : List V} {its : List Value} {x : D} {ds : List D} {best : D} {as : List Addr} (I : Inv X pins σ H s) (rv : Vals xs its) (hr : ReadsAll s.heap its (x :: ds) as) (q : ∀ (i : Nat) (v : V), xs[i]? = some v → (x :: ds)[i]? = some best → Q v H)
    {i : Nat} {v : Value} {h' : Heap} {tk : Nat} {bs : List Addr} (hv : its.toArray[i]? = some v) (hb : Reads h' v best bs) (hk : ∀ b o, s.heap.get? b = some o → h'.get? b = some o) : EP X pins σ Q v { s with heap := h', toks := tk } := by
  have hv' : its[i]? = some v := by simpa using hv
  obtain ⟨u, h1, h2⟩ := vals_at rv hv'
  obtain ⟨d, cs, h3, h4⟩ := reads_at hr hv'
  have e : d = best := (PySem.Reads.unique (h := h') (PyProof.Rows.Reads.keeps hk h4) _ _ hb).1
  subst e
  exact ⟨u, H, I.kept hk, h2, q i u h1 h3⟩
theorem cr_minD (hc : X.calm = true) (hu : X.A.units + 64 < cLine) : CallR X (.builtin "min") (rBest X.K PySem.W.minD) := by
  intro pins s σ H vs us Q I r h
  obtain ⟨a, xs, x, ds, rfl, hs, hd, hl, q⟩ := h
  rw [Vals.ref1 r]
  obtain ⟨k1, k2, k3⟩ := like_alike hl
  have k4 := depthAll_le k3
  rcases hs with hs | hs
  · obtain ⟨its, rv, pl, _⟩ := I.list hs
    obtain ⟨as, hr⟩ := Dp.readsAll I _ _ _ hd rv
    exact PySem.W.min_list_data (I.ok.hd hc) pl.isList (by simpa using hr) ⟨k1, k2⟩ (by omega) fun i v h' tk bs hv hb hk => best_fin I rv hr q hv hb hk
  · obtain ⟨its, rv, pl, _⟩ := I.tuple hs
    obtain ⟨as, hr⟩ := Dp.readsAll I _ _ _ hd rv
    exact PySem.W.min_tuple_data (I.ok.hd hc) pl (by simpa using hr) ⟨k1, k2⟩ (by omega) fun i v h' tk bs hv hb hk => best_fin I rv hr q hv hb hk
theorem cr_maxD (hc : X.calm = true) (hu : X.A.units + 64 < cLine) : CallR X (.builtin "max") (rBest X.K PySem.W.maxD) := by
  intro pins s σ H vs us Q I r h
  obtain ⟨a, xs, x, ds, rfl, hs, hd, hl, q⟩ := h
  rw [Vals.ref1 r]
  obtain ⟨k1, k2, k3⟩ := like_alike hl
  have k4 := depthAll_le k3
  rcases hs with hs | hs
  · obtain ⟨its, rv, pl, _⟩ := I.list hs
    obtain ⟨as, hr⟩ := Dp.readsAll I _ _ _ hd rv
    exact PySem.W.max_list_data (I.ok.hd hc) pl.isList (by simpa using hr) ⟨k1, k2⟩ (by omega) fun i v h' tk bs hv hb hk => best_fin I rv hr q hv hb hk
  · obtain ⟨its, rv, pl, _⟩ := I.tuple hs
    obtain ⟨as, hr⟩ := Dp.readsAll I _ _ _ hd rv
    exact PySem.W.max_tuple_data (I.ok.hd hc) pl (by simpa using hr) ⟨k1, k2⟩ (by omega) fun i v h' tk bs hv hb hk => best_fin I rv hr q hv hb hk
def bestL (best : D → List D → D) (ds : List D) : Option D := match ds with
  | [] => none
  | x :: r => if likeB (x :: r) then some (best x r) else none
def bestD (best : D → List D → D) (xs : List Sv) (st : Stt) : Option D := match xs with
  | [.d (.list ds)] => bestL best ds
  | [.d (.tuple ds)] => bestL best ds
  | _ => none
theorem bestL_some {best : D → List D → D} {ds : List D} {d : D} (h : bestL best ds = some d) : ∃ x r, ds = x :: r ∧ likeB (x :: r) = true ∧ d = best x r := by
  unfold bestL at h
  split at h
  · cases h
  · rename_i x r
    split at h
    · rename_i c
      cases h
      exact ⟨x, r, rfl, c, rfl⟩
    · cases h
theorem cs_best (best : D → List D → D) : CaS X.K ca (rBest X.K best) (bestD best) := by
  intro G ρ st H xs vs d Q R sx e k
  unfold bestD at e
  split at e
  · rename_i ds
    obtain ⟨v, rfl, s1⟩ := cs1 sx
    obtain ⟨x, r, rfl, hl, rfl⟩ := bestL_some e
    cases s1 with
    | lst ha hd =>
      rename_i a ws
      have hd' := hd.mono R.sub
      refine ⟨a, ws, x, r, rfl, .inl (SqL.of (R.sub _ _ ha)), hd'.dp, hl, fun i v h1 h2 => ?_⟩
      obtain ⟨w, w1, w2⟩ := hd.get h2
      rw [h1] at w1
      cases w1
      exact k G v H (Same.refl _) R w2
  · rename_i ds
    obtain ⟨v, rfl, s1⟩ := cs1 sx
    obtain ⟨x, r, rfl, hl, rfl⟩ := bestL_some e
    cases s1 with
    | tup ha hd =>
      rename_i a ws
      have hd' := hd.mono R.sub
      refine ⟨a, ws, x, r, rfl, .inr (sameT R.sub ha), hd'.dp, hl, fun i v h1 h2 => ?_⟩
      obtain ⟨w, w1, w2⟩ := hd.get h2
      rw [h1] at w1
      cases w1
      exact k G v H (Same.refl _) R w2
  · cases e
def rSortedD (K : PySem.W.Frag) : List V → Hp → VK → Prop := fun vs H Q => ∃ (a : Addr) (xs : List V) (ds : List D) (G : Hp), vs = [V.ref a] ∧ SqL K H a xs ∧ DRA K G xs ds ∧ Same G H ∧ (ds.all isP2 || ds.all isP12) = true ∧ ds.length ≤ 100000 ∧
  ∀ ys p, DRA K G ys (ds.mergeSort (PySem.W.dataLe false id)) → H p = none → Q (.ref p) (upd H p (.lst ys))
theorem each_of {K : PySem.W.Frag} {G : Hp} : ∀ {xs : List V} {us : List Value} {ds : List D}, Vals xs us → DRA K G xs ds → PySem.W.EachIs (fun v d => ∃ x, RelV x v ∧ DR K G x d) us ds
  | _, _, _, .nil, h => by
    cases h
    exact .nil
  | _, _, _, .cons r rs, h => by
    cases h with
    | cons h1 h2 => exact .cons ⟨_, r, h1⟩ (each_of rs h2)
theorem of_each {K : PySem.W.Frag} {G : Hp} : ∀ {us : List Value} {ds : List D}, PySem.W.EachIs (fun v d => ∃ x, RelV x v ∧ DR K G x d) us ds → ∃ ys, Vals ys us ∧ DRA K G ys ds
  | _, _, .nil => ⟨[], .nil, .nil⟩
  | _, _, .cons ⟨x, h1, h2⟩ t => by
    obtain ⟨ys, k1, k2⟩ := of_each t
    exact ⟨x :: ys, .cons h1 k1, .cons h2 k2⟩
theorem cr_sortedD (hu : X.A.units + 64 < cLine) : CallR X (.builtin "sorted") (rSortedD X.K) := by
  intro pins s σ H vs us Q I r h
  obtain ⟨a, xs, ds, G, rfl, hs, hd, hG, hl, hz, q⟩ := h
  rw [Vals.ref1 r]
  have hl' : likeB ds = true := by
    unfold likeB
    rw [Bool.or_assoc, hl, Bool.or_true]
  obtain ⟨k1, k2, k3⟩ := like_alike hl'
  obtain ⟨its, rv, pl, _⟩ := I.list hs
  obtain ⟨as, hr⟩ := Dp.readsAll I _ _ _ (hd.mono hG).dp rv
  have hr' : ReadsAll s.heap its (ds.map id) as := by rw [List.map_id]; exact hr
  refine PySem.W.sorted_data (enc := id) pl.isList (each_of rv hd) (PySem.W.readsAll_each id hr') (by rw [List.map_id]; exact fun d h d' h' => k1 d h d' h') ?_ (Nat.le_trans hz (by decide)) (fun d hd => by have := k3 d hd; show X.A.units + 2 + d.depth < cLine; omega) fun out ho he => ?_
  · rw [List.map_id]
    left
    intro d hdm
    rw [Bool.or_eq_true, List.all_eq_true, List.all_eq_true] at hl
    rcases hl with hl | hl
    · obtain ⟨i, j, rfl⟩ := isP2_of (hl d hdm)
      exact ⟨_, _, rfl⟩
    · obtain ⟨i, j, k, rfl⟩ := isP12_of (hl d hdm)
      exact ⟨_, _, rfl⟩
  · obtain ⟨ys, y1, y2⟩ := of_each he
    obtain ⟨n, hn⟩ := sortedAll_at s.heap its out.toArray
    refine ⟨.ref (s.heap.objs.size + 1), upd H (s.heap.objs.size + 1) (.lst ys), I.laid (t' := s.toks) (fun b o e => sortedAll_old e) (Nat.le_succ _) ⟨?_, out, n, y1, hn⟩, rfl, q ys _ y2 (I.hok.fresh (Nat.le_succ _))⟩
    rw [y1.length, ho]
    exact Nat.le_trans hz (by decide)
def sortD (xs : List Sv) (st : Stt) : Option D := match xs with
  | [.d (.list ds)] => if (ds.all isP2 || ds.all isP12) && Nat.ble ds.length 90000 then some (.list (ds.mergeSort (PySem.W.dataLe false id))) else none
  | _ => none
theorem cs_sort : CaS X.K ca (rSortedD X.K) sortD := by
  intro G ρ st H xs vs d Q R sx e k
  unfold sortD at e
  split at e
  · rename_i ds
    obtain ⟨v, rfl, s1⟩ := cs1 sx
    split at e
    · rename_i c
      rw [Bool.and_eq_true] at c
      cases e
      cases s1 with
      | lst ha hd =>
        rename_i a ws
        have := Nat.ble_eq.mp c.2
        refine ⟨a, ws, ds, G, rfl, SqL.of (R.sub _ _ ha), hd, R.sub, c.1, by omega, fun ys p hy hp => ?_⟩
        obtain ⟨s', R'⟩ := R.frozen (o := .lst ys) hp
        exact k _ _ _ s' R' (.lst upd_same (hy.mono s'))
    · cases e
  · cases e
theorem sortD_ap {ds : List D} {s : Stt} (h : (ds.all isP2 || ds.all isP12) = true) (hl : ds.length ≤ 90000) : sortD [.d (.list ds)] s = some (.list (ds.mergeSort (PySem.W.dataLe false id))) := by
  unfold sortD
  simp only [h, Nat.ble_eq.mpr hl, Bool.and_self, if_true]
def rSumT (K : PySem.W.Frag) : List V → Hp → VK → Prop := fun vs H Q => ∃ (a : Addr) (ns : List Int), vs = [V.ref a] ∧ SqT K H a (ns.map V.int) ∧ Q (.int ns.sum) H
theorem cr_sumT (hc : X.calm = true) : CallR X (.builtin "sum") (rSumT X.K) := by
  intro pins s σ H vs us Q I r h
  obtain ⟨a, ns, rfl, hs, q⟩ := h
  obtain ⟨its, rv, hl, _⟩ := I.tuple hs
  rw [Vals.ref1 r]
  obtain ⟨xs, e⟩ := rv.ints.allInts.items
  have hn : numsOf (intItems xs).toList = ns := by rw [← e]; exact rv.ints.numsOf
  rw [nums_intItems] at hn
  rw [e] at hl
  refine PySem.W.ktm_sumG (I.ok.hd hc) hl fun h' tk t' hk => ?_
  refine ⟨.int ns.sum, H, I.kept hk, ⟨t', ?_⟩, q⟩
  rw [preSum_eq, List.take_of_length_le (by simp), hn]
def sumTD (xs : List Sv) (_ : Stt) : Option D := match xs with
  | [.d (.tuple ds)] => (match asInts ds with
    | some l => some (.int l.sum)
    | none => none)
  | _ => none
theorem cs_sumT : CaS X.K ca (rSumT X.K) sumTD := by
  intro G ρ st H xs vs d Q R sx e k
  unfold sumTD at e
  split at e
  · rename_i ds
    obtain ⟨v, rfl, s1⟩ := cs1 sx
    split at e
    · rename_i l hl
      cases e
      cases s1 with
      | tup ha hd =>
        rename_i a ws
        have ew := asInts_of hd hl
        subst ew
        exact ⟨a, l, rfl, sameT R.sub ha, k G _ H (Same.refl _) R (.int _)⟩
    · cases e
  · cases e
@[simp] theorem sumTD_2 {a b : Int} {s : Stt} : sumTD [.d (.tuple [.int a, .int b])] s = some (.int (a + b)) := by
  show some (PyData.int ([a, b].sum)) = _
  simp
end
end DL

namespace DL
open PySem PySem.Spec PyProof.Rows L2
section
variable {X : Cx} {ca : Nat → Addr} {W : WX} {e : Expr} {es : List Expr} {f : EX} {fs : AX} {pos : Pos}
theorem tA_cons {σ : L2.St} {H : Hp} {Q : List V → Hp → Prop} (q : trA X.K ca W (aCons f fs) σ H Q) : tCons (tr X.K ca W f) (trA X.K ca W fs) σ H Q := by
  obtain ⟨G, ρ, env, st, hR, hE, k⟩ := q
  refine tr_seqA hR hE k fun G1 ρ1 v H1 x st1 s1 p1 R1 E1 sx k1 => ?_
  refine ⟨G1, ρ1, env, st1, R1, E1, ?_⟩
  cases e : fs env st1 with
  | ok xs st2 =>
    rw [e] at k1
    exact fun G' ρ' vs H' s p r sr => k1 G' ρ' (v :: vs) H' s p r (.cons (sx.mono s p) sr)
  | ex c s =>
    rw [e] at k1
    exact k1
  | bad =>
    rw [e] at k1
    exact k1
theorem tk_str {i : Str} {σ : L2.St} {H : Hp} {Q : VK} (q : tr X.K ca W (sC (.str i)) σ H Q) : Q (.str i) H := by
  obtain ⟨G, ρ, env, st, hR, hE, k⟩ := q
  exact k G ρ (.str i) H (Same.refl _) (List.prefix_refl _) hR (.str i)
/-- the first element is a written text: a token is out -/
theorem mat_str {c : Str} {j : Nat} {cpos : Pos} (h : PAT X es (trA X.K ca W fs)) (hs : starEach (.Constant (.str c) j cpos :: es) X.env = (false, eval (.Constant (.str c) j cpos) X.env) :: starEach es X.env := by rfl) : PA X (.Constant (.str c) j cpos :: es) (trA X.K ca W (aCons (sC (.str c)) fs)) := by
  refine ⟨fun pos pins s σ H Q I q => ?_⟩
  have q1 := tk_str (tA_cons q)
  rw [hs]
  show wpAny _ _ (spliced ((false, eval (.Constant (.str c) j cpos) X.env) :: backTo pos (starEach es X.env))) _ _ s
  refine Calls.spliced_cons (Calls.Constant_str ?_)
  exact thn (h pos pins _ σ H _ (Nat.succ_le_succ (Nat.zero_le _)) (I.tok (s.toks + 1)) q1) fun us s2 ⟨xs, H2, I2, r2, q2⟩ => ⟨.str c :: xs, H2, I2, .cons ⟨_, rfl⟩ r2, q2⟩
theorem mat_nil : PAT X [] (trA X.K ca W aNil) := fun pos pins s σ H Q _ I q => (ma_nil (X := X) (ca := ca) (W := W)).run pos pins s σ H Q I q
theorem PAT.imp' {t t' : TA} (h : PAT X es t) (i : ∀ σ H Q, t' σ H Q → t σ H Q) : PAT X es t' := fun pos pins s σ H Q h0 I q => h pos pins s σ H Q h0 I (i σ H Q q)
theorem mat_cons (ha : PET X e (tr X.K ca W f)) (hr : PAT X es (trA X.K ca W fs)) (hs : starEach (e :: es) X.env = (false, eval e X.env) :: starEach es X.env := by rfl) : PAT X (e :: es) (trA X.K ca W (aCons f fs)) := PAT.imp' (pat_cons ha hr hs) fun σ H Q q => tA_cons q
theorem mat_pe (h : PE X e (tr X.K ca W f)) : PET X e (tr X.K ca W f) := fun pins s σ H Q _ I q => h.run pins s σ H Q I q
def replD (y z : Str) (x : Sv) : Option D := match x with
  | .d (.str a) => if Nat.ble a.length 90000 && Nat.ble z.length 100 then some (.str (Txt.replace a y z)) else none
  | _ => none
def sRepl (y z : Str) (f : EX) : EX := fun env st => bindR (f env st) fun x s => optR (replD y z x) s
theorem m_replC {o : Expr} {y z : Str} {j k : Nat} {c0 c1 apos : Pos} (ho : PE X o (tr X.K ca W f)) (hyz : (y == z) = false := by decide)
    (hst : starEach [.Constant (.str y) j c0, .Constant (.str z) k c1] X.env = [(false, eval (.Constant (.str y) j c0) X.env), (false, eval (.Constant (.str z) k c1) X.env)] := by rfl)
    (hbase : attributeBase o "replace" X.env (eval o X.env) = eval o X.env := by rfl) (hline : (apos.endLine == pos.line) = true := by rfl) :
    PET X (.Call (.Attribute o "replace" apos) [.Constant (.str y) j c0, .Constant (.str z) k c1] [] pos) (tr X.K ca W (sRepl y z f)) := by
  refine fun pins s σ H Q h0 I q => CwR.pet_replC ho hyz hst hbase hline pins s σ H Q h0 I ?_
  obtain ⟨G, ρ, env, st, hR, hE, k⟩ := q
  refine tr_seq hR hE k fun G1 ρ1 v H1 x st1 s1 p1 R1 E1 sx k1 => ?_
  cases e : replD y z x with
  | none => rw [e] at k1; exact k1.elim
  | some d =>
    rw [e] at k1
    unfold replD at e
    split at e
    · rename_i a
      split at e
      · rename_i b
        cases e
        cases str_of sx
        rw [Bool.and_eq_true] at b
        have b1 := Nat.ble_eq.mp b.1
        have b2 := Nat.ble_eq.mp b.2
        have m : (a.length + 1) * z.length ≤ 90001 * 100 := Nat.mul_le_mul (by omega) b2
        refine ⟨a, rfl, by omega, ?_⟩
        exact k1 G1 ρ1 _ H1 (Same.refl _) (List.prefix_refl _) R1 (.str _)
      · cases e
    · cases e
@[simp] theorem sRepl_ap {y z : Str} {env : En} {st : Stt} : sRepl y z f env st = bindR (f env st) fun x s => optR (replD y z x) s := rfl
end
end DL

namespace DL
open PySem PySem.Spec PyProof.Rows L2
theorem hash_is {P : Program} {w : World} (ks : List Int) : (tupleKind (mixKind P w)).hash (ks.map Sum.inl) = hashI ks := by
  show reduceHash (Builtin.Tuple.tupleHashOf ((ks.map Sum.inl).map (keyH w))) = _
  rw [List.map_map]
  rfl
def upI (x : List Int × Addr × Value) : List Key × Addr × Value := (x.1.map Sum.inl, x.2)
theorem inl_inj : ∀ {a b : List Int}, a.map (Sum.inl : Int → Key) = b.map Sum.inl → a = b
  | [], [], _ => rfl
  | [], _ :: _, e => by cases e
  | _ :: _, [], e => by cases e
  | x :: a, y :: b, e => by
    rw [List.map_cons, List.map_cons] at e
    injection e with e1 e2
    injection e1 with e1
    rw [e1, inl_inj e2]
theorem up_nd {xs : List (List Int × Addr × Value)} (h : (xs.map (·.1)).Nodup) : ((xs.map upI).map (·.1)).Nodup := by
  rw [List.map_map]
  show (xs.map fun x => x.1.map (Sum.inl : Int → Key)).Nodup
  rw [show (xs.map fun x => x.1.map (Sum.inl : Int → Key)) = (xs.map (·.1)).map (fun k => k.map (Sum.inl : Int → Key)) by rw [List.map_map]; rfl]
  exact List.Pairwise.map _ (fun a b n e => n (inl_inj e)) h
theorem up_at (k : List Int) : ∀ xs : List (List Int × Addr × Value), atKey (xs.map upI) (k.map Sum.inl) = atKey xs k
  | [] => rfl
  | x :: xs => by
    have ih := up_at k xs
    by_cases e : x.1 = k
    · have e' : (upI x).1 = k.map Sum.inl := by unfold upI; rw [e]
      simp [atKey, List.find?_cons, e, e', upI]
    · have e' : ¬ (upI x).1 = k.map Sum.inl := fun z => e (inl_inj z)
      have e1 : atKey (x :: xs) k = atKey xs k := by simp [atKey, List.find?_cons, e]
      have e2 : atKey (upI x :: xs.map upI) (k.map Sum.inl) = atKey (xs.map upI) (k.map Sum.inl) := by simp [atKey, List.find?_cons, e']
      rw [List.map_cons, e1, e2, ih]
theorem up_put (k : List Int) (v : Value) : ∀ xs : List (List Int × Addr × Value), (xs.map upI).map (putAt (k.map Sum.inl) v) = (xs.map (putAt k v)).map upI
  | [] => rfl
  | x :: xs => by
    rw [List.map_cons, List.map_cons, List.map_cons, List.map_cons, up_put k v xs]
    congr 1
    unfold putAt upI
    by_cases e : x.1 = k
    · rw [if_pos e, if_pos (by rw [e])]
    · rw [if_neg e, if_neg fun z => e (inl_inj z)]
theorem up_stored (xs : List (List Int × Addr × Value)) (k : List Int) (b : Addr) (v : Value) : storedH (xs.map upI) (k.map Sum.inl) b v = (storedH xs k b v).map upI := by
  unfold storedH
  rw [up_at]
  split
  · exact up_put k v xs
  · rw [List.map_append]
    rfl
/-- a dict of ints' tuples stands at a -/
structure IsDi (K : PySem.W.Frag) (H : Hp) (a : Addr) (xs : List (List Int × Addr × Value)) : Prop where
  at' : H a = some (.ext (dphi a xs))
  ns : (a == sysModules) = false
  nd : (xs.map (·.1)).Nodup
  key : ∀ x ∈ xs, SqT K H x.2.1 (x.1.map V.int)
section
variable {X : Cx} {pins : List (Addr × Obj)} {σ : L2.St} {H : Hp} {s : Shared} {a b : Addr} {k : List Int} {xs : List (List Int × Addr × Value)} {A : Around} {E : Value → Shared → Prop}
theorem key_sq (I : L2.Inv X pins σ H s) (h : SqT X.K H b (k.map V.int)) : (tupleKind (mixKind X.prog X.w)).is s.heap (k.map Sum.inl) b := by
  obtain ⟨its, r, ⟨o, h1, h2, n, h3⟩, _⟩ := I.tuple h
  have r' : Vals ((k.map (Sum.inl : Int → Key)).map kV) its := by
    rw [List.map_map]
    exact r
  exact ⟨o, its.toArray, n, h1, h2, h3, by simpa using items_are r'⟩
theorem di_of (I : L2.Inv X pins σ H s) (h : IsDi X.K H a xs) : s.heap.DictOfH (tupleKind (mixKind X.prog X.w)) a (xs.map upI) := by
  obtain ⟨⟨o, es, ep, ho, hc, hd, he⟩, _⟩ := (show ObjOk X.prog X.w H s.heap a (.ext (dphi a xs)) from I.hok a _ h.at')
  refine ⟨o, es, ep, ho, hc, hd, ?_, fun y hy => ?_, up_nd h.nd⟩
  · rw [he, List.map_map]
    refine List.map_congr_left fun x _ => ?_
    show entI x = ⟨(tupleKind (mixKind X.prog X.w)).hash (x.1.map Sum.inl), .ref x.2.1, x.2.2⟩
    rw [hash_is]
    rfl
  · obtain ⟨x, hx, rfl⟩ := List.mem_map.mp hy
    exact key_sq I (h.key x hx)
theorem phi_of {h : Heap} {P : Program} {w : World} (dd : h.DictOfH (tupleKind (mixKind P w)) a (xs.map upI)) : dphi a xs h := by
  obtain ⟨o, es, ep, ho, hc, hd, he, _, _⟩ := dd
  refine ⟨o, es, ep, ho, hc, hd, ?_⟩
  rw [he, List.map_map]
  refine List.map_congr_left fun x _ => ?_
  show (⟨(tupleKind (mixKind P w)).hash (x.1.map Sum.inl), .ref x.2.1, x.2.2⟩ : DictEntry) = entI x
  rw [hash_is]
  rfl
theorem phi_ok {h : Heap} {P : Program} {w : World} {H : Hp} (p : dphi a xs h) : ObjOk P w H h a (.ext (dphi a xs)) := by
  obtain ⟨o, es, ep, ho, hc, hd, he⟩ := p
  refine ⟨⟨o, es, ep, ho, hc, hd, he⟩, ⟨o, ho⟩, fun h1 h2 q k => ?_⟩
  obtain ⟨o, es, ep, ho, hc, hd, he⟩ := q
  exact ⟨o, es, ep, k o ho, hc, hd, he⟩
theorem di_get {p : Addr × Value} {Q : Value → Shared → Prop} (hu : A.units + 1 < cLine) (I : L2.Inv X pins σ H s) (h : IsDi X.K H a xs) (hb : SqT X.K H b (k.map V.int)) (hp : atKey xs k = some p) (q : ∀ s', L2.Inv X pins σ H s' → Q p.2 s') :
    wpAny (model X.prog X.w) A (getItem (.ref a) (.ref b)) Q E s :=
  wpAny_getItem_heap (tupleKind_room_in1 hu) (key_sq I hb) (di_of I h) (by rw [up_at]; exact hp) (q _ (I.tok _))
theorem di_in {Q : Value → Shared → Prop} (hu : A.units + 1 < cLine) (I : L2.Inv X pins σ H s) (h : IsDi X.K H a xs) (hb : SqT X.K H b (k.map V.int)) (q : ∀ s', L2.Inv X pins σ H s' → Q (.bool (atKey xs k).isSome) s') :
    wpAny (model X.prog X.w) A (compareOp .In (.ref b) (.ref a)) Q E s := by
  refine wpAny_in_heap (tupleKind_room_in1 hu) (key_sq I hb) h.ns (di_of I h) ?_
  rw [up_at]
  exact q _ (I.tok _)
theorem di_nin {Q : Value → Shared → Prop} (hu : A.units + 1 < cLine) (I : L2.Inv X pins σ H s) (h : IsDi X.K H a xs) (hb : SqT X.K H b (k.map V.int)) (q : ∀ s', L2.Inv X pins σ H s' → Q (.bool (!(atKey xs k).isSome)) s') :
    wpAny (model X.prog X.w) A (compareOp .NotIn (.ref b) (.ref a)) Q E s := by
  refine wpAny_notIn_heap (tupleKind_room_in1 hu) (key_sq I hb) h.ns (di_of I h) ?_
  rw [up_at]
  exact q _ (I.tok _)
theorem di_set {v : Value} {Q : Unit → Shared → Prop} (hu : A.units + 1 < cLine) (I : L2.Inv X pins σ H s) (h : IsDi X.K H a xs) (hb : SqT X.K H b (k.map V.int)) (hz : xs.length ≤ sizeLine) (q : ∀ s', L2.Inv X pins σ (upd H a (.ext (dphi a (storedH xs k b v)))) s' → Q () s') :
    wpAny (model X.prog X.w) A (setItem (.ref a) (.ref b) v) Q E s := by
  refine wpAny_setItem_heap (hsz := by rw [List.length_map]; exact hz) (tupleKind_room_in1 hu) (key_sq I hb) (di_of I h) fun h' dd hs => q _ ?_
  rw [up_stored] at dd
  have p := phi_of dd
  obtain ⟨o, _, _, ho, _⟩ := id p
  exact d_write I (by rw [h.at']; exact True.intro) hs ⟨o, ho⟩ (phi_ok p)
end
def dispQ (K0 : PySem.W.Frag) (p : Addr) (Q : VK) : List (V × V) → Hp → Prop := fun ps H2 => ∃ x y b kk, ps = [(x, y)] ∧ x = V.ref b ∧ H2 p = some (.ext (dphi p [])) ∧ SqT K0 H2 b (List.map V.int kk) ∧ ∀ u, RelV y u → Q (.ref p) (upd H2 p (.ext (dphi p [(kk, b, u)])))
def tDispI (K0 : PySem.W.Frag) (tk tv : TE) : TE := fun σ H Q => ∀ p, H p = none → (p == sysModules) = false → tk σ (upd H p (.ext (dphi p []))) fun x H1 => tv σ H1 fun y H2 => dispQ K0 p Q [(x, y)] H2
theorem phi_new (h : Heap) : dphi h.objs.size [] (h.push { cls := .type "dict", data := .dict #[] }) := ⟨_, #[], 0, Heap.get?_push_size _ rfl, ⟨rfl, rfl, rfl⟩, rfl, rfl⟩
theorem pe_dispI {X : Cx} {k v : Expr} {tk tv : TE} {pos : Pos} (hu : X.A.units < cLine) (hk : PE X k tk) (hv : PE X v tv) : PE X (.Dict [some k] [v] pos) (tDispI X.K tk tv) := by
  refine ⟨fun pins s σ H Q I q => ?_⟩
  have hn := I.hok.fresh (Nat.le_refl s.heap.objs.size)
  have ns : (s.heap.objs.size == sysModules) = false := beq_eq_false_iff_ne.mpr (Ne.symm (Nat.ne_of_lt I.big))
  have I1 := I.laid (a := s.heap.objs.size) (o := .ext (dphi s.heap.objs.size [])) (h' := s.heap.push { cls := .type "dict", data := .dict #[] }) (t' := s.toks) (fun _ _ q => Heap.get?_push_of_some _ q) (Nat.le_refl _) (phi_ok (phi_new s.heap))
  have hl : (pairTrees [some k] [v] X.env pos).length = 1 := pairTrees_length [some k] [v] X.env pos rfl rfl
  have h0 : pairTrees [some k] [v] X.env pos ≠ [] := fun e => by rw [e] at hl; cases hl
  rw [arm_eval_Dict, zip_pairTrees [some k] [v] X.env pos rfl rfl, dictDisplay_pairs _ h0 (by omega)]
  have pp := (pps_cons (pos := pos) hk hv pps_nil).run pins _ σ _ (dispQ X.K s.heap.objs.size Q) I1 (q _ hn ns)
  refine wpAny_bind (wpAny_standAt (wpAny_bind (wpAny_subDictH (knd := tupleKind (mixKind X.prog X.w)) (Q := fun d s' => wpAny (model X.prog X.w) X.A (pure (Value.ref d)) _ X.xe s') hu (by omega) (thn pp fun ws s2 ⟨ps, H2, I2, rel, x, y, ba, kk, e1, e2, e3, e4, e5⟩ => ?_))))
  subst e1
  subst e2
  obtain ⟨w1, u, ews, r1, r2⟩ : ∃ w1 u, ws = [(w1, u)] ∧ RelV (V.ref ba) w1 ∧ RelV y u := by
    cases rel with
    | cons r t =>
      cases t
      exact ⟨_, _, rfl, r.1, r.2⟩
  subst ews
  obtain rfl : w1 = Value.ref ba := r1
  have dd := di_of I2 (xs := []) ⟨e3, ns, List.nodup_nil, fun x hx => by cases hx⟩
  refine ⟨[(kk.map Sum.inl, ba, u)], ⟨rfl, rfl, key_sq I2 e4, trivial⟩, dd, fun h' tk d2 hs => wpAny_pure ?_⟩
  have p := phi_of (xs := [(kk, ba, u)]) d2
  obtain ⟨o, _, _, ho, _⟩ := id p
  exact ⟨V.ref s.heap.objs.size, _, d_write I2 (by rw [e3]; exact True.intro) hs ⟨o, ho⟩ (phi_ok p), rfl, e5 u r2⟩
theorem frz_di {X : Cx} {pins : List (Addr × Obj)} {σ : L2.St} {H : Hp} {s : Shared} {d : Addr} {o : Obj} {xs : List (List Int × Addr × Value)} (I : L2.Inv X pins σ H s) (h : H d = some (.frz o (.ext (dphi d xs)))) :
    s.heap.get? d = some o ∧ o.ExactDict ∧ ∃ (es : Array DictEntry) (ep : Nat), o.data = .dict es ep ∧ es.size = xs.length ∧ ∀ (i : Nat) (x : List Int × Addr × Value), xs[i]? = some x → ∃ en : DictEntry, es[i]? = some en ∧ en.key = .ref x.2.1 := by
  obtain ⟨hd, ⟨o', es, ep, ho, hx, hdt, he⟩, _⟩ := (show ObjOk X.prog X.w H s.heap d (.frz o (.ext (dphi d xs))) from I.hok d _ h)
  rw [hd] at ho
  cases ho
  refine ⟨hd, hx, es, ep, hdt, ?_, fun i x e => ?_⟩
  · have l := congrArg List.length he
    rw [List.length_map, Array.length_toList] at l
    exact l
  · refine ⟨entI x, ?_, rfl⟩
    rw [← Array.getElem?_toList, he, List.getElem?_map, e]
    rfl
/-- the keys of the locked dict at d, in their order -/
def Itx (d : Addr) (o : Obj) (xs : List (List Int × Addr × Value)) : It :=
  ⟨fun i H => H d = some (.frz o (.ext (dphi d xs))) ∧ i < xs.length, fun i H x H' => H' = H ∧ ∃ e : List Int × Addr × Value, xs[i]? = some e ∧ x = .ref e.2.1, fun i H => H d = some (.frz o (.ext (dphi d xs))) ∧ xs.length ≤ i⟩
section
variable {P : Program} {w : World} {K : PySem.W.Frag} {tg : Expr} {d : Addr} {o : Obj} {es : Array DictEntry} {ep : Nat}
theorem turn_x {xs : List (List Int × Addr × Value)} (it : Addr) (hod : o.data = .dict es ep) : Turn P w K tg (Itx d o xs) [it] it (fun i h => h.IsKeyIter it d i xs.length ep) where
  mem := by simp
  obj := fun i h st b hb => by
    have e : b = it := by simpa using hb
    subst e
    obtain ⟨oi, e, c, dd⟩ := st
    exact ⟨oi, e, fun v z => by rw [dd] at z; cases z⟩
  keep := fun i h h' st k => st.at fun oi e => k it (by simp) oi e
  item := by
    intro X hP hw hK hc i pins s σ H E I hf st hg
    subst hP hw hK
    obtain ⟨hd, hi⟩ := hg
    obtain ⟨f0, f1, f2, f3, f4, f5⟩ := hf it (by simp)
    obtain ⟨hgd, hx, es', ep', hdt, hsz, ent⟩ := frz_di I hd
    obtain ⟨rfl, rfl⟩ := dict_ep hod hdt
    obtain ⟨x, hkv⟩ : ∃ p, xs[i]? = some p := ⟨xs[i], List.getElem?_eq_getElem hi⟩
    obtain ⟨en, hen, hkey⟩ := ent i x hkv
    refine next_key_item st hgd hdt hsz hen fun h' st' sb => ?_
    have I1 : L2.Inv X pins σ H { s with heap := h' } := I.turned (t' := s.toks) (fun b ob hb e => (sb.2 b hb).trans e) f0 f1 f3 f4 f5
    obtain ⟨oi, e, c, dd⟩ := id st'
    exact ⟨en.key, rfl, go_of (s := { s with heap := h' }) e c dd (by decide) ⟨.ref x.2.1, H, I1, hkey, ⟨rfl, x, hkv, rfl⟩, st', fun b hb => (hf b hb).1⟩⟩
  done := by
    intro X hP hw hK hc i pins s σ H E I hf st hg
    subst hP hw hK
    obtain ⟨hd, hi⟩ := hg
    obtain ⟨f0, f1, f2, f3, f4, f5⟩ := hf it (by simp)
    obtain ⟨hgd, hx, es', ep', hdt, hsz, ent⟩ := frz_di I hd
    obtain ⟨rfl, rfl⟩ := dict_ep hod hdt
    exact next_key_end (I.ok.hd hc) st hgd hdt hsz hi fun h' eb => ⟨rfl, I.turned (t' := s.toks) (fun b ob hb e => eb b ob hb e) f0 f1 f3 f4 f5⟩
  self := fun A i s Q E st h => by
    refine wpAny_pyIter_slot st.typeIs F.slot_dict_keyiterator_iter (wpAny_call_entry F.slot_dict_keyiterator_iter st.typeIs F.entry_dict_keyiterator_iter ?_ (F.args_dict_keyiterator_iter_1 _))
    show wpAny _ _ (ret (.ref it)) _ _ s
    exact wpAny_pure ⟨_, rfl, "dict_keyiterator", _, st.typeIs, F.slot_dict_keyiterator_next.lookup, h⟩
end
def iKeysX (td : TE) : TI := fun σ H R => td σ H fun x H1 => ∃ d o xs, x = .ref d ∧ (d == sysModules) = false ∧ H1 d = some (.frz o (.ext (dphi d xs))) ∧ R (Itx d o xs) H1
theorem pi_keysX {X : Cx} {tg e : Expr} {td : TE} (he : PE X e td) : PI X tg e (iKeysX td) := by
  refine ⟨fun pins s σ H R I h => ?_⟩
  refine thn (he.run pins s σ H _ I h) fun u s1 ⟨x, H1, I1, rx, d, o, xs, ex, ns, hd, q⟩ => ?_
  subst ex
  obtain rfl : u = Value.ref d := rx
  obtain ⟨hgd, hx, es, ep, hdt, hsz, ent⟩ := frz_di I1 hd
  refine iter_keys ns hgd hx hdt (pi_one (tk := s1.toks) I1 _ (turn_x _ hdt) ⟨_, Heap.get?_push_size _ rfl, rfl, ?_⟩ q)
  rw [hsz] <;> rfl
/-- .. locked here, for good -/
def iKeysL (td : TE) : TI := fun σ H R => td σ H fun x H1 => ∃ d xs, x = .ref d ∧ (d == sysModules) = false ∧ H1 d = some (.ext (dphi d xs)) ∧ ∀ od, R (Itx d od xs) (upd H1 d (.frz od (.ext (dphi d xs))))
theorem pi_keysL {X : Cx} {tg e : Expr} {td : TE} (he : PE X e td) : PI X tg e (iKeysL td) := by
  refine ⟨fun pins s σ H R I h => ?_⟩
  refine thn (he.run pins s σ H _ I h) fun u s1 ⟨x, H1, I1, rx, d, xs, ex, ns, hd, q⟩ => ?_
  subst ex
  obtain rfl : u = Value.ref d := rx
  obtain ⟨od, I2⟩ := I1.lock hd True.intro
  obtain ⟨hgd, hx, es, ep, hdt, hsz, ent⟩ := frz_di I2 upd_same
  refine iter_keys ns hgd hx hdt (pi_one (tk := s1.toks) I2 _ (turn_x _ hdt) ⟨_, Heap.get?_push_size _ rfl, rfl, ?_⟩ (q od))
  rw [hsz] <;> rfl
def rInI (K : PySem.W.Frag) : R2 := fun x y H Q => ∃ a xs k b, x = .ref b ∧ y = .ref a ∧ IsDi K H a xs ∧ SqT K H b (List.map V.int k) ∧ Q (.bl (atKey xs k).isSome) H
def rNinI (K : PySem.W.Frag) : R2 := fun x y H Q => ∃ a xs k b, x = .ref b ∧ y = .ref a ∧ IsDi K H a xs ∧ SqT K H b (List.map V.int k) ∧ Q (.bl (!(atKey xs k).isSome)) H
theorem op_inI {X : Cx} (hu : X.A.units + 1 < cLine) : OpR X (compareOp .In) (rInI X.K) := by
  intro pins s σ H x y v u Q I rx ry q
  obtain ⟨a, xs, k, b, rfl, rfl, hd, hb, q⟩ := q
  obtain rfl : v = Value.ref b := rx
  obtain rfl : u = Value.ref a := ry
  exact di_in hu I hd hb fun s' I' => ⟨.bl _, H, I', rfl, q⟩
theorem op_ninI {X : Cx} (hu : X.A.units + 1 < cLine) : OpR X (compareOp .NotIn) (rNinI X.K) := by
  intro pins s σ H x y v u Q I rx ry q
  obtain ⟨a, xs, k, b, rfl, rfl, hd, hb, q⟩ := q
  obtain rfl : v = Value.ref b := rx
  obtain rfl : u = Value.ref a := ry
  exact di_nin hu I hd hb fun s' I' => ⟨.bl _, H, I', rfl, q⟩
def tDGetI (K : PySem.W.Frag) (td ty : TE) : TE := fun σ H Q => td σ H fun x H1 => ty σ H1 fun y H2 => ∃ a xs k b p v, x = .ref a ∧ y = .ref b ∧ IsDi K H2 a xs ∧ SqT K H2 b (List.map V.int k) ∧ atKey xs k = some p ∧ RelV v p.2 ∧ Q v H2
theorem pe_dgetI {X : Cx} {o i : Expr} {pos : Pos} {td ty : TE} (hu : X.A.units + 1 < cLine) (ho : PE X o td) (hi : PE X i ty) (hs : NoSl i) : PE X (.Subscript o i pos) (tDGetI X.K td ty) := by
  refine ⟨fun pins s σ H Q I h => ?_⟩
  refine subD_of PySem.F.slot_dict_getitem.lookup hs (thn (ho.run pins s σ H _ I h) fun u s1 ⟨x, H1, I1, rx, q1⟩ => thn (hi.run pins s1 σ H1 _ I1 q1) fun iv s2 ⟨y, H2, I2, ry, a, xs, k, b, p, v, ex, ey, hd, hb, hp, hv, q2⟩ => ?_)
  subst ex
  subst ey
  obtain rfl : u = Value.ref a := rx
  obtain rfl : iv = Value.ref b := ry
  exact ⟨(di_of I2 hd).typeIs, di_get hu I2 hd hb hp fun s3 I3 => ⟨v, H2, I3, hv, q2⟩⟩
def sDPutI (K : PySem.W.Frag) (td ty tv : TE) : TS := fun D σ H => tv σ H fun v H1 => td σ H1 fun x H2 => ty σ H2 fun y H3 => ∃ a xs k b, x = .ref a ∧ y = .ref b ∧ IsDi K H3 a xs ∧ SqT K H3 b (List.map V.int k) ∧ xs.length ≤ sizeLine ∧ ∀ u, RelV v u → D.nx σ (upd H3 a (.ext (dphi a (storedH xs k b u))))
theorem ps_dputI {X : Cx} {o i value : Expr} {pos pos' : Pos} {td ty tv : TE} (hu : X.A.units + 1 < cLine) (ho : PE X o td) (hi : PE X i ty) (hv : PE X value tv) (hs : swapsWith value (some (.Subscript o i pos')) pos.line X.env = pure false) :
    PS X (.Assign [.Subscript o i pos'] value pos) (sDPutI X.K td ty tv) := by
  refine ⟨fun pins s σ H D I h => ?_⟩
  refine wpAny_Assign_Subscript (thn (hv.run pins s σ H _ I h) fun r s1 ⟨v, H1, I1, rv, q1⟩ => thn (ho.run pins s1 σ H1 _ I1 q1) fun u s2 ⟨x, H2, I2, rx, q2⟩ => thn (hi.run pins s2 σ H2 _ I2 q2) fun iv s3 ⟨y, H3, I3, ry, a, xs, k, b, ex, ey, hd, hb, hz, q3⟩ => ?_) hs
  subst ex
  subst ey
  obtain rfl : u = Value.ref a := rx
  obtain rfl : iv = Value.ref b := ry
  exact di_set hu I3 hd hb hz fun s4 I4 => ⟨σ, _, I4, q3 r rv⟩
end DL

namespace DL
open PySem PySem.Spec PyProof.Rows L2
/-- a key: a tuple of ints -/
def keyI (d : D) : Option (List Int) := match d with
  | .tuple ds => asInts ds
  | _ => none
def keyD (k : List Int) : D := .tuple (k.map PyData.int)
def findI (kvs : List (List Int × D)) (k : List Int) : Option D := (kvs.find? fun p => decide (p.1 = k)).map (·.2)
def putI (kvs : List (List Int × D)) (k : List Int) (d : D) : List (List Int × D) := if (findI kvs k).isSome then kvs.map fun p => if p.1 = k then (p.1, d) else p else kvs ++ [(k, d)]
def dicAt (x : Sv) (s : Stt) : Option (Nat × List (List Int × D)) := match x with
  | .r n => (match s[n]? with
    | some (.dic kvs) => some (n, kvs)
    | _ => none)
  | _ => none
def dkey (x : Sv) : Option (List Int) := match x with
  | .d d => keyI d
  | _ => none
section
variable {K : PySem.W.Frag} {ca : Nat → Addr} {G H : Hp} {ρ : List Addr} {st : Stt}
theorem key_of' {d : D} {k : List Int} {v : V} (e : keyI d = some k) (h : DR K G v d) : ∃ b, v = .ref b ∧ SqT K G b (k.map V.int) := by
  unfold keyI at e
  split at e
  · rename_i ds
    cases h with
    | tup h1 h2 =>
      have ew := asInts_of h2 e
      exact ⟨_, rfl, ew ▸ h1⟩
  · cases e
theorem dkey_of {x : Sv} {k : List Int} {v : V} (e : dkey x = some k) (h : SR K G ρ x v) : ∃ b, v = .ref b ∧ SqT K G b (k.map V.int) := by
  unfold dkey at e
  split at e
  · exact key_of' e h
  · cases e
theorem keyD_key (k : List Int) : keyI (keyD k) = some k := by
  unfold keyI keyD
  induction k with
  | nil => rfl
  | cons a k ih =>
    show (match asInts (k.map PyData.int) with | some l => some (a :: l) | none => none) = _
    have ih' : asInts (k.map PyData.int) = some k := ih
    rw [ih']
theorem kd_dr {b : Addr} {k : List Int} (h : SqT K G b (k.map V.int)) : DR K G (.ref b) (keyD k) := .tup h (DRA.ints k)
theorem keys_pd {kvs : List (List Int × D)} {xs : List (List Int × Addr × Value)} (h : Paired (KVR K G) kvs xs) : kvs.map (·.1) = xs.map (·.1) := by
  induction h with
  | nil => rfl
  | cons r t ih => rw [List.map_cons, List.map_cons, ih, r.1]
theorem pd_find (k : List Int) {kvs : List (List Int × D)} {xs : List (List Int × Addr × Value)} (h : Paired (KVR K G) kvs xs) : (findI kvs k = none ∧ atKey xs k = none) ∨ ∃ d p v, findI kvs k = some d ∧ atKey xs k = some p ∧ RelV v p.2 ∧ DR K G v d := by
  induction h with
  | nil => exact .inl ⟨rfl, rfl⟩
  | @cons p q ps qs r t ih =>
    obtain ⟨e1, e2, v, rv, dr⟩ := r
    by_cases e : p.1 = k
    · have e' : q.1 = k := e1.symm.trans e
      refine .inr ⟨p.2, q.2, v, by simp [findI, List.find?_cons, e], by simp [atKey, List.find?_cons, e'], rv, dr⟩
    · have e' : ¬ q.1 = k := fun z => e (e1.trans z)
      have f1 : findI (p :: ps) k = findI ps k := by simp [findI, List.find?_cons, e]
      have f2 : atKey (q :: qs) k = atKey qs k := by simp [atKey, List.find?_cons, e']
      rw [f1, f2]
      exact ih
theorem pd_put {k : List Int} {d : D} {b : Addr} {u : Value} {v : V} (hb : SqT K G b (k.map V.int)) (rv : RelV v u) (dr : DR K G v d) {kvs : List (List Int × D)} {xs : List (List Int × Addr × Value)} (h : Paired (KVR K G) kvs xs) : Paired (KVR K G) (putI kvs k d) (storedH xs k b u) := by
  have key := pd_find k h
  have rep : Paired (KVR K G) (kvs.map fun p => if p.1 = k then (p.1, d) else p) (xs.map (putAt k u)) := by
    clear key
    induction h with
    | nil => exact .nil
    | @cons p q ps qs r t ih =>
      rw [List.map_cons, List.map_cons]
      refine .cons ?_ ih
      obtain ⟨e1, e2, e3⟩ := r
      unfold putAt
      by_cases e : p.1 = k
      · rw [if_pos e, if_pos (e1.symm.trans e)]
        exact ⟨e1, e2, v, rv, dr⟩
      · rw [if_neg e, if_neg (fun z => e (e1.trans z))]
        exact ⟨e1, e2, e3⟩
  unfold putI storedH
  rcases key with ⟨k1, k2⟩ | ⟨d', p, v', k1, k2, _, _⟩
  · rw [k1, k2, if_neg (by simp), if_neg (by simp)]
    exact Paired.snoc h ⟨rfl, hb, v, rv, dr⟩
  · rw [k1, k2]
    simp only [Option.isSome_some, if_true]
    exact rep
theorem putI_keys (kvs : List (List Int × D)) (k : List Int) (d : D) (h : (kvs.map (·.1)).Nodup) : ((putI kvs k d).map (·.1)).Nodup := by
  unfold putI
  split
  · rename_i hs
    rw [List.map_map]
    have e : ((fun p : List Int × D => p.1) ∘ fun p => if p.1 = k then (p.1, d) else p) = fun p => p.1 := by
      funext p
      show (if p.1 = k then (p.1, d) else p).1 = p.1
      split <;> rfl
    rw [e]
    exact h
  · rename_i hs
    rw [List.map_append, List.nodup_append]
    refine ⟨h, by simp, fun a ha b hb => ?_⟩
    simp only [List.map_cons, List.map_nil, List.mem_cons, List.not_mem_nil, or_false] at hb
    subst hb
    rintro rfl
    obtain ⟨p, hp, e⟩ := List.mem_map.mp ha
    apply hs
    unfold findI
    rw [Option.isSome_map, List.find?_isSome]
    exact ⟨p, hp, by simpa using e⟩
theorem dic_is {n : Nat} {kvs : List (List Int × D)} (R : Rel K ca G ρ st H) {x : Sv} {v : V} (sx : SR K G ρ x v) (e : dicAt x st = some (n, kvs)) : ∃ a xs, x = .r n ∧ v = .ref a ∧ ρ[n]? = some a ∧ st[n]? = some (.dic kvs) ∧ IsDi K H a xs ∧ kvs.length ≤ 100000 ∧ Paired (KVR K G) kvs xs := by
  unfold dicAt at e
  split at e
  · rename_i m
    split at e
    · rename_i kvs' hs
      cases e
      obtain ⟨a, ha, rfl⟩ := sx
      obtain ⟨xs, h1, h2, h3, h4, h5⟩ := R.obj n a _ ha hs
      have hk := keys_pd h5
      refine ⟨a, xs, rfl, rfl, ha, hs, ⟨h1, h2, hk ▸ h4, fun x hx => ?_⟩, h3, h5⟩
      have all : ∀ {l : List (List Int × D)} {m : List (List Int × Addr × Value)}, Paired (KVR K G) l m → ∀ x ∈ m, SqT K H x.2.1 (x.1.map V.int) := by
        intro l m q
        induction q with
        | nil => intro x hx; cases hx
        | @cons p q ps qs hq t ih =>
          intro x hx
          rcases List.mem_cons.mp hx with e | hx
          · subst e
            rw [← hq.1]
            exact sameT R.sub hq.2.1
          · exact ih x hx
      exact all h5 x hx
    · cases e
  · cases e
end
section
variable {X : Cx} {ca : Nat → Addr} {W : WX} {e o i k v : Expr} {f g h : EX} {pos : Pos}
/-- {k: v} -/
def dicO (n : Nat) (x y : Sv) (s : Stt) : R Sv := match dkey x, y, s[n]? with
  | some k, .d d, some (.dic []) => .ok (.r n) (s.set n (.dic [(k, d)]))
  | _, _, _ => .bad
def sDicM (f g : EX) : EX := fun env st => bindR (f env (st ++ [.dic []])) fun x s => bindR (g env s) fun y s => dicO st.length x y s
theorem m_dicM (hu : X.A.units < cLine) (hk : PE X k (tr X.K ca W f)) (hv : PE X v (tr X.K ca W g)) : PE X (.Dict [some k] [v] pos) (tr X.K ca W (sDicM f g)) := (pe_dispI hu hk hv).imp fun σ H Q q => by
  obtain ⟨G, ρ, env, st, hR, hE, kk⟩ := q
  intro p hp ns
  have R0 : Rel X.K ca G (ρ ++ [p]) (st ++ [.dic []]) (upd H p (.ext (dphi p []))) := hR.alloc hp (o := .dic []) ⟨[], upd_same, ns, Nat.zero_le _, List.nodup_nil, .nil⟩
  have hn : (ρ ++ [p])[st.length]? = some p := by rw [← hR.len, List.getElem?_append_right (Nat.le_refl _), Nat.sub_self]; rfl
  have kk0 : Kn X.K ca W G (ρ ++ [p]) σ (sDicM f g env st) Q := Kn.base kk (Same.refl _) (List.prefix_append _ _)
  refine tr_seq R0 (hE.mono (Same.refl _) (List.prefix_append _ _)) kk0 fun G1 ρ1 x H1 xv st1 s1 p1 R1 E1 sx k1 => ?_
  refine tr_seq R1 E1 k1 fun G2 ρ2 y H2 yv st2 s2 p2 R2 E2 sy k2 => ?_
  have hn2 := pre_get p2 (pre_get p1 hn)
  unfold dicO at k2
  split at k2
  · rename_i kx d hkx hs
    obtain ⟨b, rfl, hb⟩ := dkey_of hkx sx
    obtain ⟨xs, h1, h2, h3, h4, h5⟩ := R2.obj _ p _ hn2 hs
    cases h5
    refine ⟨_, _, b, kx, rfl, rfl, h1, sameT R2.sub (sameT s2 hb), fun u ru => ?_⟩
    exact k2 G2 ρ2 _ _ (Same.refl _) (List.prefix_refl _) (R2.write hn2 hs (fun z => by cases z) (o := .dic [(kx, d)]) ⟨[(kx, b, u)], upd_same, h2, by simp, by simp, .cons ⟨rfl, sameT s2 hb, _, ru, sy⟩ .nil⟩) ⟨p, hn2, rfl⟩
  · exact k2.elim
/-- d[k] -/
def dgetD (x y : Sv) (s : Stt) : Option D := match dicAt x s, dkey y with
  | some (_, kvs), some k => findI kvs k
  | _, _ => none
theorem m_dget (hu : X.A.units + 1 < cLine) (ho : PE X o (tr X.K ca W f)) (hi : PE X i (tr X.K ca W g)) (hs : NoSl i) : PE X (.Subscript o i pos) (tr X.K ca W (sBin dgetD f g)) := (pe_dgetI hu ho hi hs).imp fun σ H Q q => by
  obtain ⟨G, ρ, env, st, hR, hE, kk⟩ := q
  refine tr_seq hR hE kk fun G1 ρ1 x H1 xv st1 s1 p1 R1 E1 sx k1 => ?_
  refine tr_seq R1 E1 k1 fun G2 ρ2 y H2 yv st2 s2 p2 R2 E2 sy k2 => ?_
  cases e : dgetD xv yv st2 with
  | none => rw [e] at k2; exact k2.elim
  | some d =>
    rw [e] at k2
    unfold dgetD at e
    split at e
    · rename_i n kvs kx h1 h2
      obtain ⟨a, xs, rfl, rfl, ha, hst, hd, _, pd⟩ := dic_is R2 (sx.mono s2 p2) h1
      obtain ⟨b, rfl, hb⟩ := dkey_of h2 sy
      rcases pd_find kx pd with ⟨e1, _⟩ | ⟨d', p, v, e1, e2, rv, dr⟩
      · rw [e1] at e; cases e
      · rw [e1] at e
        cases e
        exact ⟨a, xs, kx, b, p, v, rfl, rfl, hd, sameT R2.sub hb, e2, rv, k2 G2 ρ2 v H2 (Same.refl _) (List.prefix_refl _) R2 dr⟩
    · cases e
/-- k in d, k not in d -/
def dinD (x y : Sv) (s : Stt) : Option D := match dkey x, dicAt y s with
  | some k, some (_, kvs) => some (.bool (findI kvs k).isSome)
  | _, _ => none
def dninD (x y : Sv) (s : Stt) : Option D := match dkey x, dicAt y s with
  | some k, some (_, kvs) => some (.bool (!(findI kvs k).isSome))
  | _, _ => none
theorem find_is {K : PySem.W.Frag} {G : Hp} {kx : List Int} {kvs : List (List Int × D)} {xs : List (List Int × Addr × Value)} (pd : Paired (KVR K G) kvs xs) : (atKey xs kx).isSome = (findI kvs kx).isSome := by
  rcases pd_find kx pd with ⟨e1, e2⟩ | ⟨_, _, _, e1, e2, _, _⟩
  · rw [e1, e2]; rfl
  · rw [e1, e2]; rfl
theorem os_din : OpS X.K ca (rInI X.K) dinD := by
  intro G ρ st H x y v w d Q R sx sy e k
  unfold dinD at e
  split at e
  · rename_i kx n kvs h1 h2
    cases e
    obtain ⟨b, rfl, hb⟩ := dkey_of h1 sx
    obtain ⟨a, xs, rfl, rfl, ha, hst, hd, _, pd⟩ := dic_is R sy h2
    refine ⟨a, xs, kx, b, rfl, rfl, hd, sameT R.sub hb, ?_⟩
    rw [find_is pd]
    exact k G _ H (Same.refl _) R (.bl _)
  · cases e
theorem os_dnin : OpS X.K ca (rNinI X.K) dninD := by
  intro G ρ st H x y v w d Q R sx sy e k
  unfold dninD at e
  split at e
  · rename_i kx n kvs h1 h2
    cases e
    obtain ⟨b, rfl, hb⟩ := dkey_of h1 sx
    obtain ⟨a, xs, rfl, rfl, ha, hst, hd, _, pd⟩ := dic_is R sy h2
    refine ⟨a, xs, kx, b, rfl, rfl, hd, sameT R.sub hb, ?_⟩
    rw [find_is pd]
    exact k G _ H (Same.refl _) R (.bl _)
  · cases e
/-- d[k] = v -/
def dputR (env : En) (x y z : Sv) (s : Stt) : RS := match dicAt x s, dkey y, z with
  | some (n, kvs), some k, .d d => if kvs.length < 90000 then .nx env (s.set n (.dic (putI kvs k d))) else .bad
  | _, _, _ => .bad
def bDPut (f g h : EX) : SX := fun env st => bindS (h env st) fun z s => bindS (f env s) fun x s => bindS (g env s) fun y s => dputR env x y z s
theorem putI_len (kvs : List (List Int × D)) (k : List Int) (d : D) : (putI kvs k d).length ≤ kvs.length + 1 := by
  unfold putI
  split
  · rw [List.length_map]; omega
  · rw [List.length_append]; simp
theorem ms_dput {value : Expr} {pos' : Pos} (hu : X.A.units + 1 < cLine) (ho : PE X o (tr X.K ca W f)) (hi : PE X i (tr X.K ca W g)) (hv : PE X value (tr X.K ca W h)) (hs : swapsWith value (some (.Subscript o i pos')) pos.line X.env = pure false := by rfl) :
    PS X (.Assign [.Subscript o i pos'] value pos) (trS X.K ca W (bDPut f g h)) := (ps_dputI hu ho hi hv hs).imp fun D σ H q => by
  obtain ⟨G, ρ, env, st, hR, hE, k⟩ := q
  refine trS_seq hR hE k fun G1 ρ1 v H1 z st1 s1 p1 R1 E1 sz k1 => ?_
  refine trS_seq R1 E1 k1 fun G2 ρ2 w H2 x st2 s2 p2 R2 E2 sx k2 => ?_
  refine trS_seq R2 E2 k2 fun G3 ρ3 u H3 y st3 s3 p3 R3 E3 sy k3 => ?_
  unfold dputR at k3
  split at k3
  · rename_i n kvs kx d h1 h2
    split at k3
    · rename_i hl
      obtain ⟨a, xs, rfl, rfl, ha, hst, hd, _, pd⟩ := dic_is R3 (sx.mono s3 p3) h1
      obtain ⟨b, rfl, hb⟩ := dkey_of h2 sy
      have hk := keys_pd pd
      have lx : kvs.length = xs.length := Paired.length pd
      have sz3 : DR X.K G3 v d := (sz.mono s2 p2).mono s3 p3
      refine ⟨a, xs, kx, b, rfl, rfl, hd, sameT R3.sub hb, by rw [← lx]; exact Nat.le_trans (Nat.le_of_lt hl) (by decide), fun u ru => ?_⟩
      have pl := putI_len kvs kx d
      exact k3.nx_of (R3.write ha hst (fun z => by cases z) (o := .dic (putI kvs kx d)) ⟨storedH xs kx b u, upd_same, hd.ns, by omega, putI_keys kvs kx d (hk ▸ hd.nd), pd_put hb ru sz3 pd⟩) E3 rfl
    · exact k3.elim
  · exact k3.elim
/-- for k in d (the dict's last reading: it is changed no more) -/
def keysK (x : Sv) (s : Stt) : R (List D) := match dicAt x s with
  | some (n, kvs) => .ok (kvs.map fun p => keyD p.1) (s.set n .gone)
  | none => .bad
def iKeys' (f : EX) : IX := fun env st => bindR (f env st) keysK
theorem Rel.lockAt {K : PySem.W.Frag} {G H : Hp} {ρ : List Addr} {st : Stt} (h : Rel K ca G ρ st H) {m : Nat} {a : Addr} {kvs : List (List Int × D)} {od : Obj} {φ : Heap → Prop} (ha : ρ[m]? = some a) (hs' : st[m]? = some (.dic kvs)) :
    Same G (upd G a (.frz od (.ext φ))) ∧ Rel K ca (upd G a (.frz od (.ext φ))) ρ (st.set m .gone) (upd H a (.frz od (.ext φ))) := by
  have ga : G a = none := h.out m a _ ha hs' (fun z => by cases z)
  have sm : Same G (upd G a (.frz od (.ext φ))) := same_upd ga
  have lm : m < st.length := (List.getElem?_eq_some_iff.mp hs').1
  refine ⟨sm, fun b u e => ?_, by rw [List.length_set]; exact h.len, h.nd, fun i b o hb hs hq => ?_, fun i b o hb hs => ?_⟩
  · by_cases hb : b = a
    · subst hb
      rw [upd_same] at e ⊢
      exact e
    · rw [upd_ne hb] at e ⊢
      exact h.sub b u e
  · by_cases e : m = i
    · subst e
      rw [List.getElem?_set_self lm] at hs
      cases hs
      exact absurd rfl hq
    · rw [List.getElem?_set_ne e] at hs
      rw [upd_ne (fun z : b = a => e (nodup_ix h.nd ha (z ▸ hb)))]
      exact h.out i b o hb hs hq
  · by_cases e : m = i
    · subst e
      rw [List.getElem?_set_self lm] at hs
      cases hs
      rw [ha] at hb
      cases hb
      exact .inr ⟨od, φ, upd_same⟩
    · rw [List.getElem?_set_ne e] at hs
      exact (h.obj i b o hb hs).mono sm (List.prefix_refl _) (upd_ne fun z => e (nodup_ix h.nd ha (z ▸ hb)))
theorem src_keys {G : Hp} {a : Addr} {od : Obj} {kvs : List (List Int × D)} {xs : List (List Int × Addr × Value)} (hG : G a = some (.frz od (.ext (dphi a xs)))) (pd : Paired (KVR X.K G) kvs xs) : Src X.K ca (Itx a od xs) G (kvs.map fun p => keyD p.1) := by
  intro G' ρ st H i s R
  have hH := R.sub _ _ (s _ _ hG)
  have hl : kvs.length = xs.length := Paired.length pd
  refine ⟨fun d e => ?_, fun hi => ⟨hH, by rw [List.length_map] at hi; omega⟩⟩
  rw [List.getElem?_map] at e
  obtain ⟨p, hp, rfl⟩ := Option.map_eq_some_iff.mp e
  obtain ⟨q, hq, r1, r2, _⟩ := paired_get pd hp
  have li : i < kvs.length := (List.getElem?_eq_some_iff.mp hp).1
  refine ⟨⟨hH, by omega⟩, fun x H' y => ?_⟩
  obtain ⟨rfl, z, hz, rfl⟩ := y
  rw [hq] at hz
  cases hz
  exact ⟨G', Same.refl _, R, kd_dr (sameT s r2)⟩
theorem mi_keys {tg : Expr} (he : PE X e (tr X.K ca W f)) : PI X tg e (trI X.K ca W (iKeys' f)) := PI.imp (pi_keysL he) fun σ H R q => by
  refine trI_seq (k := keysK) (fun env st => rfl) q fun G1 ρ1 v H1 x st1 env R1 E1 sx k1 => ?_
  unfold keysK at k1
  cases e : dicAt x st1 with
  | none => rw [e] at k1; exact k1.elim
  | some z =>
    obtain ⟨n, kvs⟩ := z
    rw [e] at k1
    obtain ⟨a, xs, rfl, rfl, ha, hst, hd, _, pd⟩ := dic_is R1 sx e
    refine ⟨a, xs, rfl, hd.ns, hd.at', fun od => ?_⟩
    obtain ⟨sm, R2⟩ := R1.lockAt (od := od) (φ := dphi a xs) ha hst
    exact k1 _ ρ1 _ _ sm (List.prefix_refl _) R2 (src_keys upd_same (Paired.mapP pd fun _ _ q => ⟨q.1, sameT sm q.2.1, let ⟨v, r, d⟩ := q.2.2; ⟨v, r, d.mono sm⟩⟩))
end
theorem u0 {k : Nat} {A : Around} (r : L2.Room k A) : A.units < cLine := by have := DL.Room.units1 r; omega
theorem u1 {k : Nat} {A : Around} (r : L2.Room k A) : A.units + 1 < cLine := by have := DL.Room.units1 r; omega
section
variable {env : En} {st s : Stt} {f g h : EX} {n : Nat} {kvs : List (List Int × D)} {k : List Int} {d y : D}
@[simp] theorem sDicM_ap : sDicM f g env st = bindR (f env (st ++ [.dic []])) fun x s => bindR (g env s) fun y s => dicO st.length x y s := rfl
theorem dicO_ap (hk : keyI y = some k) : dicO st.length (.d y) (.d d) (st ++ [.dic []]) = .ok (.r st.length) (st ++ [.dic [(k, d)]]) := by
  unfold dicO dkey
  simp [hk]
theorem dicAt_ap (h : s[n]? = some (.dic kvs)) : dicAt (.r n) s = some (n, kvs) := by
  unfold dicAt
  simp [h]
theorem dget_ap (h : s[n]? = some (.dic kvs)) (hk : keyI y = some k) : dgetD (.r n) (.d y) s = findI kvs k := by
  unfold dgetD dkey
  simp [dicAt_ap h, hk]
theorem dnin_ap (h : s[n]? = some (.dic kvs)) (hk : keyI y = some k) : dninD (.d y) (.r n) s = some (.bool (!(findI kvs k).isSome)) := by
  unfold dninD dkey
  simp [dicAt_ap h, hk]
theorem din_ap (h : s[n]? = some (.dic kvs)) (hk : keyI y = some k) : dinD (.d y) (.r n) s = some (.bool (findI kvs k).isSome) := by
  unfold dinD dkey
  simp [dicAt_ap h, hk]
@[simp] theorem bDPut_ap : bDPut f g h env st = bindS (h env st) fun z s => bindS (f env s) fun x s => bindS (g env s) fun y s => dputR env x y z s := rfl
theorem dput_ap (h : s[n]? = some (.dic kvs)) (hk : keyI y = some k) (hl : kvs.length < 90000) : dputR env (.r n) (.d y) (.d d) s = .nx env (s.set n (.dic (putI kvs k d))) := by
  unfold dputR dkey
  simp [dicAt_ap h, hk, hl]
theorem iKeys_ap (h : s[n]? = some (.dic kvs)) (e : f env st = .ok (.r n) s) : iKeys' f env st = .ok (kvs.map fun p => keyD p.1) (s.set n .gone) := by
  unfold iKeys' keysK
  rw [e]
  simp [dicAt_ap h]
theorem key_pr {p q : Int} : keyI (.tuple [.int p, .int q]) = some [p, q] := rfl
end
end DL

namespace L2
open PySem PySem.Spec PyProof.Rows
section
variable {X : Cx} {CX : CXT} {k : Nat} {f C : Addr} {fd : FuncData} {ps : List Str} {sp : Sp} {E : St → XK} {x m : Str} {p pos apos : Pos} {e o : Expr} {es : List Expr} {ta : TE} {t : TA}
theorem run_makeW {pins : List (Addr × Obj)} {σ : St} {H : Hp} {s : Shared} {Q : VK} {us : List Value} {vs : List V} (M : Mk X.K C f) (F : FnOk X.prog X.w X.K X.mg X.base CX k f fd ps sp) (hr : Room (k + 1) X.A) (hb : Binds X.K fd ps [])
    (hx : PassesAt CX X σ (E σ)) (I : Inv X pins σ H s) (r : Vals vs us)
    (h : ∀ x dx, H x = none → H dx = none → dx ≠ x → sp (.ref x :: vs) (upd (upd H dx (.own x)) x (.ins C dx [])) (fun v H2 => v = .non ∧ Q (.ref x) H2) (E σ))
    (hp : ∀ e s', CX X.stack (upd (upd H s.heap.objs.size (.own (s.heap.objs.size + 1))) (s.heap.objs.size + 1) (.ins C s.heap.objs.size [])) { s with heap := (s.heap.push PySem.W.emptyDict).push (PySem.W.instObj C s.heap.objs.size) } (E σ) e s' → X.xe e s') :
    wpAny (model X.prog X.w) X.A (call (.ref C) us) (EP X pins σ Q) X.xe s := by
  have hq := h (s.heap.objs.size + 1) s.heap.objs.size (I.hok.fresh (Nat.le_succ _)) (I.hok.fresh (Nat.le_refl _)) (Nat.ne_of_lt (Nat.lt_succ_self _))
  have I2 := Inv.made (C := C) I
  have r2 : Vals (V.ref (s.heap.objs.size + 1) :: vs) (Value.ref (s.heap.objs.size + 1) :: us) := .cons rfl r
  have hl : (Value.ref (s.heap.objs.size + 1) :: us).length = ps.length := by
    have e := r2.length
    rw [F.len _ _ _ _ hq] at e
    exact e.symm
  have hb' := hb ({ s with heap := (s.heap.push PySem.W.emptyDict).push (PySem.W.instObj C s.heap.objs.size) } : Shared) (Value.ref (s.heap.objs.size + 1) :: us) I2.kIn (by rw [List.append_nil]; exact hl)
  rw [List.append_nil] at hb'
  refine wpAny_call (make_map (f := f) I.kIn M.makes M.init (beq_iff_eq.mp M.fn) (codeAny_mono (F.run _ X.stack _ _ ⟨Value.ref (s.heap.objs.size + 1) :: us, []⟩ (Value.ref (s.heap.objs.size + 1) :: us) _ _ (E σ) (hr.make C us [])
    (I2.env0.make C us []) hb' r2 hq) fun r s' hq' => ?_))
  cases r with
  | error e => exact hp e s' hq'
  | ok fl =>
    cases fl with
    | ret u =>
      obtain ⟨v, H', I3, rv, ev, q3⟩ := I2.after hq'
      subst ev
      exact ⟨rv, ⟨V.ref (s.heap.objs.size + 1), H', I3, rfl, q3⟩⟩
    | next => exact False.elim hq'
    | brk => exact False.elim hq'
    | cont => exact False.elim hq'
def tMakeW (C : Addr) (sp : Sp) (E : St → XK) (t : TA) : TE := fun σ H Q => t σ H fun vs H1 => ∀ x dx, H1 x = none → H1 dx = none → dx ≠ x → sp (.ref x :: vs) (upd (upd H1 dx (.own x)) x (.ins C dx [])) (fun v H2 => v = .non ∧ Q (.ref x) H2) (E σ)
theorem pe_makeW (M : Mk X.K C f) (F : FnOk X.prog X.w X.K X.mg X.base CX k f fd ps sp) (hr : Room (k + 1) X.A) (hg : Gl X x) (hm : X.mg x = some (.ref C)) (hb : Binds X.K fd ps []) (hx : ∀ σ, PassesAt CX X σ (E σ))
    (ha : PA X (e :: es) t) (hdb : (x == ("__debug__" : Str)) = false := by decide) (he : starEach (e :: es) X.env = (false, eval e X.env) :: starEach es X.env := by rfl) (hpl : (backTo pos (starEach es X.env)).any (·.1) = false := by rfl) :
    PE X (.Call (.Name x p) (e :: es) [] pos) (tMakeW C sp E t) := by
  refine ⟨fun pins s σ H Q I h => ?_⟩
  refine wpAny_Call_Name_kw (ld_glob I hg hm ?_ hdb)
  refine PySem.W.callWith_K (h₀ := X.base) I.ok.mod.kin M.kp (thn (ha.run pos pins s σ H _ I h) fun us s1 ⟨vs, H1, I1, r, q⟩ => ⟨I1.kIn, ?_⟩) he hpl
  exact run_makeW M F hr hb (hx σ) I1 r q fun e s' c => hx σ pins _ _ e s' (Inv.made (C := C) I1) c
def tMethW (C : Addr) (m : Str) (sp : Sp) (E : St → XK) (ta : TE) (t : TA) : TE := fun σ H Q => ta σ H fun x H1 => ∃ a dx fs, x = .ref a ∧ H1 a = some (.ins C dx fs) ∧ fs.lookup m = none ∧ t σ H1 fun vs H2 => sp (x :: vs) H2 Q (E σ)
theorem pe_methW {pl : Sem Bool} (he : PE X o ta) (c : Cls X.K C) (hm : Meth X.K C m f) (F : FnOk X.prog X.w X.K X.mg X.base CX k f fd ps sp) (hr : Room k X.A) (hb : Binds X.K fd ps []) (hx : ∀ σ, PassesAt CX X σ (E σ)) (ha : PA X (e :: es) t)
    (hst : starEach (e :: es) X.env = (false, eval e X.env) :: starEach es X.env := by rfl) (hpl : (backTo pos (starEach es X.env)).any (·.1) = false := by rfl)
    (ht : eval (.Call (.Attribute o m apos) (e :: es) [] pos) X.env = (do
      let ov ← eval o X.env
      standAt apos.atName
      let (f, first) ← holding [ov] (getMethod ov m pl)
      callWith pos f first (backTo pos (starEach (e :: es) X.env)) (backToKw pos (keywordEach [] X.env))) := by rfl) :
    PE X (.Call (.Attribute o m apos) (e :: es) [] pos) (tMethW C m sp E ta t) := by
  refine ⟨fun pins s σ H Q I h => ?_⟩
  refine PySem.W.methodCall_KW (pl := pl) (thn (he.run pins s σ H _ I h) fun u s1 ⟨x, H1, I1, rx, a, dx, fs, ex, ea, l, q⟩ => ?_) ht
  subst ex
  obtain rfl : u = Value.ref a := rx
  refine getmeth_ok I1 ea c hm l ?_
  refine PySem.W.callWith_K (first := [.ref a]) (h₀ := X.base) I.ok.mod.kin hm.kp (thn (ha.run pos pins s1 σ H1 _ I1 q) fun us s2 ⟨vs, H2, I2, r, q2⟩ => ⟨I2.kIn, ?_⟩) hst hpl
  exact run_fnS (us := .ref a :: us) (vs := .ref a :: vs) F hr hb (hx σ) I2 (.cons rfl r) q2
theorem pe_methW0 {pl : Sem Bool} (he : PE X o ta) (c : Cls X.K C) (hm : Meth X.K C m f) (F : FnOk X.prog X.w X.K X.mg X.base CX k f fd ps sp) (hr : Room k X.A) (hb : Binds X.K fd ps []) (hx : ∀ σ, PassesAt CX X σ (E σ))
    (ht : eval (.Call (.Attribute o m apos) [] [] pos) X.env = (do
      let ov ← eval o X.env
      standAt apos.atName
      let (f, first) ← holding [ov] (getMethod ov m pl)
      callWith pos f first (backTo pos (starEach [] X.env)) (backToKw pos (keywordEach [] X.env))) := by rfl) :
    PE X (.Call (.Attribute o m apos) [] [] pos) (tMethW C m sp E ta tNil) := by
  refine ⟨fun pins s σ H Q I h => ?_⟩
  refine PySem.W.methodCall_KW (pl := pl) (thn (he.run pins s σ H _ I h) fun u s1 ⟨x, H1, I1, rx, a, dx, fs, ex, ea, l, q⟩ => ?_) ht
  subst ex
  obtain rfl : u = Value.ref a := rx
  refine getmeth_ok I1 ea c hm l ?_
  exact PySem.W.callWith_K0 (first := [.ref a]) I1.kIn hm.kp (run_fnS (us := [.ref a]) (vs := [.ref a]) F hr hb (hx σ) I1 (.cons rfl .nil) q)
end
end L2
namespace DL
open PySem PySem.Spec PyProof.Rows L2

def putS (f : Str) (y : Sv) : List (Str × Sv) → List (Str × Sv)
  | [] => [(f, y)]
  | (g, x) :: r => if g = f then (g, y) :: r else (g, x) :: putS f y r
def lookS (f : Str) : List (Str × Sv) → Option Sv
  | [] => none
  | (g, x) :: r => if g = f then some x else lookS f r
/-- the instance: its place, its fields -/
def insAt (c : Nat) (x : Sv) (s : Stt) : Option (Nat × List (Str × Sv)) := match x with
  | .r n => (match s[n]? with
    | some (.ins k fs) => if k = c then some (n, fs) else none
    | _ => none)
  | _ => none
section
variable {K : PySem.W.Frag} {ca : Nat → Addr} {G H : Hp} {ρ : List Addr} {st : Stt}
abbrev FR (K : PySem.W.Frag) (G : Hp) (ρ : List Addr) : Str × Sv → Str × V → Prop := fun p q => p.1 = q.1 ∧ SR K G ρ p.2 q.2
theorem fr_look {f : Str} {fs : List (Str × Sv)} {vs : List (Str × V)} (h : Paired (FR K G ρ) fs vs) : (∀ y, lookS f fs = some y → ∃ v, vs.lookup f = some v ∧ SR K G ρ y v) ∧ (lookS f fs = none → vs.lookup f = none) := by
  induction h with
  | nil => exact ⟨fun y e => (by cases e), fun _ => rfl⟩
  | @cons p q ps qs r t ih =>
    obtain ⟨g, x⟩ := p
    obtain ⟨g', v⟩ := q
    obtain ⟨r1, r2⟩ := r
    simp only at r1 r2
    subst r1
    by_cases e : g = f
    · have hb : (f == g) = true := beq_iff_eq.mpr e.symm
      have e1 : lookS f ((g, x) :: ps) = some x := if_pos e
      have e2 : List.lookup f ((g, v) :: qs) = some v := by simp only [List.lookup, hb]
      rw [e1, e2]
      exact ⟨fun y z => by cases z; exact ⟨v, rfl, r2⟩, fun z => by cases z⟩
    · have hb : (f == g) = false := beq_eq_false_iff_ne.mpr fun z => e z.symm
      have e1 : lookS f ((g, x) :: ps) = lookS f ps := if_neg e
      have e2 : List.lookup f ((g, v) :: qs) = qs.lookup f := by simp only [List.lookup, hb]
      rw [e1, e2]
      exact ih
theorem fr_put {f : Str} {y : Sv} {v : V} (r : SR K G ρ y v) {fs : List (Str × Sv)} {vs : List (Str × V)} (h : Paired (FR K G ρ) fs vs) : Paired (FR K G ρ) (putS f y fs) (putF f v vs) := by
  induction h with
  | nil => exact .cons ⟨rfl, r⟩ .nil
  | @cons p q ps qs r2 t ih =>
    obtain ⟨g, x⟩ := p
    obtain ⟨g', u⟩ := q
    obtain ⟨r3, r4⟩ := r2
    simp only at r3 r4
    subst r3
    show Paired _ (if g = f then (g, y) :: ps else (g, x) :: putS f y ps) (if g = f then (g, v) :: qs else (g, u) :: putF f v qs)
    by_cases e : g = f
    · rw [if_pos e, if_pos e]
      exact .cons ⟨rfl, r⟩ t
    · rw [if_neg e, if_neg e]
      exact .cons ⟨rfl, r4⟩ ih
theorem ins_is {c n : Nat} {fs : List (Str × Sv)} (R : Rel K ca G ρ st H) {x : Sv} {v : V} (sx : SR K G ρ x v) (e : insAt c x st = some (n, fs)) : ∃ a dx vs, x = .r n ∧ v = .ref a ∧ ρ[n]? = some a ∧ st[n]? = some (.ins c fs) ∧ H a = some (.ins (ca c) dx vs) ∧ Paired (FR K G ρ) fs vs := by
  unfold insAt at e
  split at e
  · rename_i m
    split at e
    · rename_i k fs' hs
      split at e
      · rename_i hk
        cases e
        subst hk
        obtain ⟨a, ha, rfl⟩ := sx
        obtain ⟨dx, vs, h1, h2⟩ := R.obj n a _ ha hs
        exact ⟨a, dx, vs, rfl, rfl, ha, hs, h1, h2⟩
      · cases e
    · cases e
  · cases e
/-- a new thing that the store does not know -/
theorem Rel.other (h : Rel K ca G ρ st H) {p : Addr} {o : HO} (hp : H p = none) : Rel K ca G ρ st (upd H p o) := by
  obtain ⟨n1, n2⟩ := h.fresh hp
  refine ⟨fun b u e => ?_, h.len, h.nd, h.out, fun n a q ha hs => (h.obj n a q ha hs).mono (Same.refl G) (List.prefix_refl _) (upd_ne fun z => n1 (z ▸ List.mem_of_getElem? ha))⟩
  rw [upd_ne (ne_of_none (h.sub b u e) hp)]
  exact h.sub b u e
end
def sNew (c : Nat) (F : List Sv → Stt → R Sv) (a : AX) : EX := fun env st => bindR (a env st) fun xs s => match F (.r s.length :: xs) (s ++ [.ins c []]) with
  | .ok (.d .none) s' => .ok (.r s.length) s'
  | .ok _ _ => .bad
  | .ex c s' => .ex c s'
  | .bad => .bad
def sFld (c : Nat) (f : Str) (a : EX) : EX := fun env st => bindR (a env st) fun x s => match insAt c x s with
  | some (_, fs) => (match lookS f fs with
    | some y => .ok y s
    | none => .bad)
  | none => .bad
def bFld (c : Nat) (f : Str) (a v : EX) : SX := fun env st => bindS (v env st) fun y s => bindS (a env s) fun x s => match insAt c x s with
  | some (n, fs) => if fs.length < 1000 then .nx env (s.set n (.ins c (putS f y fs))) else .bad
  | none => .bad
def sInv (c : Nat) (m : Str) (F : List Sv → Stt → R Sv) (o : EX) (a : AX) : EX := fun env st => bindR (o env st) fun x s => match insAt c x s with
  | some (_, fs) => if (lookS m fs).isNone then bindR (a env s) fun xs s => F (x :: xs) s else .bad
  | none => .bad
def sLenI (c : Nat) (F : List Sv → Stt → R Sv) (a : AX) : EX := fun env st => bindR (a env st) fun xs s => match xs with
  | [x] => (match insAt c x s with
    | some _ => (match F [x] s with
      | .ok (.d (.int k)) s' => if 0 ≤ k ∧ bndI k = true then .ok (.d (.int k)) s' else .bad
      | _ => .bad)
    | none => .bad)
  | _ => .bad
def sEqI (c : Nat) (F : List Sv → Stt → R Sv) (a b : EX) : EX := fun env st => bindR (a env st) fun x s => bindR (b env s) fun y s => match insAt c x s with
  | some _ => (match insAt c y s with
    | some _ => (match F [x, y] s with
      | .ok (.d (.bool k)) s' => .ok (.d (.bool k)) s'
      | _ => .bad)
    | none => .bad)
  | none => .bad
def isCD (c : Nat) (x : Sv) (s : Stt) : Option D := match insAt c x s with
  | some _ => some (.bool true)
  | none => none
/-- list(x), x[lo:hi], to be changed -/
def sListM (a : AX) : EX := fun env st => bindR (a env st) fun xs s => match listL xs s with
  | some (.list ds) => .ok (.r s.length) (s ++ [.lst ds])
  | _ => .bad
def sSlM (f : EX) (l u : OX) : EX := fun env st => bindR (f env st) fun x s => bindR (l env s) fun lo s => bindR (u env s) fun hi s => match toL s x with
  | some ds => .ok (.r s.length) (s ++ [.lst (cutA ds lo hi)])
  | none => .bad
section
variable {X : Cx} {ca : Nat → Addr} {W : WX} {e a b o : Expr} {es : List Expr} {f g h : EX} {fs : AX} {pos p p2 apos : Pos} {k c : Nat} {fn : Addr} {fd : FuncData} {ps : List Str} {F : List Sv → Stt → DL.R Sv} {x m : Str}
theorem m_new (c : Nat) (M : Mk X.K (ca c) fn) (Fn : FnOk X.prog X.w X.K X.mg X.base (L2.CX X.prog X.w) k fn fd ps (spF X.K ca F)) (hr : Room (k + 1) X.A) (hm : X.mg x = some (.ref (ca c))) (hb : Binds X.K fd ps []) (tk : Takes X W) (ha : PA X (e :: es) (trA X.K ca W fs)) (hg : Gl X x := by rfl)
    (hdb : (x == ("__debug__" : Str)) = false := by decide) (he : starEach (e :: es) X.env = (false, eval e X.env) :: starEach es X.env := by rfl) (hpl : (backTo pos (starEach es X.env)).any (·.1) = false := by rfl) :
    PE X (.Call (.Name x p) (e :: es) [] pos) (tr X.K ca W (sNew c F fs)) := (pe_makeW M Fn hr hg hm hb (fun σ => passAt tk σ) ha hdb he hpl).imp fun σ H Q q => by
  obtain ⟨G, ρ, env, st, hR, hE, k⟩ := q
  refine trA_seq hR hE k fun G1 ρ1 vs H1 xs st1 s1 p1 R1 E1 sx k1 => ?_
  intro q dx hq hdx ne
  have R2 : Rel X.K ca G1 ρ1 st1 (upd H1 dx (.own q)) := R1.other hdx
  have hq2 : upd H1 dx (.own q) q = none := by rw [upd_ne (fun z => ne z.symm)]; exact hq
  have R3 := R2.alloc (u := .ins (ca c) dx []) (o := .ins c []) hq2 ⟨dx, [], upd_same, .nil⟩
  refine ⟨G1, ρ1 ++ [q], st1 ++ [.ins c []], .r st1.length :: xs, R3, .cons ⟨q, by rw [← R1.len, List.getElem?_append_right (Nat.le_refl _), Nat.sub_self]; rfl, rfl⟩ (SRs.mono (Same.refl _) (List.prefix_append _ _) sx), ?_⟩
  cases ef : F (.r st1.length :: xs) (st1 ++ [.ins c []]) with
  | bad => simp only [ef] at k1; exact k1.elim
  | ex c' s' => simp only [ef] at k1; exact fun G' ρ' H' s p R => k1 G' ρ' H' s ((List.prefix_append _ _).trans p) R
  | ok y s' =>
    simp only [ef] at k1
    cases y with
    | r n => exact k1.elim
    | s n => exact k1.elim
    | x n => exact k1.elim
    | d z =>
      cases z with
      | none =>
        intro G' ρ' v H' s p R sv
        cases sv
        refine ⟨rfl, k1 G' ρ' (.ref q) H' s ((List.prefix_append _ _).trans p) R ⟨q, ?_, rfl⟩⟩
        exact pre_get p (by rw [← R1.len, List.getElem?_append_right (Nat.le_refl _), Nat.sub_self]; rfl)
      | _ => exact k1.elim
theorem m_fld (c : Nat) {t : Str} (cl : Cls X.K (ca c)) (na : NoAttr X.K (ca c) t) (he : PE X e (tr X.K ca W f)) (hb : attributeBase e t X.env (eval e X.env) = eval e X.env := by rfl) : PE X (.Attribute e t pos) (tr X.K ca W (sFld c t f)) := (pe_fld he hb).imp fun σ H Q q => by
  obtain ⟨G, ρ, env, st, hR, hE, k⟩ := q
  refine tr_seq hR hE k fun G1 ρ1 v H1 x st1 s1 p1 R1 E1 sx k1 => ?_
  cases ei : insAt c x st1 with
  | none => simp only [ei] at k1; exact k1.elim
  | some nf =>
    obtain ⟨n, fs⟩ := nf
    simp only [ei] at k1
    obtain ⟨a, dx, vs, rfl, rfl, ha, hs, hi, pr⟩ := ins_is R1 sx ei
    cases el : lookS t fs with
    | none => simp only [el] at k1; exact k1.elim
    | some y =>
      simp only [el] at k1
      obtain ⟨v, h1, h2⟩ := (fr_look pr).1 y el
      exact ⟨a, ca c, dx, vs, v, rfl, hi, cl, na, h1, k1 G1 ρ1 v H1 (Same.refl _) (List.prefix_refl _) R1 h2⟩
theorem ms_fld (c : Nat) {t : Str} {pos' : Pos} (cl : Cls X.K (ca c)) (na : NoAttr X.K (ca c) t) (ho : PE X o (tr X.K ca W f)) (hv : PE X e (tr X.K ca W g)) (hs : swapsWith e (some (.Attribute o t pos')) pos.line X.env = pure false := by rfl) :
    PS X (.Assign [.Attribute o t pos'] e pos) (trS X.K ca W (bFld c t f g)) := (ps_fld ho hv hs).imp fun D σ H q => by
  obtain ⟨G, ρ, env, st, hR, hE, k⟩ := q
  refine trS_seq hR hE k fun G1 ρ1 v H1 y st1 s1 p1 R1 E1 sy k1 => ?_
  refine trS_seq R1 E1 k1 fun G2 ρ2 w H2 x st2 s2 p2 R2 E2 sx k2 => ?_
  cases ei : insAt c x st2 with
  | none => simp only [ei] at k2; exact k2.elim
  | some nf =>
    obtain ⟨n, fs⟩ := nf
    simp only [ei] at k2
    obtain ⟨a, dx, vs, rfl, rfl, ha, hs, hi, pr⟩ := ins_is R2 sx ei
    split at k2
    · rename_i hl
      have hl' : vs.length < 1000 := by rw [← Paired.length pr]; exact hl
      refine ⟨a, ca c, dx, vs, rfl, hi, cl, na, hl', ?_⟩
      have R3 := R2.write (u := .ins (ca c) dx (putF t v vs)) (o := .ins c (putS t y fs)) ha hs (fun z => by cases z) ⟨dx, putF t v vs, upd_same, fr_put (sy.mono s2 p2) pr⟩
      exact k2 G2 ρ2 σ _ (Same.refl _) (List.prefix_refl _) R3 E2 rfl
    · exact k2.elim
theorem m_inv (c : Nat) (cl : Cls X.K (ca c)) (hm : Meth X.K (ca c) m fn) (Fn : FnOk X.prog X.w X.K X.mg X.base (L2.CX X.prog X.w) k fn fd ps (spF X.K ca F)) (hr : Room k X.A) (hb : Binds X.K fd ps []) (tk : Takes X W) {pl : Sem Bool} (he : PE X o (tr X.K ca W f)) (ha : PA X (e :: es) (trA X.K ca W fs))
    (hst : starEach (e :: es) X.env = (false, eval e X.env) :: starEach es X.env := by rfl) (hpl : (backTo pos (starEach es X.env)).any (·.1) = false := by rfl)
    (ht : eval (.Call (.Attribute o m apos) (e :: es) [] pos) X.env = (do
      let ov ← eval o X.env
      standAt apos.atName
      let (f, first) ← holding [ov] (getMethod ov m pl)
      callWith pos f first (backTo pos (starEach (e :: es) X.env)) (backToKw pos (keywordEach [] X.env))) := by rfl) :
    PE X (.Call (.Attribute o m apos) (e :: es) [] pos) (tr X.K ca W (sInv c m F f fs)) := (pe_methW he cl hm Fn hr hb (fun σ => passAt tk σ) ha hst hpl ht).imp fun σ H Q q => by
  obtain ⟨G, ρ, env, st, hR, hE, k⟩ := q
  refine tr_seq hR hE k fun G1 ρ1 v H1 x st1 s1 p1 R1 E1 sx k1 => ?_
  cases ei : insAt c x st1 with
  | none => simp only [ei] at k1; exact k1.elim
  | some nf =>
    obtain ⟨n, fl⟩ := nf
    simp only [ei] at k1
    obtain ⟨a, dx, vs, rfl, rfl, ha, hs, hi, pr⟩ := ins_is R1 sx ei
    split at k1
    · rename_i hn
      refine ⟨a, dx, vs, rfl, hi, (fr_look pr).2 (Option.isNone_iff_eq_none.mp hn), ?_⟩
      refine trA_seq R1 E1 k1 fun G2 ρ2 us H2 xs st2 s2 p2 R2 E2 sxs k2 => ?_
      exact ⟨G2, ρ2, st2, .r n :: xs, R2, .cons (sx.mono s2 p2) sxs, k2.wish fun c H h => h⟩
    · exact k1.elim
theorem m_inv0 (c : Nat) (cl : Cls X.K (ca c)) (hm : Meth X.K (ca c) m fn) (Fn : FnOk X.prog X.w X.K X.mg X.base (L2.CX X.prog X.w) k fn fd ps (spF X.K ca F)) (hr : Room k X.A) (hb : Binds X.K fd ps []) (tk : Takes X W) {pl : Sem Bool} (he : PE X o (tr X.K ca W f))
    (ht : eval (.Call (.Attribute o m apos) [] [] pos) X.env = (do
      let ov ← eval o X.env
      standAt apos.atName
      let (f, first) ← holding [ov] (getMethod ov m pl)
      callWith pos f first (backTo pos (starEach [] X.env)) (backToKw pos (keywordEach [] X.env))) := by rfl) :
    PE X (.Call (.Attribute o m apos) [] [] pos) (tr X.K ca W (sInv c m F f aNil)) := (pe_methW0 he cl hm Fn hr hb (fun σ => passAt tk σ) ht).imp fun σ H Q q => by
  obtain ⟨G, ρ, env, st, hR, hE, k⟩ := q
  refine tr_seq hR hE k fun G1 ρ1 v H1 x st1 s1 p1 R1 E1 sx k1 => ?_
  cases ei : insAt c x st1 with
  | none => simp only [ei] at k1; exact k1.elim
  | some nf =>
    obtain ⟨n, fl⟩ := nf
    simp only [ei] at k1
    obtain ⟨a, dx, vs, rfl, rfl, ha, hs, hi, pr⟩ := ins_is R1 sx ei
    split at k1
    · rename_i hn
      refine ⟨a, dx, vs, rfl, hi, (fr_look pr).2 (Option.isNone_iff_eq_none.mp hn), ?_⟩
      exact ⟨G1, ρ1, st1, [.r n], R1, .cons sx .nil, k1.wish fun c H h => h⟩
    · exact k1.elim
theorem pass_no {X : Cx} {σ : L2.St} : PassesAt (L2.CX X.prog X.w) X σ (fun _ _ _ => False) := fun _ _ _ _ _ _ c => (law_cx' c).elim
theorem call_lenI {C : Addr} (hm : Meth X.K C "__len__" fn) (Fn : FnOk X.prog X.w X.K X.mg X.base (L2.CX X.prog X.w) k fn fd ps (spF X.K ca F)) (hr : Room (k + 1) X.A) (hb : Binds X.K fd ps []) :
    CallR X (.builtin "len") (fun xs H Q => ∃ a dx fs, xs = [.ref a] ∧ H a = some (.ins C dx fs) ∧ spF X.K ca F [.ref a] H (fun v H' => ∃ n : Int, v = .int n ∧ 0 ≤ n ∧ n < 2 ^ 63 ∧ Q (.int n) H') (fun _ _ _ => False)) := by
  intro pins s σ H xs us Q I r h
  obtain ⟨a, dx, fs, rfl, ea, q⟩ := h
  obtain ⟨u, rfl, ru⟩ := vals1 r
  cases ru
  obtain ⟨mA, J, _⟩ := ins_get I.hok ea
  obtain ⟨od, J, _⟩ := J.look
  obtain ⟨m, hF⟩ := I.fr
  refine PySem.W.len_K hF I.ok.mod.kin J hm.at_ hm.fn ?_
  have r2 : Vals [V.ref a] [Value.ref a] := .cons rfl .nil
  have bb := hb s [.ref a] I.kIn (by have := Fn.len _ _ _ _ q; simpa using this)
  refine wpAny_call (codeAny_mono (Fn.run X.A.in1 X.stack s H ⟨[.ref a], []⟩ [.ref a] [.ref a] _ _ hr.in1 I.env0.in1 (by simpa using bb) r2 q) fun r s' hq => ?_)
  cases r with
  | error e => exact (law_cx' hq).elim
  | ok fl =>
    cases fl with
    | ret w =>
      obtain ⟨z, H', I', rz, n, rfl, h0, h1, qq⟩ := I.after hq
      obtain ⟨t, rfl⟩ := rz
      exact ⟨⟨h0, h1⟩, .int n, H', I'.tok _, ⟨_, rfl⟩, qq⟩
    | next => exact False.elim hq
    | brk => exact False.elim hq
    | cont => exact False.elim hq
theorem op_eqI {C : Addr} (hm : Meth X.K C "__eq__" fn) (Fn : FnOk X.prog X.w X.K X.mg X.base (L2.CX X.prog X.w) k fn fd ps (spF X.K ca F)) (hr : Room k X.A) (hb : Binds X.K fd ps []) :
    OpR X (compareOp .Eq) (fun x y H Q => ∃ a b dx dy fs gs, x = .ref a ∧ y = .ref b ∧ H a = some (.ins C dx fs) ∧ H b = some (.ins C dy gs) ∧ spF X.K ca F [.ref a, .ref b] H (fun v H' => ∃ n : Bool, v = .bl n ∧ Q (.bl n) H') (fun _ _ _ => False)) := by
  intro pins s σ H x y v u Q I rx ry h
  obtain ⟨a, b, dx, dy, fs, gs, rfl, rfl, ea, eb, q⟩ := h
  cases rx
  cases ry
  obtain ⟨mA, J, _⟩ := ins_get I.hok ea
  obtain ⟨mB, J', _⟩ := ins_get I.hok eb
  obtain ⟨od, J, _⟩ := J.look
  obtain ⟨od', J', _⟩ := J'.look
  obtain ⟨m, hF⟩ := I.fr
  show wpAny (model X.prog X.w) X.A (richCompare .Eq (.ref a) (.ref b)) (EP X pins σ Q) X.xe s
  refine PySem.W.cmp_K (op := .Eq) (tb := .ref C) hr.units0 hF I.ok.mod.kin J J'.type (by simp [PySem.W.notFirst]) hm.at_ hm.fn ?_
  have r2 : Vals [V.ref a, V.ref b] [Value.ref a, Value.ref b] := .cons rfl (.cons rfl .nil)
  have bb := hb s [.ref a, .ref b] I.kIn (by have := Fn.len _ _ _ _ q; simpa using this)
  refine wpAny_call (codeAny_mono (Fn.run X.A X.stack s H ⟨[.ref a, .ref b], []⟩ [.ref a, .ref b] [.ref a, .ref b] _ _ hr I.env0 (by simpa using bb) r2 q) fun r s' hq => ?_)
  cases r with
  | error e => exact (law_cx' hq).elim
  | ok fl =>
    cases fl with
    | ret w =>
      obtain ⟨z, H', I', rz, n, rfl, qq⟩ := I.after hq
      cases rz
      exact ⟨.bl n, H', I', rfl, qq⟩
    | next => exact False.elim hq
    | brk => exact False.elim hq
    | cont => exact False.elim hq
theorem bnd63 {i : Int} (h : bndI i = true) : i < 2 ^ 63 := by
  have := of_bndI h
  omega
theorem m_lenI (c : Nat) (hm : Meth X.K (ca c) "__len__" fn) (Fn : FnOk X.prog X.w X.K X.mg X.base (L2.CX X.prog X.w) k fn fd ps (spF X.K ca F)) (hr : Room (k + 1) X.A) (hb : Binds X.K fd ps []) (hml : X.mg "len" = none) (ha : PA X (e :: es) (trA X.K ca W fs)) (hg : Gl X "len" := by rfl)
    (he : starEach (e :: es) X.env = (false, eval e X.env) :: starEach es X.env := by rfl) (hpl : (backTo pos (starEach es X.env)).any (·.1) = false := by rfl) : PE X (.Call (.Name "len" p) (e :: es) [] pos) (tr X.K ca W (sLenI c F fs)) :=
  (pe_callB (call_lenI hm Fn hr hb) hg hml (by decide +kernel) ha (by decide) (by decide) he hpl).imp fun σ H Q q => by
  obtain ⟨G, ρ, env, st, hR, hE, k⟩ := q
  refine trA_seq hR hE k fun G1 ρ1 vs H1 xs st1 s1 p1 R1 E1 sx k1 => ?_
  split at k1
  · rename_i x
    split at k1
    · rename_i nf hi
      obtain ⟨n, fl⟩ := nf
      cases sx with
      | cons sx1 sx2 =>
        cases sx2
        obtain ⟨a, dx, vs, rfl, rfl, ha, hs, hi', pr⟩ := ins_is R1 sx1 hi
        refine ⟨a, dx, vs, rfl, hi', G1, ρ1, st1, [.r n], R1, .cons sx1 .nil, ?_⟩
        split at k1
        · rename_i kk s' ef
          rw [ef]
          split at k1
          · rename_i hk
            intro G' ρ' v H' s p R sv
            cases int_of sv
            exact ⟨kk, rfl, hk.1, bnd63 hk.2, k1 G' ρ' _ H' s p R (.int kk)⟩
          · exact k1.elim
        · exact k1.elim
    · exact k1.elim
  · exact k1.elim
theorem m_eqI (c : Nat) (hm : Meth X.K (ca c) "__eq__" fn) (Fn : FnOk X.prog X.w X.K X.mg X.base (L2.CX X.prog X.w) k fn fd ps (spF X.K ca F)) (hr : Room k X.A) (hb : Binds X.K fd ps []) (ha : PE X a (tr X.K ca W f)) (hb' : PE X b (tr X.K ca W g)) :
    PE X (.Compare a [.Eq] [b] pos) (tr X.K ca W (sEqI c F f g)) := (pe_cmpR (op_eqI hm Fn hr hb) ha hb' (nomark _)).imp fun σ H Q q => by
  obtain ⟨G, ρ, env, st, hR, hE, k⟩ := q
  refine tr_seq hR hE k fun G1 ρ1 v H1 x st1 s1 p1 R1 E1 sx k1 => ?_
  refine tr_seq R1 E1 k1 fun G2 ρ2 w H2 y st2 s2 p2 R2 E2 sy k2 => ?_
  have sx := sx.mono s2 p2
  split at k2
  · rename_i nf hi
    obtain ⟨n, fl⟩ := nf
    split at k2
    · rename_i nf hi2
      obtain ⟨n2, fl2⟩ := nf
      obtain ⟨a, dx, vs, rfl, rfl, ha, hs, hi', pr⟩ := ins_is R2 sx hi
      obtain ⟨a2, dx2, vs2, rfl, rfl, ha2, hs2, hi2', pr2⟩ := ins_is R2 sy hi2
      refine ⟨a, a2, dx, dx2, vs, vs2, rfl, rfl, hi', hi2', G2, ρ2, st2, [.r n, .r n2], R2, .cons sx (.cons sy .nil), ?_⟩
      split at k2
      · rename_i kk s' ef
        rw [ef]
        intro G' ρ' v H' s p R sv
        cases bool_of sv
        exact ⟨kk, rfl, k2 G' ρ' _ H' s p R (.bl kk)⟩
      · exact k2.elim
    · exact k2.elim
  · exact k2.elim
theorem mt_eqI (c : Nat) (hm : Meth X.K (ca c) "__eq__" fn) (Fn : FnOk X.prog X.w X.K X.mg X.base (L2.CX X.prog X.w) k fn fd ps (spF X.K ca F)) (hr : Room k X.A) (hb : Binds X.K fd ps []) (ha : PE X a (tr X.K ca W f)) (hb' : PE X b (tr X.K ca W g)) :
    PT X (.Compare a [.Eq] [b] pos) (tB (tr X.K ca W (sEqI c F f g))) := (pt_cmpR (op_eqI hm Fn hr hb) ha hb' (nomark _)).imp fun σ H Q q => by
  obtain ⟨G, ρ, env, st, hR, hE, k⟩ := q
  refine tr_seq hR hE k fun G1 ρ1 v H1 x st1 s1 p1 R1 E1 sx k1 => ?_
  refine tr_seq R1 E1 k1 fun G2 ρ2 w H2 y st2 s2 p2 R2 E2 sy k2 => ?_
  have sx := sx.mono s2 p2
  split at k2
  · rename_i nf hi
    obtain ⟨n, fl⟩ := nf
    split at k2
    · rename_i nf hi2
      obtain ⟨n2, fl2⟩ := nf
      obtain ⟨a, dx, vs, rfl, rfl, ha, hs, hi', pr⟩ := ins_is R2 sx hi
      obtain ⟨a2, dx2, vs2, rfl, rfl, ha2, hs2, hi2', pr2⟩ := ins_is R2 sy hi2
      refine ⟨a, a2, dx, dx2, vs, vs2, rfl, rfl, hi', hi2', G2, ρ2, st2, [.r n, .r n2], R2, .cons sx (.cons sy .nil), ?_⟩
      split at k2
      · rename_i kk s' ef
        rw [ef]
        intro G' ρ' v H' s p R sv
        cases bool_of sv
        exact ⟨kk, rfl, k2 G' ρ' _ H' s p R (.bl kk)⟩
      · exact k2.elim
    · exact k2.elim
  · exact k2.elim
/-- isinstance(v, C) of an instance of C -/
theorem m_isC (c : Nat) {t : Str} (IC : C8.InsC X.K (ca c)) (hm : X.mg "isinstance" = none) (ht : X.mg t = some (.ref (ca c))) (he : PE X e (tr X.K ca W f))
    (hg : Gl X "isinstance" := by rfl) (hgt : Gl X t := by rfl) (hd : (t == ("__debug__" : Str)) = false := by decide)
    (h1 : starEach [e, .Name t p2] X.env = (false, eval e X.env) :: starEach [.Name t p2] X.env := by rfl) (h2 : starEach [.Name t p2] X.env = (false, eval (.Name t p2) X.env) :: starEach [] X.env := by rfl) (hpl : (backTo pos (starEach [.Name t p2] X.env)).any (·.1) = false := by rfl) :
    PE X (.Call (.Name "isinstance" p) [e, .Name t p2] [] pos) (tr X.K ca W (sUn (isCD c) f)) :=
  (pe_callB (C8.call_isC IC) hg hm (by decide +kernel) (pa_cons he (pa_cons (pe_glob (v := .ref (ca c)) hgt ht rfl hd) pa_nil h2) h1) (by decide) (by decide) h1 hpl).imp fun σ H Q q => by
  obtain ⟨G, ρ, env, st, hR, hE, k⟩ := q
  refine tr_seq hR hE k fun G1 ρ1 v H1 x st1 s1 p1 R1 E1 sx k1 => ?_
  unfold isCD at k1
  split at k1
  · rename_i nf hi
    obtain ⟨n, fl⟩ := nf
    obtain ⟨a, dx, vs, rfl, rfl, ha, hs, hi', pr⟩ := ins_is R1 sx hi
    exact ⟨a, dx, vs, rfl, hi', k1 G1 ρ1 _ H1 (Same.refl _) (List.prefix_refl _) R1 (DR.bl true)⟩
  · exact k1.elim
theorem m_listM (hm : X.mg "list" = none) (ha : PA X [e] (trA X.K ca W fs)) (hg : Gl X "list" := by rfl)
    (he : starEach [e] X.env = (false, eval e X.env) :: starEach [] X.env := by rfl) (hpl : (backTo pos (starEach [] X.env)).any (·.1) = false := by rfl) : PE X (.Call (.Name "list" p) [e] [] pos) (tr X.K ca W (sListM fs)) :=
  (pe_callTy call_list_of hg hm (by decide +kernel) ha (by decide) (by decide) he hpl).imp fun σ H Q q => by
  obtain ⟨G, ρ, env, st, hR, hE, k⟩ := q
  refine trA_seq hR hE k fun G1 ρ1 vs H1 xs st1 s1 p1 R1 E1 sx k1 => ?_
  cases el : listL xs st1 with
  | none => simp only [el] at k1; exact k1.elim
  | some d =>
    simp only [el] at k1
    cases d with
    | list ds =>
      have fin : ∀ (ws : List V) (q : Addr), DRA X.K G1 ws ds → H1 q = none → Q (.ref q) (upd H1 q (.lst ws)) := fun ws q hw hq => by
        refine k1 G1 (ρ1 ++ [q]) _ _ (Same.refl _) (List.prefix_append _ _) (R1.alloc hq (o := .lst ds) ⟨ws, upd_same, hw⟩) ⟨q, ?_, rfl⟩
        rw [← R1.len, List.getElem?_append_right (Nat.le_refl _), Nat.sub_self]
        rfl
      unfold listL at el
      split at el
      · cases el
        obtain ⟨v, rfl, s1⟩ := cs1 sx
        cases s1 with
        | tup h1 h2 => exact ⟨_, _, rfl, .inr (sameT R1.sub h1), fun q hq => fin _ q h2 hq⟩
      · split at el
        · rename_i es hd
          cases el
          obtain ⟨v, rfl, s1⟩ := cs1 sx
          obtain ⟨a, ws, rfl, h1, h2⟩ := s1.toL R1 hd
          exact ⟨_, _, rfl, .inl (SqL.of h1), fun q hq => fin _ q h2 hq⟩
        · cases el
      · cases el
    | _ => exact k1.elim
theorem m_sliceM {lo hi : Option Expr} {l u : OX} {tl th : TO} (he : PE X e (tr X.K ca W f)) (hl : MO X ca W lo l tl) (hu : MO X ca W hi u th) : PE X (.Subscript e (.Slice lo hi none p2) pos) (tr X.K ca W (sSlM f l u)) :=
  (pe_slice (sl_list (X := X)) he hl.po hu.po).imp fun σ H Q q => by
  obtain ⟨G, ρ, env, st, hR, hE, k⟩ := q
  refine tr_seq hR hE k fun G1 ρ1 v H1 x st1 s1 p1 R1 E1 sx k1 => ?_
  refine hl.rd G1 ρ1 env st1 σ H1 _ Q _ R1 E1 k1 fun G2 ρ2 H2 i st2 s2 p2 R2 E2 k2 => ?_
  refine hu.rd G2 ρ2 env st2 σ H2 _ Q _ R2 E2 k2 fun G3 ρ3 H3 j st3 s3 p3 R3 E3 k3 => ?_
  have sx := (sx.mono s2 p2).mono s3 p3
  split at k3
  · rename_i ds hd
    obtain ⟨a, ws, rfl, h1, h2⟩ := sx.toL R3 hd
    refine ⟨a, ws, rfl, SqL.of h1, fun q hq => ?_⟩
    refine k3 G3 (ρ3 ++ [q]) _ _ (Same.refl _) (List.prefix_append _ _) (R3.alloc hq (o := .lst (cutA ds i j)) ⟨_, upd_same, h2.cut i j⟩) ⟨q, ?_, rfl⟩
    rw [← R3.len, List.getElem?_append_right (Nat.le_refl _), Nat.sub_self]
    rfl
  · exact k3.elim
end
structure ClT (K : PySem.W.Frag) (mg : Str → Option Value) (x : Str) (C : Addr) : Prop where
  g : mg x = some (.ref C)
  cl : Cls K C
  mkI : PySem.W.makesIn K C = true
  kp : PySem.W.keepIn K (.ref C) = true
  nP : NoAttr K C "points"
  nK : NoAttr K C "kept"
/-- a method of the class -/
structure MtT (K : PySem.W.Frag) (C : Addr) (m qual : Str) (st : Stmt) (ps : List Str) where
  f : Addr
  fd : FuncData
  F : Fun K m qual st f fd
  m : Meth K C m f
  b : Binds K fd ps []
theorem ClT.Mk {K : PySem.W.Frag} {mg : Str → Option Value} {x qual : Str} {C : Addr} {st : Stmt} {ps : List Str} (T : ClT K mg x C) (M : MtT K C "__init__" qual st ps) : L2.Mk K C M.f := ⟨T.mkI, M.m.at_, M.m.fn, T.kp⟩
end DL

namespace FM
theorem dvd_cop {a b c : Int} (h : a ∣ b * c) (g : Int.gcd a b = 1) : a ∣ c := by
  have h1 : a.natAbs ∣ b.natAbs * c.natAbs := by
    rw [← Int.natAbs_mul]
    exact Int.natAbs_dvd_natAbs.mpr h
  exact Int.natAbs_dvd_natAbs.mp (Nat.Coprime.dvd_of_dvd_mul_left (show Nat.Coprime a.natAbs b.natAbs from g) h1)
/-- equal cross products: the same fraction -/
theorem cross_eq {a b c e : Int} (g1 : Int.gcd a b = 1) (g2 : Int.gcd c e = 1) (hb : 0 ≤ b) (he : 0 ≤ e) (tb : b = 0 → a = 1) (te : e = 0 → c = 1) (h : a * e = b * c) : a = c ∧ b = e := by
  have d1 : b ∣ e := dvd_cop (b := a) ⟨c, h⟩ (by rw [Int.gcd_comm]; exact g1)
  have d2 : e ∣ b := dvd_cop (b := c) (a := e) (c := b) ⟨a, by rw [Int.mul_comm c b, ← h, Int.mul_comm]⟩ (by rw [Int.gcd_comm]; exact g2)
  have hbe : b = e := Int.dvd_antisymm hb he d1 d2
  subst hbe
  refine ⟨?_, rfl⟩
  by_cases hz : b = 0
  · rw [tb hz, te hz]
  · exact Int.eq_of_mul_eq_mul_left hz (by rw [Int.mul_comm b a]; exact h)
/-- a number that is turned into 1 -/
theorem bez : ∀ (n : Nat) (p q : Int), q.toNat ≤ n → 0 < q → Int.gcd p q = 1 → ∃ u v : Int, p * u - q * v = 1
  | 0, p, q, h, hq, _ => by omega
  | n + 1, p, q, h, hq, g => by
    by_cases h1 : q = 1
    · exact ⟨0, -1, by subst h1; omega⟩
    · have hm := Int.emod_nonneg p (show q ≠ 0 by omega)
      have hl := Int.emod_lt_of_pos p hq
      have hd := Int.mul_ediv_add_emod p q
      have g2 : Int.gcd q (p % q) = 1 := by
        have e := Int.gcd_add_mul_left_right q (p % q) (p / q)
        rw [show p % q + q * (p / q) = p by omega] at e
        rw [← e, Int.gcd_comm, g]
      have hr : p % q ≠ 0 := fun z => by
        rw [z, Int.gcd_zero_right] at g2
        omega
      obtain ⟨u, v, e⟩ := bez n q (p % q) (by omega) (by omega) g2
      refine ⟨-v, -(p / q * v) - u, ?_⟩
      have e1 : p * -v = -(q * (p / q) * v) - (p % q) * v := by
        rw [Int.mul_neg]
        conv => lhs; rw [← hd]
        rw [Int.add_mul]
        omega
      have e2 : q * (-(p / q * v) - u) = -(q * (p / q) * v) - q * u := by
        rw [Int.mul_sub, Int.mul_neg, Int.mul_assoc]
      rw [e1, e2]
      omega
/-- the place s with p * s = 1 (q) -/
theorem inv_at {p q : Int} (hq : 2 ≤ q) (g : Int.gcd p q = 1) : ∃ s r : Int, 1 ≤ s ∧ s < q ∧ p * s - q * r = 1 := by
  obtain ⟨u, v, e⟩ := bez q.toNat p q (Nat.le_refl _) (by omega) g
  have hm := Int.emod_nonneg u (show q ≠ 0 by omega)
  have hl := Int.emod_lt_of_pos u (show 0 < q by omega)
  have hd := Int.mul_ediv_add_emod u q
  have e1 : p * (u % q) - q * (v - p * (u / q)) = 1 := by
    have : u % q = u - q * (u / q) := by omega
    rw [this, Int.mul_sub, Int.mul_sub, ← Int.mul_assoc, ← Int.mul_assoc, Int.mul_comm p q]
    omega
  refine ⟨u % q, v - p * (u / q), ?_, hl, e1⟩
  have : u % q ≠ 0 := fun z => by
    rw [z, Int.mul_zero] at e1
    have : q * -(v - p * (u / q)) = 1 := by
      rw [Int.mul_neg]
      omega
    have h2 := Int.eq_one_of_mul_eq_one_right (by omega) this
    omega
  omega
theorem mod_one {p q r s : Int} (hq : 2 ≤ q) (h : p * s - q * r = 1) : p * s % q = 1 ∧ p * s / q = r := by
  have e : p * s = 1 + q * r := by omega
  rw [e]
  refine ⟨?_, ?_⟩
  · rw [Int.add_mul_emod_self_left]
    exact Int.emod_eq_of_lt (by omega) (by omega)
  · rw [Int.add_mul_ediv_left _ _ (by omega)]
    rw [Int.ediv_eq_zero_of_lt (by omega) (by omega)]
    omega
theorem mod_neg {p q r s : Int} (hq : 2 ≤ q) (h : p * s - q * r = -1) : p * s % q = q - 1 ∧ p * s / q = r - 1 := by
  have e : p * s = (q - 1) + q * (r - 1) := by
    rw [Int.mul_sub]
    omega
  rw [e]
  refine ⟨?_, ?_⟩
  · rw [Int.add_mul_emod_self_left]
    exact Int.emod_eq_of_lt (by omega) (by omega)
  · rw [Int.add_mul_ediv_left _ _ (by omega)]
    rw [Int.ediv_eq_zero_of_lt (by omega) (by omega)]
    omega
/-- there is one such place -/
theorem inv_one {p q s t : Int} (hq : 2 ≤ q) (g : Int.gcd p q = 1) (h : p * s % q = p * t % q) (hs : 0 ≤ s) (hs2 : s < q) (ht : 0 ≤ t) (ht2 : t < q) : s = t := by
  have d : q ∣ p * (s - t) := by
    rw [Int.mul_sub]
    exact Int.dvd_of_emod_eq_zero (by rw [Int.sub_emod, h, Int.sub_self, Int.zero_emod])
  have d2 := dvd_cop d (by rw [Int.gcd_comm]; exact g)
  obtain ⟨k, hk⟩ := d2
  by_cases hk0 : k = 0
  · rw [hk0] at hk
    omega
  · exfalso
    rcases Int.lt_or_gt_of_ne hk0 with h1 | h1
    · have : q * k ≤ q * -1 := Int.mul_le_mul_of_nonneg_left (by omega) (by omega)
      omega
    · have : q * 1 ≤ q * k := Int.mul_le_mul_of_nonneg_left (by omega) (by omega)
      omega
/-- a walk at which something is found in at most two places -/
theorem flat_none {α : Type} {g : Nat → List α} : ∀ (n : Nat), (∀ i, i < n → g i = []) → (List.range n).flatMap g = []
  | 0, _ => rfl
  | n + 1, h => by
    rw [List.range_succ, List.flatMap_append, flat_none n fun i hi => h i (by omega)]
    simp [h n (by omega)]
theorem flat_one {α : Type} {g : Nat → List α} {k : Nat} : ∀ (n : Nat), k < n → (∀ i, i < n → i ≠ k → g i = []) → (List.range n).flatMap g = g k
  | 0, h, _ => by omega
  | n + 1, h, q => by
    rw [List.range_succ, List.flatMap_append]
    by_cases e : k = n
    · subst e
      rw [flat_none k fun i hi => q i (by omega) (by omega)]
      simp
    · rw [flat_one n (by omega) fun i hi => q i (by omega)]
      simp [q n (by omega) (Ne.symm e)]
theorem flat_two {α : Type} {g : Nat → List α} {k l : Nat} (hkl : k < l) : ∀ (n : Nat), l < n → (∀ i, i < n → i ≠ k → i ≠ l → g i = []) → (List.range n).flatMap g = g k ++ g l
  | 0, h, _ => by omega
  | n + 1, h, q => by
    rw [List.range_succ, List.flatMap_append]
    by_cases e : l = n
    · subst e
      rw [flat_one l hkl fun i hi hk => q i (by omega) hk (by omega)]
      simp
    · rw [flat_two hkl n (by omega) fun i hi => q i (by omega)]
      simp [q n (by omega) (by omega) (Ne.symm e)]
theorem cop_cross {p q r t : Int} (h : p * t - q * r = 1 ∨ p * t - q * r = -1) : Int.gcd p q = 1 := by
  have d1 : ((Int.gcd p q : Nat) : Int) ∣ p * t - q * r := Int.dvd_sub (Int.dvd_trans (Int.gcd_dvd_left ..) (Int.dvd_mul_right ..)) (Int.dvd_trans (Int.gcd_dvd_right ..) (Int.dvd_mul_right ..))
  have d2 : ((Int.gcd p q : Nat) : Int) ∣ 1 := by
    rcases h with h | h
    · rw [h] at d1
      exact d1
    · rw [h] at d1
      exact Int.dvd_neg.mp d1
  have := Int.eq_one_of_dvd_one (by omega) d2
  omega
end FM
namespace FM
def cf : Nat → Int → Int → List Int
  | 0, _, _ => []
  | n + 1, p, q => if 0 < q then p / q :: cf n q (p % q) else []
def cfT (p q : Int) : List Int := cf q.toNat p q
theorem cf_more : ∀ (n m : Nat) (p q : Int), q.toNat ≤ n → q.toNat ≤ m → cf n p q = cf m p q
  | 0, 0, _, _, _, _ => rfl
  | 0, m + 1, p, q, h, _ => by
    unfold cf
    rw [if_neg (by omega)]
  | n + 1, 0, p, q, _, h => by
    unfold cf
    rw [if_neg (by omega)]
  | n + 1, m + 1, p, q, h, h' => by
    unfold cf
    by_cases hq : 0 < q
    · have := Int.emod_lt_of_pos p hq
      rw [if_pos hq, if_pos hq, cf_more n m q (p % q) (by omega) (by omega)]
    · rw [if_neg hq, if_neg hq]
theorem cfT_pos {p q : Int} (h : 0 < q) : cfT p q = p / q :: cfT q (p % q) := by
  unfold cfT
  obtain ⟨n, e⟩ : ∃ n, q.toNat = n + 1 := ⟨q.toNat - 1, by omega⟩
  have := Int.emod_lt_of_pos p h
  rw [e]
  show (if 0 < q then p / q :: cf n q (p % q) else []) = _
  rw [if_pos h, cf_more n _ q (p % q) (by omega) (Nat.le_refl _)]
theorem cfT_zero {p q : Int} (h : ¬ 0 < q) : cfT p q = [] := by
  unfold cfT
  rw [show q.toNat = 0 by omega]
  rfl
theorem cf_len : ∀ (n : Nat) (p q : Int), (cf n p q).length ≤ n
  | 0, _, _ => Nat.le_refl _
  | n + 1, p, q => by
    unfold cf
    split
    · rw [List.length_cons]
      have := cf_len n q (p % q)
      omega
    · exact Nat.zero_le _
theorem cfT_len (p q : Int) : (cfT p q).length ≤ q.toNat := cf_len _ _ _
def val : List Int → Int × Int
  | [] => (1, 0)
  | t :: r => (t * (val r).1 + (val r).2, (val r).1)
theorem gcd_step {p q : Int} (h : Int.gcd p q = 1) : Int.gcd q (p % q) = 1 := by
  have e := Int.gcd_add_mul_left_right q (p % q) (p / q)
  rw [show p % q + q * (p / q) = p by have := Int.mul_ediv_add_emod p q; omega] at e
  rw [← e, Int.gcd_comm, h]
/-- the value of all terms -/
theorem val_cf : ∀ (n : Nat) (p q : Int), q.toNat ≤ n → 0 ≤ q → (q = 0 → p = 1) → Int.gcd p q = 1 → val (cfT p q) = (p, q)
  | 0, p, q, h, h0, ht, g => by
    have hq : q = 0 := by omega
    subst hq
    rw [cfT_zero (by omega), ht rfl]
    rfl
  | n + 1, p, q, h, h0, ht, g => by
    by_cases hq : 0 < q
    · have h1 := Int.emod_nonneg p (show q ≠ 0 by omega)
      have h2 := Int.emod_lt_of_pos p hq
      have h3 := Int.mul_ediv_add_emod p q
      have g2 := gcd_step g
      rw [cfT_pos hq]
      unfold val
      rw [val_cf n q (p % q) (by omega) h1 (fun z => by
        rw [z, Int.gcd_zero_right] at g2
        omega) g2]
      have h4 := Int.mul_comm q (p / q)
      exact Prod.ext (by show p / q * q + p % q = p; omega) rfl
    · have hq : q = 0 := by omega
      subst hq
      rw [cfT_zero (by omega), ht rfl]
      rfl
/-- the value of all terms but the last one: a neighbour with a smaller denominator -/
theorem val_drop : ∀ (n : Nat) (p q : Int), q.toNat ≤ n → 1 ≤ q → Int.gcd p q = 1 → ∃ r s, val (cfT p q).dropLast = (r, s) ∧ (p * s - q * r = 1 ∨ p * s - q * r = -1) ∧ (q = 1 → r = 1 ∧ s = 0) ∧ (2 ≤ q → 1 ≤ s ∧ s < q)
  | 0, p, q, h, h0, g => by omega
  | n + 1, p, q, h, h0, g => by
    have hq : 0 < q := by omega
    have h1 := Int.emod_nonneg p (show q ≠ 0 by omega)
    have h2 := Int.emod_lt_of_pos p hq
    have h3 := Int.mul_ediv_add_emod p q
    have g2 := gcd_step g
    rw [cfT_pos hq]
    by_cases hz : p % q = 0
    · have hq1 : q = 1 := by
        rw [hz, Int.gcd_zero_right] at g2
        omega
      rw [hz, cfT_zero (by omega)]
      refine ⟨1, 0, rfl, .inr (by omega), fun _ => ⟨rfl, rfl⟩, fun z => by omega⟩
    · obtain ⟨R, S, e, d, a1, a2⟩ := val_drop n q (p % q) (by omega) (by omega) g2
      have ne : cfT q (p % q) ≠ [] := by
        rw [cfT_pos (by omega)]
        exact List.cons_ne_nil _ _
      rw [List.dropLast_cons_of_ne_nil ne]
      refine ⟨p / q * R + S, R, by unfold val; rw [e], ?_, fun z => by omega, fun hq2 => ?_⟩
      · have e1 : p * R - q * (p / q * R + S) = -(q * S - p % q * R) := by
          have : p * R = q * (p / q) * R + p % q * R := by
            rw [← Int.add_mul, h3]
          rw [this, Int.mul_add, Int.mul_assoc]
          omega
        rw [e1]
        omega
      · by_cases h5 : p % q = 1
        · have := a1 h5
          omega
        · have h6 := a2 (by omega)
          have e2 : p % q * R = q * S - 1 ∨ p % q * R = q * S + 1 := by omega
          have e3 : q * 1 ≤ q * S := Int.mul_le_mul_of_nonneg_left h6.1 (by omega)
          have e4 : q * S ≤ q * (p % q - 1) := Int.mul_le_mul_of_nonneg_left (by omega) (by omega)
          have e5 : q * (p % q - 1) = p % q * q - q := by rw [Int.mul_sub, Int.mul_comm]; omega
          have e6 : p % q * R < p % q * q := by omega
          refine ⟨?_, Int.lt_of_mul_lt_mul_left e6 h1⟩
          have e7 : p % q * 0 < p % q * R := by omega
          exact Int.lt_of_mul_lt_mul_left e7 h1
end FM
namespace FM
/-- what is known of the best one on the left -/
structure Lf (p q : Int) (m : Int) (a b : Int) : Prop where
  g : Int.gcd a b = 1
  b1 : 1 ≤ b
  bm : b ≤ m
  a0 : 0 ≤ a
  lt : 1 ≤ p * b - q * a
  best : ∀ x y : Int, 1 ≤ y → y ≤ m → 1 ≤ p * y - q * x → x * b ≤ a * y
theorem ediv_pred {p q y : Int} (hq : 0 < q) : q * ((p * y - 1) / q) ≤ p * y - 1 ∧ ∀ x : Int, 1 ≤ p * y - q * x → x ≤ (p * y - 1) / q := by
  have h1 := Int.mul_ediv_add_emod (p * y - 1) q
  have h2 := Int.emod_nonneg (p * y - 1) (show q ≠ 0 by omega)
  refine ⟨by omega, fun x hx => ?_⟩
  rw [Int.le_ediv_iff_mul_le hq, Int.mul_comm]
  omega
theorem Lf.new {p q m a b c y : Int} (hq : 0 < q) (hy : 1 ≤ y) (hc : 0 ≤ c) (hlt : 1 ≤ p * y - q * c) (hmax : ∀ x : Int, 1 ≤ p * y - q * x → x ≤ c) (old : ∀ x z : Int, 1 ≤ z → z ≤ m → 1 ≤ p * z - q * x → x * y ≤ c * z) (g : Int.gcd a b = 1) (k : Int) (hk : 1 ≤ k) (ha : a * k = c) (hb : b * k = y) (hm : y = m + 1) : Lf p q y a b := by
  have b1 : 1 ≤ b := by
    have : 0 * k < b * k := by omega
    have := Int.lt_of_mul_lt_mul_right this (by omega)
    omega
  have hbk : b ≤ y := by
    have : b * 1 ≤ b * k := Int.mul_le_mul_of_nonneg_left hk (by omega)
    omega
  have a0 : 0 ≤ a := by
    have : 0 * k ≤ a * k := by omega
    exact Int.le_of_mul_le_mul_right this (by omega)
  have up : ∀ x z : Int, x * y ≤ c * z → x * b ≤ a * z := fun x z h => by
    rw [← ha, ← hb] at h
    have e1 : x * (b * k) = x * b * k := by rw [Int.mul_assoc]
    have e2 : a * k * z = a * z * k := by rw [Int.mul_assoc, Int.mul_comm k z, ← Int.mul_assoc]
    rw [e1, e2] at h
    exact Int.le_of_mul_le_mul_right h (by omega)
  refine ⟨g, b1, hbk, a0, ?_, fun x z hz hzy hx => ?_⟩
  · have e : (p * b - q * a) * k = p * y - q * c := by rw [Int.sub_mul, Int.mul_assoc, Int.mul_assoc, hb, ha]
    have : 0 * k < (p * b - q * a) * k := by omega
    have := Int.lt_of_mul_lt_mul_right this (by omega)
    omega
  · apply up
    by_cases hz2 : z ≤ m
    · exact old x z hz hz2 hx
    · have : z = y := by omega
      subst this
      exact Int.mul_le_mul_of_nonneg_right (hmax x hx) (by omega)
theorem Lf.keep {p q m a b c y : Int} (h : Lf p q m a b) (hy : y = m + 1) (hmax : ∀ x : Int, 1 ≤ p * y - q * x → x ≤ c) (hno : ¬ a * y - b * c < 0) : Lf p q y a b := by
  have := h.bm
  refine ⟨h.g, h.b1, by omega, h.a0, h.lt, fun x z hz hzy hx => ?_⟩
  by_cases hz2 : z ≤ m
  · exact h.best x z hz hz2 hx
  · have : z = y := by omega
    subst this
    have e := Int.mul_le_mul_of_nonneg_right (hmax x hx) (show 0 ≤ b by have := h.b1; omega)
    rw [Int.mul_comm c b] at e
    omega
/-- the best one is the raised parent -/
theorem Lf.raised {p q n a b u v : Int} (h : Lf p q n a b) (hq : 0 < q) (hv : 1 ≤ v) (hvn : v ≤ n) (hn : n < v + q) (hu : p * v - q * u = 1) : a = u ∧ b = v := by
  have h1 := h.best u v hv hvn (by omega)
  have hb := h.b1
  have hbn := h.bm
  have hl := h.lt
  have e : a * v ≤ u * b := by
    by_cases hc : a * v ≤ u * b
    · exact hc
    · exfalso
      -- b = v * (p * b - q * a) + q * (a * v - u * b)
      have i1 : b * (p * v - q * u) = v * (p * b - q * a) + q * (a * v - u * b) := by
        rw [Int.mul_sub, Int.mul_sub, Int.mul_sub, ← Int.mul_assoc, ← Int.mul_assoc, ← Int.mul_assoc, ← Int.mul_assoc, ← Int.mul_assoc, ← Int.mul_assoc, Int.mul_comm b p, Int.mul_comm b q, Int.mul_comm v p, Int.mul_comm v q, Int.mul_assoc p b v, Int.mul_comm b v, ← Int.mul_assoc, Int.mul_assoc q b u, Int.mul_comm b u, ← Int.mul_assoc, Int.mul_assoc q v a, Int.mul_comm v a, ← Int.mul_assoc]
        omega
      rw [hu, Int.mul_one] at i1
      have i2 : v * 1 ≤ v * (p * b - q * a) := Int.mul_le_mul_of_nonneg_left hl (by omega)
      have i3 : q * 1 ≤ q * (a * v - u * b) := Int.mul_le_mul_of_nonneg_left (by omega) (by omega)
      omega
  have eq : a * v = b * u := by rw [Int.mul_comm b u]; omega
  exact cross_eq h.g (cop_cross (p := u) (q := v) (r := p) (t := q) (.inr (by rw [Int.mul_comm u q, Int.mul_comm v p]; omega))) (by omega) (by omega) (fun z => by omega) (fun z => by omega) eq
end FM
namespace FM
def dist (p q x y : Int) : Int := ((p * y - x * q).natAbs : Int)
/-- the nearest one among those of a set, the lesser one of two -/
structure Nr (p q n a b : Int) (S : Int → Int → Prop) : Prop where
  g : Int.gcd a b = 1
  b1 : 1 ≤ b
  bn : b ≤ n
  best : ∀ x y : Int, 1 ≤ y → S x y → dist p q a b * y ≤ dist p q x y * b ∧ (dist p q a b * y = dist p q x y * b → a * y ≤ x * b)
theorem Nr.uniq {p q n a b c e : Int} {S : Int → Int → Prop} (h : Nr p q n a b S) (g : Nr p q n c e S) (s1 : S a b) (s2 : S c e) : a = c ∧ b = e := by
  obtain ⟨h1, h2⟩ := h.best c e g.b1 s2
  obtain ⟨g1, g2⟩ := g.best a b h.b1 s1
  have k1 := h2 (by omega)
  have k2 := g2 (by omega)
  have := h.b1
  have := g.b1
  exact cross_eq h.g g.g (by omega) (by omega) (fun z => by omega) (fun z => by omega) (by rw [Int.mul_comm b c]; omega)
/-- between neighbours there is none with a small denominator -/
theorem gap_none {n a b c e x y : Int} (d : c * b - a * e = 1) (hb : 1 ≤ b) (he : 1 ≤ e) (hn : n < b + e) (hy : y ≤ n) : x * b ≤ a * y ∨ c * y ≤ x * e := by
  by_cases h1 : x * b ≤ a * y
  · exact .inl h1
  · by_cases h2 : c * y ≤ x * e
    · exact .inr h2
    · exfalso
      have i : y * (c * b - a * e) = b * (c * y - x * e) + e * (x * b - a * y) := by
        have k1 : y * (c * b - a * e) = y * (c * b) - y * (a * e) := Int.mul_sub ..
        have k2 : b * (c * y - x * e) = b * (c * y) - b * (x * e) := Int.mul_sub ..
        have k3 : e * (x * b - a * y) = e * (x * b) - e * (a * y) := Int.mul_sub ..
        have k4 : y * (c * b) = b * (c * y) := by rw [Int.mul_left_comm, Int.mul_left_comm b c y, Int.mul_comm y b]
        have k5 : b * (x * e) = e * (x * b) := by rw [Int.mul_left_comm, Int.mul_left_comm e x b, Int.mul_comm b e]
        have k6 : y * (a * e) = e * (a * y) := by rw [Int.mul_left_comm, Int.mul_left_comm e a y, Int.mul_comm y e]
        omega
      rw [d, Int.mul_one] at i
      have j1 : b * 1 ≤ b * (c * y - x * e) := Int.mul_le_mul_of_nonneg_left (by omega) (by omega)
      have j2 : e * 1 ≤ e * (x * b - a * y) := Int.mul_le_mul_of_nonneg_left (by omega) (by omega)
      omega
/-- on the left of a / b -/
theorem far_left {p q a b x y : Int} (hq : 1 ≤ q) (hb : 1 ≤ b) (hy : 1 ≤ y) (h : 1 ≤ p * b - a * q) (hx : x * b ≤ a * y) : dist p q a b * y ≤ dist p q x y * b ∧ (dist p q a b * y = dist p q x y * b → a * y = x * b) := by
  have e1 : (p * y - x * q) * b = (p * b - a * q) * y + q * (a * y - x * b) := by
    have k1 : (p * y - x * q) * b = p * y * b - x * q * b := Int.sub_mul ..
    have k2 : (p * b - a * q) * y = p * b * y - a * q * y := Int.sub_mul ..
    have k3 : q * (a * y - x * b) = q * (a * y) - q * (x * b) := Int.mul_sub ..
    have k4 : p * y * b = p * b * y := Int.mul_right_comm ..
    have k5 : x * q * b = q * (x * b) := by rw [Int.mul_comm x q, Int.mul_assoc]
    have k6 : a * q * y = q * (a * y) := by rw [Int.mul_comm a q, Int.mul_assoc]
    omega
  have e2 : 0 ≤ q * (a * y - x * b) := Int.mul_nonneg (by omega) (by omega)
  have e3 : 1 * y ≤ (p * b - a * q) * y := Int.mul_le_mul_of_nonneg_right h (by omega)
  have e4 : 0 < p * y - x * q := by
    have : 0 * b < (p * y - x * q) * b := by omega
    exact Int.lt_of_mul_lt_mul_right this (by omega)
  have d1 : dist p q a b = p * b - a * q := by unfold dist; omega
  have d2 : dist p q x y = p * y - x * q := by unfold dist; omega
  rw [d1, d2, e1]
  refine ⟨by omega, fun z => ?_⟩
  have : q * (a * y - x * b) = q * 0 := by omega
  have := Int.eq_of_mul_eq_mul_left (show q ≠ 0 by omega) this
  omega
theorem far_right {p q c e x y : Int} (hq : 1 ≤ q) (he : 1 ≤ e) (hy : 1 ≤ y) (h : 1 ≤ c * q - p * e) (hx : c * y ≤ x * e) : dist p q c e * y ≤ dist p q x y * e ∧ (dist p q c e * y = dist p q x y * e → c * y = x * e) := by
  have e1 : (x * q - p * y) * e = (c * q - p * e) * y + q * (x * e - c * y) := by
    have k1 : (x * q - p * y) * e = x * q * e - p * y * e := Int.sub_mul ..
    have k2 : (c * q - p * e) * y = c * q * y - p * e * y := Int.sub_mul ..
    have k3 : q * (x * e - c * y) = q * (x * e) - q * (c * y) := Int.mul_sub ..
    have k4 : p * y * e = p * e * y := Int.mul_right_comm ..
    have k5 : x * q * e = q * (x * e) := by rw [Int.mul_comm x q, Int.mul_assoc]
    have k6 : c * q * y = q * (c * y) := by rw [Int.mul_comm c q, Int.mul_assoc]
    omega
  have e2 : 0 ≤ q * (x * e - c * y) := Int.mul_nonneg (by omega) (by omega)
  have e3 : 1 * y ≤ (c * q - p * e) * y := Int.mul_le_mul_of_nonneg_right h (by omega)
  have e4 : 0 < x * q - p * y := by
    have : 0 * e < (x * q - p * y) * e := by omega
    exact Int.lt_of_mul_lt_mul_right this (by omega)
  have d1 : dist p q c e = c * q - p * e := by unfold dist; omega
  have d2 : dist p q x y = x * q - p * y := by unfold dist; omega
  rw [d1, d2, e1]
  refine ⟨by omega, fun z => ?_⟩
  have : q * (x * e - c * y) = q * 0 := by omega
  have := Int.eq_of_mul_eq_mul_left (show q ≠ 0 by omega) this
  omega
def upTo (n : Int) : Int → Int → Prop := fun _ y => y ≤ n
/-- the nearer one of two neighbours around p / q -/
theorem nr_pick {p q n a b c e : Int} (hq : 1 ≤ q) (hb : 1 ≤ b) (he : 1 ≤ e) (hbn : b ≤ n) (hen : e ≤ n) (hn : n < b + e) (d : c * b - a * e = 1) (hl : 1 ≤ p * b - a * q) (hr : 1 ≤ c * q - p * e) :
    (¬ dist p q c e * (q * b) < dist p q a b * (q * e) → Nr p q n a b (upTo n)) ∧ (dist p q c e * (q * b) < dist p q a b * (q * e) → Nr p q n c e (upTo n)) := by
  have cmp : dist p q c e * (q * b) < dist p q a b * (q * e) ↔ dist p q c e * b < dist p q a b * e := by
    rw [Int.mul_left_comm, Int.mul_left_comm (dist p q a b)]
    exact ⟨fun h => Int.lt_of_mul_lt_mul_left h (by omega), fun h => Int.mul_lt_mul_of_pos_left h (by omega)⟩
  rw [cmp]
  have g1 : Int.gcd a b = 1 := cop_cross (p := a) (q := b) (r := c) (t := e) (.inr (by rw [Int.mul_comm b c]; omega))
  have g2 : Int.gcd c e = 1 := cop_cross (p := c) (q := e) (r := a) (t := b) (.inl (by rw [Int.mul_comm e a]; omega))
  refine ⟨fun h => ⟨g1, hb, hbn, fun x y hy hS => ?_⟩, fun h => ⟨g2, he, hen, fun x y hy hS => ?_⟩⟩
  · rcases gap_none d hb he hn (x := x) (show y ≤ n from hS) with hx | hx
    · obtain ⟨k1, k2⟩ := far_left hq hb hy hl hx
      exact ⟨k1, fun z => by rw [k2 z]; exact Int.le_refl _⟩
    · obtain ⟨k1, k2⟩ := far_right hq he hy hr hx
      have i1 : dist p q a b * e * y ≤ dist p q c e * b * y := Int.mul_le_mul_of_nonneg_right (by omega) (by omega)
      have i2 : dist p q c e * y * b ≤ dist p q x y * e * b := Int.mul_le_mul_of_nonneg_right k1 (by omega)
      have i3 : dist p q c e * b * y = dist p q c e * y * b := Int.mul_right_comm ..
      have i4 : dist p q a b * e * y = dist p q a b * y * e := Int.mul_right_comm ..
      have i5 : dist p q x y * e * b = dist p q x y * b * e := Int.mul_right_comm ..
      refine ⟨Int.le_of_mul_le_mul_right (a := e) (by omega) (by omega), fun _ => ?_⟩
      -- a / b < c / e ≤ x / y
      have j1 : c * y * b ≤ x * e * b := Int.mul_le_mul_of_nonneg_right hx (by omega)
      have j2 : (c * b - a * e) * y = y := by rw [d, Int.one_mul]
      have j3 : (c * b - a * e) * y = c * b * y - a * e * y := Int.sub_mul ..
      have j4 : c * b * y = c * y * b := Int.mul_right_comm ..
      have j5 : a * e * y = a * y * e := Int.mul_right_comm ..
      have j6 : x * e * b = x * b * e := Int.mul_right_comm ..
      exact Int.le_of_mul_le_mul_right (a := e) (by omega) (by omega)
  · rcases gap_none d hb he hn (x := x) (show y ≤ n from hS) with hx | hx
    · obtain ⟨k1, k2⟩ := far_left hq hb hy hl hx
      have i1 : dist p q c e * b * y < dist p q a b * e * y := Int.mul_lt_mul_of_pos_right h (by omega)
      have i2 : dist p q a b * y * e ≤ dist p q x y * b * e := Int.mul_le_mul_of_nonneg_right k1 (by omega)
      have i3 : dist p q c e * b * y = dist p q c e * y * b := Int.mul_right_comm ..
      have i4 : dist p q a b * e * y = dist p q a b * y * e := Int.mul_right_comm ..
      have i5 : dist p q x y * b * e = dist p q x y * e * b := Int.mul_right_comm ..
      have lt : dist p q c e * y < dist p q x y * e := Int.lt_of_mul_lt_mul_right (a := b) (by omega) (by omega)
      exact ⟨by omega, fun z => by omega⟩
    · obtain ⟨k1, k2⟩ := far_right hq he hy hr hx
      exact ⟨k1, fun z => by rw [k2 z]; exact Int.le_refl _⟩
theorem nr_self {p q n : Int} (g : Int.gcd p q = 1) (hq : 1 ≤ q) (hn : q ≤ n) : Nr p q n p q (upTo n) := by
  have d0 : dist p q p q = 0 := by unfold dist; rw [Int.sub_self]; rfl
  refine ⟨g, hq, hn, fun x y hy _ => ?_⟩
  have d1 : 0 ≤ dist p q x y := by unfold dist; omega
  rw [d0]
  refine ⟨by have := Int.mul_nonneg d1 (show 0 ≤ q by omega); omega, fun z => ?_⟩
  have : dist p q x y * q = 0 * q := by omega
  have := Int.eq_of_mul_eq_mul_right (show q ≠ 0 by omega) this
  unfold dist at this
  omega
end FM
namespace FM
theorem dist_scale {p q a b k : Int} (hk : 1 ≤ k) : dist p q (a * k) (b * k) = dist p q a b * k := by
  unfold dist
  have e : p * (b * k) - a * k * q = (p * b - a * q) * k := by
    have k1 : p * (b * k) = p * b * k := by rw [Int.mul_assoc]
    have k2 : a * k * q = a * q * k := Int.mul_right_comm ..
    rw [Int.sub_mul]
    omega
  rw [e, Int.natAbs_mul]
  have : ((k.natAbs : Nat) : Int) = k := by omega
  rw [Int.natCast_mul, this]
/-- the unreduced comparison -/
theorem cmp_low {t u A b q D y : Int} (hu : 0 < u) (hb : 1 ≤ b) (h : t * (b * q) = A * u) : (D * u < t * (y * q) ↔ D * b < A * y) ∧ (D * u = t * (y * q) ↔ D * b = A * y) := by
  have e1 : t * (y * q) * b = A * y * u := by
    have k1 : t * (y * q) * b = t * (b * q) * y := by
      have : y * q * b = b * q * y := by rw [Int.mul_comm (y * q) b, Int.mul_left_comm, ← Int.mul_assoc, Int.mul_comm y b, Int.mul_assoc b y q, Int.mul_comm y q, ← Int.mul_assoc]
      rw [Int.mul_assoc, this, ← Int.mul_assoc t (b * q) y]
    rw [k1, h]
    exact Int.mul_right_comm ..
  have e2 : D * u * b = D * b * u := Int.mul_right_comm ..
  refine ⟨⟨fun h1 => ?_, fun h1 => ?_⟩, ⟨fun h1 => ?_, fun h1 => ?_⟩⟩
  · have : D * u * b < t * (y * q) * b := Int.mul_lt_mul_of_pos_right h1 (by omega)
    exact Int.lt_of_mul_lt_mul_right (a := u) (by omega) (by omega)
  · have : D * b * u < A * y * u := Int.mul_lt_mul_of_pos_right h1 hu
    exact Int.lt_of_mul_lt_mul_right (a := b) (by omega) (by omega)
  · have : D * u * b = t * (y * q) * b := by rw [h1]
    exact Int.eq_of_mul_eq_mul_right (show u ≠ 0 by omega) (by omega)
  · have : D * b * u = A * y * u := by rw [h1]
    exact Int.eq_of_mul_eq_mul_right (show b ≠ 0 by omega) (by omega)
/-- a better one comes -/
theorem Nr.new {p q n a b c y k : Int} {S : Int → Int → Prop} (hk : 1 ≤ k) (hy : 1 ≤ y) (hyn : y ≤ n) (ha : a * k = c) (hb : b * k = y) (g : Int.gcd a b = 1)
    (old : ∀ x z : Int, 1 ≤ z → S x z → dist p q c y * z ≤ dist p q x z * y ∧ (dist p q c y * z = dist p q x z * y → c * z ≤ x * y)) : Nr p q n a b (fun x z => S x z ∨ (x = c ∧ z = y)) := by
  have b1 : 1 ≤ b := by
    have : 0 * k < b * k := by omega
    have := Int.lt_of_mul_lt_mul_right this (by omega)
    omega
  have bn : b ≤ n := by
    have : b * 1 ≤ b * k := Int.mul_le_mul_of_nonneg_left hk (by omega)
    omega
  have ds : dist p q c y = dist p q a b * k := by rw [← ha, ← hb]; exact dist_scale hk
  refine ⟨g, b1, bn, fun x z hz hS => ?_⟩
  have all : dist p q c y * z ≤ dist p q x z * y ∧ (dist p q c y * z = dist p q x z * y → c * z ≤ x * y) := by
    rcases hS with hS | ⟨rfl, rfl⟩
    · exact old x z hz hS
    · exact ⟨Int.le_refl _, fun _ => Int.le_refl _⟩
  have e1 : dist p q c y * z = dist p q a b * z * k := by rw [ds]; exact Int.mul_right_comm ..
  have e2 : dist p q x z * y = dist p q x z * b * k := by rw [← hb, Int.mul_assoc]
  have e3 : c * z = a * z * k := by rw [← ha]; exact Int.mul_right_comm ..
  have e4 : x * y = x * b * k := by rw [← hb, Int.mul_assoc]
  rw [e1, e2, e3, e4] at all
  refine ⟨Int.le_of_mul_le_mul_right all.1 (by omega), fun h => Int.le_of_mul_le_mul_right (all.2 (by rw [h])) (by omega)⟩
theorem Nr.old {p q n a b c y : Int} {S : Int → Int → Prop} (h : Nr p q n a b S) (hy : 1 ≤ y) (better : dist p q c y * b < dist p q a b * y ∨ (dist p q c y * b = dist p q a b * y ∧ c * b - y * a < 0)) :
    ∀ x z : Int, 1 ≤ z → S x z → dist p q c y * z ≤ dist p q x z * y ∧ (dist p q c y * z = dist p q x z * y → c * z ≤ x * y) := by
  intro x z hz hS
  obtain ⟨h1, h2⟩ := h.best x z hz hS
  have hb := h.b1
  have i1 : dist p q c y * b * z ≤ dist p q a b * y * z := Int.mul_le_mul_of_nonneg_right (by omega) (by omega)
  have i2 : dist p q a b * z * y ≤ dist p q x z * b * y := Int.mul_le_mul_of_nonneg_right h1 (by omega)
  have j1 : dist p q c y * b * z = dist p q c y * z * b := Int.mul_right_comm ..
  have j2 : dist p q a b * y * z = dist p q a b * z * y := Int.mul_right_comm ..
  have j3 : dist p q x z * b * y = dist p q x z * y * b := Int.mul_right_comm ..
  refine ⟨Int.le_of_mul_le_mul_right (a := b) (by omega) (by omega), fun tie => ?_⟩
  have t1 : dist p q c y * z * b = dist p q x z * y * b := by rw [tie]
  have t2 : dist p q c y * b = dist p q a b * y := Int.eq_of_mul_eq_mul_right (show z ≠ 0 by omega) (by omega)
  have t3 : dist p q a b * z = dist p q x z * b := Int.eq_of_mul_eq_mul_right (show y ≠ 0 by omega) (by omega)
  have t4 := h2 t3
  have t5 : c * b < y * a := by omega
  have i3 : c * b * z ≤ y * a * z := Int.mul_le_mul_of_nonneg_right (by omega) (by omega)
  have i4 : a * z * y ≤ x * b * y := Int.mul_le_mul_of_nonneg_right t4 (by omega)
  have j4 : c * b * z = c * z * b := Int.mul_right_comm ..
  have j5 : y * a * z = a * z * y := by rw [Int.mul_comm y a]; exact Int.mul_right_comm ..
  have j6 : x * b * y = x * y * b := Int.mul_right_comm ..
  exact Int.le_of_mul_le_mul_right (a := b) (by omega) (by omega)
theorem Nr.keep {p q n a b c y : Int} {S : Int → Int → Prop} (h : Nr p q n a b S) (no : ¬ (dist p q c y * b < dist p q a b * y ∨ (dist p q c y * b = dist p q a b * y ∧ c * b - y * a < 0))) : Nr p q n a b (fun x z => S x z ∨ (x = c ∧ z = y)) := by
  refine ⟨h.g, h.b1, h.bn, fun x z hz hS => ?_⟩
  rcases hS with hS | ⟨rfl, rfl⟩
  · exact h.best x z hz hS
  · refine ⟨by omega, fun tie => ?_⟩
    have : ¬ x * b - z * a < 0 := fun z1 => no (.inr ⟨tie.symm, z1⟩)
    rw [Int.mul_comm a z]
    omega
/-- the two candidates stand for all -/
theorem Nr.all {p q n a b m : Int} (hq : 1 ≤ q) (h : Nr p q n a b (fun x z => (upTo m x z ∨ (x = p * (m + 1) / q ∧ z = m + 1)) ∨ (x = p * (m + 1) / q + 1 ∧ z = m + 1))) : Nr p q n a b (upTo (m + 1)) := by
  refine ⟨h.g, h.b1, h.bn, fun x z hz hS => ?_⟩
  by_cases hzm : z ≤ m
  · exact h.best x z hz (.inl (.inl hzm))
  · have hz' : z = m + 1 := by have : z ≤ m + 1 := hS; omega
    subst hz'
    have m1 := Int.mul_ediv_add_emod (p * (m + 1)) q
    have m2 := Int.emod_nonneg (p * (m + 1)) (show q ≠ 0 by omega)
    have m3 := Int.emod_lt_of_pos (p * (m + 1)) (show 0 < q by omega)
    have hb := h.b1
    generalize hc : p * (m + 1) / q = c at *
    rw [Int.mul_comm q c] at m1
    by_cases hx : x ≤ c
    · obtain ⟨h1, h2⟩ := h.best c (m + 1) hz (.inl (.inr ⟨rfl, rfl⟩))
      have e1 : dist p q x (m + 1) = dist p q c (m + 1) + (c - x) * q := by
        unfold dist
        have k1 : (c - x) * q = c * q - x * q := Int.sub_mul ..
        have k2 : 0 ≤ (c - x) * q := Int.mul_nonneg (by omega) (by omega)
        omega
      have e2 : (dist p q c (m + 1) + (c - x) * q) * b = dist p q c (m + 1) * b + (c - x) * q * b := Int.add_mul ..
      have e3 : 0 ≤ (c - x) * q * b := Int.mul_nonneg (Int.mul_nonneg (by omega) (by omega)) (by omega)
      rw [e1, e2]
      refine ⟨by omega, fun tie => ?_⟩
      have e4 : (c - x) * q * b = 0 := by omega
      have e5 : c = x := by
        rcases Int.mul_eq_zero.mp e4 with z1 | z1
        · rcases Int.mul_eq_zero.mp z1 with z2 | z2
          · omega
          · omega
        · omega
      rw [← e5]
      exact h2 (by omega)
    · obtain ⟨h1, h2⟩ := h.best (c + 1) (m + 1) hz (.inr ⟨rfl, rfl⟩)
      have e1 : dist p q x (m + 1) = dist p q (c + 1) (m + 1) + (x - (c + 1)) * q := by
        unfold dist
        have k1 : (x - (c + 1)) * q = x * q - (c + 1) * q := Int.sub_mul ..
        have k3 : (c + 1) * q = c * q + q := by rw [Int.add_mul, Int.one_mul]
        have k2 : 0 ≤ (x - (c + 1)) * q := Int.mul_nonneg (by omega) (by omega)
        omega
      have e2 : (dist p q (c + 1) (m + 1) + (x - (c + 1)) * q) * b = dist p q (c + 1) (m + 1) * b + (x - (c + 1)) * q * b := Int.add_mul ..
      have e3 : 0 ≤ (x - (c + 1)) * q * b := Int.mul_nonneg (Int.mul_nonneg (by omega) (by omega)) (by omega)
      rw [e1, e2]
      refine ⟨by omega, fun tie => ?_⟩
      have e4 : (x - (c + 1)) * q * b = 0 := by omega
      have e5 : c + 1 = x := by
        rcases Int.mul_eq_zero.mp e4 with z1 | z1
        · rcases Int.mul_eq_zero.mp z1 with z2 | z2
          · omega
          · omega
        · omega
      rw [← e5]
      exact h2 (by omega)
end FM
namespace FM
def sb : Nat → Int → Int → List Bool
  | 0, _, _ => []
  | n + 1, x, y => if x < y then false :: sb n x (y - x) else if y < x then true :: sb n (x - y) y else []
def flipW (l : List Bool) : List Bool := l.map fun b => !b
theorem sb_more : ∀ (n m : Nat) (x y : Int), 1 ≤ x → 1 ≤ y → (x + y).toNat ≤ n → (x + y).toNat ≤ m → sb n x y = sb m x y
  | 0, m, x, y, h1, h2, h, _ => by omega
  | n + 1, 0, x, y, h1, h2, _, h => by omega
  | n + 1, m + 1, x, y, h1, h2, h3, h4 => by
    unfold sb
    by_cases a : x < y
    · rw [if_pos a, if_pos a, sb_more n m x (y - x) h1 (by omega) (by omega) (by omega)]
    · rw [if_neg a, if_neg a]
      by_cases b : y < x
      · rw [if_pos b, if_pos b, sb_more n m (x - y) y (by omega) h2 (by omega) (by omega)]
      · rw [if_neg b, if_neg b]
def path (x y : Int) : List Bool := sb (x + y).toNat x y
theorem path_lt {x y : Int} (h1 : 1 ≤ x) (h : x < y) : path x y = false :: path x (y - x) := by
  unfold path
  obtain ⟨n, e⟩ : ∃ n, (x + y).toNat = n + 1 := ⟨(x + y).toNat - 1, by omega⟩
  rw [e]
  show (if x < y then false :: sb n x (y - x) else _) = _
  rw [if_pos h, sb_more n _ x (y - x) h1 (by omega) (by omega) (Nat.le_refl _)]
theorem path_gt {x y : Int} (h1 : 1 ≤ y) (h : y < x) : path x y = true :: path (x - y) y := by
  unfold path
  obtain ⟨n, e⟩ : ∃ n, (x + y).toNat = n + 1 := ⟨(x + y).toNat - 1, by omega⟩
  rw [e]
  show (if x < y then _ else if y < x then true :: sb n (x - y) y else _) = _
  rw [if_neg (by omega), if_pos h, sb_more n _ (x - y) y (by omega) h1 (by omega) (Nat.le_refl _)]
theorem path_eq {x : Int} (h1 : 1 ≤ x) : path x x = [] := by
  unfold path
  obtain ⟨n, e⟩ : ∃ n, (x + x).toNat = n + 1 := ⟨(x + x).toNat - 1, by omega⟩
  rw [e]
  show (if x < x then _ else if x < x then _ else []) = _
  rw [if_neg (by omega), if_neg (by omega)]
theorem path_flip : ∀ (n : Nat) (x y : Int), 1 ≤ x → 1 ≤ y → (x + y).toNat ≤ n → path y x = flipW (path x y)
  | 0, x, y, h1, h2, h => by omega
  | n + 1, x, y, h1, h2, h => by
    rcases Int.lt_trichotomy x y with a | a | a
    · rw [path_lt h1 a, path_gt h1 a, path_flip n x (y - x) h1 (by omega) (by omega)]
      rfl
    · subst a
      rw [path_eq h1]
      rfl
    · rw [path_gt h2 a, path_lt h2 a, path_flip n (x - y) y (by omega) h2 (by omega)]
      rfl
/-- the terms as runs, to the right first -/
def runs : Bool → List Int → List Bool
  | _, [] => []
  | b, t :: r => List.replicate t.toNat b ++ runs (!b) r
theorem runs_flip : ∀ (b : Bool) (l : List Int), runs (!b) l = flipW (runs b l)
  | _, [] => rfl
  | b, t :: r => by
    unfold runs flipW
    rw [List.map_append, List.map_replicate, runs_flip (!b) r]
    rfl
theorem runs_ne {x y : Int} (h1 : 1 ≤ x) (h2 : 1 ≤ y) (b : Bool) : runs b (cfT x y) ≠ [] := by
  have big : ∀ (u v : Int) (b : Bool), 1 ≤ v → v ≤ u → runs b (cfT u v) ≠ [] := fun u v b hv huv => by
    rw [cfT_pos (by omega)]
    have : 1 ≤ u / v := by
      rw [Int.le_ediv_iff_mul_le (by omega), Int.one_mul]
      exact huv
    obtain ⟨k, e⟩ : ∃ k, (u / v).toNat = k + 1 := ⟨(u / v).toNat - 1, by omega⟩
    unfold runs
    rw [e, List.replicate_succ]
    exact List.cons_ne_nil _ _
  by_cases h : y ≤ x
  · exact big x y b h2 h
  · rw [cfT_pos (by omega), Int.ediv_eq_zero_of_lt (by omega) (by omega), Int.emod_eq_of_lt (by omega) (by omega)]
    exact big y x (!b) h1 (by omega)
theorem flip_drop (l : List Bool) : (flipW l).dropLast = flipW l.dropLast := by
  unfold flipW
  rw [List.map_dropLast]
/-- the word by the terms -/
theorem path_runs : ∀ (n : Nat) (p q : Int), 1 ≤ p → 1 ≤ q → (p + q).toNat ≤ n → Int.gcd p q = 1 → (runs true (cfT p q)).dropLast = path p q
  | 0, p, q, h1, h2, h, _ => by omega
  | n + 1, p, q, h1, h2, h, g => by
    rcases Int.lt_trichotomy p q with a | a | a
    · -- p < q: the mirror
      have e0 : p / q = 0 := Int.ediv_eq_zero_of_lt (by omega) a
      have e1 : p % q = p := Int.emod_eq_of_lt (by omega) a
      have g2 : Int.gcd q p = 1 := by rw [Int.gcd_comm]; exact g
      rw [cfT_pos (by omega), e0, e1]
      show (runs false (cfT q p)).dropLast = _
      have e2 : q / p = (q - p) / p + 1 := by
        have := Int.sub_mul_ediv_right q 1 (show p ≠ 0 by omega)
        rw [Int.one_mul] at this
        omega
      have e3 : q % p = (q - p) % p := by
        have := Int.sub_mul_emod_self_right q 1 p
        rw [Int.one_mul] at this
        exact this.symm
      have ih := path_runs n (q - p) p (by omega) h1 (by omega) (by
        rw [Int.gcd_comm]
        have := Int.gcd_add_mul_left_right p q (-1)
        rw [show q + p * (-1) = q - p by omega] at this
        rw [this]
        exact g)
      rw [cfT_pos (by omega)] at ih
      have k0 : 0 ≤ (q - p) / p := Int.ediv_nonneg (by omega) (by omega)
      have f := runs_flip true (cfT q p)
      rw [show runs false (cfT q p) = flipW (runs true (cfT q p)) from f]
      have e4 : runs true (cfT q p) = true :: runs true ((q - p) / p :: cfT p ((q - p) % p)) := by
        rw [cfT_pos (show 0 < p by omega), e2, e3]
        unfold runs
        rw [show ((q - p) / p + 1).toNat = ((q - p) / p).toNat + 1 by omega, List.replicate_succ]
        rfl
      have ne : runs true ((q - p) / p :: cfT p ((q - p) % p)) ≠ [] := by
        rw [← cfT_pos (show 0 < p by omega)]
        exact runs_ne (by omega) h1 true
      rw [e4, path_lt h1 a, path_flip (q - p + p).toNat (q - p) p (by omega) h1 (Nat.le_refl _), ← ih, flip_drop, List.dropLast_cons_of_ne_nil ne]
      rfl
    · subst a
      have : p = 1 := by
        rw [Int.gcd_self] at g
        omega
      subst this
      rw [path_eq (by decide)]
      decide +kernel
    · have e2 : p / q = (p - q) / q + 1 := by
        have := Int.sub_mul_ediv_right p 1 (show q ≠ 0 by omega)
        rw [Int.one_mul] at this
        omega
      have e3 : p % q = (p - q) % q := by
        have := Int.sub_mul_emod_self_right p 1 q
        rw [Int.one_mul] at this
        exact this.symm
      have ih := path_runs n (p - q) q (by omega) h2 (by omega) (by
        rw [Int.gcd_comm]
        have := Int.gcd_add_mul_left_right q p (-1)
        rw [show p + q * (-1) = p - q by omega] at this
        rw [this, Int.gcd_comm]
        exact g)
      rw [cfT_pos (by omega)] at ih
      have k0 : 0 ≤ (p - q) / q := Int.ediv_nonneg (by omega) (by omega)
      have e4 : runs true (cfT p q) = true :: runs true ((p - q) / q :: cfT q ((p - q) % q)) := by
        rw [cfT_pos (show 0 < q by omega), e2, e3]
        unfold runs
        rw [show ((p - q) / q + 1).toNat = ((p - q) / q).toNat + 1 by omega, List.replicate_succ]
        rfl
      have ne : runs true ((p - q) / q :: cfT q ((p - q) % q)) ≠ [] := by
        rw [← cfT_pos (show 0 < q by omega)]
        exact runs_ne (by omega) h2 true
      rw [e4, path_gt h2 a, ← ih, List.dropLast_cons_of_ne_nil ne]
end FM
namespace FM
/-- the walk by a word: low, high -/
def wk : List Bool → Int → Int → Int → Int → (Int × Int) × (Int × Int)
  | [], a, b, c, d => ((a, b), (c, d))
  | true :: r, a, b, c, d => wk r (a + c) (b + d) c d
  | false :: r, a, b, c, d => wk r a b (a + c) (b + d)
theorem wk_path : ∀ (n : Nat) (x y a b c d : Int), 1 ≤ x → 1 ≤ y → (x + y).toNat ≤ n → Int.gcd x y = 1 → (wk (path x y) a b c d).1.1 + (wk (path x y) a b c d).2.1 = a * y + c * x ∧ (wk (path x y) a b c d).1.2 + (wk (path x y) a b c d).2.2 = b * y + d * x
  | 0, x, y, a, b, c, d, h1, h2, h, _ => by omega
  | n + 1, x, y, a, b, c, d, h1, h2, h, g => by
    rcases Int.lt_trichotomy x y with k | k | k
    · rw [path_lt h1 k]
      have g2 : Int.gcd x (y - x) = 1 := by
        have := Int.gcd_add_mul_left_right x y (-1)
        rw [show y + x * (-1) = y - x by omega] at this
        rw [this]
        exact g
      obtain ⟨e1, e2⟩ := wk_path n x (y - x) a b (a + c) (b + d) h1 (by omega) (by omega) g2
      have m1 : a * (y - x) = a * y - a * x := Int.mul_sub ..
      have m2 : (a + c) * x = a * x + c * x := Int.add_mul ..
      have m3 : b * (y - x) = b * y - b * x := Int.mul_sub ..
      have m4 : (b + d) * x = b * x + d * x := Int.add_mul ..
      show (wk (path x (y - x)) a b (a + c) (b + d)).1.1 + (wk (path x (y - x)) a b (a + c) (b + d)).2.1 = _ ∧ (wk (path x (y - x)) a b (a + c) (b + d)).1.2 + (wk (path x (y - x)) a b (a + c) (b + d)).2.2 = _
      omega
    · subst k
      have : x = 1 := by
        rw [Int.gcd_self] at g
        omega
      subst this
      rw [path_eq (by decide)]
      show a + c = a * 1 + c * 1 ∧ b + d = b * 1 + d * 1
      omega
    · rw [path_gt h2 k]
      have g2 : Int.gcd (x - y) y = 1 := by
        rw [Int.gcd_comm]
        have := Int.gcd_add_mul_left_right y x (-1)
        rw [show x + y * (-1) = x - y by omega] at this
        rw [this, Int.gcd_comm]
        exact g
      obtain ⟨e1, e2⟩ := wk_path n (x - y) y (a + c) (b + d) c d (by omega) h2 (by omega) g2
      have m1 : c * (x - y) = c * x - c * y := Int.mul_sub ..
      have m2 : (a + c) * y = a * y + c * y := Int.add_mul ..
      have m3 : d * (x - y) = d * x - d * y := Int.mul_sub ..
      have m4 : (b + d) * y = b * y + d * y := Int.add_mul ..
      show (wk (path (x - y) y) (a + c) (b + d) c d).1.1 + (wk (path (x - y) y) (a + c) (b + d) c d).2.1 = _ ∧ (wk (path (x - y) y) (a + c) (b + d) c d).1.2 + (wk (path (x - y) y) (a + c) (b + d) c d).2.2 = _
      omega
end FM
namespace FM
/-- the point that a word leads to, in coordinates of the start: it is the word's own path -/
def co : List Bool → Int × Int
  | [] => (1, 1)
  | true :: r => ((co r).1 + (co r).2, (co r).2)
  | false :: r => ((co r).1, (co r).1 + (co r).2)
theorem co_pos : ∀ l : List Bool, 1 ≤ (co l).1 ∧ 1 ≤ (co l).2
  | [] => ⟨by decide, by decide⟩
  | true :: r => by
    have := co_pos r
    unfold co
    exact ⟨by show 1 ≤ (co r).1 + (co r).2; omega, this.2⟩
  | false :: r => by
    have := co_pos r
    unfold co
    exact ⟨this.1, by show 1 ≤ (co r).1 + (co r).2; omega⟩
theorem co_path : ∀ l : List Bool, path (co l).1 (co l).2 = l
  | [] => path_eq (by decide)
  | true :: r => by
    have h := co_pos r
    show path ((co r).1 + (co r).2) (co r).2 = true :: r
    rw [path_gt h.2 (by omega), show (co r).1 + (co r).2 - (co r).2 = (co r).1 by omega, co_path r]
  | false :: r => by
    have h := co_pos r
    show path (co r).1 ((co r).1 + (co r).2) = false :: r
    rw [path_lt h.1 (by omega), show (co r).1 + (co r).2 - (co r).1 = (co r).2 by omega, co_path r]
theorem co_gcd : ∀ l : List Bool, Int.gcd (co l).1 (co l).2 = 1
  | [] => by decide
  | true :: r => by
    show Int.gcd ((co r).1 + (co r).2) (co r).2 = 1
    rw [Int.gcd_comm]
    have := Int.gcd_add_mul_left_right (co r).2 (co r).1 1
    rw [Int.mul_one] at this
    rw [this, Int.gcd_comm]
    exact co_gcd r
  | false :: r => by
    show Int.gcd (co r).1 ((co r).1 + (co r).2) = 1
    have := Int.gcd_add_mul_left_right (co r).1 (co r).2 1
    rw [Int.mul_one] at this
    rw [show (co r).1 + (co r).2 = (co r).2 + (co r).1 by omega, this]
    exact co_gcd r
theorem co_le : ∀ l : List Bool, (co l).1 ≤ 2 ^ l.length ∧ (co l).2 ≤ 2 ^ l.length ∧ (co l).1 + (co l).2 ≤ 2 ^ (l.length + 1)
  | [] => ⟨by decide, by decide, by decide⟩
  | true :: r => by
    obtain ⟨h1, h2, h3⟩ := co_le r
    have h := co_pos r
    rw [List.length_cons]
    have e : (2 : Int) ^ (r.length + 1 + 1) = 2 ^ (r.length + 1) * 2 := Int.pow_succ ..
    have e2 : (2 : Int) ^ (r.length + 1) = 2 ^ r.length * 2 := Int.pow_succ ..
    refine ⟨h3, ?_, ?_⟩
    · show (co r).2 ≤ _
      omega
    · show (co r).1 + (co r).2 + (co r).2 ≤ _
      omega
  | false :: r => by
    obtain ⟨h1, h2, h3⟩ := co_le r
    have h := co_pos r
    rw [List.length_cons]
    have e : (2 : Int) ^ (r.length + 1 + 1) = 2 ^ (r.length + 1) * 2 := Int.pow_succ ..
    have e2 : (2 : Int) ^ (r.length + 1) = 2 ^ r.length * 2 := Int.pow_succ ..
    refine ⟨?_, h3, ?_⟩
    · show (co r).1 ≤ _
      omega
    · show (co r).1 + ((co r).1 + (co r).2) ≤ _
      omega
/-- where a word leads from (0, 1), (1, 0) -/
theorem wk_co (l : List Bool) : (wk l 0 1 1 0).1.1 + (wk l 0 1 1 0).2.1 = (co l).1 ∧ (wk l 0 1 1 0).1.2 + (wk l 0 1 1 0).2.2 = (co l).2 := by
  have h := co_pos l
  have e := wk_path ((co l).1 + (co l).2).toNat (co l).1 (co l).2 0 1 1 0 h.1 h.2 (Nat.le_refl _) (co_gcd l)
  rw [co_path] at e
  omega
end FM

namespace FM
def Pos (l : List Int) : Prop := ∀ t ∈ l, 1 ≤ t
theorem Pos.tl {t : Int} {l : List Int} (h : Pos (t :: l)) : Pos l := fun s hs => h s (List.mem_cons_of_mem _ hs)
theorem Pos.hd {t : Int} {l : List Int} (h : Pos (t :: l)) : 1 ≤ t := h t List.mem_cons_self
theorem Pos.take {l : List Int} (h : Pos l) (k : Nat) : Pos (l.take k) := fun s hs => h s (List.mem_of_mem_take hs)
theorem val_pos : ∀ {l : List Int}, Pos l → 1 ≤ (val l).1 ∧ 0 ≤ (val l).2 ∧ (val l).2 ≤ (val l).1
  | [], _ => ⟨by decide, by decide, by decide⟩
  | t :: l, h => by
    obtain ⟨a, b, c⟩ := val_pos h.tl
    have m : 1 * (val l).1 ≤ t * (val l).1 := Int.mul_le_mul_of_nonneg_right h.hd (by omega)
    show 1 ≤ t * (val l).1 + (val l).2 ∧ 0 ≤ (val l).1 ∧ (val l).1 ≤ t * (val l).1 + (val l).2
    omega
theorem val_mono : ∀ {l : List Int} (k : Nat), Pos l → (val (l.take k)).1 ≤ (val l).1 ∧ (val (l.take k)).2 ≤ (val l).2
  | l, 0, h => by
    have := val_pos h
    rw [List.take_zero]
    exact ⟨this.1, this.2.1⟩
  | [], k + 1, h => by
    rw [List.take_nil]
    exact ⟨Int.le_refl _, Int.le_refl _⟩
  | t :: l, k + 1, h => by
    obtain ⟨a, b⟩ := val_mono k h.tl
    have m : t * (val (l.take k)).1 ≤ t * (val l).1 := Int.mul_le_mul_of_nonneg_left a (by have := h.hd; omega)
    rw [List.take_succ_cons]
    show t * (val (l.take k)).1 + (val (l.take k)).2 ≤ t * (val l).1 + (val l).2 ∧ (val (l.take k)).1 ≤ (val l).1
    omega
theorem val_snoc (t : Int) : ∀ l : List Int, (val (l ++ [t])).1 * (val l).2 - (val (l ++ [t])).2 * (val l).1 = 1 ∨ (val (l ++ [t])).1 * (val l).2 - (val (l ++ [t])).2 * (val l).1 = -1
  | [] => by
    right
    show (t * 1 + 0) * 0 - 1 * 1 = -1
    omega
  | a :: l => by
    have ih := val_snoc t l
    rw [List.cons_append]
    show (a * (val (l ++ [t])).1 + (val (l ++ [t])).2) * (val l).1 - (val (l ++ [t])).1 * (a * (val l).1 + (val l).2) = 1 ∨ (a * (val (l ++ [t])).1 + (val (l ++ [t])).2) * (val l).1 - (val (l ++ [t])).1 * (a * (val l).1 + (val l).2) = -1
    generalize (val (l ++ [t])).1 = x' at ih ⊢
    generalize (val (l ++ [t])).2 = y' at ih ⊢
    generalize (val l).1 = x at ih ⊢
    generalize (val l).2 = y at ih ⊢
    have e : (a * x' + y') * x - x' * (a * x + y) = -(x' * y - y' * x) := by
      rw [Int.add_mul, Int.mul_add, Int.mul_right_comm a x' x, ← Int.mul_assoc x' a x, Int.mul_comm x' a, Int.mul_right_comm a x' x]
      omega
    rw [e]
    omega
theorem val_gcd : ∀ l : List Int, Int.gcd (val l).1 (val l).2 = 1
  | [] => rfl
  | a :: l => by
    have ih := val_gcd l
    show Int.gcd (a * (val l).1 + (val l).2) (val l).1 = 1
    rw [Int.gcd_comm]
    have e := Int.gcd_add_mul_left_right (val l).1 (val l).2 a
    rw [show (val l).2 + (val l).1 * a = a * (val l).1 + (val l).2 by rw [Int.mul_comm]; omega] at e
    rw [e]
    exact ih
/-- terms behind the first: all above 0, the last above 1 -/
def tailOk : List Int → Prop
  | [] => True
  | [t] => 2 ≤ t
  | t :: u :: l => 1 ≤ t ∧ tailOk (u :: l)
theorem tailOk.tl {t : Int} {l : List Int} (h : tailOk (t :: l)) : tailOk l := by
  cases l with
  | nil => exact trivial
  | cons u l => exact h.2
theorem tailOk.hd {t : Int} {l : List Int} (h : tailOk (t :: l)) : 1 ≤ t := by
  cases l with
  | nil =>
    have : 2 ≤ t := h
    omega
  | cons u l => exact h.1
theorem tailOk.pos : ∀ {l : List Int}, tailOk l → Pos l
  | [], _, s, hs => by cases hs
  | t :: l, h, s, hs => by
    rcases List.mem_cons.mp hs with rfl | hs
    · exact h.hd
    · exact tailOk.pos h.tl s hs
theorem tailOk.last : ∀ {l : List Int}, tailOk l → ∀ t, l.getLast? = some t → 2 ≤ t
  | [], _, t, e => by cases e
  | [t], h, s, e => by
    cases e
    exact h
  | t :: u :: l, h, s, e => tailOk.last h.2 s (by rw [List.getLast?_cons_cons] at e; exact e)
theorem tailOk_of : ∀ {l : List Int}, Pos l → (∀ t, l.getLast? = some t → 2 ≤ t) → tailOk l
  | [], _, _ => trivial
  | [t], h, e => e t rfl
  | t :: u :: l, h, e => ⟨h.hd, tailOk_of h.tl fun s hs => e s (by rw [List.getLast?_cons_cons]; exact hs)⟩
theorem val_tail : ∀ {l : List Int}, tailOk l → (val l).2 < (val l).1 ∧ 0 ≤ (val l).2
  | [], _ => ⟨by decide, by decide⟩
  | [t], h => by
    have h : 2 ≤ t := h
    show (1 : Int) < t * 1 + 0 ∧ (0 : Int) ≤ 1
    omega
  | t :: u :: l, h => by
    obtain ⟨a, b, c⟩ := val_pos h.tl.pos
    have d := (val_pos h.tl.tl.pos).1
    have m : 1 * (val (u :: l)).1 ≤ t * (val (u :: l)).1 := Int.mul_le_mul_of_nonneg_right h.1 (by omega)
    have e : (val (u :: l)).2 = (val l).1 := rfl
    show (val (u :: l)).1 < t * (val (u :: l)).1 + (val (u :: l)).2 ∧ 0 ≤ (val (u :: l)).1
    omega
theorem cf_val1 (a : Int) {l : List Int} (ih : cfT (val l).1 (val l).2 = l) (h : tailOk l) : cfT (val (a :: l)).1 (val (a :: l)).2 = a :: l := by
  obtain ⟨b, c⟩ := val_tail h
  have hp : 0 < (val l).1 := by omega
  show cfT (a * (val l).1 + (val l).2) (val l).1 = a :: l
  rw [cfT_pos hp]
  have e1 : (a * (val l).1 + (val l).2) / (val l).1 = a := by
    rw [Int.add_comm, Int.add_mul_ediv_right _ _ (by omega), Int.ediv_eq_zero_of_lt c b]
    omega
  have e2 : (a * (val l).1 + (val l).2) % (val l).1 = (val l).2 := by
    rw [Int.add_comm, Int.add_mul_emod_self_right, Int.emod_eq_of_lt c b]
  rw [e1, e2, ih]
theorem cf_val : ∀ {l : List Int}, tailOk l → cfT (val l).1 (val l).2 = l
  | [], _ => by
    show cfT 1 0 = []
    exact cfT_zero (by decide)
  | a :: l, h => cf_val1 a (cf_val h.tl) h.tl
theorem cf_tailOk : ∀ (n : Nat) (p q : Int), q.toNat ≤ n → 0 ≤ q → q < p → Int.gcd p q = 1 → tailOk (cfT p q)
  | 0, p, q, h, h0, hl, g => by
    rw [cfT_zero (by omega)]
    exact trivial
  | n + 1, p, q, h, h0, hl, g => by
    by_cases hq : 0 < q
    · have h1 := Int.emod_nonneg p (show q ≠ 0 by omega)
      have h2 := Int.emod_lt_of_pos p hq
      have h3 := Int.mul_ediv_add_emod p q
      have ih := cf_tailOk n q (p % q) (by omega) h1 h2 (gcd_step g)
      rw [cfT_pos hq]
      by_cases hz : 0 < p % q
      · rw [cfT_pos hz] at ih ⊢
        refine ⟨?_, ih⟩
        by_cases k : 1 ≤ p / q
        · exact k
        · have m : q * (p / q) ≤ q * 0 := Int.mul_le_mul_of_nonneg_left (by omega) (by omega)
          omega
      · rw [cfT_zero hz]
        have z : p % q = 0 := by omega
        have g2 := gcd_step g
        rw [z, Int.gcd_zero_right] at g2
        have q1 : q = 1 := by omega
        subst q1
        show 2 ≤ p / 1
        rw [Int.ediv_one]
        omega
    · rw [cfT_zero hq]
      exact trivial
/-- the expansion of a fraction: the first term, the others -/
theorem cf_form {p q : Int} (hq : 1 ≤ q) (g : Int.gcd p q = 1) : cfT p q = p / q :: cfT q (p % q) ∧ tailOk (cfT q (p % q)) :=
  ⟨cfT_pos (by omega), cf_tailOk (p % q).toNat q (p % q) (Nat.le_refl _) (Int.emod_nonneg p (by omega)) (Int.emod_lt_of_pos p (by omega)) (gcd_step g)⟩
theorem cf_log : ∀ (n : Nat) (p q : Int), 0 ≤ q → q < 2 ^ n → (cfT p q).length ≤ 2 * n
  | 0, p, q, h0, h => by
    have : q < 1 := h
    rw [cfT_zero (by omega)]
    exact Nat.le_refl _
  | n + 1, p, q, h0, h => by
    have e : (2 : Int) ^ (n + 1) = 2 ^ n * 2 := Int.pow_succ 2 n
    rw [e] at h
    by_cases hq : 0 < q
    · have h1 := Int.emod_nonneg p (show q ≠ 0 by omega)
      have h2 := Int.emod_lt_of_pos p hq
      rw [cfT_pos hq]
      by_cases hz : 0 < p % q
      · have h3 := Int.emod_nonneg q (show p % q ≠ 0 by omega)
        have h4 := Int.emod_lt_of_pos q hz
        have h5 := Int.mul_ediv_add_emod q (p % q)
        have h6 : 1 ≤ q / (p % q) := Int.le_ediv_of_mul_le hz (by omega)
        have h7 : (p % q) * 1 ≤ (p % q) * (q / (p % q)) := Int.mul_le_mul_of_nonneg_left h6 (by omega)
        have ih := cf_log n (p % q) (q % (p % q)) h3 (by omega)
        rw [cfT_pos hz, List.length_cons, List.length_cons]
        omega
      · rw [cfT_zero hz]
        show 1 ≤ _
        omega
    · rw [cfT_zero hq]
      exact Nat.zero_le _
/-- a beginning's value has bounds -/
theorem conv_bd {a : Int} {l : List Int} (h : Pos l) (k : Nat) : 1 ≤ (val (a :: l.take k)).2 ∧ (val (a :: l.take k)).2 ≤ (val l).1 ∧ (val (a :: l.take k)).1.natAbs ≤ (a.natAbs + 1) * (val l).1.natAbs := by
  have p1 := val_pos (h.take k)
  have m1 := val_mono k h
  refine ⟨p1.1, m1.1, ?_⟩
  show (a * (val (l.take k)).1 + (val (l.take k)).2).natAbs ≤ _
  have e1 : (a * (val (l.take k)).1).natAbs = a.natAbs * (val (l.take k)).1.natAbs := Int.natAbs_mul _ _
  have e2 : a.natAbs * (val (l.take k)).1.natAbs ≤ a.natAbs * (val l).1.natAbs := Nat.mul_le_mul_left _ (by omega)
  have e3 := Int.natAbs_add_le (a * (val (l.take k)).1) (val (l.take k)).2
  rw [Nat.add_mul, Nat.one_mul]
  omega
end FM

namespace FM
def sp : List Bool → (Int × Int) × (Int × Int)
  | [] => ((1, 0), (0, 1))
  | true :: l => (((sp l).1.1 + (sp l).2.1, (sp l).1.2 + (sp l).2.2), (sp l).2)
  | false :: l => ((sp l).1, ((sp l).1.1 + (sp l).2.1, (sp l).1.2 + (sp l).2.2))
theorem wk_sp : ∀ (l : List Bool) (a b c d : Int), wk l a b c d = ((c * (sp l).1.2 + a * (sp l).2.2, d * (sp l).1.2 + b * (sp l).2.2), (c * (sp l).1.1 + a * (sp l).2.1, d * (sp l).1.1 + b * (sp l).2.1))
  | [], a, b, c, d => by
    show ((a, b), (c, d)) = ((c * 0 + a * 1, d * 0 + b * 1), (c * 1 + a * 0, d * 1 + b * 0))
    simp
  | true :: l, a, b, c, d => by
    show wk l (a + c) (b + d) c d = _
    rw [wk_sp l]
    show _ = ((c * ((sp l).1.2 + (sp l).2.2) + a * (sp l).2.2, d * ((sp l).1.2 + (sp l).2.2) + b * (sp l).2.2), (c * ((sp l).1.1 + (sp l).2.1) + a * (sp l).2.1, d * ((sp l).1.1 + (sp l).2.1) + b * (sp l).2.1))
    simp only [Int.add_mul, Int.mul_add]
    simp only [Prod.mk.injEq]
    omega
  | false :: l, a, b, c, d => by
    show wk l a b (a + c) (b + d) = _
    rw [wk_sp l]
    show _ = ((c * (sp l).1.2 + a * ((sp l).1.2 + (sp l).2.2), d * (sp l).1.2 + b * ((sp l).1.2 + (sp l).2.2)), (c * (sp l).1.1 + a * ((sp l).1.1 + (sp l).2.1), d * (sp l).1.1 + b * ((sp l).1.1 + (sp l).2.1)))
    simp only [Int.add_mul, Int.mul_add]
    simp only [Prod.mk.injEq]
    omega
theorem wk_sp0 (l : List Bool) : wk l 0 1 1 0 = (((sp l).1.2, (sp l).2.2), ((sp l).1.1, (sp l).2.1)) := by
  rw [wk_sp]
  simp
theorem sp_pos : ∀ l : List Bool, 1 ≤ (sp l).1.1 ∧ 0 ≤ (sp l).1.2 ∧ 0 ≤ (sp l).2.1 ∧ 1 ≤ (sp l).2.2
  | [] => ⟨by decide, by decide, by decide, by decide⟩
  | true :: l => by
    have := sp_pos l
    show 1 ≤ (sp l).1.1 + (sp l).2.1 ∧ 0 ≤ (sp l).1.2 + (sp l).2.2 ∧ 0 ≤ (sp l).2.1 ∧ 1 ≤ (sp l).2.2
    omega
  | false :: l => by
    have := sp_pos l
    show 1 ≤ (sp l).1.1 ∧ 0 ≤ (sp l).1.2 ∧ 0 ≤ (sp l).1.1 + (sp l).2.1 ∧ 1 ≤ (sp l).1.2 + (sp l).2.2
    omega
theorem sp_det : ∀ l : List Bool, (sp l).1.1 * (sp l).2.2 - (sp l).1.2 * (sp l).2.1 = 1
  | [] => rfl
  | true :: l => by
    have := sp_det l
    show ((sp l).1.1 + (sp l).2.1) * (sp l).2.2 - ((sp l).1.2 + (sp l).2.2) * (sp l).2.1 = 1
    rw [Int.add_mul, Int.add_mul, Int.mul_comm (sp l).2.2 (sp l).2.1]
    omega
  | false :: l => by
    have := sp_det l
    show (sp l).1.1 * ((sp l).1.2 + (sp l).2.2) - (sp l).1.2 * ((sp l).1.1 + (sp l).2.1) = 1
    rw [Int.mul_add, Int.mul_add, Int.mul_comm (sp l).1.2 (sp l).1.1]
    omega
def mm (m n : (Int × Int) × (Int × Int)) : (Int × Int) × (Int × Int) := ((m.1.1 * n.1.1 + m.1.2 * n.2.1, m.1.1 * n.1.2 + m.1.2 * n.2.2), (m.2.1 * n.1.1 + m.2.2 * n.2.1, m.2.1 * n.1.2 + m.2.2 * n.2.2))
theorem sp_app : ∀ l m : List Bool, sp (l ++ m) = mm (sp l) (sp m)
  | [], m => by
    show sp m = ((1 * (sp m).1.1 + 0 * (sp m).2.1, 1 * (sp m).1.2 + 0 * (sp m).2.2), (0 * (sp m).1.1 + 1 * (sp m).2.1, 0 * (sp m).1.2 + 1 * (sp m).2.2))
    simp
  | true :: l, m => by
    have ih := sp_app l m
    show (((sp (l ++ m)).1.1 + (sp (l ++ m)).2.1, (sp (l ++ m)).1.2 + (sp (l ++ m)).2.2), (sp (l ++ m)).2) = _
    rw [ih]
    unfold mm
    simp only [sp, Int.add_mul]
    refine Prod.ext (Prod.ext ?_ ?_) (Prod.ext ?_ ?_) <;> (try dsimp only) <;> omega
  | false :: l, m => by
    have ih := sp_app l m
    show ((sp (l ++ m)).1, ((sp (l ++ m)).1.1 + (sp (l ++ m)).2.1, (sp (l ++ m)).1.2 + (sp (l ++ m)).2.2)) = _
    rw [ih]
    unfold mm
    simp only [sp, Int.add_mul]
    refine Prod.ext (Prod.ext ?_ ?_) (Prod.ext ?_ ?_) <;> (try dsimp only) <;> omega
theorem co_sp (l : List Bool) : co l = ((sp l).1.1 + (sp l).1.2, (sp l).2.1 + (sp l).2.2) := by
  obtain ⟨h1, h2⟩ := wk_co l
  rw [wk_sp0] at h1 h2
  exact Prod.ext (by rw [← h1]; show (sp l).1.2 + (sp l).1.1 = (sp l).1.1 + (sp l).1.2; omega) (by rw [← h2]; show (sp l).2.2 + (sp l).2.1 = (sp l).2.1 + (sp l).2.2; omega)
/-- the fraction of two words one after the other -/
theorem co_app (l m : List Bool) : co (l ++ m) = ((sp l).1.1 * (co m).1 + (sp l).1.2 * (co m).2, (sp l).2.1 * (co m).1 + (sp l).2.2 * (co m).2) := by
  rw [co_sp, co_sp, sp_app]
  unfold mm
  simp only [Int.mul_add, Prod.mk.injEq]
  omega
theorem sp_nil {l : List Bool} (h : sp l = ((1, 0), (0, 1))) : l = [] := by
  cases l with
  | nil => rfl
  | cons b l =>
    have p := sp_pos l
    cases b with
    | true =>
      have e := congrArg (fun x => x.1.2) h
      have e : (sp l).1.2 + (sp l).2.2 = 0 := e
      omega
    | false =>
      have e := congrArg (fun x => x.2.1) h
      have e : (sp l).1.1 + (sp l).2.1 = 0 := e
      omega
end FM

namespace FM
/-- x / y lies between a / b and c / e -/
def Bt (a b c e x y : Int) : Prop := a * y - b * x < 0 ∧ x * e - y * c < 0
instance (a b c e x y : Int) : Decidable (Bt a b c e x y) := inferInstanceAs (Decidable (_ ∧ _))
theorem lin (l1 l2 r1 r2 x y : Int) (d : r1 * l2 - l1 * r2 = 1) : y = r2 * (x * l2 - l1 * y) + l2 * (r1 * y - x * r2) := by
  have e1 : r2 * (x * l2 - l1 * y) = x * l2 * r2 - l1 * r2 * y := by
    rw [Int.mul_sub, Int.mul_comm r2 (x * l2), Int.mul_comm r2 (l1 * y), Int.mul_right_comm l1 y r2]
  have e2 : l2 * (r1 * y - x * r2) = r1 * l2 * y - x * l2 * r2 := by
    rw [Int.mul_sub, Int.mul_comm l2 (r1 * y), Int.mul_right_comm r1 y l2, Int.mul_comm l2 (x * r2), Int.mul_right_comm x r2 l2]
  have e3 : (r1 * l2 - l1 * r2) * y = r1 * l2 * y - l1 * r2 * y := Int.sub_mul ..
  rw [d, Int.one_mul] at e3
  omega
/-- a fraction strictly between neighbours has a denominator of at least the sum; the sum alone: the middle -/
theorem mid_least {l1 l2 r1 r2 x y : Int} (d : r1 * l2 - l1 * r2 = 1) (h1 : 1 ≤ l2) (h2 : 0 ≤ r2) (hl : 1 ≤ x * l2 - l1 * y) (hr : 1 ≤ r1 * y - x * r2) : l2 + r2 ≤ y ∧ (y = l2 + r2 → 1 ≤ r2 → x = l1 + r1) := by
  have e := lin l1 l2 r1 r2 x y d
  have m1 : r2 * 1 ≤ r2 * (x * l2 - l1 * y) := Int.mul_le_mul_of_nonneg_left hl h2
  have m2 : l2 * 1 ≤ l2 * (r1 * y - x * r2) := Int.mul_le_mul_of_nonneg_left hr (by omega)
  refine ⟨by omega, fun hy hr2 => ?_⟩
  have m4 : r2 * (x * l2 - l1 * y) = r2 * 1 := by omega
  have k1 := Int.eq_of_mul_eq_mul_left (show r2 ≠ 0 by omega) m4
  have e5 : l2 * x = l2 * (l1 + r1) := by
    rw [hy, Int.mul_add] at k1
    rw [Int.mul_add, Int.mul_comm l2 x, Int.mul_comm l2 l1, Int.mul_comm l2 r1]
    omega
  exact Int.eq_of_mul_eq_mul_left (show l2 ≠ 0 by omega) e5
theorem le_lt {x1 y1 x2 y2 x3 y3 : Int} (h1 : 1 ≤ y1) (h2 : 1 ≤ y2) (h3 : 0 ≤ y3) (a : x1 * y2 ≤ x2 * y1) (b : x2 * y3 < x3 * y2) : x1 * y3 < x3 * y1 := by
  have k1 : x1 * y2 * y3 ≤ x2 * y1 * y3 := Int.mul_le_mul_of_nonneg_right a h3
  have k2 : x2 * y3 * y1 < x3 * y2 * y1 := Int.mul_lt_mul_of_pos_right b (by omega)
  have k3 : x1 * y3 * y2 < x3 * y1 * y2 := by
    rw [Int.mul_right_comm x1 y3 y2, Int.mul_right_comm x3 y1 y2]
    rw [Int.mul_right_comm x2 y3 y1] at k2
    omega
  exact Int.lt_of_mul_lt_mul_right k3 (by omega)
theorem lt_le {x1 y1 x2 y2 x3 y3 : Int} (h1 : 0 ≤ y1) (h2 : 1 ≤ y2) (h3 : 1 ≤ y3) (a : x1 * y2 < x2 * y1) (b : x2 * y3 ≤ x3 * y2) : x1 * y3 < x3 * y1 := by
  have k1 : x1 * y2 * y3 < x2 * y1 * y3 := Int.mul_lt_mul_of_pos_right a (by omega)
  have k2 : x2 * y3 * y1 ≤ x3 * y2 * y1 := Int.mul_le_mul_of_nonneg_right b h1
  have k3 : x1 * y3 * y2 < x3 * y1 * y2 := by
    rw [Int.mul_right_comm x1 y3 y2, Int.mul_right_comm x3 y1 y2]
    rw [Int.mul_right_comm x2 y3 y1] at k2
    omega
  exact Int.lt_of_mul_lt_mul_right k3 (by omega)
/-- the state of the descent: low a/b < high c/e, left l1/l2 ≤ low, high ≤ right r1/r2 -/
structure Desc (a b c e l1 l2 r1 r2 : Int) : Prop where
  d : r1 * l2 - l1 * r2 = 1
  hl : 1 ≤ l2
  hr : 1 ≤ r2
  hb : 1 ≤ b
  he : 1 ≤ e
  lt : a * e < c * b
  lo : l1 * b ≤ a * l2
  hi : c * r2 ≤ r1 * e
theorem Desc.sum {a b c e l1 l2 r1 r2 : Int} (h : Desc a b c e l1 l2 r1 r2) : l2 + r2 ≤ b + e := by
  have k1 := le_lt h.hl h.hb (by have := h.he; omega) h.lo h.lt
  have k2 := lt_le (by have := h.hb; omega) h.he h.hr h.lt h.hi
  have e1 : (a + c) * l2 = a * l2 + c * l2 := Int.add_mul ..
  have e2 : l1 * (b + e) = l1 * b + l1 * e := Int.mul_add ..
  have e3 : r1 * (b + e) = r1 * b + r1 * e := Int.mul_add ..
  have e4 : (a + c) * r2 = a * r2 + c * r2 := Int.add_mul ..
  have l := h.lo
  have u := h.hi
  exact (mid_least (x := a + c) (y := b + e) h.d h.hl (by have := h.hr; omega) (by omega) (by omega)).1
theorem Desc.least {a b c e l1 l2 r1 r2 x y : Int} (h : Desc a b c e l1 l2 r1 r2) (hy : 1 ≤ y) (w : Bt a b c e x y) : l2 + r2 ≤ y ∧ (y = l2 + r2 → x = l1 + r1) := by
  have w1 : a * y < x * b := by have := w.1; rw [Int.mul_comm x b]; omega
  have w2 : x * e < c * y := by have := w.2; rw [Int.mul_comm c y]; omega
  have k1 := le_lt h.hl h.hb (by omega) h.lo w1
  have k2 := lt_le (by omega) h.he h.hr w2 h.hi
  obtain ⟨g1, g2⟩ := mid_least (x := x) (y := y) h.d h.hl (by have := h.hr; omega) (by omega) (by omega)
  exact ⟨g1, fun z => g2 z h.hr⟩
theorem Desc.right {a b c e l1 l2 r1 r2 : Int} (h : Desc a b c e l1 l2 r1 r2) (no : ¬ ((l1 + r1) * e - (l2 + r2) * c < 0)) : Desc a b c e l1 l2 (l1 + r1) (l2 + r2) := by
  refine ⟨?_, h.hl, by have := h.hl; have := h.hr; omega, h.hb, h.he, h.lt, h.lo, by rw [Int.mul_comm c]; omega⟩
  have := h.d
  rw [Int.add_mul, Int.mul_add]
  omega
theorem Desc.left {a b c e l1 l2 r1 r2 : Int} (h : Desc a b c e l1 l2 r1 r2) (no : ¬ (a * (l2 + r2) - b * (l1 + r1) < 0)) : Desc a b c e (l1 + r1) (l2 + r2) r1 r2 := by
  refine ⟨?_, by have := h.hl; have := h.hr; omega, h.hr, h.hb, h.he, h.lt, by rw [Int.mul_comm (l1 + r1)]; omega, h.hi⟩
  have := h.d
  rw [Int.mul_add, Int.add_mul]
  omega
def St (a b c e s : Int) : Prop := Bt a b c e s 1 ∧ ∀ x, Bt a b c e x 1 → s.natAbs < x.natAbs ∨ x = s
theorem St.uniq {a b c e s t : Int} (h : St a b c e s) (g : St a b c e t) : s = t := by
  rcases h.2 t g.1 with k | k
  · rcases g.2 s h.1 with k2 | k2
    · omega
    · exact k2
  · exact k.symm
theorem fl_lo {a b : Int} (hb : 1 ≤ b) : a < b * (a / b + 1) ∧ ∀ x, a < b * x → a / b + 1 ≤ x := by
  have h1 := Int.mul_ediv_add_emod a b
  have h2 := Int.emod_nonneg a (show b ≠ 0 by omega)
  have h3 := Int.emod_lt_of_pos a (show 0 < b by omega)
  refine ⟨by rw [Int.mul_add]; omega, fun x hx => ?_⟩
  have : b * (a / b) < b * x := by omega
  have := Int.lt_of_mul_lt_mul_left this (by omega)
  omega
theorem ce_hi {c e : Int} (he : 1 ≤ e) : (0 - (0 - c) / e - 1) * e < c ∧ ∀ x, x * e < c → x ≤ 0 - (0 - c) / e - 1 := by
  obtain ⟨h1, h2⟩ := fl_lo (a := 0 - c) he
  have e1 : (0 - (0 - c) / e - 1) * e = -(e * ((0 - c) / e + 1)) := by
    rw [show 0 - (0 - c) / e - 1 = -((0 - c) / e + 1) by omega, Int.neg_mul, Int.mul_comm e]
  refine ⟨by rw [e1]; omega, fun x hx => ?_⟩
  have := h2 (-x) (by rw [Int.mul_neg, Int.mul_comm e x]; omega)
  omega
/-- where a whole number lies between: one of the three -/
theorem star {a b c e x : Int} (hb : 1 ≤ b) (he : 0 ≤ e) (top : e = 0 → c = 1) (h : Bt a b c e x 1) : ∃ s, St a b c e s ∧ (s = 0 ∨ s = a / b + 1 ∨ (1 ≤ e ∧ s = 0 - (0 - c) / e - 1)) := by
  obtain ⟨f1, f2⟩ := fl_lo (a := a) hb
  by_cases h0 : Bt a b c e 0 1
  · refine ⟨0, ⟨h0, fun y hy => ?_⟩, .inl rfl⟩
    by_cases k : y = 0
    · exact .inr k
    · exact .inl (by omega)
  · by_cases ha : 0 ≤ a
    · have pos : ∀ y, Bt a b c e y 1 → a / b + 1 ≤ y := fun y hy => f2 y (by have := hy.1; omega)
      have p0 : 0 ≤ a / b := Int.ediv_nonneg ha (by omega)
      have hx := pos x h
      refine ⟨a / b + 1, ⟨⟨by omega, ?_⟩, fun y hy => ?_⟩, .inr (.inl rfl)⟩
      · have m : (a / b + 1) * e ≤ x * e := Int.mul_le_mul_of_nonneg_right hx he
        have := h.2
        omega
      · have := pos y hy
        by_cases k : y = a / b + 1
        · exact .inr k
        · exact .inl (by omega)
    · have hc : c ≤ 0 := by
        apply Int.not_lt.mp
        intro z
        exact h0 ⟨by omega, by omega⟩
      have he1 : 1 ≤ e := by
        by_cases k : e = 0
        · have := top k
          omega
        · omega
      obtain ⟨g1, g2⟩ := ce_hi (c := c) he1
      have neg : ∀ y, Bt a b c e y 1 → y ≤ 0 - (0 - c) / e - 1 := fun y hy => g2 y (by have := hy.2; omega)
      have ng : 0 - (0 - c) / e - 1 < 0 := by
        have := Int.ediv_nonneg (show 0 ≤ 0 - c by omega) (show 0 ≤ e by omega)
        omega
      have hx := neg x h
      refine ⟨_, ⟨⟨?_, by omega⟩, fun y hy => ?_⟩, .inr (.inr ⟨he1, rfl⟩)⟩
      · have m : b * x ≤ b * (0 - (0 - c) / e - 1) := Int.mul_le_mul_of_nonneg_left hx (by omega)
        have := h.1
        omega
      · have := neg y hy
        by_cases k : y = 0 - (0 - c) / e - 1
        · exact .inr k
        · exact .inl (by omega)
/-- the least denominator between -/
structure Sm (a b c e A Q : Int) : Prop where
  q : 1 ≤ Q
  w : Bt a b c e A Q
  least : ∀ x y, 1 ≤ y → Bt a b c e x y → Q ≤ y ∧ (y = Q → x = A)
/-- between neighbours: the middle -/
theorem Sm.mid {a b c e A Q : Int} (h : Sm a b c e A Q) (n : c * b - a * e = 1) (hb : 1 ≤ b) (he : 1 ≤ e) : A = a + c ∧ Q = b + e := by
  have e1 : (a + c) * b = a * b + c * b := Int.add_mul ..
  have e2 : (a + c) * e = a * e + c * e := Int.add_mul ..
  have e3 : a * (b + e) = a * b + a * e := Int.mul_add ..
  have e4 : (b + e) * c = c * b + c * e := by rw [Int.add_mul, Int.mul_comm b c, Int.mul_comm e c]
  have w : Bt a b c e (a + c) (b + e) := ⟨by rw [Int.mul_comm b]; omega, by omega⟩
  obtain ⟨k1, k2⟩ := h.least _ _ (by omega) w
  have w1 : 1 ≤ A * b - a * Q := by have := h.w.1; rw [Int.mul_comm A b]; omega
  have w2 : 1 ≤ c * Q - A * e := by have := h.w.2; rw [Int.mul_comm c Q]; omega
  obtain ⟨g1, g2⟩ := mid_least (x := A) (y := Q) n hb (by omega) w1 w2
  have : Q = b + e := by omega
  exact ⟨(k2 this.symm).symm, this⟩
theorem Sm.gcd {a b c e A Q : Int} (h : Sm a b c e A Q) : Int.gcd A Q = 1 := by
  obtain ⟨k, hk⟩ := Int.gcd_dvd_left A Q
  obtain ⟨t, ht⟩ := Int.gcd_dvd_right A Q
  have hQ := h.q
  have gp0 := Int.gcd_pos_of_ne_zero_right A (show Q ≠ 0 by omega)
  obtain ⟨g, hg⟩ : ∃ g : Int, g = ((Int.gcd A Q : Nat) : Int) := ⟨_, rfl⟩
  have gp : 0 < g := by omega
  rw [← hg] at hk ht
  have ht1 : 1 ≤ t := by
    apply Int.not_lt.mp
    intro z
    have : g * t ≤ g * 0 := Int.mul_le_mul_of_nonneg_left (by omega) (by omega)
    omega
  have wb : Bt a b c e k t := by
    refine ⟨?_, ?_⟩
    · have w1 := h.w.1
      rw [hk, ht] at w1
      have e1 : a * (g * t) - b * (g * k) = g * (a * t - b * k) := by
        rw [Int.mul_sub, Int.mul_left_comm, Int.mul_left_comm b]
      rw [e1] at w1
      apply Int.not_le.mp
      intro z
      have := Int.mul_nonneg (show 0 ≤ g by omega) z
      omega
    · have w2 := h.w.2
      rw [hk, ht] at w2
      have e1 : g * k * e - g * t * c = g * (k * e - t * c) := by
        rw [Int.mul_sub, Int.mul_assoc, Int.mul_assoc]
      rw [e1] at w2
      apply Int.not_le.mp
      intro z
      have := Int.mul_nonneg (show 0 ≤ g by omega) z
      omega
  have le := (h.least k t ht1 wb).1
  have m : g * t ≤ 1 * t := by omega
  have := Int.le_of_mul_le_mul_right m (by omega)
  omega
end FM

namespace FM
def upF : Nat → Int → Int → Nat
  | 0, _, _ => 0
  | n + 1, p, q => if q ≤ 0 then 0 else
    if p - (2 * p + q) / (2 * q) * q < 0 then 1 + upF n (-q) (-(p - (2 * p + q) / (2 * q) * q)) else 1 + upF n q (p - (2 * p + q) / (2 * q) * q)
/-- how often rounding and turning lead to the top -/
def up (p q : Int) : Nat := upF q.toNat p q
theorem near {p q : Int} (hq : 0 < q) : -q ≤ 2 * (p - (2 * p + q) / (2 * q) * q) ∧ 2 * (p - (2 * p + q) / (2 * q) * q) < q := by
  have h1 := Int.mul_ediv_add_emod (2 * p + q) (2 * q)
  have h2 := Int.emod_nonneg (2 * p + q) (show 2 * q ≠ 0 by omega)
  have h3 := Int.emod_lt_of_pos (2 * p + q) (show 0 < 2 * q by omega)
  generalize (2 * p + q) / (2 * q) = n at *
  have e : 2 * q * n = 2 * (n * q) := by rw [Int.mul_assoc, Int.mul_comm q n]
  omega
theorem upF_more : ∀ (n m : Nat) (p q : Int), q.toNat ≤ n → q.toNat ≤ m → upF n p q = upF m p q
  | 0, 0, _, _, _, _ => rfl
  | 0, m + 1, p, q, h, _ => by
    unfold upF
    rw [if_pos (by omega)]
  | n + 1, 0, p, q, _, h => by
    unfold upF
    rw [if_pos (by omega)]
  | n + 1, m + 1, p, q, h1, h2 => by
    by_cases hq : q ≤ 0
    · unfold upF
      rw [if_pos hq, if_pos hq]
    · obtain ⟨k1, k2⟩ := near (p := p) (q := q) (by omega)
      unfold upF
      rw [if_neg hq, if_neg hq]
      generalize p - (2 * p + q) / (2 * q) * q = t at *
      rw [upF_more n m (-q) (-t) (by omega) (by omega), upF_more n m q t (by omega) (by omega)]
theorem up_eq {p q n t : Int} (hq : 0 < q) (e : p = n * q + t) (h1 : -q ≤ 2 * t) (h2 : 2 * t < q) : up p q = if t < 0 then 1 + up (-q) (-t) else 1 + up q t := by
  have ht : p - (2 * p + q) / (2 * q) * q = t := by
    have dn : (2 * p + q) / (2 * q) = n := by
      have e2 : 2 * p + q = (2 * t + q) + n * (2 * q) := by
        have : n * (2 * q) = 2 * (n * q) := Int.mul_left_comm ..
        omega
      rw [e2, Int.add_mul_ediv_right _ _ (by omega), Int.ediv_eq_zero_of_lt (by omega) (by omega), Int.zero_add]
    rw [dn]
    omega
  obtain ⟨k, hk⟩ : ∃ k, q.toNat = k + 1 := ⟨q.toNat - 1, by omega⟩
  unfold up
  rw [hk]
  conv => lhs; unfold upF
  rw [if_neg (by omega), ht, upF_more k (-t).toNat (-q) (-t) (by omega) (by omega), upF_more k t.toNat q t (by omega) (by omega)]
theorem up_zero (p : Int) : up p 0 = 0 := rfl
theorem up_int (p : Int) : up p 1 = 1 := by
  rw [up_eq (n := p) (t := 0) (by decide) (by omega) (by decide) (by decide)]
  rfl
theorem up_shift (p k : Int) {q : Int} (hq : 0 < q) : up (p + k * q) q = up p q := by
  obtain ⟨k1, k2⟩ := near (p := p) hq
  obtain ⟨t, ht⟩ : ∃ t, t = p - (2 * p + q) / (2 * q) * q := ⟨_, rfl⟩
  rw [← ht] at k1 k2
  rw [up_eq (p := p + k * q) (n := (2 * p + q) / (2 * q) + k) (t := t) hq (by rw [Int.add_mul]; omega) k1 k2, up_eq (p := p) (n := (2 * p + q) / (2 * q)) (t := t) hq (by omega) k1 k2]
theorem gcd_near {p q n t : Int} (g : Int.gcd p q = 1) (e : p = n * q + t) : Int.gcd q t = 1 := by
  rw [e, Int.add_comm, Int.gcd_add_mul_right_left, Int.gcd_comm] at g
  exact g
theorem gcd_dvd {a b : Int} (d : a ∣ b) : Int.gcd a b = a.natAbs := by
  unfold Int.gcd
  exact Nat.gcd_eq_left (Int.natAbs_dvd_natAbs.mpr d)
theorem up_neg : ∀ (N : Nat) (p q : Int), q.toNat ≤ N → 0 < q → Int.gcd p q = 1 → up (-p) q = up p q
  | 0, p, q, h, hq, _ => by omega
  | N + 1, p, q, h, hq, g => by
    obtain ⟨k1, k2⟩ := near (p := p) hq
    obtain ⟨n, hn⟩ : ∃ n, n = (2 * p + q) / (2 * q) := ⟨_, rfl⟩
    rw [← hn] at k1 k2
    obtain ⟨t, ht⟩ : ∃ t, t = p - n * q := ⟨_, rfl⟩
    rw [← ht] at k1 k2
    have e : p = n * q + t := by omega
    have gt := gcd_near g e
    have e1 := up_eq hq e k1 k2
    by_cases tie : 2 * t = -q
    · have q2 : q = 2 ∧ t = -1 := by
        have d : t ∣ q := ⟨-2, by omega⟩
        have gg : Int.gcd q t = t.natAbs := by
          rw [Int.gcd_comm]
          exact gcd_dvd d
        rw [gt] at gg
        omega
      obtain ⟨rfl, rfl⟩ := q2
      rw [e1, up_eq (p := -p) (n := -n + 1) (t := -1) hq (by rw [Int.add_mul]; omega) (by decide) (by decide)]
    · have e2 := up_eq (p := -p) (n := -n) (t := -t) hq (by rw [Int.neg_mul]; omega) (by omega) (by omega)
      rw [e1, e2]
      rcases Int.lt_trichotomy t 0 with k | k | k
      · rw [if_neg (by omega), if_pos k]
        have := up_neg N q (-t) (by omega) (by omega) (by rw [Int.gcd_neg]; exact gt)
        rw [this]
      · subst k
        rfl
      · rw [if_pos (by omega), if_neg (by omega), Int.neg_neg]
        have := up_neg N q t (by omega) k gt
        rw [this]
/-- below one half: turning -/
theorem up_turn {p q : Int} (hp : 0 < p) (h : 2 * p ≤ q) (g : Int.gcd p q = 1) : up p q = 1 + up q p := by
  by_cases e : 2 * p = q
  · have d : p ∣ q := ⟨2, by omega⟩
    have gg : Int.gcd p q = p.natAbs := gcd_dvd d
    rw [g] at gg
    have p1 : p = 1 := by omega
    have q2 : q = 2 := by omega
    subst p1
    subst q2
    rw [up_eq (p := 1) (q := 2) (n := 1) (t := -1) (by decide) (by decide) (by decide) (by decide)]
    rfl
  · rw [up_eq (n := 0) (t := p) (by omega) (by omega) (by omega) (by omega), if_neg (by omega)]
/-- the lesser parent r / s, the greater one the rest -/
structure Par (p q r s : Int) : Prop where
  hs : 1 ≤ s
  hq : s < q
  d : p * s - q * r = 1
theorem Par.gcd1 {p q r s : Int} (h : Par p q r s) : Int.gcd p q = 1 := cop_cross (p := p) (q := q) (r := r) (t := s) (.inl h.d)
theorem Par.gcd2 {p q r s : Int} (h : Par p q r s) : Int.gcd r s = 1 := cop_cross (p := r) (q := s) (r := p) (t := q) (.inr (by have := h.d; rw [Int.mul_comm r q, Int.mul_comm s p]; omega))
theorem Par.d2 {p q r s : Int} (h : Par p q r s) : (p - r) * q - p * (q - s) = 1 := by
  have := h.d
  rw [Int.sub_mul, Int.mul_sub, Int.mul_comm r q]
  omega
theorem Par.d3 {p q r s : Int} (h : Par p q r s) : (p - r) * s - r * (q - s) = 1 := by
  have := h.d
  rw [Int.sub_mul, Int.mul_sub, Int.mul_comm r q]
  omega
theorem Par.gcd3 {p q r s : Int} (h : Par p q r s) : Int.gcd (p - r) (q - s) = 1 := cop_cross (p := p - r) (q := q - s) (r := r) (t := s) (.inl (by have := h.d3; rw [Int.mul_comm (q - s) r]; exact this))
/-- the lesser one of the parents' -/
def upPar (p q r s : Int) : Nat := 1 + min (up r s) (up (p - r) (q - s))
theorem up_ge {p q : Int} (hq : 0 < q) : 1 ≤ up p q := by
  obtain ⟨k1, k2⟩ := near (p := p) hq
  rw [up_eq (p := p) (n := (2 * p + q) / (2 * q)) hq (show p = (2 * p + q) / (2 * q) * q + (p - (2 * p + q) / (2 * q) * q) by omega) k1 k2]
  split <;> omega
theorem up_par : ∀ (N : Nat) (p q r s : Int), q.toNat ≤ N → Par p q r s → up p q = upPar p q r s
  | 0, p, q, r, s, h, P => by have := P.hs; have := P.hq; omega
  | N + 1, p, q, r, s, h, P => by
    have hs := P.hs
    have hq := P.hq
    have d := P.d
    -- 0 < 2 p ≤ q first
    have low : ∀ (p r s : Int), Par p q r s → 0 < p → 2 * p ≤ q → up p q = upPar p q r s := fun p r s P hp h2 => by
      have hs := P.hs
      have hq := P.hq
      have d := P.d
      have d2 := P.d2
      have d3 := P.d3
      have g := P.gcd1
      have t1 := up_turn hp h2 g
      by_cases p1 : p = 1
      · subst p1
        have r0 : r = 0 := by
          have : q * r = s - 1 := by omega
          by_cases z : 1 ≤ r
          · have : q * 1 ≤ q * r := Int.mul_le_mul_of_nonneg_left z (by omega)
            omega
          · by_cases z2 : r ≤ -1
            · have : q * r ≤ q * (-1) := Int.mul_le_mul_of_nonneg_left z2 (by omega)
              omega
            · omega
        subst r0
        have s1 : s = 1 := by omega
        subst s1
        have k := up_ge (p := 1 - 0) (q := q - 1) (by omega)
        unfold upPar
        rw [t1, up_int, up_int]
        omega
      · -- r ≥ 1
        have hr : 1 ≤ r := by
          apply Int.not_lt.mp
          intro z
          have a1 : q * r ≤ q * 0 := Int.mul_le_mul_of_nonneg_left (by omega) (by omega)
          have a2 : 2 * s ≤ p * s := Int.mul_le_mul_of_nonneg_right (by omega) (by omega)
          omega
        have hrp : r < p := by
          apply Int.not_le.mp
          intro z
          have a1 : q * p ≤ q * r := Int.mul_le_mul_of_nonneg_left z (by omega)
          have a2 : p * s ≤ p * q := Int.mul_le_mul_of_nonneg_left (by omega) (by omega)
          rw [Int.mul_comm q p] at a1
          omega
        have Q : Par q p (q - s) (p - r) := ⟨by omega, by omega, by have := d2; rw [Int.mul_comm q]; omega⟩
        have ih := up_par N q p (q - s) (p - r) (by omega) Q
        -- the parents are up to one half
        have u1 : 2 * r ≤ s := by
          have a1 : 2 * (p * s) ≤ q * s := by
            have : 2 * p * s ≤ q * s := Int.mul_le_mul_of_nonneg_right h2 (by omega)
            rw [Int.mul_assoc] at this
            exact this
          have a2 : q * (2 * r) < q * (s + 1) := by
            rw [Int.mul_left_comm, Int.mul_add]
            omega
          have := Int.lt_of_mul_lt_mul_left a2 (by omega)
          omega
        have u2 : 2 * (p - r) ≤ q - s := by
          apply Int.not_lt.mp
          intro z
          by_cases e : 2 * p = q
          · have dd : p ∣ q := ⟨2, by omega⟩
            have gg : Int.gcd p q = p.natAbs := gcd_dvd dd
            rw [g] at gg
            omega
          · have m := (mid_least (l1 := p) (l2 := q) (r1 := p - r) (r2 := q - s) (x := 1) (y := 2) (by rw [Int.mul_comm p] at d2; rw [Int.mul_comm p]; exact d2) (by omega) (by omega) (by omega) (by omega)).1
            omega
        have t2 := up_turn (p := r) (q := s) (by omega) u1 P.gcd2
        have t3 := up_turn (p := p - r) (q := q - s) (by omega) u2 P.gcd3
        unfold upPar at ih ⊢
        rw [t1, ih, t2, t3, show q - (q - s) = s by omega, show p - (p - r) = r by omega]
        omega
    obtain ⟨k1, k2⟩ := near (p := p) (q := q) (by omega)
    obtain ⟨n, hn⟩ : ∃ n, n = (2 * p + q) / (2 * q) := ⟨_, rfl⟩
    rw [← hn] at k1 k2
    obtain ⟨t, ht⟩ : ∃ t, t = p - n * q := ⟨_, rfl⟩
    rw [← ht] at k1 k2
    have e : p = t + n * q := by omega
    have er : r = (r - n * s) + n * s := by omega
    have Pt : Par t q (r - n * s) s := by
      refine ⟨hs, hq, ?_⟩
      have a1 : t * s = p * s - n * q * s := by rw [ht, Int.sub_mul]
      have a2 : q * (r - n * s) = q * r - n * q * s := by rw [Int.mul_sub, ← Int.mul_assoc, Int.mul_comm q n]
      omega
    have s1 : up p q = up t q := by rw [e, up_shift t n (by omega)]
    have s2 : upPar p q r s = upPar t q (r - n * s) s := by
      unfold upPar
      have b1 : up r s = up (r - n * s) s := by
        have := up_shift (r - n * s) n (q := s) (by omega)
        rw [show r - n * s + n * s = r by omega] at this
        exact this
      have b2 : up (p - r) (q - s) = up (t - (r - n * s)) (q - s) := by
        have := up_shift (t - (r - n * s)) n (q := q - s) (by omega)
        rw [show t - (r - n * s) + n * (q - s) = p - r by rw [Int.mul_sub]; omega] at this
        exact this
      rw [b1, b2]
    rw [s1, s2]
    generalize r - n * s = r' at *
    have gt := Pt.gcd1
    rcases Int.lt_trichotomy t 0 with z | z | z
    · have Pn : Par (-t) q (-(t - r')) (q - s) := by
        refine ⟨by omega, by omega, ?_⟩
        have := Pt.d2
        rw [Int.neg_mul, Int.mul_neg, Int.mul_comm q (t - r')]
        omega
      have l := low _ _ _ Pn (by omega) (by omega)
      have n1 := up_neg q.toNat t q (Nat.le_refl _) (by omega) gt
      have n2 := up_neg (q - s).toNat (t - r') (q - s) (Nat.le_refl _) (by omega) Pt.gcd3
      have n3 := up_neg s.toNat r' s (Nat.le_refl _) (by omega) Pt.gcd2
      unfold upPar at l ⊢
      rw [n1, n2, show -t - -(t - r') = -r' by omega, show q - (q - s) = s by omega, n3] at l
      rw [l]
      omega
    · subst z
      have : Int.gcd 0 q = q.natAbs := by simp
      rw [gt] at this
      omega
    · exact low _ _ _ Pt z (by omega)
/-- the way up: over the lesser parent where both are as good -/
inductive Way : Int → Int → List (Int × Int) → Prop
  | top : Way 1 0 [(1, 0)]
  | one (p : Int) : Way p 1 [(p, 1), (1, 0)]
  | step {p q r s : Int} {l m : List (Int × Int)} (h : Par p q r s) (a : Way r s l) (b : Way (p - r) (q - s) m) : Way p q ((p, q) :: if m.length < l.length then m else l)
theorem Way.len {p q : Int} {l : List (Int × Int)} (h : Way p q l) : l.length = up p q + 1 := by
  induction h with
  | top => rfl
  | one p => rw [up_int]; rfl
  | step P a b iha ihb =>
    rename_i p q r s l m
    rw [up_par q.toNat p q r s (Nat.le_refl _) P]
    unfold upPar
    rw [List.length_cons]
    split <;> omega
theorem Par.uniq {p q r s r' s' : Int} (h : Par p q r s) (g : Par p q r' s') : r = r' ∧ s = s' := by
  have d1 := h.d
  have d2 := g.d
  have e : q * (r - r') = p * (s - s') := by rw [Int.mul_sub, Int.mul_sub]; omega
  have dv : q ∣ s - s' := dvd_cop (b := p) ⟨r - r', e.symm⟩ (by rw [Int.gcd_comm]; exact h.gcd1)
  obtain ⟨k, hk⟩ := dv
  have b1 := h.hs
  have b2 := h.hq
  have b3 := g.hs
  have b4 := g.hq
  have k0 : k = 0 := by
    by_cases z : 1 ≤ k
    · have : q * 1 ≤ q * k := Int.mul_le_mul_of_nonneg_left z (by omega)
      omega
    · by_cases z2 : k ≤ -1
      · have : q * k ≤ q * (-1) := Int.mul_le_mul_of_nonneg_left z2 (by omega)
        omega
      · omega
  subst k0
  have ss : s = s' := by omega
  subst ss
  refine ⟨?_, rfl⟩
  have : q * r = q * r' := by omega
  exact Int.eq_of_mul_eq_mul_left (by omega) this
theorem Way.uniq {p q : Int} {l : List (Int × Int)} (h : Way p q l) : ∀ {m : List (Int × Int)}, Way p q m → l = m := by
  induction h with
  | top =>
    intro m g
    cases g with
    | top => rfl
    | step P a b => have := P.hs; have := P.hq; omega
  | one p =>
    intro m g
    cases g with
    | one => rfl
    | step P a b => have := P.hs; have := P.hq; omega
  | step P a b iha ihb =>
    intro m g
    cases g with
    | top => have := P.hs; have := P.hq; omega
    | one => have := P.hs; have := P.hq; omega
    | step P' a' b' =>
      obtain ⟨e1, e2⟩ := P.uniq P'
      subst e1
      subst e2
      rw [iha a', ihb b']
theorem par_ex {p q : Int} (hq : 2 ≤ q) (g : Int.gcd p q = 1) : ∃ r s, Par p q r s := by
  obtain ⟨s, r, h1, h2, h3⟩ := inv_at hq g
  exact ⟨r, s, h1, h2, h3⟩
theorem way_ex : ∀ (N : Nat) (p q : Int), q.toNat ≤ N → 0 ≤ q → (q = 0 → p = 1) → Int.gcd p q = 1 → ∃ l, Way p q l
  | N, p, q, h, h0, ht, g => by
    by_cases z : q = 0
    · rw [z, ht z]
      exact ⟨_, .top⟩
    · by_cases z1 : q = 1
      · rw [z1]
        exact ⟨_, .one p⟩
      · cases N with
        | zero => omega
        | succ N =>
          obtain ⟨r, s, P⟩ := par_ex (p := p) (q := q) (by omega) g
          have := P.hs
          have := P.hq
          obtain ⟨l, hl⟩ := way_ex N r s (by omega) (by omega) (by omega) P.gcd2
          obtain ⟨m, hm⟩ := way_ex N (p - r) (q - s) (by omega) (by omega) (by omega) P.gcd3
          exact ⟨_, .step P hl hm⟩
end FM

namespace FM
/-- P / Q lies between the parents of a / b -/
structure Cone (P Q a b : Int) : Prop where
  b1 : 1 ≤ b
  bQ : b ≤ Q
  g : Int.gcd a b = 1
  one : b = 1 → (a - 1) * Q < P ∧ P < (a + 1) * Q
  two : ∀ r s, Par a b r s → r * Q < P * s ∧ P * (b - s) < (a - r) * Q
theorem cone_self {P Q : Int} (hQ : 1 ≤ Q) (g : Int.gcd P Q = 1) : Cone P Q P Q := by
  refine ⟨hQ, Int.le_refl _, g, fun h => ?_, fun r s p => ?_⟩
  · subst h; omega
  · have := p.d
    have := p.d2
    rw [Int.mul_comm r Q]
    omega
theorem par_two {a b : Int} (g : Int.gcd a b = 1) (hb : 2 ≤ b) : ∃ r s, Par a b r s := par_ex hb g
/-- between neighbours there is no smaller denominator -/
theorem no_small {l1 l2 r1 r2 x y : Int} (d : r1 * l2 - l1 * r2 = 1) (h1 : 1 ≤ l2) (h2 : 1 ≤ r2) (hl : l1 * y < x * l2) (hr : x * r2 < r1 * y) : l2 + r2 ≤ y :=
  (mid_least (l1 := l1) (l2 := l2) (r1 := r1) (r2 := r2) (x := x) (y := y) d h1 (by omega) (by omega) (by omega)).1
theorem cone_lo {P Q a b r s : Int} (hQ : 1 ≤ Q) (c : Cone P Q a b) (p : Par a b r s) : Cone P Q r s := by
  obtain ⟨c1, c2⟩ := c.two r s p
  have hs := p.hs
  have hq := p.hq
  have d3 := p.d3
  have bQ := c.bQ
  refine ⟨hs, by omega, p.gcd2, fun h => ?_, fun r1 s1 p1 => ?_⟩
  · subst h
    have e1 : (r - 1) * Q = r * Q - Q := by rw [Int.sub_mul, Int.one_mul]
    have e2 : (r + 1) * Q = r * Q + Q := by rw [Int.add_mul, Int.one_mul]
    refine ⟨by omega, ?_⟩
    -- P / Q < u / v ≤ r + 1
    generalize hu : a - r = u at *
    generalize hv : b - 1 = v at *
    have v1 : 1 ≤ v := by omega
    have e3 : u = r * v + 1 := by omega
    have m : u * Q ≤ (r + 1) * Q * v := by
      have : u * Q ≤ ((r + 1) * v) * Q := Int.mul_le_mul_of_nonneg_right (by rw [Int.add_mul]; omega) (by omega)
      rw [Int.mul_right_comm] at this
      exact this
    exact Int.lt_of_mul_lt_mul_right (Int.lt_of_lt_of_le c2 m) (by omega)
  · have d1 := p1.d
    have h1s := p1.hs
    have h1q := p1.hq
    have d12 := p1.d2
    refine ⟨?_, ?_⟩
    · exact le_lt (x1 := r1) (y1 := s1) (x2 := r) (y2 := s) (x3 := P) (y3 := Q) (by omega) (by omega) (by omega) (by rw [Int.mul_comm r1]; omega) c1
    · apply Int.not_le.mp
      intro z
      -- (r - r1) / (s - s1) ≤ P / Q < u / v : between r / s and u / v
      have k : (r - r1) * (b - s) < (a - r) * (s - s1) := le_lt (x1 := r - r1) (y1 := s - s1) (x2 := P) (y2 := Q) (x3 := a - r) (y3 := b - s) (by omega) (by omega) (by omega) (by rw [Int.mul_comm P] at z; rw [Int.mul_comm P]; exact z) c2
      have := no_small (l1 := r) (l2 := s) (r1 := a - r) (r2 := b - s) (x := r - r1) (y := s - s1) d3 (by omega) (by omega) (by omega) k
      omega
theorem cone_hi {P Q a b r s : Int} (hQ : 1 ≤ Q) (c : Cone P Q a b) (p : Par a b r s) : Cone P Q (a - r) (b - s) := by
  obtain ⟨c1, c2⟩ := c.two r s p
  have hs := p.hs
  have hq := p.hq
  have d3 := p.d3
  have bQ := c.bQ
  have g3 := p.gcd3
  generalize a - r = u at *
  generalize hv : b - s = v at *
  have v1 : 1 ≤ v := by omega
  refine ⟨v1, by omega, g3, fun h => ?_, fun u1 w1 p1 => ?_⟩
  · subst h
    have e1 : (u - 1) * Q = u * Q - Q := by rw [Int.sub_mul, Int.one_mul]
    have e2 : (u + 1) * Q = u * Q + Q := by rw [Int.add_mul, Int.one_mul]
    refine ⟨?_, by omega⟩
    have e3 : r = u * s - 1 := by omega
    have m : (u - 1) * Q * s ≤ r * Q := by
      have : ((u - 1) * s) * Q ≤ r * Q := Int.mul_le_mul_of_nonneg_right (by rw [Int.sub_mul]; omega) (by omega)
      rw [Int.mul_right_comm] at this
      exact this
    exact Int.lt_of_mul_lt_mul_right (Int.lt_of_le_of_lt m c1) (by omega)
  · have d1 := p1.d
    have h1s := p1.hs
    have h1q := p1.hq
    have d12 := p1.d2
    refine ⟨?_, ?_⟩
    · apply Int.not_le.mp
      intro z
      have k : r * w1 < u1 * s := lt_le (x1 := r) (y1 := s) (x2 := P) (y2 := Q) (x3 := u1) (y3 := w1) (by omega) (by omega) (by omega) c1 z
      have := no_small (l1 := r) (l2 := s) (r1 := u) (r2 := v) (x := u1) (y := w1) d3 (by omega) (by omega) k (by rw [Int.mul_comm u1]; omega)
      omega
    · exact lt_le (x1 := P) (y1 := Q) (x2 := u) (y2 := v) (x3 := u - u1) (y3 := v - w1) (by omega) (by omega) (by omega) c2 (by omega)
theorem cone_uniq_lt {P Q a c b : Int} (hQ : 1 ≤ Q) (h : Cone P Q a b) (k : Cone P Q c b) (hb : 2 ≤ b) (lt : a < c) : False := by
  obtain ⟨r, s, p⟩ := par_two h.g hb
  obtain ⟨r', s', p'⟩ := par_two k.g hb
  obtain ⟨_, c2⟩ := h.two r s p
  obtain ⟨c1, _⟩ := k.two r' s' p'
  have hs := p.hs
  have hq := p.hq
  have d2 := p.d2
  have hs' := p'.hs
  have hq' := p'.hq
  have d' := p'.d
  generalize a - r = u at *
  generalize hv : b - s = v at *
  have v1 : 1 ≤ v := by omega
  -- u / v < c / b
  have k1 : u * b < c * v := by
    rcases Int.lt_trichotomy (u * b) (c * v) with z | z | z
    · exact z
    · exfalso
      have dv : b ∣ v := dvd_cop (a := b) (b := c) (c := v) ⟨u, by rw [← z, Int.mul_comm]⟩ (by rw [Int.gcd_comm]; exact k.g)
      have := Int.le_of_dvd (by omega) dv
      omega
    · exfalso
      have m : a * b < c * b := Int.mul_lt_mul_of_pos_right lt (by omega)
      have := no_small (l1 := a) (l2 := b) (r1 := u) (r2 := v) (x := c) (y := b) d2 (by omega) (by omega) m z
      omega
  -- r' / s' < P / Q < u / v
  have k2 : r' * v < u * s' := lt_le (x1 := r') (y1 := s') (x2 := P) (y2 := Q) (x3 := u) (y3 := v) (by omega) (by omega) (by omega) c1 (by omega)
  have := no_small (l1 := r') (l2 := s') (r1 := c) (r2 := b) (x := u) (y := v) (by rw [Int.mul_comm r']; exact d') (by omega) (by omega) k2 (by omega)
  omega
theorem cone_uniq {P Q a c b : Int} (hQ : 1 ≤ Q) (h : Cone P Q a b) (k : Cone P Q c b) (hb : 2 ≤ b) : a = c := by
  rcases Int.lt_trichotomy a c with z | z | z
  · exact (cone_uniq_lt hQ h k hb z).elim
  · exact z
  · exact (cone_uniq_lt hQ k h hb z).elim
theorem nodup_le : ∀ (n : Nat) (l : List Nat), l.Nodup → (∀ x ∈ l, x < n) → l.length ≤ n
  | 0, l, _, h => by
    cases l with
    | nil => exact Nat.le_refl _
    | cons a l => exact absurd (h a List.mem_cons_self) (by omega)
  | n + 1, l, hn, h => by
    by_cases m : n ∈ l
    · have e := List.length_erase_of_mem m
      have ih := nodup_le n (l.erase n) (hn.erase n) fun x hx => by
        have hx' := (List.Nodup.mem_erase_iff hn).mp hx
        have := h x hx'.2
        have := hx'.1
        omega
      omega
    · have ih := nodup_le n l hn fun x hx => by
        have := h x hx
        have : x ≠ n := fun e => m (e ▸ hx)
        omega
      omega
/-- a number of its own for each -/
def keyC (P Q : Int) (x : Int × Int) : Nat := if x.2 = 1 then (if x.1 * Q ≤ P then 0 else 1) else x.2.toNat
theorem cone_len {P Q : Int} (hQ : 1 ≤ Q) {l : List (Int × Int)} (hn : l.Nodup) (h : ∀ x ∈ l, Cone P Q x.1 x.2) : l.length ≤ Q.toNat + 1 := by
  have inj : ∀ x ∈ l, ∀ y ∈ l, keyC P Q x = keyC P Q y → x = y := fun x hx y hy e => by
    obtain ⟨a, b⟩ := x
    obtain ⟨c, d⟩ := y
    have hc := h _ hx
    have hd := h _ hy
    simp only at hc hd
    unfold keyC at e
    simp only at e
    have b1 := hc.b1
    have d1 := hd.b1
    by_cases zb : b = 1
    · by_cases zd : d = 1
      · subst zb
        subst zd
        rw [if_pos rfl, if_pos rfl] at e
        obtain ⟨x1, x2⟩ := hc.one rfl
        obtain ⟨y1, y2⟩ := hd.one rfl
        have up1 : ∀ u v : Int, (u - 1) * Q < P → P < (v + 1) * Q → u - 1 < v + 1 := fun u v h1 h2 => Int.lt_of_mul_lt_mul_right (Int.lt_trans h1 h2) (by omega)
        have q1 := up1 a c x1 y2
        have q2 := up1 c a y1 x2
        have ac : a = c := by
          rcases Int.lt_trichotomy a c with z | z | z
          · exfalso
            have c1 : c = a + 1 := by omega
            subst c1
            have t1 : ¬ ((a + 1) * Q ≤ P) := by omega
            rw [if_neg t1] at e
            have t2 : a * Q ≤ P := by
              rw [show a + 1 - 1 = a by omega] at y1
              omega
            rw [if_pos t2] at e
            omega
          · exact z
          · exfalso
            have c1 : a = c + 1 := by omega
            subst c1
            have t1 : ¬ ((c + 1) * Q ≤ P) := by omega
            rw [if_neg t1] at e
            have t2 : c * Q ≤ P := by
              rw [show c + 1 - 1 = c by omega] at x1
              omega
            rw [if_pos t2] at e
            omega
        rw [ac]
      · rw [if_pos zb, if_neg zd] at e
        split at e <;> omega
    · by_cases zd : d = 1
      · rw [if_neg zb, if_pos zd] at e
        split at e <;> omega
      · rw [if_neg zb, if_neg zd] at e
        have bd : b = d := by omega
        subst bd
        rw [cone_uniq hQ hc hd (by omega)]
  have nd : (l.map (keyC P Q)).Nodup := by
    have : ∀ m : List (Int × Int), m.Nodup → (∀ x ∈ m, x ∈ l) → (m.map (keyC P Q)).Nodup := by
      intro m
      induction m with
      | nil => intro _ _; exact List.nodup_nil
      | cons x m ih =>
        intro hm hs
        rw [List.nodup_cons] at hm
        rw [List.map_cons, List.nodup_cons]
        refine ⟨fun hx => ?_, ih hm.2 fun y hy => hs y (List.mem_cons_of_mem _ hy)⟩
        obtain ⟨y, hy, e⟩ := List.mem_map.mp hx
        have := inj y (hs y (List.mem_cons_of_mem _ hy)) x (hs x List.mem_cons_self) e
        subst this
        exact hm.1 hy
    exact this l hn fun _ h => h
  have := nodup_le (Q.toNat + 1) (l.map (keyC P Q)) nd fun k hk => by
    obtain ⟨x, hx, rfl⟩ := List.mem_map.mp hk
    have hc := h x hx
    have b1 := hc.b1
    have bQ := hc.bQ
    unfold keyC
    split
    · split <;> omega
    · omega
  rw [List.length_map] at this
  exact this
/-- the numerators -/
theorem cone_num {P Q a b : Int} (hQ : 1 ≤ Q) (c : Cone P Q a b) : (a.natAbs : Int) ≤ P.natAbs + 1 := by
  have b1 := c.b1
  have bQ := c.bQ
  have pQ : (P.natAbs : Int) * b ≤ P.natAbs * Q := Int.mul_le_mul_of_nonneg_left bQ (by omega)
  have pq1 : P * b ≤ P.natAbs * b := Int.mul_le_mul_of_nonneg_right (by omega) (by omega)
  have pq2 : -(P.natAbs * b) ≤ P * b := by
    rw [← Int.neg_mul]
    exact Int.mul_le_mul_of_nonneg_right (by omega) (by omega)
  have fin : a * Q ≤ Q + P * b → -Q + P * b ≤ a * Q → (a.natAbs : Int) ≤ P.natAbs + 1 := fun h1 h2 => by
    have u1 : a * Q ≤ (P.natAbs + 1) * Q := by rw [Int.add_mul, Int.one_mul]; omega
    have u2 : -(P.natAbs + 1) * Q ≤ a * Q := by rw [Int.neg_mul, Int.add_mul, Int.one_mul]; omega
    have := Int.le_of_mul_le_mul_right u1 (by omega)
    have := Int.le_of_mul_le_mul_right u2 (by omega)
    omega
  by_cases z : b = 1
  · obtain ⟨k1, k2⟩ := c.one z
    rw [Int.sub_mul, Int.one_mul] at k1
    rw [Int.add_mul, Int.one_mul] at k2
    subst z
    exact fin (by omega) (by omega)
  · obtain ⟨r, s, p⟩ := par_two c.g (by omega)
    obtain ⟨k1, k2⟩ := c.two r s p
    have hs := p.hs
    have hq := p.hq
    have d := p.d
    have d2 := p.d2
    apply fin
    · -- a Q s = Q + b r Q < Q + b P s
      have e1 : a * Q * s = Q + b * (r * Q) := by
        have : (a * s) * Q = (1 + b * r) * Q := by rw [show a * s = 1 + b * r by omega]
        rw [Int.mul_right_comm, this, Int.add_mul, Int.one_mul, Int.mul_assoc]
      have e2 : b * (r * Q) ≤ b * (P * s) := Int.mul_le_mul_of_nonneg_left (by omega) (by omega)
      have e3 : (Q + P * b) * s = Q * s + b * (P * s) := by rw [Int.add_mul, Int.mul_comm P b, Int.mul_assoc]
      have e4 : Q * 1 ≤ Q * s := Int.mul_le_mul_of_nonneg_left hs (by omega)
      exact Int.le_of_mul_le_mul_right (a := s) (by rw [e1, e3]; omega) (by omega)
    · have hv : 1 ≤ b - s := by omega
      generalize b - s = v at *
      generalize a - r = u at *
      have e1 : a * Q * v = b * (u * Q) - Q := by
        have : (a * v) * Q = (b * u - 1) * Q := by rw [show a * v = b * u - 1 by rw [Int.mul_comm b u]; omega]
        rw [Int.mul_right_comm, this, Int.sub_mul, Int.one_mul, Int.mul_assoc]
      have e2 : b * (P * v) ≤ b * (u * Q) := Int.mul_le_mul_of_nonneg_left (by omega) (by omega)
      have e3 : (-Q + P * b) * v = -(Q * v) + b * (P * v) := by rw [Int.add_mul, Int.neg_mul, Int.mul_comm P b, Int.mul_assoc]
      have e4 : Q * 1 ≤ Q * v := Int.mul_le_mul_of_nonneg_left hv (by omega)
      exact Int.le_of_mul_le_mul_right (a := v) (by rw [e1, e3]; omega) (by omega)
end FM

namespace FM
/-- a neighbour with a smaller denominator is a parent -/
theorem nb_par {p q r s x y : Int} (P : Par p q r s) (hy : 1 ≤ y) (hyq : y < q) (h : p * y - q * x = 1 ∨ p * y - q * x = -1) : (x = r ∧ y = s) ∨ (x = p - r ∧ y = q - s) := by
  rcases h with h | h
  · obtain ⟨e1, e2⟩ := P.uniq ⟨hy, hyq, h⟩
    exact .inl ⟨e1.symm, e2.symm⟩
  · have Q : Par p q (p - x) (q - y) := ⟨by omega, by omega, by rw [Int.mul_sub, Int.mul_sub, Int.mul_comm p q]; omega⟩
    obtain ⟨e1, e2⟩ := P.uniq Q
    exact .inr ⟨by omega, by omega⟩
/-- the parents' distances -/
theorem up_nb_par : ∀ (N : Nat) (p q r s : Int), q.toNat ≤ N → Par p q r s → up r s ≤ up (p - r) (q - s) + 1 ∧ up (p - r) (q - s) ≤ up r s + 1
  | 0, p, q, r, s, h, P => by have := P.hs; have := P.hq; omega
  | N + 1, p, q, r, s, h, P => by
    have hs := P.hs
    have hq := P.hq
    have d3 := P.d3
    have g2 := P.gcd2
    have g3 := P.gcd3
    have hv : 1 ≤ q - s := by omega
    generalize hu : p - r = u at *
    generalize hw : q - s = v at *
    rcases Int.lt_trichotomy s v with k | k | k
    · -- r / s is a parent of u / v
      obtain ⟨r1, s1, P1⟩ := par_ex (p := u) (q := v) (by omega) g3
      have e := up_par v.toNat u v r1 s1 (Nat.le_refl _) P1
      have ih := up_nb_par N u v r1 s1 (by omega) P1
      unfold upPar at e
      rcases nb_par P1 hs k (.inl (show u * s - v * r = 1 by rw [Int.mul_comm v r]; exact d3)) with ⟨e1, e2⟩ | ⟨e1, e2⟩
      · subst e1; subst e2; omega
      · rw [← e1, ← e2] at e ih; omega
    · subst k
      have : s = 1 := by
        have dv : s ∣ 1 := ⟨u - r, by rw [Int.mul_sub, Int.mul_comm s, Int.mul_comm s]; omega⟩
        have := Int.le_of_dvd (by decide) dv
        omega
      subst this
      rw [up_int, up_int]
      omega
    · obtain ⟨r1, s1, P1⟩ := par_ex (p := r) (q := s) (by omega) g2
      have e := up_par s.toNat r s r1 s1 (Nat.le_refl _) P1
      have ih := up_nb_par N r s r1 s1 (by omega) P1
      unfold upPar at e
      rcases nb_par P1 hv k (.inr (show r * v - s * u = -1 by rw [Int.mul_comm s u]; omega)) with ⟨e1, e2⟩ | ⟨e1, e2⟩
      · subst e1; subst e2; omega
      · rw [← e1, ← e2] at e ih; omega
theorem up_nb_lt {p q x y : Int} (hx : Int.gcd x y = 1) (h0 : 0 ≤ y) (ht : y = 0 → x = 1) (hyq : y < q) (h : p * y - q * x = 1 ∨ p * y - q * x = -1) : up p q ≤ up x y + 1 ∧ up x y ≤ up p q := by
  by_cases z : y = 0
  · have x1 := ht z
    subst z
    subst x1
    have q1 : q = 1 := by omega
    subst q1
    rw [up_int, up_zero]
    omega
  · have g : Int.gcd p q = 1 := by
      rcases h with h | h
      · exact cop_cross (p := p) (q := q) (r := x) (t := y) (.inl h)
      · exact cop_cross (p := p) (q := q) (r := x) (t := y) (.inr h)
    obtain ⟨r, s, P⟩ := par_ex (p := p) (q := q) (by omega) g
    have e := up_par q.toNat p q r s (Nat.le_refl _) P
    have n := up_nb_par q.toNat p q r s (Nat.le_refl _) P
    unfold upPar at e
    rcases nb_par P (by omega) hyq h with ⟨e1, e2⟩ | ⟨e1, e2⟩
    · subst e1; subst e2; omega
    · rw [← e1, ← e2] at e n; omega
/-- neighbours -/
theorem up_nb {p q x y : Int} (g1 : Int.gcd p q = 1) (q0 : 0 ≤ q) (t1 : q = 0 → p = 1) (g2 : Int.gcd x y = 1) (y0 : 0 ≤ y) (t2 : y = 0 → x = 1) (h : p * y - q * x = 1 ∨ p * y - q * x = -1) : up p q ≤ up x y + 1 := by
  rcases Int.lt_trichotomy y q with k | k | k
  · exact (up_nb_lt g2 y0 t2 k h).1
  · subst k
    have e : y * (p - x) = 1 ∨ y * (p - x) = -1 := by rw [Int.mul_sub, Int.mul_comm y p]; exact h
    have dv : y ∣ 1 := by
      rcases e with e | e
      · exact ⟨p - x, e.symm⟩
      · exact ⟨-(p - x), by rw [Int.mul_neg]; omega⟩
    have l := Int.le_of_dvd (by decide) dv
    have y1 : y = 1 := by
      by_cases z : y = 0
      · rw [z, Int.zero_mul] at e
        omega
      · omega
    subst y1
    rw [up_int, up_int]
    omega
  · have := (up_nb_lt (p := x) (q := y) (x := p) (y := q) g1 q0 t1 k (by rw [Int.mul_comm x q, Int.mul_comm y p]; omega)).2
    omega
end FM

namespace DL
open PySem PySem.Spec PyProof.Rows L2

theorem wf_take {s g : Stt} (h : s.all (refsLt s.length) = true) : ((s ++ g).take s.length).all (refsLt s.length) = true := by
  rw [List.take_left]
  exact h
/-- a def that leaves the store alone and hands back data -/
theorem gc_d {n : Nat} {s : Stt} {d : D} (hn : n = s.length) (h : s.all (refsLt s.length) = true) : gcR n (.ok (.d d) s) = .ok (.d d) s := by
  subst hn
  unfold gcR
  simp only [List.take_length, h, if_true]
theorem gc_ex {n k : Nat} {s : Stt} (hn : n = s.length) (h : s.all (refsLt s.length) = true) : gcR n (.ex k s) = .ex k s := by
  subst hn
  unfold gcR
  simp only [List.take_length, h, if_true]

def isDict : D → Bool
  | .dict _ => true
  | _ => false
theorem kind_ok {s : Stt} {v : D} (h : isDict v = false) : ∃ k, kindOf s (.d v) = some k := by
  cases v <;> first | exact ⟨_, rfl⟩ | cases h
def isInt (v : D) (lo hi : Int) : Bool := match v with
  | .int i => decide (lo ≤ i) && decide (i ≤ hi)
  | _ => false
def F_p_is_integer (xs : List Sv) (s : Stt) : R Sv := match xs with
  | [.d v, .d (.int lo), .d (.int hi)] => if isDict v then .bad else .ok (.d (.bool (isInt v lo hi))) s
  | _ => .bad
def B_p_is_integer : SX := (bRet (sAnd (sUn (isiD "int") (sVar 0)) (sAnd (sNot (sUn (isiD "bool") (sVar 0))) (sChain (cmpD fun i j => decide (i ≤ j)) (cmpD fun i j => decide (i ≤ j)) (sVar 1) (sVar 0) (sVar 2)))))

theorem h_p_is_integer : Hok 3 3 B_p_is_integer F_p_is_integer := by
  intro xs s hw
  unfold F_p_is_integer
  split
  · rename_i v lo hi
    cases v with
    | dict => exact .inl rfl
    | int i =>
      refine .inr ⟨rfl, .inr ?_⟩
      simp [runB_ap, startE, B_p_is_integer, isDict, isInt]
    | _ =>
      refine .inr ⟨rfl, .inr ?_⟩
      simp [runB_ap, startE, B_p_is_integer, isDict, isInt]
  · exact .inl rfl

def gcdC : EX := sBin (cmpD fun i j => decide (j < i)) (sVar 1) (sC (.int 0))
def gcdB : SX := bPar 0 1 (sVar 1) (sBin modD (sVar 0) (sVar 1))
theorem wh_gcd {s : Stt} : ∀ (n a b : Nat), b < n → wh gcdC gcdB n [some (.d (.int (a : Int))), some (.d (.int (b : Int)))] s = .nx [some (.d (.int ((Nat.gcd a b : Nat) : Int))), some (.d (.int 0))] s
  | 0, a, b, h => by omega
  | n + 1, a, b, h => by
    rw [wh_succ]
    by_cases hb : b = 0
    · subst hb
      simp [gcdC]
    · have h1 : 0 < (b : Int) := by omega
      have ih := wh_gcd (s := s) n b (a % b) (by have := Nat.mod_lt a (Nat.pos_of_ne_zero hb); omega)
      have e : Nat.gcd b (a % b) = Nat.gcd a b := by rw [Nat.gcd_comm a b, Nat.gcd_rec b a, Nat.gcd_comm]
      rw [e, Int.natCast_emod] at ih
      simp [gcdC, gcdB, Nat.pos_of_ne_zero hb]
      exact ih
@[simp] theorem abs_max (a : Int) : (if a < -a then -a else a) = ((a.natAbs : Nat) : Int) := by
  split <;> omega
def F_p_common_divisor (xs : List Sv) (s : Stt) : R Sv := match xs with
  | [.d (.int a), .d (.int b)] => if b.natAbs < fuel then .ok (.d (.int ((Int.gcd a b : Nat) : Int))) s else .bad
  | _ => .bad
def B_p_common_divisor : SX := (bSeq (bPar 0 1 (sCB max2D (aCons (sVar 0) (aCons (sBin subD (sC (.int 0)) (sVar 0)) aNil))) (sCB max2D (aCons (sVar 1) (aCons (sBin subD (sC (.int 0)) (sVar 1)) aNil))))
  (bSeq (bWhile (sBin (cmpD fun i j => decide (j < i)) (sVar 1) (sC (.int 0)))
  (bPar 0 1 (sVar 1) (sBin modD (sVar 0) (sVar 1))))
  (bRet (sVar 0))))

theorem h_p_common_divisor : Hok 2 2 B_p_common_divisor F_p_common_divisor := by
  intro xs s hw
  unfold F_p_common_divisor
  split
  · rename_i a b
    by_cases h : b.natAbs < fuel
    · rw [if_pos h]
      refine .inr ⟨rfl, .inr ?_⟩
      have q := wh_gcd (s := s) fuel a.natAbs b.natAbs h
      unfold gcdC gcdB at q
      simp [runB_ap, startE, B_p_common_divisor, bWhile_ap, q, Int.gcd]
    · exact .inl (if_neg h)
  · exact .inl rfl
def F_l_common := F_p_common_divisor
def B_l_common : SX := (bSeq (bPar 0 1 (sCB max2D (aCons (sVar 0) (aCons (sBin subD (sC (.int 0)) (sVar 0)) aNil))) (sCB max2D (aCons (sVar 1) (aCons (sBin subD (sC (.int 0)) (sVar 1)) aNil))))
  (bSeq (bWhile (sBin (cmpD fun i j => decide (j < i)) (sVar 1) (sC (.int 0)))
  (bPar 0 1 (sVar 1) (sBin modD (sVar 0) (sVar 1))))
  (bRet (sVar 0))))

theorem h_l_common : Hok 2 2 B_l_common F_l_common := h_p_common_divisor

def redIn (x y : D) : Bool := match x, y with
  | .int p, .int q => (Int.gcd p q : Nat) == 1 && (decide (0 < q) || p == 1)
  | _, _ => false
def isRed (v : D) (l : Int) : Bool := match v with
  | .tuple [x, y] => isInt x (0 - l) l && isInt y 0 l && redIn x y
  | _ => false
/-- what may be asked -/
def askOk (v : D) : Bool := match v with
  | .dict _ => false
  | .tuple [x, y] => !isDict x && !isDict y
  | _ => true
def F_p_is_reduced (xs : List Sv) (s : Stt) : R Sv := match xs with
  | [.d v, .d (.int l)] => if askOk v && decide (l < (fuel : Int)) then .ok (.d (.bool (isRed v l))) s else .bad
  | _ => .bad
def B_p_is_reduced : SX := (bSeq (bIf (sOr (sNot (sUn (isiD "tuple") (sVar 0))) (sBin neD (sCB lenD (aCons (sVar 0) aNil)) (sC (.int 2))))
  (bRet (sC (.bool false)))
  bNext)
  (bSeq (bIf (sOr (sNot (sCall F_p_is_integer (aCons (sBin ixD (sVar 0) (sC (.int 0))) (aCons (sBin subD (sC (.int 0)) (sVar 1)) (aCons (sVar 1) aNil))))) (sNot (sCall F_p_is_integer (aCons (sBin ixD (sVar 0) (sC (.int 1))) (aCons (sC (.int 0)) (aCons (sVar 1) aNil))))))
  (bRet (sC (.bool false)))
  bNext)
  (bRet (sAnd (sBin eqD (sCall F_p_common_divisor (aCons (sBin ixD (sVar 0) (sC (.int 0))) (aCons (sBin ixD (sVar 0) (sC (.int 1))) aNil))) (sC (.int 1))) (sOr (sBin (cmpD fun i j => decide (j < i)) (sBin ixD (sVar 0) (sC (.int 1))) (sC (.int 0))) (sBin eqD (sBin ixD (sVar 0) (sC (.int 0))) (sC (.int 1))))))))

theorem h_p_is_reduced : Hok 2 2 B_p_is_reduced F_p_is_reduced := by
  intro xs s hw
  unfold F_p_is_reduced
  split
  · rename_i v l
    by_cases h : (askOk v && decide (l < (fuel : Int))) = true
    · rw [if_pos h]
      rw [Bool.and_eq_true] at h
      obtain ⟨h1, h2⟩ := h
      have h2 := of_decide_eq_true h2
      refine .inr ⟨rfl, .inr ?_⟩
      cases v with
      | dict => cases h1
      | tuple ds =>
        match ds with
        | [] => simp [runB_ap, startE, B_p_is_reduced, isRed]
        | [x] => simp [runB_ap, startE, B_p_is_reduced, isRed]
        | x :: y :: z :: r =>
          have e : ¬ ((r.length : Int) + 1 + 1 + 1 = 2) := by omega
          simp [runB_ap, startE, B_p_is_reduced, isRed, e]
        | [x, y] =>
          have hx : isDict x = false := by simp [askOk] at h1; exact h1.1
          have hy : isDict y = false := by simp [askOk] at h1; exact h1.2
          by_cases ex : isInt x (0 - l) l = true
          · by_cases ey : isInt y 0 l = true
            · obtain ⟨p, rfl⟩ : ∃ p, x = .int p := by
                cases x <;> first | exact ⟨_, rfl⟩ | cases ex
              obtain ⟨q, rfl⟩ : ∃ q, y = .int q := by
                cases y <;> first | exact ⟨_, rfl⟩ | cases ey
              have ex' : isInt (.int p) (-l) l = true := by rw [← Int.zero_sub]; exact ex
              have ey' := ey
              simp only [isInt, Bool.and_eq_true, decide_eq_true_eq] at ey'
              have hf : q.natAbs < fuel := by omega
              simp [runB_ap, startE, B_p_is_reduced, F_p_is_integer, F_p_common_divisor, isDict, hf, isRed, ex', ey, redIn]
              by_cases hg : Int.gcd p q = 1
              · rw [hg] <;> rfl
              · have hg' : ¬ ((Int.gcd p q : Nat) : Int) = 1 := by omega
                rw [show (((Int.gcd p q : Nat) : Int) == 1) = false from beq_eq_false_iff_ne.mpr hg', show (Int.gcd p q == 1) = false from beq_eq_false_iff_ne.mpr hg]
            · have ex' : isInt x (-l) l = true := by rw [← Int.zero_sub]; exact ex
              simp [runB_ap, startE, B_p_is_reduced, F_p_is_integer, hx, hy, ex', ey, isRed]
          · have ex' : isInt x (-l) l = false := by rw [← Int.zero_sub]; exact (Bool.not_eq_true _).mp ex
            simp [runB_ap, startE, B_p_is_reduced, F_p_is_integer, hx, ex', isRed]
      | _ => simp [runB_ap, startE, B_p_is_reduced, isRed]
    · exact .inl (if_neg h)
  · exact .inl rfl

def isFr (v : D) : Bool := isRed v 9999
def F_p_is_fraction (xs : List Sv) (s : Stt) : R Sv := match xs with
  | [.d v] => if askOk v then .ok (.d (.bool (isFr v))) s else .bad
  | _ => .bad
def B_p_is_fraction : SX := (bRet (sCall F_p_is_reduced (aCons (sVar 0) (aCons (sC (.int 9999)) aNil))))

theorem h_p_is_fraction : Hok 1 1 B_p_is_fraction F_p_is_fraction := by
  intro xs s hw
  unfold F_p_is_fraction
  split
  · rename_i v
    by_cases h : askOk v = true
    · rw [if_pos h]
      refine .inr ⟨rfl, .inr ?_⟩
      simp [runB_ap, startE, B_p_is_fraction, F_p_is_reduced, h, fuel, isFr]
    · exact .inl (if_neg h)
  · exact .inl rfl
def F_p_check_fraction (xs : List Sv) (s : Stt) : R Sv := match xs with
  | [.d v] => if askOk v then (if isFr v then .ok (.d .none) s else .ex 0 s) else .bad
  | _ => .bad
def B_p_check_fraction : SX := (bIf (sNot (sCall F_p_is_fraction (aCons (sVar 0) aNil)))
  (bRaise 0)
  bNext)

theorem h_p_check_fraction : Hok 1 1 B_p_check_fraction F_p_check_fraction := by
  intro xs s hw
  unfold F_p_check_fraction
  split
  · rename_i v
    by_cases h : askOk v = true
    · rw [if_pos h]
      refine .inr ⟨rfl, .inr ?_⟩
      by_cases hf : isFr v = true
      · simp [runB_ap, startE, B_p_check_fraction, F_p_is_fraction, h, hf]
      · simp [runB_ap, startE, B_p_check_fraction, F_p_is_fraction, h, hf]
    · exact .inl (if_neg h)
  · exact .inl rfl
def F_p_check_two (xs : List Sv) (s : Stt) : R Sv := match xs with
  | [.d u, .d v] => if askOk u && askOk v then (if isFr u then (if isFr v then .ok (.d .none) s else .ex 0 s) else .ex 0 s) else .bad
  | _ => .bad
def B_p_check_two : SX := (bSeq (bDrop (sCall F_p_check_fraction (aCons (sVar 0) aNil)))
  (bDrop (sCall F_p_check_fraction (aCons (sVar 1) aNil))))

theorem h_p_check_two : Hok 2 2 B_p_check_two F_p_check_two := by
  intro xs s hw
  unfold F_p_check_two
  split
  · rename_i u v
    by_cases h : (askOk u && askOk v) = true
    · rw [if_pos h]
      rw [Bool.and_eq_true] at h
      refine .inr ⟨rfl, .inr ?_⟩
      by_cases hf : isFr u = true
      · by_cases hg : isFr v = true
        · simp [runB_ap, startE, B_p_check_two, F_p_check_fraction, h, hf, hg]
        · simp [runB_ap, startE, B_p_check_two, F_p_check_fraction, h, hf, hg]
      · simp [runB_ap, startE, B_p_check_two, F_p_check_fraction, h, hf]
    · exact .inl (if_neg h)
  · exact .inl rfl
/-- a pair of ints -/
abbrev pr (p q : Int) : D := .tuple [.int p, .int q]
def F_p_cross (xs : List Sv) (s : Stt) : R Sv := match xs with
  | [.d (.tuple [.int a, .int b]), .d (.tuple [.int c, .int d])] => if mulOk a d && mulOk b c then .ok (.d (.int (a * d - b * c))) s else .bad
  | _ => .bad
def B_p_cross : SX := (bRet (sBin subD (sBin mulD (sBin ixD (sVar 0) (sC (.int 0))) (sBin ixD (sVar 1) (sC (.int 1)))) (sBin mulD (sBin ixD (sVar 0) (sC (.int 1))) (sBin ixD (sVar 1) (sC (.int 0))))))

theorem h_p_cross : Hok 2 2 B_p_cross F_p_cross := by
  intro xs s hw
  unfold F_p_cross
  split
  · rename_i a b c d
    by_cases h : (mulOk a d && mulOk b c) = true
    · rw [if_pos h]
      rw [Bool.and_eq_true] at h
      refine .inr ⟨rfl, .inr ?_⟩
      simp [runB_ap, startE, B_p_cross, h]
    · exact .inl (if_neg h)
  · exact .inl rfl
def F_p_less (xs : List Sv) (s : Stt) : R Sv := match xs with
  | [.d (.tuple [.int a, .int b]), .d (.tuple [.int c, .int d])] => if mulOk a d && mulOk b c then .ok (.d (.bool (decide (a * d - b * c < 0)))) s else .bad
  | _ => .bad
def B_p_less : SX := (bRet (sBin (cmpD fun i j => decide (i < j)) (sCall F_p_cross (aCons (sVar 0) (aCons (sVar 1) aNil))) (sC (.int 0))))

theorem h_p_less : Hok 2 2 B_p_less F_p_less := by
  intro xs s hw
  unfold F_p_less
  split
  · rename_i a b c d
    by_cases h : (mulOk a d && mulOk b c) = true
    · rw [if_pos h]
      rw [Bool.and_eq_true] at h
      refine .inr ⟨rfl, .inr ?_⟩
      simp [runB_ap, startE, B_p_less, F_p_cross, h]
    · exact .inl (if_neg h)
  · exact .inl rfl
/-- what a fraction is -/
theorem isFr_pr {p q : Int} : isFr (pr p q) = true ↔ -9999 ≤ p ∧ p ≤ 9999 ∧ 0 ≤ q ∧ q ≤ 9999 ∧ Int.gcd p q = 1 ∧ (0 < q ∨ p = 1) := by
  simp [isFr, isRed, isInt, redIn, and_assoc]
theorem isFr_ex {v : D} (h : isFr v = true) : ∃ p q, v = pr p q := by
  unfold isFr isRed at h
  split at h
  · rename_i x y
    cases x <;> cases y <;> simp_all [isInt, redIn]
  · cases h
theorem fr_mul {p q r t : Int} (h : isFr (pr p q) = true) : (mulOk p t && mulOk q r) = true := by
  have h := isFr_pr.mp h
  rw [mulOk_l (by omega), mulOk_l (by omega)]
  rfl
def F_p_is_less (xs : List Sv) (s : Stt) : R Sv := match xs with
  | [.d u, .d v] => if askOk u && askOk v then (if isFr u then (if isFr v then F_p_less [.d u, .d v] s else .ex 0 s) else .ex 0 s) else .bad
  | _ => .bad
def B_p_is_less : SX := (bSeq (bDrop (sCall F_p_check_two (aCons (sVar 0) (aCons (sVar 1) aNil))))
  (bRet (sCall F_p_less (aCons (sVar 0) (aCons (sVar 1) aNil)))))

theorem h_p_is_less : Hok 2 2 B_p_is_less F_p_is_less := by
  intro xs s hw
  unfold F_p_is_less
  split
  · rename_i u v
    by_cases h : (askOk u && askOk v) = true
    · rw [if_pos h]
      rw [Bool.and_eq_true] at h
      refine .inr ⟨rfl, .inr ?_⟩
      by_cases hf : isFr u = true
      · by_cases hg : isFr v = true
        · obtain ⟨p, q, rfl⟩ := isFr_ex hf
          obtain ⟨r, t, rfl⟩ := isFr_ex hg
          have hm := fr_mul (r := r) (t := t) hf
          rw [Bool.and_eq_true] at hm
          simp [runB_ap, startE, B_p_is_less, F_p_check_two, F_p_less, h, hf, hg, hm]
        · simp [runB_ap, startE, B_p_is_less, F_p_check_two, h, hf, hg]
      · simp [runB_ap, startE, B_p_is_less, F_p_check_two, h, hf]
    · exact .inl (if_neg h)
  · exact .inl rfl

def spareV (x : Int) : Nat → Int
  | 0 => x
  | n + 1 => spareV (x / 1000003) n
def cellV (ns : List Int) (k : Nat) : Int :=
  if k < ns.length then ns[k]?.getD 0 else if ns = [] then 0 else
    (ns[k % ns.length]?.getD 0) * 31 + (k : Int) + spareV (ns[k % ns.length]?.getD 0) (min (k / ns.length) 60) * 101
def F_l_cell_at (xs : List Sv) (s : Stt) : R Sv := match xs with
  | [.s ns, .d (.int (.ofNat k))] => if ns.length ≤ 63 ∧ k < 1000000000 then .ok (.d (.int (cellV ns k))) s else .bad
  | _ => .bad
def B_l_cell_at : SX := (bSeq (bIf (sBin (cmpD fun i j => decide (i < j)) (sVar 1) (sCB lenD (aCons (sVar 0) aNil)))
  (bRet (sBin ixD (sVar 0) (sVar 1)))
  bNext)
  (bSeq (bIf (sBin eqD (sVar 0) (sLst aNil))
  (bRet (sC (.int 0)))
  bNext)
  (bSeq (bSet 2 (sBin ixD (sVar 0) (sBin modD (sVar 1) (sCB lenD (aCons (sVar 0) aNil)))))
  (bSeq (bFor (iRange1 (sCB min2D (aCons (sBin fdivD (sVar 1) (sCB lenD (aCons (sVar 0) aNil))) (aCons (sC (.int 60)) aNil)))) (gN 3)
  (bSet 2 (sBin fdivD (sVar 2) (sC (.int 1000003)))))
  (bRet (sBin addD (sBin addD (sBin mulD (sBin ixD (sVar 0) (sBin modD (sVar 1) (sCB lenD (aCons (sVar 0) aNil)))) (sC (.int 31))) (sVar 1)) (sBin mulD (sVar 2) (sC (.int 101)))))))))

theorem at_ints {ns : List Int} {k : Nat} (h : k < ns.length) : atI (ns.map PyData.int) (k : Int) = some (.int (ns[k]?.getD 0)) := by
  refine atI_nat ?_
  rw [List.getElem?_map, List.getElem?_eq_getElem h]
  rfl
@[simp] theorem ixD_s {ns : List Int} {i : Int} {s : Stt} : ixD (.s ns) (.d (.int i)) s = atI (ns.map PyData.int) i := rfl
theorem shaped_ints (ns : List Int) : SeqAt.shaped (.list (ns.map PyData.int)) = true := by
  have h1 : ∀ l : List Int, PyData.canLayAll0 (l.map PyData.int) = true := by
    intro l
    induction l with
    | nil => rfl
    | cons a l ih => simpa [PyData.canLayAll0, PyData.canLay0] using ih
  have h2 : ∀ l : List Int, PyData.depthAll (l.map PyData.int) ≤ 0 := by
    intro l
    induction l with
    | nil => simp [PyData.depthAll]
    | cons a l ih => simpa [PyData.depthAll, PyData.depth] using ih
  unfold SeqAt.shaped
  rw [Bool.and_eq_true]
  refine ⟨by simpa [PyData.canLay0] using h1 ns, decide_eq_true ?_⟩
  have := h2 ns
  simp only [PyData.depth]
  omega
theorem eqD_s_nil {ns : List Int} {s : Stt} : eqD (.s ns) (.d (.list [])) s = some (.bool (ns == [])) := by
  unfold eqD toRd
  simp only [shaped_ints, show SeqAt.shaped (.list []) = true from rfl, Bool.and_self, if_true]
  cases ns <;> rfl
theorem fo_spare {k : Int} {ns : List Int} {s : Stt} : ∀ (l : List D) (x : Int) (y : Option Sv), ∃ z, fo (gN 3) (bSet 2 (sBin fdivD (sVar 2) (sC (.int 1000003)))) l [some (.s ns), some (.d (.int k)), some (.d (.int x)), y] s = .nx [some (.s ns), some (.d (.int k)), some (.d (.int (spareV x l.length))), z] s
  | [], x, y => ⟨y, rfl⟩
  | d :: l, x, y => by
    obtain ⟨z, h⟩ := fo_spare (k := k) (ns := ns) (s := s) l (x / 1000003) (some (.d d))
    refine ⟨z, ?_⟩
    simp [h, spareV]
theorem iRange1_ap {f : EX} {env : En} {st s : Stt} {j : Int} (h : f env st = .ok (.d (.int j)) s) (h1 : j < 4611686018427387904) (h2 : -4611686018427387904 ≤ j) : iRange1 f env st = .ok (intsD 0 j.toNat) s := by
  unfold iRange1
  rw [h]
  exact if_pos ⟨h1, h2⟩
theorem intsD_length (lo : Int) (n : Nat) : (intsD lo n).length = n := by
  unfold intsD
  rw [List.length_map, List.length_range]
theorem h_l_cell_at : Hok 4 2 B_l_cell_at F_l_cell_at := by
  intro xs s hw
  unfold F_l_cell_at
  split
  · rename_i ns k
    by_cases h : ns.length ≤ 63 ∧ k < 1000000000
    · rw [if_pos h]
      obtain ⟨h1, h2⟩ := h
      refine .inr ⟨rfl, .inr ?_⟩
      show runB 4 B_l_cell_at [.s ns, .d (.int (k : Int))] s = .ok (.d (.int (cellV ns k))) s
      by_cases hk : k < ns.length
      · simp [runB_ap, startE, B_l_cell_at, at_ints, hk, cellV]
      · by_cases hn : ns = []
        · subst hn
          simp [runB_ap, startE, B_l_cell_at, eqD_s_nil, cellV, show ¬ ((k : Int) < 0) by omega]
        · have hp : 0 < ns.length := by
            cases ns with
            | nil => exact absurd rfl hn
            | cons a l => simp
          have hm := Nat.mod_lt k hp
          have hx : atI (ns.map PyData.int) ((k : Int) % (ns.length : Int)) = some (.int (ns[k % ns.length]?.getD 0)) := by
            rw [← Int.natCast_emod]
            exact at_ints hm
          have hmin : (if (60 : Int) < (k : Int) / (ns.length : Int) then 60 else (k : Int) / (ns.length : Int)) = ((min (k / ns.length) 60 : Nat) : Int) := by
            rw [← Int.natCast_ediv]
            split <;> omega
          obtain ⟨z, hz⟩ := fo_spare (k := k) (ns := ns) (s := s) (intsD 0 (min (k / ns.length) 60)) (ns[k % ns.length]?.getD 0) none
          rw [intsD_length] at hz
          have hr := bFor_ap (src := iRange1 (sCB min2D (aCons (sBin fdivD (sVar 1) (sCB lenD (aCons (sVar 0) aNil))) (aCons (sC (.int 60)) aNil)))) (g := gN 3) (B := bSet 2 (sBin fdivD (sVar 2) (sC (.int 1000003)))) (env := [some (.s ns), some (.d (.int k)), some (.d (.int (ns[k % ns.length]?.getD 0))), none]) (st := s) (s := s) (ds := intsD 0 (min (k / ns.length) 60))
            (by
              have h60 : min (k / ns.length) 60 ≤ 60 := Nat.min_le_right _ _
              refine iRange1_ap (j := ((min (k / ns.length) 60 : Nat) : Int)) ?_ (by omega) (Int.le_trans (by decide) (Int.natCast_nonneg _))
              simp [hp, show (ns.length : Int) < 1073741824 by omega, hmin])
          rw [hz] at hr
          simp only [runB_ap, startE, B_l_cell_at]
          simp [hk, hn, eqD_s_nil, hp, hx, hr, mulOk_r]
          simp [cellV, hk, hn]
    · exact .inl (if_neg h)
  · exact .inl rfl

def mixV (ns : List Int) (k : Nat) (m : Int) : Int := (((cellV ns k * 1103515245 + 7919 * (k : Int) + 12345) % 2147483647) ^ 5) % 2147483647 % 999983 % m
theorem mixV_nn (ns : List Int) (k : Nat) {m : Int} (h : 0 < m) : 0 ≤ mixV ns k m := Int.emod_nonneg _ (by omega)
theorem mixV_lt (ns : List Int) (k : Nat) {m : Int} (h : 0 < m) : mixV ns k m < m := Int.emod_lt_of_pos _ h
def F_l_mixed (xs : List Sv) (s : Stt) : R Sv := match xs with
  | [.s ns, .d (.int (.ofNat k)), .d (.int m)] => if ns.length ≤ 63 ∧ k < 1000000000 ∧ 0 < m then .ok (.d (.int (mixV ns k m))) s else .bad
  | _ => .bad
def B_l_mixed : SX := (bSeq (bSet 3 (sBin modD (sBin addD (sBin addD (sBin mulD (sCall F_l_cell_at (aCons (sVar 0) (aCons (sVar 1) aNil))) (sC (.int 1103515245))) (sBin mulD (sC (.int 7919)) (sVar 1))) (sC (.int 12345))) (sC (.int 2147483647))))
  (bRet (sBin modD (sBin modD (sBin modD (sBin powD (sVar 3) (sC (.int 5))) (sC (.int 2147483647))) (sC (.int 999983))) (sVar 2))))

theorem h_l_mixed : Hok 4 3 B_l_mixed F_l_mixed := by
  intro xs s hw
  unfold F_l_mixed
  split
  · rename_i ns k m
    by_cases h : ns.length ≤ 63 ∧ k < 1000000000 ∧ 0 < m
    · rw [if_pos h]
      refine .inr ⟨rfl, .inr ?_⟩
      have e : F_l_cell_at [.s ns, .d (.int (k : Int))] s = .ok (.d (.int (cellV ns k))) s := by
        show (if _ then _ else _) = _
        rw [if_pos ⟨h.1, h.2.1⟩]
      have hq : ∀ x : Int, (x % 2147483647).natAbs < 18446744073709551616 := fun x => by omega
      simp only [runB_ap, startE, B_l_mixed]
      simp [e, mulOk_r, mulOk_l, h, hq, mixV]
    · exact .inl (if_neg h)
  · exact .inl rfl
theorem mixed_ap {ns : List Int} {k : Nat} {m : Int} {s : Stt} (h1 : ns.length ≤ 63) (h2 : k < 1000000000) (h3 : 0 < m) : F_l_mixed [.s ns, .d (.int (k : Int)), .d (.int m)] s = .ok (.d (.int (mixV ns k m))) s := if_pos ⟨h1, h2, h3⟩
/-- what a draw leaves -/
def F_l_draw (xs : List Sv) (s : Stt) : R Sv := match xs with
  | [.s ns, .r t, .d (.int m)] => (match s[t]? with
    | some (.lst zs) => if ns.length ≤ 63 ∧ zs.length < 10000 ∧ 0 < m then .ok (.d (.int (mixV ns (zs.length + 1) m))) (s.set t (.lst (zs ++ [.int 0]))) else .bad
    | _ => .bad)
  | _ => .bad
def B_l_draw : SX := (bSeq (bDrop (sMut appR (sVar 1) (sC (.int 0))))
  (bRet (sCall F_l_mixed (aCons (sVar 0) (aCons (sCB lenD (aCons (sVar 1) aNil)) (aCons (sVar 2) aNil))))))

theorem lenD_r {n : Nat} {s : Stt} {ds : List D} (h : s[n]? = some (.lst ds)) : lenD [.r n] s = some (.int ds.length) := by
  unfold lenD toRd
  simp only [h]
theorem isLst_r {n : Nat} {s : Stt} {ds : List D} (h : s[n]? = some (.lst ds)) : isLst (.r n) s = true := by
  unfold isLst
  simp only [h]
theorem appR_r {n : Nat} {s : Stt} {ds : List D} {d : D} (h : s[n]? = some (.lst ds)) (hl : ds.length < 100000) : appR (.r n) (.d d) s = .ok (.d .none) (s.set n (.lst (ds ++ [d]))) := by
  unfold appR
  simp only [h, hl, if_true]
@[simp] theorem sMut_ap {m : Sv → Sv → Stt → R Sv} {f g : EX} {env : En} {st : Stt} : sMut m f g env st = bindR (f env st) fun x s => if isLst x s then bindR (g env s) fun y s => m x y s else .bad := rfl
theorem set_get {n : Nat} {s : Stt} {o : Ob} (h : n < s.length) : (s.set n o)[n]? = some o := List.getElem?_set_self h
theorem lt_get {n : Nat} {s : Stt} {o : Ob} (h : s[n]? = some o) : n < s.length := (List.getElem?_eq_some_iff.mp h).1
theorem wf_set {n k : Nat} {s : Stt} {ds : List D} (h : s.all (refsLt k) = true) : (s.set n (.lst ds)).all (refsLt k) = true := by
  rw [List.all_eq_true] at h ⊢
  intro o ho
  rcases List.mem_or_eq_of_mem_set ho with q | q
  · exact h o q
  · rw [q]
    rfl
theorem h_l_draw : Hok 3 3 B_l_draw F_l_draw := by
  intro xs s hw
  unfold F_l_draw
  split
  · rename_i ns t m
    split
    · rename_i zs hs
      by_cases h : ns.length ≤ 63 ∧ zs.length < 10000 ∧ 0 < m
      · rw [if_pos h]
        refine .inr ⟨rfl, .inr ?_⟩
        have e : F_l_mixed [.s ns, .d (.int ((zs.length : Int) + 1)), .d (.int m)] (s.set t (.lst (zs ++ [.int 0]))) = .ok (.d (.int (mixV ns (zs.length + 1) m))) (s.set t (.lst (zs ++ [.int 0]))) :=
          mixed_ap (k := zs.length + 1) h.1 (by omega) h.2.2
        have hl := lenD_r (set_get (o := .lst (zs ++ [.int 0])) (lt_get hs))
        rw [List.length_append] at hl
        simp [runB_ap, startE, B_l_draw, isLst_r hs, appR_r (d := .int 0) hs (by omega), hl, e]
      · exact .inl (if_neg h)
    · exact .inl rfl
  · exact .inl rfl
def F_l_same_truth (xs : List Sv) (s : Stt) : R Sv := match xs with
  | [.d (.bool b), .d (.bool c)] => .ok (.d (.bool (b == c))) s
  | _ => .bad
def B_l_same_truth : SX := (bRet (sAnd (sUn (isiD "bool") (sVar 0)) (sBin eqD (sVar 0) (sVar 1))))

theorem h_l_same_truth : Hok 2 2 B_l_same_truth F_l_same_truth := by
  intro xs s hw
  unfold F_l_same_truth
  split
  · refine .inr ⟨rfl, .inr ?_⟩
    simp [runB_ap, startE, B_l_same_truth]
  · exact .inl rfl
def F_l_lowest_terms (xs : List Sv) (s : Stt) : R Sv := match xs with
  | [.d (.int p), .d (.int q)] => if 0 < q ∧ q < 1073741824 then .ok (.d (pr (p / (Int.gcd p q : Nat)) (q / (Int.gcd p q : Nat)))) s else .bad
  | _ => .bad
def B_l_lowest_terms : SX := (bSeq (bSet 2 (sCall F_l_common (aCons (sVar 0) (aCons (sVar 1) aNil))))
  (bRet (sTup (aCons (sBin fdivD (sVar 0) (sVar 2)) (aCons (sBin fdivD (sVar 1) (sVar 2)) aNil)))))

theorem gcd_pos {p q : Int} (h : 0 < q) : 0 < ((Int.gcd p q : Nat) : Int) := by
  have := Int.gcd_pos_of_ne_zero_right p (show q ≠ 0 by omega)
  omega
theorem gcd_le {p q : Int} (h : 0 < q) : ((Int.gcd p q : Nat) : Int) ≤ q := Int.le_of_dvd h (Int.gcd_dvd_right ..)
theorem h_l_lowest_terms : Hok 3 2 B_l_lowest_terms F_l_lowest_terms := by
  intro xs s hw
  unfold F_l_lowest_terms
  split
  · rename_i p q
    by_cases h : 0 < q ∧ q < 1073741824
    · rw [if_pos h]
      refine .inr ⟨rfl, .inr ?_⟩
      have h1 := gcd_pos (p := p) h.1
      have h2 := gcd_le (p := p) h.1
      have h3 : q.natAbs < fuel := by
        unfold fuel
        omega
      have e : F_l_common [.d (.int p), .d (.int q)] s = .ok (.d (.int ((Int.gcd p q : Nat) : Int))) s := by
        show (if _ then _ else _) = _
        rw [if_pos h3]
      simp only [runB_ap, startE, B_l_lowest_terms]
      simp [e, show ((Int.gcd p q : Nat) : Int) < 1073741824 by omega, Int.natCast_pos.mp h1]
    · exact .inl (if_neg h)
  · exact .inl rfl

theorem draw_ap {ns : List Int} {t : Nat} {m : Int} {s : Stt} {zs : List D} (hs : s[t]? = some (.lst zs)) (h1 : ns.length ≤ 63) (h2 : zs.length < 10000) (h3 : 0 < m) :
    F_l_draw [.s ns, .r t, .d (.int m)] s = .ok (.d (.int (mixV ns (zs.length + 1) m))) (s.set t (.lst (zs ++ [.int 0]))) := by
  unfold F_l_draw
  simp only [hs]
  exact if_pos ⟨h1, h2, h3⟩
/-- lowest terms -/
def lowP (p q : Int) : Int := p / (Int.gcd p q : Nat)
def lowQ (p q : Int) : Int := q / (Int.gcd p q : Nat)
theorem lowest_ap {p q : Int} {s : Stt} (h : 0 < q) (h2 : q < 1073741824) : F_l_lowest_terms [.d (.int p), .d (.int q)] s = .ok (.d (pr (lowP p q) (lowQ p q))) s := if_pos ⟨h, h2⟩
theorem low_gcd {p q : Int} (h : 0 < q) : Int.gcd (lowP p q) (lowQ p q) = 1 := Int.gcd_ediv_gcd_ediv_gcd (Int.gcd_pos_of_ne_zero_right p (by omega))
theorem lowQ_pos {p q : Int} (h : 0 < q) : 0 < lowQ p q := Int.ediv_pos_of_pos_of_dvd h (by omega) (Int.gcd_dvd_right ..)
theorem lowQ_le {p q : Int} (h : 0 < q) : lowQ p q ≤ q := Int.ediv_le_self _ (by omega)
theorem lowP_abs {p q : Int} : (lowP p q).natAbs ≤ p.natAbs := Int.natAbs_ediv_le_natAbs _ _
theorem lowP_mul {p q : Int} : lowP p q * (Int.gcd p q : Nat) = p := Int.ediv_mul_cancel (Int.gcd_dvd_left ..)
theorem lowQ_mul {p q : Int} : lowQ p q * (Int.gcd p q : Nat) = q := Int.ediv_mul_cancel (Int.gcd_dvd_right ..)
def sfQ (ns : List Int) (z : Nat) (m : Int) : Int := 1 + mixV ns (z + 2) m
def sfP (ns : List Int) (z : Nat) (m : Int) : Int := mixV ns (z + 3) (6 * sfQ ns z m + 1) - 3 * sfQ ns z m
/-- a law's random fraction: the pair, the number of draws -/
def sfF (ns : List Int) (z : Nat) (m : Int) : Int × Int := if mixV ns (z + 1) 12 = 0 then (1, 0) else (lowP (sfP ns z m) (sfQ ns z m), lowQ (sfP ns z m) (sfQ ns z m))
def sfN (ns : List Int) (z : Nat) : Nat := if mixV ns (z + 1) 12 = 0 then 1 else 3
theorem sfQ_bd (ns : List Int) (z : Nat) {m : Int} (h : 0 < m) : 1 ≤ sfQ ns z m ∧ sfQ ns z m ≤ m := by
  have h1 := mixV_nn ns (z + 2) h
  have h2 := mixV_lt ns (z + 2) h
  unfold sfQ
  omega
theorem sfP_bd (ns : List Int) (z : Nat) {m : Int} (h : 0 < m) : -(3 * sfQ ns z m) ≤ sfP ns z m ∧ sfP ns z m ≤ 3 * sfQ ns z m := by
  have h0 := sfQ_bd ns z h
  have h1 := mixV_nn ns (z + 3) (m := 6 * sfQ ns z m + 1) (by omega)
  have h2 := mixV_lt ns (z + 3) (m := 6 * sfQ ns z m + 1) (by omega)
  unfold sfP
  omega
/-- what is true of such a fraction -/
structure SomeFr (m p q : Int) : Prop where
  g : Int.gcd p q = 1
  q0 : 0 ≤ q
  qm : q ≤ m
  top : q = 0 → p = 1
  lo : 0 < q → -(3 * m) ≤ p
  hi : 0 < q → p ≤ 3 * m
theorem low_bd {p q m : Int} (h : 0 < q) (hm : q ≤ m) (h1 : -(3 * q) ≤ p) (h2 : p ≤ 3 * q) : SomeFr m (lowP p q) (lowQ p q) := by
  have a := lowQ_pos (p := p) h
  have b := lowQ_le (p := p) h
  have c := lowP_abs (p := p) (q := q)
  exact ⟨low_gcd h, by omega, by omega, fun e => by omega, fun _ => by omega, fun _ => by omega⟩
theorem sf_ok (ns : List Int) (z : Nat) {m : Int} (h : 0 < m) : SomeFr m (sfF ns z m).1 (sfF ns z m).2 := by
  unfold sfF
  split
  · exact ⟨rfl, by decide, by show (0 : Int) ≤ m; omega, fun _ => rfl, fun e => absurd e (by decide), fun e => absurd e (by decide)⟩
  · have h0 := sfQ_bd ns z h
    have h1 := sfP_bd ns z h
    exact low_bd (by omega) h0.2 h1.1 h1.2
theorem SomeFr.fr {m p q : Int} (h : SomeFr m p q) (hm : 0 < m) (hm3 : m ≤ 3000) : isFr (pr p q) = true := by
  rw [isFr_pr]
  have h1 := h.q0
  have h2 := h.qm
  by_cases hq : 0 < q
  · have := h.lo hq
    have := h.hi hq
    exact ⟨by omega, by omega, by omega, by omega, h.g, .inl hq⟩
  · have := h.top (by omega)
    subst this
    exact ⟨by omega, by omega, by omega, by omega, h.g, .inr rfl⟩
def F_l_some_fraction (xs : List Sv) (s : Stt) : R Sv := match xs with
  | [.s ns, .r t, .d (.int m)] => (match s[t]? with
    | some (.lst zs) => if ns.length ≤ 63 ∧ zs.length < 9000 ∧ 0 < m ∧ m ≤ 100000 then .ok (.d (pr (sfF ns zs.length m).1 (sfF ns zs.length m).2)) (s.set t (.lst (zs ++ List.replicate (sfN ns zs.length) (.int 0)))) else .bad
    | _ => .bad)
  | _ => .bad
def B_l_some_fraction : SX := (bSeq (bIf (sBin eqD (sCall F_l_draw (aCons (sVar 0) (aCons (sVar 1) (aCons (sC (.int 12)) aNil)))) (sC (.int 0)))
  (bRet (sTup (aCons (sC (.int 1)) (aCons (sC (.int 0)) aNil))))
  bNext)
  (bSeq (bSet 3 (sBin addD (sC (.int 1)) (sCall F_l_draw (aCons (sVar 0) (aCons (sVar 1) (aCons (sVar 2) aNil))))))
  (bRet (sCall F_l_lowest_terms (aCons (sBin subD (sCall F_l_draw (aCons (sVar 0) (aCons (sVar 1) (aCons (sBin addD (sBin mulD (sC (.int 6)) (sVar 3)) (sC (.int 1))) aNil)))) (sBin mulD (sC (.int 3)) (sVar 3))) (aCons (sVar 3) aNil))))))

theorem sf_ap {ns : List Int} {t : Nat} {m : Int} {s : Stt} {zs : List D} (hs : s[t]? = some (.lst zs)) (h1 : ns.length ≤ 63) (h2 : zs.length < 9000) (h3 : 0 < m) (h4 : m ≤ 100000) :
    F_l_some_fraction [.s ns, .r t, .d (.int m)] s = .ok (.d (pr (sfF ns zs.length m).1 (sfF ns zs.length m).2)) (s.set t (.lst (zs ++ List.replicate (sfN ns zs.length) (.int 0)))) := by
  unfold F_l_some_fraction
  simp only [hs]
  exact if_pos ⟨h1, h2, h3, h4⟩
theorem h_l_some_fraction : Hok 4 3 B_l_some_fraction F_l_some_fraction := by
  intro xs s hw
  unfold F_l_some_fraction
  split
  · rename_i ns t m
    split
    · rename_i zs hs
      by_cases h : ns.length ≤ 63 ∧ zs.length < 9000 ∧ 0 < m ∧ m ≤ 100000
      · rw [if_pos h]
        obtain ⟨h1, h2, h3, h4⟩ := h
        have d1 := draw_ap hs h1 (by omega) (show (0 : Int) < 12 by decide)
        have ht := lt_get hs
        have hs1 : (s.set t (.lst (zs ++ [.int 0])))[t]? = some (.lst (zs ++ [.int 0])) := set_get ht
        have d2 := draw_ap hs1 h1 (by simp; omega) h3
        have hs2 : (s.set t (.lst (zs ++ [.int 0] ++ [.int 0])))[t]? = some (.lst (zs ++ [.int 0] ++ [.int 0])) := set_get ht
        have hq := sfQ_bd ns zs.length h3
        have d3 := draw_ap (m := 6 * sfQ ns zs.length m + 1) hs2 h1 (by simp; omega) (by omega)
        simp only [List.length_append, List.length_cons, List.length_nil, List.set_set, Nat.zero_add, Nat.add_assoc, Nat.reduceAdd] at d2 d3
        refine .inr ⟨rfl, .inr ?_⟩
        by_cases hd : mixV ns (zs.length + 1) 12 = 0
        · simp [runB_ap, startE, B_l_some_fraction, d1, hd, sfF, sfN]
        · have e : (1 : Int) + mixV ns (zs.length + 2) m = sfQ ns zs.length m := rfl
          have e2 : mixV ns (zs.length + 3) (6 * sfQ ns zs.length m + 1) - 3 * sfQ ns zs.length m = sfP ns zs.length m := rfl
          have l := lowest_ap (p := sfP ns zs.length m) (q := sfQ ns zs.length m) (s := s.set t (.lst (zs ++ [.int 0] ++ [.int 0] ++ [.int 0]))) (by omega) (by omega)
          simp only [List.append_assoc, List.cons_append, List.nil_append] at d2 d3 l
          simp [runB_ap, startE, B_l_some_fraction, d1, hd, d2, e, mulOk_l, d3, e2, l, sfF, sfN, List.replicate]
      · exact .inl (if_neg h)
    · exact .inl rfl
  · exact .inl rfl

def zr (n : Nat) : Ob := .lst (List.replicate n (.int 0))
@[simp] theorem town0 : lstMR [] [] = .ok (.r 0) [zr 0] := rfl
theorem zr_app (n k : Nat) : List.replicate n (PyData.int 0) ++ List.replicate k (PyData.int 0) = List.replicate (n + k) (PyData.int 0) := List.replicate_append_replicate
theorem draw_z {ns : List Int} {m : Int} {s : Stt} (n : Nat) (h1 : ns.length ≤ 63) (h2 : n < 9000) (h3 : 0 < m) : F_l_draw [.s ns, .r 0, .d (.int m)] (zr n :: s) = .ok (.d (.int (mixV ns (n + 1) m))) (zr (n + 1) :: s) := by
  have e := draw_ap (ns := ns) (t := 0) (m := m) (s := zr n :: s) (zs := List.replicate n (.int 0)) rfl h1 (by rw [List.length_replicate]; omega) h3
  rw [List.length_replicate, show (List.replicate n (PyData.int 0) ++ [.int 0]) = List.replicate (n + 1) (PyData.int 0) from zr_app n 1] at e
  exact e
theorem sf_z {ns : List Int} {m : Int} {s : Stt} (n : Nat) (h1 : ns.length ≤ 63) (h2 : n < 9000) (h3 : 0 < m) (h4 : m ≤ 100000) : F_l_some_fraction [.s ns, .r 0, .d (.int m)] (zr n :: s) = .ok (.d (pr (sfF ns n m).1 (sfF ns n m).2)) (zr (n + sfN ns n) :: s) := by
  have e := sf_ap (ns := ns) (t := 0) (m := m) (s := zr n :: s) (zs := List.replicate n (.int 0)) rfl h1 (by rw [List.length_replicate]; omega) h3 h4
  rw [List.length_replicate, zr_app] at e
  exact e
theorem sfN_le (ns : List Int) (n : Nat) : sfN ns n ≤ 3 := by
  unfold sfN
  split <;> omega
theorem common_ap {p q : Int} {s : Stt} (h : q.natAbs < 1000000000) : F_l_common [.d (.int p), .d (.int q)] s = .ok (.d (.int ((Int.gcd p q : Nat) : Int))) s := if_pos (by unfold fuel; omega)
theorem isfr_ap {v : D} {s : Stt} (h : askOk v = true) : F_p_is_fraction [.d v] s = .ok (.d (.bool (isFr v))) s := if_pos h
theorem isless_ap {p q r t : Int} {s : Stt} (h1 : isFr (pr p q) = true) (h2 : isFr (pr r t) = true) : F_p_is_less [.d (pr p q), .d (pr r t)] s = .ok (.d (.bool (decide (p * t - q * r < 0)))) s := by
  unfold F_p_is_less
  simp only [h1, h2, if_true]
  show (if true = true then F_p_less _ _ else _) = _
  rw [if_pos rfl]
  unfold F_p_less
  simp only [fr_mul h1, if_true]
theorem same_ap (b : Bool) (s : Stt) : F_l_same_truth [.d (.bool b), .d (.bool b)] s = .ok (.d (.bool true)) s := by
  unfold F_l_same_truth
  simp
end DL

namespace DL
open PySem PySem.Spec PyProof.Rows L2
def B_l_which (a : Addr) (c : Nat) : SX := (bSeq (bSet 1 (sLstM (aCons (sIsE a (decide (c = 0)) (sVar 0)) (aCons (sIsE a (decide (c = 1)) (sVar 0)) (aCons (sIsE a (decide (c = 2)) (sVar 0)) aNil)))))
  (bSeq (bDrop (sMut extR (sVar 1) (sLst (aCons (sIsE a (decide (c = 3)) (sVar 0)) (aCons (sIsE a (decide (c = 4)) (sVar 0)) (aCons (sIsE a (decide (c = 5)) (sVar 0)) aNil))))))
  (bSeq (bDrop (sMut extR (sVar 1) (sLst (aCons (sIsE a (decide (c = 6)) (sVar 0)) (aCons (sIsE a (decide (c = 7)) (sVar 0)) (aCons (sIsE a (decide (c = 8)) (sVar 0)) (aCons (sIsE a (decide (c = 9)) (sVar 0)) aNil)))))))
  (bSeq (bDrop (sMut extR (sVar 1) (sLst (aCons (sIsE a (decide (c = 10)) (sVar 0)) (aCons (sIsE a (decide (c = 11)) (sVar 0)) (aCons (sIsE a (decide (c = 12)) (sVar 0)) aNil))))))
  (bSeq (bIf (sOr (sBin neD (sMeth cntB (sVar 1) (sC (.bool true))) (sC (.int 1))) (sNot (sIsE a true (sVar 0))))
  (bRet (sTup (aCons (sC (.str "raised")) (aCons (sUn negD (sC (.int 1))) aNil))))
  bNext)
  (bRet (sTup (aCons (sC (.str "raised")) (aCons (sMeth idxB (sVar 1) (sC (.bool true))) aNil)))))))))

theorem lstM3 {a b c : D} {s : Stt} : lstMR [.d a, .d b, .d c] s = .ok (.r s.length) (s ++ [.lst [a, b, c]]) := rfl
theorem lstM0 {s : Stt} : lstMR [] s = .ok (.r s.length) (s ++ [.lst []]) := rfl
theorem lstD_4 {a b c d : D} {s : Stt} : lstD [.d a, .d b, .d c, .d d] s = some (.list [a, b, c, d]) := rfl
theorem which_run (a : Addr) (s : Stt) (c : Nat) (h : c < 13) (hs : s.all (refsLt s.length) = true) : gcR s.length (runB 2 (B_l_which a c) [.x a] s) = .ok (.d (raised c)) s := by
  match c, h with
  | 0, _ | 1, _ | 2, _ | 3, _ | 4, _ | 5, _ | 6, _ | 7, _ | 8, _ | 9, _ | 10, _ | 11, _ | 12, _ =>
    simp [runB_ap, startE, B_l_which, lstM3, lstD_4, extR_end, cntB, idxB, boolsOf, firstT, gcR_dend hs, raised]
  | n + 13, h => omega
theorem h_l_which (a : Addr) (c : Nat) : Hok 2 1 (B_l_which a c) (F_l_which a c) := by
  intro xs s hw
  unfold F_l_which
  split
  · rename_i b
    by_cases h : b = a ∧ c < 13
    · obtain ⟨rfl, hc⟩ := h
      rw [if_pos ⟨rfl, hc⟩]
      exact .inr ⟨rfl, .inl (which_run b s c hc hw)⟩
    · exact .inl (if_neg h)
  · exact .inl rfl
def B_p_limited : SX := (bSeq (bIf (sNot (sCall F_p_is_fraction (aCons (sVar 0) aNil)))
  (bRaise 10)
  bNext)
  (bRet (sVar 0)))
def F_p_limited : List Sv → Stt → R Sv := F0 1 1 B_p_limited
theorem h_p_limited : Hok 1 1 B_p_limited F_p_limited := hok0
theorem p_limited_in {x0 : Sv} {s : Stt} : F_p_limited [x0] s = outR (B_p_limited [some x0] s) := rfl

def B_p_beside : SX := (bRet (sBin inTD (sCall F_p_cross (aCons (sVar 0) (aCons (sVar 1) aNil))) (sTup (aCons (sC (.int 1)) (aCons (sUn negD (sC (.int 1))) aNil)))))
def F_p_beside : List Sv → Stt → R Sv := F0 2 2 B_p_beside
theorem h_p_beside : Hok 2 2 B_p_beside F_p_beside := hok0
theorem p_beside_in {x0 x1 : Sv} {s : Stt} : F_p_beside [x0, x1] s = outR (B_p_beside [some x0, some x1] s) := rfl

def B_p_are_neighbours : SX := (bSeq (bDrop (sCall F_p_check_two (aCons (sVar 0) (aCons (sVar 1) aNil))))
  (bRet (sCall F_p_beside (aCons (sVar 0) (aCons (sVar 1) aNil)))))
def F_p_are_neighbours : List Sv → Stt → R Sv := F0 2 2 B_p_are_neighbours
theorem h_p_are_neighbours : Hok 2 2 B_p_are_neighbours F_p_are_neighbours := hok0
theorem p_are_neighbours_in {x0 x1 : Sv} {s : Stt} : F_p_are_neighbours [x0, x1] s = outR (B_p_are_neighbours [some x0, some x1] s) := rfl

def B_p_sum_of : SX := (bRet (sTup (aCons (sBin addD (sBin ixD (sVar 0) (sC (.int 0))) (sBin ixD (sVar 1) (sC (.int 0)))) (aCons (sBin addD (sBin ixD (sVar 0) (sC (.int 1))) (sBin ixD (sVar 1) (sC (.int 1)))) aNil))))
def F_p_sum_of : List Sv → Stt → R Sv := F0 2 2 B_p_sum_of
theorem h_p_sum_of : Hok 2 2 B_p_sum_of F_p_sum_of := hok0
theorem p_sum_of_in {x0 x1 : Sv} {s : Stt} : F_p_sum_of [x0, x1] s = outR (B_p_sum_of [some x0, some x1] s) := rfl

def B_p_middle : SX := (bSeq (bDrop (sCall F_p_check_two (aCons (sVar 0) (aCons (sVar 1) aNil))))
  (bSeq (bIf (sNot (sCall F_p_beside (aCons (sVar 0) (aCons (sVar 1) aNil))))
  (bRaise 5)
  bNext)
  (bRet (sCall F_p_limited (aCons (sCall F_p_sum_of (aCons (sVar 0) (aCons (sVar 1) aNil))) aNil)))))
def F_p_middle : List Sv → Stt → R Sv := F0 2 2 B_p_middle
theorem h_p_middle : Hok 2 2 B_p_middle F_p_middle := hok0
theorem p_middle_in {x0 x1 : Sv} {s : Stt} : F_p_middle [x0, x1] s = outR (B_p_middle [some x0, some x1] s) := rfl

def B_l_pick : SX := (bRet (sBin ixD (sVar 2) (sCall F_l_draw (aCons (sVar 0) (aCons (sVar 1) (aCons (sCB lenD (aCons (sVar 2) aNil)) aNil))))))
def F_l_pick : List Sv → Stt → R Sv := F0 3 3 B_l_pick
theorem h_l_pick : Hok 3 3 B_l_pick F_l_pick := hok0
theorem l_pick_in {x0 x1 x2 : Sv} {s : Stt} : F_l_pick [x0, x1, x2] s = outR (B_l_pick [some x0, some x1, some x2] s) := rfl

def B_l_turn : SX := (bRet (sBin subD (sBin mulD (sBin ixD (sVar 0) (sC (.int 0))) (sBin ixD (sVar 1) (sC (.int 1)))) (sBin mulD (sBin ixD (sVar 0) (sC (.int 1))) (sBin ixD (sVar 1) (sC (.int 0))))))
def F_l_turn : List Sv → Stt → R Sv := F0 2 2 B_l_turn
theorem h_l_turn : Hok 2 2 B_l_turn F_l_turn := hok0
theorem l_turn_in {x0 x1 : Sv} {s : Stt} : F_l_turn [x0, x1] s = outR (B_l_turn [some x0, some x1] s) := rfl

def B_l_near_each : SX := (bRet (sBin inTD (sCall F_l_turn (aCons (sVar 0) (aCons (sVar 1) aNil))) (sTup (aCons (sC (.int 1)) (aCons (sUn negD (sC (.int 1))) aNil)))))
def F_l_near_each : List Sv → Stt → R Sv := F0 2 2 B_l_near_each
theorem h_l_near_each : Hok 2 2 B_l_near_each F_l_near_each := hok0
theorem l_near_each_in {x0 x1 : Sv} {s : Stt} : F_l_near_each [x0, x1] s = outR (B_l_near_each [some x0, some x1] s) := rfl

def B_l_fall : SX := (bRet (sBin (cmpD fun i j => decide (i < j)) (sCall F_l_turn (aCons (sVar 0) (aCons (sVar 1) aNil))) (sC (.int 0))))
def F_l_fall : List Sv → Stt → R Sv := F0 2 2 B_l_fall
theorem h_l_fall : Hok 2 2 B_l_fall F_l_fall := hok0
theorem l_fall_in {x0 x1 : Sv} {s : Stt} : F_l_fall [x0, x1] s = outR (B_l_fall [some x0, some x1] s) := rfl

def B_l_elders : SX := (bSeq (bSet 1 (sLstM aNil))
  (bSeq (bFor (iArgs rng2 (aCons (sC (.int 1)) (aCons (sBin ixD (sVar 0) (sC (.int 1))) aNil))) (gN 2)
  (bFor (iTupl (sTup (aCons (sBin fdivD (sBin mulD (sBin ixD (sVar 0) (sC (.int 0))) (sVar 2)) (sBin ixD (sVar 0) (sC (.int 1)))) (aCons (sBin addD (sBin fdivD (sBin mulD (sBin ixD (sVar 0) (sC (.int 0))) (sVar 2)) (sBin ixD (sVar 0) (sC (.int 1)))) (sC (.int 1))) aNil)))) (gN 3)
  (bIf (sCall F_l_near_each (aCons (sVar 0) (aCons (sTup (aCons (sVar 3) (aCons (sVar 2) aNil))) aNil)))
  (bDrop (sMut appR (sVar 1) (sTup (aCons (sVar 3) (aCons (sVar 2) aNil)))))
  bNext)))
  (bFrz 1 (bRet (sIte (sCall F_l_fall (aCons (sBin ixD (sVar 1) (sC (.int 0))) (aCons (sBin ixD (sVar 1) (sC (.int 1))) aNil))) (sCB tupleD (aCons (sVar 1) aNil)) (sTup (aCons (sBin ixD (sVar 1) (sC (.int 1))) (aCons (sBin ixD (sVar 1) (sC (.int 0))) aNil))))))))
def F_l_elders : List Sv → Stt → R Sv := Fg 4 1 B_l_elders
theorem h_l_elders : Hok 4 1 B_l_elders F_l_elders := hokg
theorem l_elders_in {x0 : Sv} {s : Stt} : F_l_elders [x0] s = gcR s.length (outR (B_l_elders [some x0, none, none, none] s)) := rfl

theorem isFr_ask {v : D} (h : isFr v = true) : askOk v = true := by
  obtain ⟨p, q, rfl⟩ := isFr_ex h
  rfl
theorem limited_ap {v : D} {s : Stt} (h : isFr v = true) : F_p_limited [.d v] s = .ok (.d v) s := by
  rw [p_limited_in]
  simp [B_p_limited, isfr_ap (isFr_ask h), h]
theorem limited_ex {v : D} {s : Stt} (ha : askOk v = true) (h : isFr v = false) : F_p_limited [.d v] s = .ex 10 s := by
  rw [p_limited_in]
  simp [B_p_limited, isfr_ap ha, h]
theorem inT_pm {x : Int} {s : Stt} : inTD (.d (.int x)) (.d (.tuple [.int 1, .int (-1)])) s = some (.bool (x == 1 || x == -1)) := by
  unfold inTD
  simp only [show asInts [PyData.int 1, PyData.int (-1)] = some [1, -1] from rfl, List.any_cons, List.any_nil, Bool.or_false]
  rw [BEq.comm (a := (1 : Int)) (b := x), BEq.comm (a := (-1 : Int)) (b := x)]
theorem beside_ap {p q r t : Int} {s : Stt} (h : (mulOk p t && mulOk q r) = true) : F_p_beside [.d (pr p q), .d (pr r t)] s = .ok (.d (.bool (p * t - q * r == 1 || p * t - q * r == -1))) s := by
  rw [p_beside_in]
  have e : F_p_cross [.d (pr p q), .d (pr r t)] s = .ok (.d (.int (p * t - q * r))) s := if_pos h
  simp [B_p_beside, e, inT_pm]
theorem turn_ap {p q r t : Int} {s : Stt} (h : (mulOk p t && mulOk q r) = true) : F_l_turn [.d (pr p q), .d (pr r t)] s = .ok (.d (.int (p * t - q * r))) s := by
  rw [l_turn_in]
  rw [Bool.and_eq_true] at h
  simp [B_l_turn, h]
theorem near_ap {p q r t : Int} {s : Stt} (h : (mulOk p t && mulOk q r) = true) : F_l_near_each [.d (pr p q), .d (pr r t)] s = .ok (.d (.bool (p * t - q * r == 1 || p * t - q * r == -1))) s := by
  rw [l_near_each_in]
  simp [B_l_near_each, turn_ap h, inT_pm]
theorem fall_ap {p q r t : Int} {s : Stt} (h : (mulOk p t && mulOk q r) = true) : F_l_fall [.d (pr p q), .d (pr r t)] s = .ok (.d (.bool (decide (p * t - q * r < 0)))) s := by
  rw [l_fall_in]
  simp [B_l_fall, turn_ap h]
theorem two_ap {u v : D} {s : Stt} (h : isFr u = true) (g : isFr v = true) : F_p_check_two [.d u, .d v] s = .ok (.d .none) s := by
  unfold F_p_check_two
  simp [isFr_ask h, isFr_ask g, h, g]
theorem arenb_ap {p q r t : Int} {s : Stt} (h : isFr (pr p q) = true) (g : isFr (pr r t) = true) : F_p_are_neighbours [.d (pr p q), .d (pr r t)] s = .ok (.d (.bool (p * t - q * r == 1 || p * t - q * r == -1))) s := by
  rw [p_are_neighbours_in]
  simp [B_p_are_neighbours, two_ap h g, beside_ap (fr_mul h)]
theorem sum_ap {p q r t : Int} {s : Stt} : F_p_sum_of [.d (pr p q), .d (pr r t)] s = .ok (.d (pr (p + r) (q + t))) s := by
  rw [p_sum_of_in]
  simp [B_p_sum_of]
theorem middle_no {p q r t : Int} {s : Stt} (h : isFr (pr p q) = true) (g : isFr (pr r t) = true) (n : (p * t - q * r == 1 || p * t - q * r == -1) = false) : F_p_middle [.d (pr p q), .d (pr r t)] s = .ex 5 s := by
  rw [p_middle_in]
  simp [B_p_middle, two_ap h g, beside_ap (fr_mul h), n]
theorem middle_ap {p q r t : Int} {s : Stt} (h : isFr (pr p q) = true) (g : isFr (pr r t) = true) (n : (p * t - q * r == 1 || p * t - q * r == -1) = true) (m : isFr (pr (p + r) (q + t)) = true) : F_p_middle [.d (pr p q), .d (pr r t)] s = .ok (.d (pr (p + r) (q + t))) s := by
  rw [p_middle_in]
  simp [B_p_middle, two_ap h g, beside_ap (fr_mul h), n, sum_ap, limited_ap m]
def elC (p q s : Int) : List D := ([p * s / q, p * s / q + 1].filter fun r => p * s - q * r == 1 || p * s - q * r == -1).map fun r => pr r s
theorem elC_len (p q s : Int) : (elC p q s).length ≤ 2 := by
  unfold elC
  rw [List.length_map]
  exact List.length_filter_le _ _
theorem fo_elders {p q : Int} {st : Stt} (h1 : p.natAbs < 1000000) (h2 : 0 < q) (h3 : q < 1000000) : ∀ (l : List Int) (acc : List D) (x2 x3 : Option Sv), (∀ s ∈ l, s.natAbs < 1000000) → acc.length + 2 * l.length < 90000 → ∃ y2 y3,
    fo (gN 2) (bFor (iTupl (sTup (aCons (sBin fdivD (sBin mulD (sBin ixD (sVar 0) (sC (.int 0))) (sVar 2)) (sBin ixD (sVar 0) (sC (.int 1)))) (aCons (sBin addD (sBin fdivD (sBin mulD (sBin ixD (sVar 0) (sC (.int 0))) (sVar 2)) (sBin ixD (sVar 0) (sC (.int 1)))) (sC (.int 1))) aNil)))) (gN 3)
      (bIf (sCall F_l_near_each (aCons (sVar 0) (aCons (sTup (aCons (sVar 3) (aCons (sVar 2) aNil))) aNil)))
      (bDrop (sMut appR (sVar 1) (sTup (aCons (sVar 3) (aCons (sVar 2) aNil)))))
      bNext)) (l.map PyData.int) [some (.d (pr p q)), some (.r st.length), x2, x3] (st ++ [.lst acc]) = .nx [some (.d (pr p q)), some (.r st.length), y2, y3] (st ++ [.lst (acc ++ l.flatMap (elC p q))])
  | [], acc, x2, x3, _, _ => ⟨x2, x3, by simp⟩
  | s :: l, acc, x2, x3, hs, hl => by
    have hs0 := hs s List.mem_cons_self
    have hlen := elC_len p q s
    simp only [List.length_cons] at hl
    obtain ⟨y2, y3, ih⟩ := fo_elders h1 h2 h3 l (acc ++ elC p q s) (some (.d (.int s))) (some (.d (.int (p * s / q + 1)))) (fun s hs' => hs s (List.mem_cons_of_mem _ hs')) (by rw [List.length_append]; omega)
    refine ⟨y2, y3, ?_⟩
    rw [List.flatMap_cons, ← List.append_assoc]
    rw [← ih, List.map_cons, foN_cons]
    have m1 : mulOk p s = true := mulOk_l (by omega)
    have m2 : ∀ r, mulOk q r = true := fun r => mulOk_l (by omega)
    have n1 : ∀ r (s' : Stt), F_l_near_each [.d (pr p q), .d (pr r s)] s' = .ok (.d (.bool (p * s - q * r == 1 || p * s - q * r == -1))) s' := fun r s' => near_ap (by rw [m1, m2]; rfl)
    have ha : ∀ acc' : List D, acc'.length < 90000 + 2 → ∀ d, appR (.r st.length) (.d d) (st ++ [.lst acc']) = .ok (.d .none) (st ++ [.lst (acc' ++ [d])]) := fun acc' h d => appR_end (by omega)
    rw [bFor_ap (ds := [.int (p * s / q), .int (p * s / q + 1)]) (s := st ++ [.lst acc]) (by simp [iTupl, m1, h2, show q < 1073741824 by omega])]
    have hq : q < 1073741824 := by omega
    cases c1 : (p * s - q * (p * s / q) == 1 || p * s - q * (p * s / q) == -1) <;> cases c2 : (p * s - q * (p * s / q + 1) == 1 || p * s - q * (p * s / q + 1) == -1)
    · have e : elC p q s = [] := by simp only [elC, List.filter_cons, c1, c2]; rfl
      simp [n1, c1, c2, e]
    · have e : elC p q s = [pr (p * s / q + 1) s] := by simp only [elC, List.filter_cons, c1, c2]; rfl
      simp [n1, c1, c2, e, ha, show acc.length < 90002 by omega]
    · have e : elC p q s = [pr (p * s / q) s] := by simp only [elC, List.filter_cons, c1, c2]; rfl
      simp [n1, c1, c2, e, ha, show acc.length < 90002 by omega]
    · have e : elC p q s = [pr (p * s / q) s, pr (p * s / q + 1) s] := by simp only [elC, List.filter_cons, c1, c2]; rfl
      simp [n1, c1, c2, e, ha, show acc.length < 90002 by omega, show acc.length + 1 < 90002 by omega]
theorem elC_no {p q s : Int} (hq : 2 ≤ q) (h1 : p * s % q ≠ 1) (h2 : p * s % q ≠ q - 1) : elC p q s = [] := by
  have hd := Int.mul_ediv_add_emod (p * s) q
  have hn := Int.emod_nonneg (p * s) (show q ≠ 0 by omega)
  have hl := Int.emod_lt_of_pos (p * s) (show 0 < q by omega)
  have e1 : p * s - q * (p * s / q) = p * s % q := by omega
  have e2 : p * s - q * (p * s / q + 1) = p * s % q - q := by rw [Int.mul_add]; omega
  unfold elC
  rw [List.map_eq_nil_iff, List.filter_eq_nil_iff]
  intro r hr
  rcases List.mem_cons.mp hr with rfl | hr
  · rw [e1]
    simp
    omega
  · rcases List.mem_cons.mp hr with rfl | hr
    · rw [e2]
      simp
      omega
    · cases hr
theorem elC_lo {p q s r : Int} (hq : 3 ≤ q) (h : p * s - q * r = 1) : elC p q s = [pr r s] := by
  obtain ⟨e1, e2⟩ := FM.mod_one (by omega) h
  have e3 : p * s - q * (r + 1) = 1 - q := by rw [Int.mul_add]; omega
  unfold elC
  rw [e2]
  have c2 : (1 - q == 1 || 1 - q == -1) = false := by simp; omega
  simp only [List.filter_cons, h, e3, c2]
  rfl
theorem elC_hi {p q s r : Int} (hq : 3 ≤ q) (h : p * s - q * r = -1) : elC p q s = [pr r s] := by
  obtain ⟨e1, e2⟩ := FM.mod_neg (by omega) h
  have e3 : p * s - q * (r - 1) = q - 1 := by rw [Int.mul_sub]; omega
  have e4 : r - 1 + 1 = r := by omega
  unfold elC
  rw [e2, e4]
  have c1 : (q - 1 == 1 || q - 1 == -1) = false := by simp; omega
  simp only [List.filter_cons, h, e3, c1]
  rfl
theorem elC_two {p r : Int} (h : p * 1 - 2 * r = 1) : elC p 2 1 = [pr r 1, pr (r + 1) 1] := by
  have e2 := (FM.mod_one (by decide) h).2
  have e3 : p * 1 - 2 * (r + 1) = -1 := by omega
  unfold elC
  rw [e2]
  simp only [List.filter_cons, h, e3]
  rfl
theorem intsD_map (lo : Int) (n : Nat) : intsD lo n = ((List.range n).map fun i => lo + (i : Nat)).map PyData.int := by
  unfold intsD
  rw [List.map_map]
  rfl
theorem flatMap_map' {α β γ : Type} (f : α → β) (g : β → List γ) : ∀ l : List α, (l.map f).flatMap g = l.flatMap fun a => g (f a)
  | [] => rfl
  | a :: l => by
    rw [List.map_cons, List.flatMap_cons, List.flatMap_cons, flatMap_map' f g l]
/-- the two elders: on the left, on the right -/
theorem elders_list {p q r s : Int} (hq : 2 ≤ q) (g : Int.gcd p q = 1) (hs : 1 ≤ s) (hs2 : s < q) (h : p * s - q * r = 1) :
    ((List.range (q - 1).toNat).map fun i => (1 : Int) + (i : Nat)).flatMap (elC p q) = [pr r s, pr (p - r) (q - s)] ∨ ((List.range (q - 1).toNat).map fun i => (1 : Int) + (i : Nat)).flatMap (elC p q) = [pr (p - r) (q - s), pr r s] := by
  rw [flatMap_map']
  have h' : p * (q - s) - q * (p - r) = -1 := by
    rw [Int.mul_sub, Int.mul_sub, Int.mul_comm q p]
    omega
  by_cases h2 : q = 2
  · subst h2
    have hs1 : s = 1 := by omega
    subst hs1
    left
    have hp : p - r = r + 1 := by omega
    rw [hp]
    show (List.range 1).flatMap _ = _
    rw [FM.flat_one (k := 0) 1 (by decide) (fun i hi hk => by omega)]
    exact elC_two h
  · have no : ∀ i : Nat, i < (q - 1).toNat → i ≠ (s - 1).toNat → i ≠ (q - s - 1).toNat → elC p q ((1 : Int) + (i : Nat)) = [] := by
      intro i hi h1 h3
      refine elC_no hq (fun z => ?_) (fun z => ?_)
      · have := FM.inv_one hq g (z.trans (FM.mod_one hq h).1.symm) (by omega) (by omega) (by omega) hs2
        omega
      · have := FM.inv_one hq g (z.trans (FM.mod_neg hq h').1.symm) (by omega) (by omega) (by omega) (by omega)
        omega
    have a1 : elC p q ((1 : Int) + ((s - 1).toNat : Nat)) = [pr r s] := by
      rw [show (1 : Int) + ((s - 1).toNat : Nat) = s by omega]
      exact elC_lo (by omega) h
    have a2 : elC p q ((1 : Int) + ((q - s - 1).toNat : Nat)) = [pr (p - r) (q - s)] := by
      rw [show (1 : Int) + ((q - s - 1).toNat : Nat) = q - s by omega]
      exact elC_hi (by omega) h'
    have hne : s ≠ q - s := fun z => by
      rw [← z] at h'
      have e : q * r + 1 = q * (p - r) - 1 := by omega
      have e2 : q * (p - r - r) = 2 := by
        rw [Int.mul_sub]
        omega
      have hd : q ∣ 2 := ⟨_, e2.symm⟩
      have := Int.le_of_dvd (by decide) hd
      omega
    rcases Int.lt_or_gt_of_ne hne with hlt | hlt
    · left
      rw [FM.flat_two (k := (s - 1).toNat) (l := (q - s - 1).toNat) (by omega) _ (by omega) no, a1, a2]
      rfl
    · right
      rw [FM.flat_two (k := (q - s - 1).toNat) (l := (s - 1).toNat) (by omega) _ (by omega) (fun i hi h1 h2 => no i hi h2 h1), a1, a2]
      rfl
theorem elders_ap {p q r s : Int} {st : Stt} (hw : st.all (refsLt st.length) = true) (hp : p.natAbs < 100000) (hq : 2 ≤ q) (hq2 : q < 40000) (g : Int.gcd p q = 1) (hs : 1 ≤ s) (hs2 : s < q) (h : p * s - q * r = 1) :
    F_l_elders [.d (pr p q)] st = .ok (.d (.tuple [pr r s, pr (p - r) (q - s)])) st := by
  rw [l_elders_in]
  obtain ⟨y2, y3, e⟩ := fo_elders (p := p) (q := q) (st := st) (by omega) (by omega) (by omega) ((List.range (q - 1).toNat).map fun i => (1 : Int) + (i : Nat)) [] none none (fun x hx => by
    obtain ⟨i, hi, rfl⟩ := List.mem_map.mp hx
    have := List.mem_range.mp hi
    omega) (by rw [List.length_map, List.length_range]; simp only [List.length_nil]; omega)
  rw [List.nil_append, ← intsD_map] at e
  have er : iArgs rng2 (aCons (sC (.int 1)) (aCons (sBin ixD (sVar 0) (sC (.int 1))) aNil)) [some (.d (pr p q)), some (.r st.length), none, none] (st ++ [.lst []]) = .ok (intsD 1 (q - 1).toNat) (st ++ [.lst []]) := by
    have e := rng2_ap (s := st ++ [.lst []]) (i := 1) (j := q) (by omega) (by omega)
    simp [e]
  have hr : r.natAbs < 1000000 := by
    have e1 : q * r = p * s - 1 := by omega
    have b1 : q * r ≤ q * (100000) := by
      rw [e1]
      have : p * s ≤ 100000 * s := Int.mul_le_mul_of_nonneg_right (by omega) (by omega)
      have h2 : 100000 * s ≤ 100000 * q := Int.mul_le_mul_of_nonneg_left (by omega) (by decide)
      omega
    have b2 : q * (-100001) ≤ q * r := by
      rw [e1]
      have : -100000 * s ≤ p * s := Int.mul_le_mul_of_nonneg_right (by omega) (by omega)
      omega
    have c1 := Int.le_of_mul_le_mul_left b1 (by omega)
    have c2 := Int.le_of_mul_le_mul_left b2 (by omega)
    omega
  have m : ∀ x y z w : Int, x.natAbs < 10000000 → y.natAbs < 10000000 → (mulOk x z && mulOk y w) = true := fun x y z w hx hy => by rw [mulOk_l (by omega), mulOk_l (by omega)]; rfl
  have t1 : r * (q - s) - s * (p - r) = -1 := by
    rw [Int.mul_sub, Int.mul_sub, Int.mul_comm s p, Int.mul_comm s r, Int.mul_comm r q]
    omega
  have t2 : (p - r) * s - (q - s) * r = 1 := by
    rw [Int.sub_mul, Int.sub_mul, Int.mul_comm r s]
    omega
  have f1 : ∀ st', F_l_fall [.d (pr r s), .d (pr (p - r) (q - s))] st' = .ok (.d (.bool true)) st' := fun st' => by
    rw [fall_ap (m _ _ _ _ (by omega) (by omega)), t1]
    rfl
  have f2 : ∀ st', F_l_fall [.d (pr (p - r) (q - s)), .d (pr r s)] st' = .ok (.d (.bool false)) st' := fun st' => by
    rw [fall_ap (m _ _ _ _ (by omega) (by omega)), t2]
    rfl
  have gt : ∀ d : D, gcR st.length (.ok (.d d) (st ++ [.gone])) = .ok (.d d) st := fun d => gcR_dend hw
  generalize intsD 1 (q - 1).toNat = L at e er
  rcases elders_list hq g hs hs2 h with el | el
  · rw [el] at e
    simp [B_l_elders, lstM0, bFor_ap er, e, f1, tupleD, toL, gt]
  · rw [el] at e
    simp [B_l_elders, lstM0, bFor_ap er, e, f2, tupleD, toL, gt]
/-- a fraction with bounds -/
structure Frb (m p q : Int) : Prop where
  g : Int.gcd p q = 1
  q0 : 0 ≤ q
  qm : q ≤ m
  top : q = 0 → p = 1
  lo : -m ≤ p
  hi : p ≤ m
theorem SomeFr.frb {m p q : Int} (h : SomeFr m p q) (hm : 0 < m) : Frb (3 * m) p q := by
  have h0 := h.q0
  have h1 := h.qm
  by_cases hq : 0 < q
  · have := h.lo hq
    have := h.hi hq
    exact ⟨h.g, h0, by omega, h.top, by omega, by omega⟩
  · have := h.top (by omega)
    exact ⟨h.g, h0, by omega, h.top, by omega, by omega⟩
theorem Frb.mono {m n p q : Int} (h : Frb m p q) (hm : m ≤ n) : Frb n p q := ⟨h.g, h.q0, Int.le_trans h.qm hm, h.top, by have := h.lo; omega, by have := h.hi; omega⟩
theorem Frb.fr {m p q : Int} (h : Frb m p q) (hm : m ≤ 9999 := by decide) : isFr (pr p q) = true := by
  rw [isFr_pr]
  have h1 := h.q0
  have h2 := h.qm
  have h3 := h.lo
  have h4 := h.hi
  refine ⟨by omega, by omega, h1, by omega, h.g, ?_⟩
  by_cases hq : q = 0
  · exact .inr (h.top hq)
  · exact .inl (by omega)
theorem Frb.of {p q : Int} (h : isFr (pr p q) = true) : Frb 9999 p q := by
  rw [isFr_pr] at h
  obtain ⟨h1, h2, h3, h4, h5, h6⟩ := h
  exact ⟨h5, h3, h4, fun z => by omega, h1, h2⟩
/-- the sum of neighbours -/
theorem Frb.sum {m p q r t : Int} (h : Frb m p q) (g : Frb m r t) (n : p * t - q * r = 1 ∨ p * t - q * r = -1) : Frb (2 * m) (p + r) (q + t) := by
  have a1 := h.q0
  have a2 := h.qm
  have a3 := h.lo
  have a4 := h.hi
  have b1 := g.q0
  have b2 := g.qm
  have b3 := g.lo
  have b4 := g.hi
  have e : (p + r) * t - (q + t) * r = p * t - q * r := by
    rw [Int.add_mul, Int.add_mul, Int.mul_comm t r]
    omega
  refine ⟨FM.cop_cross (by rw [e]; exact n), by omega, by omega, fun z => ?_, by omega, by omega⟩
  exfalso
  have z1 : q = 0 := by omega
  have z2 : t = 0 := by omega
  subst z1 z2
  simp at n
end DL

namespace DL
open PySem PySem.Spec PyProof.Rows L2
def B_p_terms_of : SX := (bSeq (bTgt (gT 2 (gsCons (gN 1) (gsCons (gN 2) gsNil))) (sVar 0))
  (bSeq (bSet 3 (sLstM aNil))
  (bSeq (bWhile (sBin (cmpD fun i j => decide (j < i)) (sVar 2) (sC (.int 0)))
  (bSeq (bDrop (sMut appR (sVar 3) (sBin fdivD (sVar 1) (sVar 2))))
  (bPar 1 2 (sVar 2) (sBin modD (sVar 1) (sVar 2)))))
  (bRet (sVar 3)))))
def F_p_terms_of : List Sv → Stt → R Sv := Fg 4 1 B_p_terms_of
theorem h_p_terms_of : Hok 4 1 B_p_terms_of F_p_terms_of := hokg
theorem p_terms_of_in {x0 : Sv} {s : Stt} : F_p_terms_of [x0] s = gcR s.length (outR (B_p_terms_of [some x0, none, none, none] s)) := rfl

def B_p_value_of : SX := (bSeq (bTgt (gT 2 (gsCons (gN 1) (gsCons (gN 2) gsNil))) (sTup (aCons (sC (.int 1)) (aCons (sC (.int 0)) aNil))))
  (bSeq (bFor (iSeq (sUn revD (sVar 0))) (gN 3)
  (bPar 1 2 (sBin addD (sBin mulD (sVar 3) (sVar 1)) (sVar 2)) (sVar 1)))
  (bRet (sTup (aCons (sVar 1) (aCons (sVar 2) aNil))))))
def F_p_value_of : List Sv → Stt → R Sv := F0 4 1 B_p_value_of
theorem h_p_value_of : Hok 4 1 B_p_value_of F_p_value_of := hok0
theorem p_value_of_in {x0 : Sv} {s : Stt} : F_p_value_of [x0] s = outR (B_p_value_of [some x0, none, none, none] s) := rfl

def B_p_parents_of : SX := (bSeq (bSet 1 (sCall F_p_terms_of (aCons (sVar 0) aNil)))
  (bSeq (bSet 2 (sCall F_p_value_of (aCons (sSl (sVar 1) oNone (oSome (sUn negD (sC (.int 1))))) aNil)))
  (bSeq (bSet 3 (sTup (aCons (sBin subD (sBin ixD (sVar 0) (sC (.int 0))) (sBin ixD (sVar 2) (sC (.int 0)))) (aCons (sBin subD (sBin ixD (sVar 0) (sC (.int 1))) (sBin ixD (sVar 2) (sC (.int 1)))) aNil))))
  (bRet (sIte (sCall F_p_less (aCons (sVar 2) (aCons (sVar 3) aNil))) (sTup (aCons (sVar 2) (aCons (sVar 3) aNil))) (sTup (aCons (sVar 3) (aCons (sVar 2) aNil))))))))
def F_p_parents_of : List Sv → Stt → R Sv := F0 4 1 B_p_parents_of
theorem h_p_parents_of : Hok 4 1 B_p_parents_of F_p_parents_of := hok0
theorem p_parents_of_in {x0 : Sv} {s : Stt} : F_p_parents_of [x0] s = outR (B_p_parents_of [some x0, none, none, none] s) := rfl

theorem iD_len {l : List Int} : (l.map PyData.int).length = l.length := List.length_map ..
def tmC : EX := sBin (cmpD fun i j => decide (j < i)) (sVar 2) (sC (.int 0))
def tmB : SX := bSeq (bDrop (sMut appR (sVar 3) (sBin fdivD (sVar 1) (sVar 2)))) (bPar 1 2 (sVar 2) (sBin modD (sVar 1) (sVar 2)))
theorem wh_terms {x0 : Sv} {st : Stt} : ∀ (n : Nat) (p q : Int) (acc : List D), q.toNat < n → 0 ≤ q → q < 1000000 → acc.length + q.toNat < 90000 → ∃ y1 y2,
    wh tmC tmB n [some x0, some (.d (.int p)), some (.d (.int q)), some (.r st.length)] (st ++ [.lst acc]) = .nx [some x0, y1, y2, some (.r st.length)] (st ++ [.lst (acc ++ (FM.cfT p q).map PyData.int)])
  | 0, p, q, acc, h, _, _, _ => by omega
  | n + 1, p, q, acc, h, h0, h1, h2 => by
    rw [wh_succ]
    by_cases hq : 0 < q
    · have e1 := Int.emod_nonneg p (show q ≠ 0 by omega)
      have e2 := Int.emod_lt_of_pos p hq
      obtain ⟨y1, y2, ih⟩ := wh_terms (x0 := x0) (st := st) n q (p % q) (acc ++ [.int (p / q)]) (by omega) e1 (by omega) (by rw [List.length_append, List.length_singleton]; omega)
      refine ⟨y1, y2, ?_⟩
      rw [FM.cfT_pos hq, List.map_cons]
      rw [List.append_assoc, List.singleton_append] at ih
      have hd : 0 < q ∧ q < 1073741824 := ⟨hq, by omega⟩
      simp [tmC, tmB, hq, hd, appR_end (ds := acc) (show acc.length < 100000 by omega), show q < 1073741824 by omega]
      exact ih
    · refine ⟨some (.d (.int p)), some (.d (.int q)), ?_⟩
      rw [FM.cfT_zero hq]
      simp [tmC, hq]
theorem terms_ap {p q : Int} {st : Stt} (hw : st.all (refsLt st.length) = true) (h0 : 0 ≤ q) (h : q < 80000) : F_p_terms_of [.d (pr p q)] st = .ok (.d (.list ((FM.cfT p q).map PyData.int))) st := by
  rw [p_terms_of_in]
  obtain ⟨y1, y2, e⟩ := wh_terms (x0 := .d (pr p q)) (st := st) fuel p q [] (by unfold fuel; omega) h0 (by omega) (by simp only [List.length_nil]; omega)
  unfold tmC tmB at e
  rw [List.nil_append] at e
  simp [B_p_terms_of, lstM0, bWhile_ap, e, gcR_end hw]
theorem fo_value {x0 : Sv} {st : Stt} : ∀ (l : List Int) (x3 : Option Sv), (∀ t ∈ l, t.natAbs < 1000000000) → ∃ y3,
    fo (gN 3) (bPar 1 2 (sBin addD (sBin mulD (sVar 3) (sVar 1)) (sVar 2)) (sVar 1)) (l.map PyData.int).reverse [some x0, some (.d (.int 1)), some (.d (.int 0)), x3] st = .nx [some x0, some (.d (.int (FM.val l).1)), some (.d (.int (FM.val l).2)), y3] st
  | [], x3, _ => ⟨x3, rfl⟩
  | t :: l, x3, h => by
    obtain ⟨y3, ih⟩ := fo_value (x0 := x0) (st := st) l x3 fun s hs => h s (List.mem_cons_of_mem _ hs)
    refine ⟨some (.d (.int t)), ?_⟩
    rw [List.map_cons, List.reverse_cons, fo_append, ih]
    simp [mulOk_l (show t.natAbs < 18446744073709551616 by have := h t List.mem_cons_self; omega), FM.val]
theorem value_ap {l : List Int} {st : Stt} (h : ∀ t ∈ l, t.natAbs < 1000000000) : F_p_value_of [.d (.list (l.map PyData.int))] st = .ok (.d (pr (FM.val l).1 (FM.val l).2)) st := by
  rw [p_value_of_in]
  obtain ⟨y3, e⟩ := fo_value (x0 := .d (.list (l.map PyData.int))) (st := st) l none h
  have e2 : iSeq (sUn revD (sVar 0)) [some (.d (.list (l.map PyData.int))), some (.d (.int 1)), some (.d (.int 0)), none] st = .ok (l.map PyData.int).reverse st := iSeq_ap (by simp)
  simp [B_p_value_of, bFor_ap e2, e]
theorem cf_bound : ∀ (n : Nat) (p q B : Int), q.toNat ≤ n → p.natAbs ≤ B → q.natAbs ≤ B → ∀ t ∈ FM.cfT p q, (t.natAbs : Int) ≤ B
  | 0, p, q, B, h, _, _ => by
    rw [FM.cfT_zero (by omega)]
    intro t ht
    cases ht
  | n + 1, p, q, B, h, h1, h2 => by
    by_cases hq : 0 < q
    · have e1 := Int.emod_nonneg p (show q ≠ 0 by omega)
      have e2 := Int.emod_lt_of_pos p hq
      rw [FM.cfT_pos hq]
      intro t ht
      rcases List.mem_cons.mp ht with rfl | ht
      · have := Int.natAbs_ediv_le_natAbs p q
        omega
      · exact cf_bound n q (p % q) B (by omega) h2 (by omega) t ht
    · rw [FM.cfT_zero hq]
      intro t ht
      cases ht
theorem parents_ap {p q r s : Int} {st : Stt} (hw : st.all (refsLt st.length) = true) (hp : p.natAbs < 100000) (hq : 2 ≤ q) (hq2 : q < 40000) (g : Int.gcd p q = 1) (hs : 1 ≤ s) (hs2 : s < q) (h : p * s - q * r = 1) :
    F_p_parents_of [.d (pr p q)] st = .ok (.d (.tuple [pr r s, pr (p - r) (q - s)])) st := by
  rw [p_parents_of_in]
  have e1 := terms_ap (p := p) hw (show 0 ≤ q by omega) (by omega)
  obtain ⟨R, S, eV, d, _, a2⟩ := FM.val_drop q.toNat p q (Nat.le_refl _) (by omega) g
  have a2 := a2 hq
  have bd := cf_bound q.toNat p q 100000 (Nat.le_refl _) (by omega) (by omega)
  have e2 := value_ap (l := (FM.cfT p q).dropLast) (st := st) (fun t ht => by
    have := bd t (List.dropLast_subset _ ht)
    omega)
  rw [eV, List.map_dropLast] at e2
  have hR : R.natAbs < 1000000 := by
    have k1 : p * S ≤ 100000 * S := Int.mul_le_mul_of_nonneg_right (by omega) (by omega)
    have k2 : -100000 * S ≤ p * S := Int.mul_le_mul_of_nonneg_right (by omega) (by omega)
    have b1 : q * R ≤ q * 100001 := by omega
    have b2 : q * (-100001) ≤ q * R := by omega
    have c1 := Int.le_of_mul_le_mul_left b1 (by omega)
    have c2 := Int.le_of_mul_le_mul_left b2 (by omega)
    omega
  have m : (mulOk R (q - S) && mulOk S (p - R)) = true := by rw [mulOk_l (by omega), mulOk_l (by omega)]; rfl
  have x1 : R * (q - S) - S * (p - R) = -(p * S - q * R) := by
    rw [Int.mul_sub, Int.mul_sub, Int.mul_comm S p, Int.mul_comm S R, Int.mul_comm R q]
    omega
  have l1 : F_p_less [.d (pr R S), .d (pr (p - R) (q - S))] st = .ok (.d (.bool (decide (R * (q - S) - S * (p - R) < 0)))) st := if_pos m
  rw [x1] at l1
  rcases d with d | d
  · have hSs : s = S := FM.inv_one hq g ((FM.mod_one hq h).1.trans (FM.mod_one hq d).1.symm) (by omega) hs2 (by omega) a2.2
    subst hSs
    have hRr : r = R := Int.eq_of_mul_eq_mul_left (show q ≠ 0 by omega) (by omega)
    subst hRr
    rw [d] at l1
    simp [B_p_parents_of, e1, cut_init, e2, l1]
  · have x2 : p * (q - S) - q * (p - R) = 1 := by
      rw [Int.mul_sub, Int.mul_sub, Int.mul_comm q p]
      omega
    have hSs : s = q - S := FM.inv_one hq g ((FM.mod_one hq h).1.trans (FM.mod_one hq x2).1.symm) (by omega) hs2 (by omega) (by omega)
    subst hSs
    have hRr : r = p - R := Int.eq_of_mul_eq_mul_left (show q ≠ 0 by omega) (by omega)
    subst hRr
    rw [d] at l1
    simp [B_p_parents_of, e1, cut_init, e2, l1]
    omega
end DL

namespace DL
open PySem PySem.Spec PyProof.Rows L2
def sgn (b : Bool) : Nat := if b then 82 else 76
def wStr (l : List Bool) : Str := ⟨(l.map sgn).toArray⟩
theorem str_ext {a b : Str} (h : a.cps.toList = b.cps.toList) : a = b := by
  cases a
  cases b
  congr 1
  exact Array.toList_inj.mp h
theorem w_nil : (("" : Str)) = wStr [] := by decide +kernel
theorem w_R : (("R" : Str)) = wStr [true] := by decide +kernel
theorem w_L : (("L" : Str)) = wStr [false] := by decide +kernel
theorem w_app (a b : List Bool) : wStr a ++ wStr b = wStr (a ++ b) := by
  apply str_ext
  show (((a.map sgn).toArray ++ (b.map sgn).toArray : Array Nat)).toList = (((a ++ b).map sgn).toArray).toList
  simp
theorem w_len (a : List Bool) : (wStr a).length = a.length := by
  show ((a.map sgn).toArray).size = _
  simp
theorem w_inj {a b : List Bool} (h : wStr a = wStr b) : a = b := by
  have e : a.map sgn = b.map sgn := by
    have := congrArg (fun s : Str => s.cps.toList) h
    simpa [wStr] using this
  have inj : ∀ x y, sgn x = sgn y → x = y := by decide
  exact List.map_inj_right inj |>.mp e
theorem fold_list (z : Array Nat) : ∀ (m : Nat) (acc : Array Nat), ((List.replicate m z).foldl (· ++ ·) acc).toList = acc.toList ++ (List.replicate m z.toList).flatten
  | 0, acc => by simp
  | m + 1, acc => by
    rw [List.replicate_succ, List.foldl_cons, fold_list z m, List.replicate_succ, List.flatten_cons, Array.toList_append, List.append_assoc]
theorem flat_rep (x : Nat) : ∀ m : Nat, (List.replicate m [x]).flatten = List.replicate m x
  | 0 => rfl
  | m + 1 => by
    rw [List.replicate_succ, List.flatten_cons, flat_rep x m, List.replicate_succ]
    rfl
theorem w_rep (b : Bool) (k : Int) : repS (wStr [b]) k = wStr (List.replicate k.toNat b) := by
  unfold repS
  by_cases c1 : k < 1
  · rw [if_pos c1, show k.toNat = 0 by omega]
    rfl
  · rw [if_neg c1]
    by_cases c2 : k = 1
    · subst c2
      rfl
    · have e : (k == 1 || (wStr [b]).length == 0) = false := by
        rw [w_len]
        simp [c2]
      rw [e, if_neg (by decide)]
      apply str_ext
      show ((List.replicate k.toNat (wStr [b]).cps).foldl (· ++ ·) #[]).toList = _
      rw [fold_list]
      show [] ++ (List.replicate k.toNat [sgn b]).flatten = ((List.replicate k.toNat b).map sgn).toArray.toList
      rw [flat_rep, List.nil_append, List.map_replicate]
theorem w_drop (a : List Bool) : cutS (wStr a) none (some (-1)) = wStr a.dropLast := by
  apply str_ext
  have e := cut_init (a.map sgn)
  unfold cutA at e
  have hl : (wStr a).length = (a.map sgn).length := by rw [w_len, List.length_map]
  unfold cutS
  rw [hl]
  show ((((a.map sgn).toArray).toList.drop _).take _).toArray.toList = ((a.dropLast.map sgn).toArray).toList
  rw [List.toList_toArray, List.toList_toArray, List.toList_toArray, e, List.map_dropLast]
def B_p_word : SX := (bSeq (bDrop (sCall F_p_check_fraction (aCons (sVar 0) aNil)))
  (bSeq (bIf (sBin (cmpD fun i j => decide (i < j)) (sBin ixD (sVar 0) (sC (.int 0))) (sC (.int 1)))
  (bRaise 7)
  bNext)
  (bSeq (bIf (sBin eqD (sVar 0) (sC (.tuple [(.int 1), (.int 0)])))
  (bRaise 8)
  bNext)
  (bSeq (bSet 1 (sC (.str "")))
  (bSeq (bFor (iArgs enmA (aCons (sCall F_p_terms_of (aCons (sVar 0) aNil)) aNil)) (gT 2 (gsCons (gN 2) (gsCons (gN 3) gsNil)))
  (bAug 1 (sBin repSD (sIte (sBin eqD (sBin modD (sVar 2) (sC (.int 2))) (sC (.int 0))) (sC (.str "R")) (sC (.str "L"))) (sVar 3))))
  (bRet (sSl (sVar 1) oNone (oSome (sUn negD (sC (.int 1)))))))))))
def F_p_word : List Sv → Stt → R Sv := F0 4 1 B_p_word
theorem h_p_word : Hok 4 1 B_p_word F_p_word := hok0
theorem p_word_in {x0 : Sv} {s : Stt} : F_p_word [x0] s = outR (B_p_word [some x0, none, none, none] s) := rfl

def B_p_from_word : SX := (bSeq (bIf (sOr (sNot (sUn (isiD "str") (sVar 0))) (sOr (sBin (cmpD fun i j => decide (j < i)) (sCB lenD (aCons (sVar 0) aNil)) (sC (.int 200))) (sNot (sCB allD (aCons (sLc [3] (iText (sVar 0)) (gN 3) (sC (.bool true)) (sBin inSD (sVar 3) (sC (.str "LR")))) aNil)))))
  (bRaise 1)
  bNext)
  (bSeq (bPar 1 2 (sTup (aCons (sC (.int 0)) (aCons (sC (.int 1)) aNil))) (sC (.tuple [(.int 1), (.int 0)])))
  (bSeq (bFor (iText (sVar 0)) (gN 3)
  (bIf (sBin eqD (sVar 3) (sC (.str "L")))
  (bSet 2 (sCall F_p_sum_of (aCons (sVar 1) (aCons (sVar 2) aNil))))
  (bSet 1 (sCall F_p_sum_of (aCons (sVar 1) (aCons (sVar 2) aNil))))))
  (bRet (sCall F_p_limited (aCons (sCall F_p_sum_of (aCons (sVar 1) (aCons (sVar 2) aNil))) aNil))))))
def F_p_from_word : List Sv → Stt → R Sv := F0 4 1 B_p_from_word
theorem h_p_from_word : Hok 4 1 B_p_from_word F_p_from_word := hok0
theorem p_from_word_in {x0 : Sv} {s : Stt} : F_p_from_word [x0] s = outR (B_p_from_word [some x0, none, none, none] s) := rfl

def enF : Nat → List D → List D
  | _, [] => []
  | m, d :: r => .tuple [.int (m : Nat), d] :: enF (m + 1) r
theorem en_is : ∀ (ds : List D) (m : Nat), ((List.range ds.length).map fun i => PyData.tuple [.int ((m + i : Nat) : Int), ds.getD i .none]) = enF m ds
  | [], _ => rfl
  | d :: r, m => by
    rw [List.length_cons, List.range_succ_eq_map, List.map_cons, List.map_map]
    unfold enF
    congr 1
    rw [← en_is r (m + 1)]
    apply List.map_congr_left
    intro i hi
    show PyData.tuple [.int ((m + (i + 1) : Nat) : Int), (d :: r).getD (i + 1) .none] = PyData.tuple [.int ((m + 1 + i : Nat) : Int), r.getD i .none]
    rw [show m + (i + 1) = m + 1 + i by omega]
    rfl
theorem enumD_is (ds : List D) : enumD ds = enF 0 ds := by
  rw [← en_is ds 0]
  unfold enumD
  apply List.map_congr_left
  intro i hi
  rw [Nat.zero_add]
def wdB : SX := (bAug 1 (sBin repSD (sIte (sBin eqD (sBin modD (sVar 2) (sC (.int 2))) (sC (.int 0))) (sC (.str "R")) (sC (.str "L"))) (sVar 3)))
theorem wd_step {x0 : Option Sv} {st : Stt} {m : Nat} {acc : List Bool} {t : Int} (h0 : 0 ≤ t) (hl : acc.length + t.toNat ≤ 100000) :
    wdB [x0, some (.d (.str (wStr acc))), some (.d (.int (m : Nat))), some (.d (.int t))] st = .nx [x0, some (.d (.str (wStr (acc ++ List.replicate t.toNat (m % 2 == 0))))), some (.d (.int (m : Nat))), some (.d (.int t))] st := by
  have r : ∀ b : Bool, repSD (.d (.str (wStr [b]))) (.d (.int t)) st = some (.str (wStr (List.replicate t.toNat b))) := fun b => by
    show (if 0 ≤ t ∧ t ≤ 100000 ∧ (wStr [b]).length ≤ 1 then some (PyData.str (repS (wStr [b]) t)) else none) = _
    rw [if_pos ⟨h0, by omega, by rw [w_len]; exact Nat.le_refl _⟩, w_rep]
  have ag : ∀ b : Bool, augD (.d (.str (wStr acc))) (.d (.str (wStr (List.replicate t.toNat b)))) st = some (.str (wStr (acc ++ List.replicate t.toNat b))) := fun b => by
    show (if szOk ((wStr acc).length + (wStr (List.replicate t.toNat b)).length) = true then some (PyData.str (wStr acc ++ wStr (List.replicate t.toNat b))) else none) = _
    rw [w_len, w_len, List.length_replicate, w_app, if_pos (show szOk (acc.length + t.toNat) = true from decide_eq_true hl)]
  unfold wdB bAug
  rcases Nat.mod_two_eq_zero_or_one m with hm | hm
  · have e1 : (((m : Int) % 2) == 0) = true := by simp; omega
    have e2 : (m % 2 == 0) = true := by rw [hm]; rfl
    rw [e2]
    simp [e1, w_R, r, ag]
  · have e1 : (((m : Int) % 2) == 0) = false := by simp; omega
    have e2 : (m % 2 == 0) = false := by rw [hm]; rfl
    rw [e2]
    simp [e1, w_L, r, ag]
theorem fo_word {x0 : Option Sv} {st : Stt} : ∀ (ts : List Int) (m : Nat) (acc : List Bool) (x2 x3 : Option Sv), (∀ t ∈ ts, 0 ≤ t) → (acc ++ FM.runs (m % 2 == 0) ts).length ≤ 100000 → ∃ y2 y3,
    fo (gT 2 (gsCons (gN 2) (gsCons (gN 3) gsNil))) wdB (enF m (ts.map PyData.int)) [x0, some (.d (.str (wStr acc))), x2, x3] st = .nx [x0, some (.d (.str (wStr (acc ++ FM.runs (m % 2 == 0) ts)))), y2, y3] st
  | [], m, acc, x2, x3, _, _ => ⟨x2, x3, by
    show RS.nx _ _ = RS.nx _ _
    rw [show FM.runs (m % 2 == 0) [] = [] from rfl, List.append_nil]⟩
  | t :: ts, m, acc, x2, x3, h, hl => by
    have e0 : FM.runs (m % 2 == 0) (t :: ts) = List.replicate t.toNat (m % 2 == 0) ++ FM.runs (!(m % 2 == 0)) ts := rfl
    have e1 : (!(m % 2 == 0)) = ((m + 1) % 2 == 0) := by
      rcases Nat.mod_two_eq_zero_or_one m with hm | hm
      · rw [hm, show (m + 1) % 2 = 1 by omega]
        rfl
      · rw [hm, show (m + 1) % 2 = 0 by omega]
        rfl
    rw [e0, e1] at hl ⊢
    have h0 := h t List.mem_cons_self
    obtain ⟨y2, y3, ih⟩ := fo_word (x0 := x0) (st := st) ts (m + 1) (acc ++ List.replicate t.toNat (m % 2 == 0)) (some (.d (.int (m : Nat)))) (some (.d (.int t))) (fun s hs => h s (List.mem_cons_of_mem _ hs)) (by rw [List.append_assoc]; exact hl)
    refine ⟨y2, y3, ?_⟩
    rw [List.append_assoc] at ih
    rw [← ih, List.map_cons]
    show fo _ wdB (.tuple [.int (m : Nat), .int t] :: enF (m + 1) (ts.map PyData.int)) _ st = _
    have hc := fo_cons (g := gT 2 (gsCons (gN 2) (gsCons (gN 3) gsNil))) (B := wdB) (d := .tuple [.int (m : Nat), .int t]) (r := enF (m + 1) (ts.map PyData.int)) (env := [x0, some (.d (.str (wStr acc))), x2, x3]) (st := st) (e := [x0, some (.d (.str (wStr acc))), some (.d (.int (m : Nat))), some (.d (.int t))]) rfl
    rw [hc, wd_step h0 (by rw [List.length_append, List.length_append, List.length_replicate] at hl; omega), seqR_nx]
theorem runs_len {p q : Int} (hp : 1 ≤ p) (hq : 1 ≤ q) (g : Int.gcd p q = 1) : (FM.runs true (FM.cfT p q)).length ≤ (p + q).toNat + 1 := by
  have e := FM.path_runs (p + q).toNat p q hp hq (Nat.le_refl _) g
  have sl : ∀ (n : Nat) (x y : Int), (FM.sb n x y).length ≤ n := fun n => by
    induction n with
    | zero => intro x y; exact Nat.le_refl _
    | succ n ih =>
      intro x y
      unfold FM.sb
      split
      · rw [List.length_cons]; exact Nat.succ_le_succ (ih _ _)
      · split
        · rw [List.length_cons]; exact Nat.succ_le_succ (ih _ _)
        · exact Nat.zero_le _
  have e2 := congrArg List.length e
  rw [List.length_dropLast] at e2
  have := sl (p + q).toNat p q
  unfold FM.path at e2
  omega
theorem cf_nn : ∀ (n : Nat) (p q : Int), q.toNat ≤ n → 0 ≤ p → ∀ t ∈ FM.cfT p q, 0 ≤ t
  | 0, p, q, h, _ => by
    rw [FM.cfT_zero (by omega)]
    intro t ht
    cases ht
  | n + 1, p, q, h, hp => by
    by_cases hq : 0 < q
    · have e1 := Int.emod_nonneg p (show q ≠ 0 by omega)
      have e2 := Int.emod_lt_of_pos p hq
      rw [FM.cfT_pos hq]
      intro t ht
      rcases List.mem_cons.mp ht with rfl | ht
      · exact Int.ediv_nonneg hp (by omega)
      · exact cf_nn n q (p % q) (by omega) (by omega) t ht
    · rw [FM.cfT_zero hq]
      intro t ht
      cases ht
theorem word_ap {p q : Int} {st : Stt} (hw : st.all (refsLt st.length) = true) (f : isFr (pr p q) = true) (hp : 1 ≤ p) (hq : 1 ≤ q) : F_p_word [.d (pr p q)] st = .ok (.d (.str (wStr (FM.path p q)))) st := by
  obtain ⟨f1, f2, f3, f4, f5, f6⟩ := isFr_pr.mp f
  have ck : F_p_check_fraction [.d (pr p q)] st = .ok (.d .none) st := by
    unfold F_p_check_fraction
    simp [isFr_ask f, f]
  have rl := runs_len hp hq f5
  have tm := terms_ap (p := p) hw (show 0 ≤ q by omega) (by omega)
  obtain ⟨y2, y3, e⟩ := fo_word (x0 := some (.d (pr p q))) (st := st) (FM.cfT p q) 0 [] none none (cf_nn q.toNat p q (Nat.le_refl _) (by omega)) (by
    show (FM.runs true (FM.cfT p q)).length ≤ 100000
    omega)
  rw [List.nil_append, show ((0 % 2 == 0) : Bool) = true from rfl] at e
  have er : iArgs enmA (aCons (sCall F_p_terms_of (aCons (sVar 0) aNil)) aNil) [some (.d (pr p q)), some (.d (.str (wStr []))), none, none] st = .ok (enF 0 ((FM.cfT p q).map PyData.int)) st := by
    rw [← enumD_is]
    simp [tm]
  have sl := slD_s (z := wStr (FM.runs true (FM.cfT p q))) (lo := none) (hi := some (-1)) (s := st) (by rw [w_len]; omega)
  rw [w_drop, FM.path_runs (p + q).toNat p q hp hq (Nat.le_refl _) f5] at sl
  have n1 : ¬ p < 1 := by omega
  have n2 : ¬ q = 0 := by omega
  unfold wdB at e
  rw [p_word_in]
  rw [← w_nil] at er e
  simp [B_p_word, ck, n1, n2, bFor_ap er, e, sl]
theorem pl_sgn (b : Bool) : pl 0 (.str (wStr [b])) = true := by
  unfold pl
  cases b <;> decide +kernel
theorem eq_L (b : Bool) (s : Stt) : eqD (.d (.str (wStr [b]))) (.d (.str "L")) s = some (.bool (!b)) := by
  rw [w_L]
  cases b
  · exact eqD_same (n := 0) (pl_sgn false)
  · exact eqD_dif (n := 0) (m := 0) (pl_sgn true) (pl_sgn false) (fun z => by
      have : wStr [true] = wStr [false] := by injection z
      have := w_inj this
      cases this)
theorem iText_w {l : List Bool} {f : EX} {env : En} {st : Stt} (h : f env st = .ok (.d (.str (wStr l))) st) : iText f env st = .ok (l.map fun b => PyData.str (wStr [b])) st := by
  unfold iText
  rw [h]
  show DL.R.ok ((wStr l).cps.toList.map fun c => PyData.str ⟨#[c]⟩) st = _
  congr 1
  show ((l.map sgn).toArray.toList).map _ = _
  rw [List.toList_toArray, List.map_map]
  rfl
theorem fo_fw {x0 : Option Sv} {st : Stt} : ∀ (l : List Bool) (a b c d : Int) (x3 : Option Sv), ∃ y3,
    fo (gN 3) (bIf (sBin eqD (sVar 3) (sC (.str "L"))) (bSet 2 (sCall F_p_sum_of (aCons (sVar 1) (aCons (sVar 2) aNil)))) (bSet 1 (sCall F_p_sum_of (aCons (sVar 1) (aCons (sVar 2) aNil))))) (l.map fun b => PyData.str (wStr [b])) [x0, some (.d (pr a b)), some (.d (pr c d)), x3] st
    = .nx [x0, some (.d (pr (FM.wk l a b c d).1.1 (FM.wk l a b c d).1.2)), some (.d (pr (FM.wk l a b c d).2.1 (FM.wk l a b c d).2.2)), y3] st
  | [], a, b, c, d, x3 => ⟨x3, rfl⟩
  | true :: l, a, b, c, d, x3 => by
    obtain ⟨y3, ih⟩ := fo_fw (x0 := x0) (st := st) l (a + c) (b + d) c d (some (.d (.str (wStr [true]))))
    refine ⟨y3, ?_⟩
    rw [List.map_cons, foN_cons]
    have e := eq_L true st
    have sm := sum_ap (p := a) (q := b) (r := c) (t := d) (s := st)
    simp [e, sm]
    exact ih
  | false :: l, a, b, c, d, x3 => by
    obtain ⟨y3, ih⟩ := fo_fw (x0 := x0) (st := st) l a b (a + c) (b + d) (some (.d (.str (wStr [false]))))
    refine ⟨y3, ?_⟩
    rw [List.map_cons, foN_cons]
    have e := eq_L false st
    have sm := sum_ap (p := a) (q := b) (r := c) (t := d) (s := st)
    simp [e, sm]
    exact ih
theorem in_LR (b : Bool) (s : Stt) : inSD (.d (.str (wStr [b]))) (.d (.str "LR")) s = some (.bool true) := by
  cases b <;> kernel_rfl
theorem from_ap {l : List Bool} {a b c d : Int} {st : Stt} (hw : st.all (refsLt st.length) = true) (hl : l.length ≤ 200) (e : FM.wk l 0 1 1 0 = ((a, b), (c, d))) (f : isFr (pr (a + c) (b + d)) = true) : F_p_from_word [.d (.str (wStr l))] st = .ok (.d (pr (a + c) (b + d))) st := by
  obtain ⟨y3, w⟩ := fo_fw (x0 := some (.d (.str (wStr l)))) (st := st) l 0 1 1 0 none
  rw [e] at w
  have ln : lenD [.d (.str (wStr l))] st = some (.int (l.length : Nat)) := by
    have z : szOk l.length = true := decide_eq_true (by omega)
    unfold lenD toRd
    simp [w_len, z]
  have it1 : iText (sVar 0) [some (.d (.str (wStr l))), none, none, none] st = .ok (l.map fun b => PyData.str (wStr [b])) st := iText_w rfl
  have it2 : iText (sVar 0) [some (.d (.str (wStr l))), some (.d (pr 0 1)), some (.d (pr 1 0)), none] st = .ok (l.map fun b => PyData.str (wStr [b])) st := iText_w rfl
  have h1 : ¬ (200 : Int) < (l.length : Nat) := by omega
  have al : sLc [3] (iText (sVar 0)) (gN 3) (sC (.bool true)) (sBin inSD (sVar 3) (sC (.str "LR"))) [some (.d (.str (wStr l))), none, none, none] st = .ok (.d (.list ((l.map fun b => PyData.str (wStr [b])).map fun _ => .bool true))) st := by
    unfold sLc
    rw [it1]
    have q := lcGo_map (g := gN 3) (f := sBin inSD (sVar 3) (sC (.str "LR"))) (e0 := [some (.d (.str (wStr l))), none, none, none]) (h := fun _ => .bool true) (ge := fun d => [some (.d (.str (wStr l))), none, none, some (.d d)]) (ds := l.map fun b => PyData.str (wStr [b])) (s := st) (acc := []) hw (fun d hd => rfl) (fun d hd t => by
      obtain ⟨b, hb, rfl⟩ := List.mem_map.mp hd
      simp [in_LR]) (by rw [List.length_map, List.length_nil]; omega)
    exact q
  have ad : allD [.d (.list ((l.map fun b => PyData.str (wStr [b])).map fun _ => .bool true))] st = some (.bool true) := by
    have bs : ∀ ds : List D, asBools (ds.map fun _ => .bool true) = some (ds.map fun _ => true) := fun ds => by
      induction ds with
      | nil => rfl
      | cons d ds ih =>
        show (match asBools (ds.map fun _ => PyData.bool true) with | some l => some (true :: l) | none => none) = some (true :: ds.map fun _ => true)
        rw [ih]
    have q := bs (l.map fun b => PyData.str (wStr [b]))
    have q2 : ((l.map fun b => PyData.str (wStr [b])).map fun _ => true).all id = true := by simp
    unfold allD
    simp only [q, q2]
  have sm := sum_ap (p := a) (q := b) (r := c) (t := d) (s := st)
  rw [p_from_word_in]
  simp only [List.map_map] at *
  simp [B_p_from_word, ln, h1, al, ad, bFor_ap it2, w, sm, limited_ap f]
end DL

namespace DL
open PySem PySem.Spec PyProof.Rows L2
def B_p_check_not_top : SX := (bSeq (bDrop (sCall F_p_check_fraction (aCons (sVar 0) aNil)))
  (bIf (sBin eqD (sVar 0) (sC (.tuple [(.int 1), (.int 0)])))
  (bRaise 8)
  bNext))
def F_p_check_not_top : List Sv → Stt → R Sv := F0 1 1 B_p_check_not_top
theorem h_p_check_not_top : Hok 1 1 B_p_check_not_top F_p_check_not_top := hok0
theorem p_check_not_top_in {x0 : Sv} {s : Stt} : F_p_check_not_top [x0] s = outR (B_p_check_not_top [some x0] s) := rfl

def B_p_expansion : SX := (bSeq (bDrop (sCall F_p_check_not_top (aCons (sVar 0) aNil)))
  (bRet (sCB tupleD (aCons (sCall F_p_terms_of (aCons (sVar 0) aNil)) aNil))))
def F_p_expansion : List Sv → Stt → R Sv := F0 1 1 B_p_expansion
theorem h_p_expansion : Hok 1 1 B_p_expansion F_p_expansion := hok0
theorem p_expansion_in {x0 : Sv} {s : Stt} : F_p_expansion [x0] s = outR (B_p_expansion [some x0] s) := rfl

def B_p_from_expansion : SX := (bSeq (bIf (sOr (sNot (sUn (isiD "tuple") (sVar 0))) (sNot (sChain (cmpD fun i j => decide (i ≤ j)) (cmpD fun i j => decide (i ≤ j)) (sC (.int 1)) (sCB lenD (aCons (sVar 0) aNil)) (sC (.int 30)))))
  (bRaise 2)
  bNext)
  (bSeq (bIf (sOr (sNot (sCB allD (aCons (sLc [1] (iTupl (sVar 0)) (gN 1) (sC (.bool true)) (sCall F_p_is_integer (aCons (sVar 1) (aCons (sBin subD (sC (.int 0)) (sC (.int 9999))) (aCons (sC (.int 9999)) aNil))))) aNil))) (sCB anyD (aCons (sLc [1] (iTupl (sSl (sVar 0) (oSome (sC (.int 1))) oNone)) (gN 1) (sC (.bool true)) (sBin (cmpD fun i j => decide (i < j)) (sVar 1) (sC (.int 1)))) aNil)))
  (bRaise 2)
  bNext)
  (bSeq (bIf (sAnd (sBin (cmpD fun i j => decide (j < i)) (sCB lenD (aCons (sVar 0) aNil)) (sC (.int 1))) (sBin eqD (sBin ixD (sVar 0) (sUn negD (sC (.int 1)))) (sC (.int 1))))
  (bRaise 2)
  bNext)
  (bRet (sCall F_p_limited (aCons (sCall F_p_value_of (aCons (sCB listL (aCons (sVar 0) aNil)) aNil)) aNil))))))
def F_p_from_expansion : List Sv → Stt → R Sv := F0 2 1 B_p_from_expansion
theorem h_p_from_expansion : Hok 2 1 B_p_from_expansion F_p_from_expansion := hok0
theorem p_from_expansion_in {x0 : Sv} {s : Stt} : F_p_from_expansion [x0] s = outR (B_p_from_expansion [some x0, none] s) := rfl

def B_p_convergent_list : SX := (bSeq (bSet 1 (sCall F_p_terms_of (aCons (sVar 0) aNil)))
  (bRet (sLc [2] (iArgs rng2 (aCons (sC (.int 1)) (aCons (sBin addD (sCB lenD (aCons (sVar 1) aNil)) (sC (.int 1))) aNil))) (gN 2) (sC (.bool true)) (sCall F_p_value_of (aCons (sSl (sVar 1) oNone (oSome (sVar 2))) aNil)))))
def F_p_convergent_list : List Sv → Stt → R Sv := F0 3 1 B_p_convergent_list
theorem h_p_convergent_list : Hok 3 1 B_p_convergent_list F_p_convergent_list := hok0
theorem p_convergent_list_in {x0 : Sv} {s : Stt} : F_p_convergent_list [x0] s = outR (B_p_convergent_list [some x0, none, none] s) := rfl

def B_p_convergents : SX := (bSeq (bDrop (sCall F_p_check_not_top (aCons (sVar 0) aNil)))
  (bRet (sCall F_p_convergent_list (aCons (sVar 0) aNil))))
def F_p_convergents : List Sv → Stt → R Sv := F0 1 1 B_p_convergents
theorem h_p_convergents : Hok 1 1 B_p_convergents F_p_convergents := hok0
theorem p_convergents_in {x0 : Sv} {s : Stt} : F_p_convergents [x0] s = outR (B_p_convergents [some x0] s) := rfl

theorem ckfr_ap {v : D} {st : Stt} (f : isFr v = true) : F_p_check_fraction [.d v] st = .ok (.d .none) st := by
  unfold F_p_check_fraction
  simp [isFr_ask f, f]
theorem fr_top : isFr (pr 1 0) = true := by decide +kernel
theorem nottop_ap {p q : Int} {st : Stt} (f : isFr (pr p q) = true) (hq : 1 ≤ q) : F_p_check_not_top [.d (pr p q)] st = .ok (.d .none) st := by
  have n : (p == 1 && q == 0) = false := by simp; omega
  rw [p_check_not_top_in]
  simp [B_p_check_not_top, ckfr_ap f, n]
theorem nottop_ex {p q : Int} {st : Stt} (f : isFr (pr p q) = true) (hp : p = 1) (hq : q = 0) : F_p_check_not_top [.d (pr p q)] st = .ex 8 st := by
  have n : (p == 1 && q == 0) = true := by rw [hp, hq]; rfl
  rw [p_check_not_top_in]
  simp [B_p_check_not_top, ckfr_ap f, n]
def iD (l : List Int) : List D := l.map PyData.int
theorem iD_cons {a : Int} {l : List Int} : iD (a :: l) = .int a :: iD l := rfl
@[simp] theorem iD_length {l : List Int} : (iD l).length = l.length := List.length_map ..
theorem expansion_ap {p q : Int} {st : Stt} (hw : st.all (refsLt st.length) = true) (f : isFr (pr p q) = true) (hq : 1 ≤ q) : F_p_expansion [.d (pr p q)] st = .ok (.d (.tuple (iD (FM.cfT p q)))) st := by
  obtain ⟨f1, f2, f3, f4, f5, f6⟩ := isFr_pr.mp f
  have tm := terms_ap (p := p) hw (show 0 ≤ q by omega) (by omega)
  rw [p_expansion_in]
  simp [B_p_expansion, nottop_ap f hq, tm]
  rfl
theorem expansion_ex {p q : Int} {st : Stt} (f : isFr (pr p q) = true) (hp : p = 1) (hq : q = 0) : F_p_expansion [.d (pr p q)] st = .ex 8 st := by
  rw [p_expansion_in]
  simp [B_p_expansion, nottop_ex f hp hq]
theorem bools_const {α : Type} (b : Bool) : ∀ l : List α, asBools (l.map fun _ => PyData.bool b) = some (l.map fun _ => b)
  | [] => rfl
  | a :: l => by
    show (match asBools (l.map fun _ => PyData.bool b) with | some l => some (b :: l) | none => none) = _
    rw [bools_const b l]
    rfl
theorem all_const {α : Type} {l : List α} {s : Stt} : allD [.d (.list (l.map fun _ => .bool true))] s = some (.bool true) := by
  unfold allD
  simp only [bools_const]
  congr 2
  simp
theorem any_const {α : Type} {l : List α} {s : Stt} : anyD [.d (.list (l.map fun _ => .bool false))] s = some (.bool false) := by
  unfold anyD
  simp only [bools_const]
  congr 2
  simp
theorem last_split {α : Type} {l : List α} (h : l ≠ []) : ∃ x y, l = x ++ [y] ∧ l.getLast? = some y :=
  ⟨l.dropLast, l.getLast h, (List.dropLast_concat_getLast h).symm, List.getLast?_eq_some_getLast h⟩
theorem fromexp_ap {a : Int} {l : List Int} {st : Stt} (hw : st.all (refsLt st.length) = true) (h : FM.tailOk l) (hl : (a :: l).length ≤ 30) (bd : ∀ t ∈ a :: l, t.natAbs ≤ 9999) (f : isFr (pr (FM.val (a :: l)).1 (FM.val (a :: l)).2) = true) :
    F_p_from_expansion [.d (.tuple (iD (a :: l)))] st = .ok (.d (pr (FM.val (a :: l)).1 (FM.val (a :: l)).2)) st := by
  rw [List.length_cons] at hl
  have ln : lenD [.d (.tuple (iD (a :: l)))] st = some (.int ((l.length : Int) + 1)) := by
    rw [lenD_t, iD_length, List.length_cons]
    rfl
  have h2 : ¬ (30 < (l.length : Int) + 1) := by omega
  have h3 : ¬ ((l.length : Int) + 1 < 1) := by omega
  have c1 : sLc [1] (iTupl (sVar 0)) (gN 1) (sC (.bool true)) (sCall F_p_is_integer (aCons (sVar 1) (aCons (sBin subD (sC (.int 0)) (sC (.int 9999))) (aCons (sC (.int 9999)) aNil)))) [some (.d (.tuple (iD (a :: l)))), none] st = .ok (.d (.list ((iD (a :: l)).map fun _ => .bool true))) st := by
    rw [sLc_ap (ds := iD (a :: l)) (s := st) (iTupl_ap rfl)]
    exact lcGo_map (h := fun _ => .bool true) (ge := fun d => [some (.d (.tuple (iD (a :: l)))), some (.d d)]) (acc := []) hw (fun d hd => rfl) (fun d hd t => by
      obtain ⟨x, hx, rfl⟩ := List.mem_map.mp hd
      have := bd x hx
      have b1 : -9999 ≤ x := by omega
      have b2 : x ≤ 9999 := by omega
      simp [F_p_is_integer, isDict, isInt, b1, b2]) (by rw [iD_length, List.length_cons, List.length_nil]; omega)
  have c2 : sLc [1] (iTupl (sSl (sVar 0) (oSome (sC (.int 1))) oNone)) (gN 1) (sC (.bool true)) (sBin (cmpD fun i j => decide (i < j)) (sVar 1) (sC (.int 1))) [some (.d (.tuple (iD (a :: l)))), none] st = .ok (.d (.list ((iD l).map fun _ => .bool false))) st := by
    have e : cutA (iD (a :: l)) (some 1) none = iD l := cut_drop (iD (a :: l)) 1
    rw [sLc_ap (ds := iD l) (s := st) (iTupl_ap (by simp [e]))]
    exact lcGo_map (h := fun _ => .bool false) (ge := fun d => [some (.d (.tuple (iD (a :: l)))), some (.d d)]) (acc := []) hw (fun d hd => rfl) (fun d hd t => by
      obtain ⟨x, hx, rfl⟩ := List.mem_map.mp hd
      have := h.pos x hx
      have b1 : ¬ x < 1 := by omega
      simp [b1]) (by rw [iD_length, List.length_nil]; omega)
  have va : F_p_value_of [.d (.list (iD (a :: l)))] st = .ok (.d (pr (FM.val (a :: l)).1 (FM.val (a :: l)).2)) st := value_ap (l := a :: l) (st := st) (fun t ht => by have := bd t ht; omega)
  have lm := limited_ap (s := st) f
  rw [p_from_expansion_in]
  have sj : B_p_from_expansion = B_p_from_expansion := rfl
  by_cases hn : l = []
  · subst hn
    simp [B_p_from_expansion, c1, all_const, c2, any_const, va, lm]
  · obtain ⟨x, y, e1, e2⟩ := last_split hn
    have hy := h.last y e2
    have ix : atI (iD (a :: l)) (-1) = some (.int y) := by
      have : iD (a :: l) = iD (a :: x) ++ [.int y] := by
        rw [e1]
        unfold iD
        rw [List.map_cons, List.map_append]
        rfl
      rw [this]
      exact atI_last _ _
    have l1 : (1 : Int) < (l.length : Int) + 1 := by
      have := List.length_pos_iff.mpr hn
      omega
    have y1 : (y == 1) = false := by simp; omega
    simp [B_p_from_expansion, h2, h3, c1, all_const, c2, any_const, ix, l1, y1, va, lm]
def cvD (l : List Int) (k : Nat) : D := pr (FM.val (l.take k)).1 (FM.val (l.take k)).2
def cvs (l : List Int) : List D := (List.range l.length).map fun i => cvD l (i + 1)
theorem cvs_length {l : List Int} : (cvs l).length = l.length := by
  unfold cvs
  rw [List.length_map, List.length_range]
theorem ints1_map {n : Nat} {g : D → D} {h : Nat → D} (e : ∀ i, i < n → g (.int ((i + 1 : Nat) : Int)) = h i) : (intsD 1 n).map g = (List.range n).map h := by
  unfold intsD
  rw [List.map_map]
  apply List.map_congr_left
  intro i hi
  have := e i (List.mem_range.mp hi)
  rw [← this]
  show g (.int (1 + (i : Int))) = _
  rw [show (1 : Int) + (i : Nat) = ((i + 1 : Nat) : Int) by omega]
theorem ints1_mem {n : Nat} {d : D} (h : d ∈ intsD 1 n) : ∃ i : Nat, i < n ∧ d = .int ((i + 1 : Nat) : Int) := by
  unfold intsD at h
  obtain ⟨i, hi, rfl⟩ := List.mem_map.mp h
  exact ⟨i, List.mem_range.mp hi, by rw [show (1 : Int) + (i : Nat) = ((i + 1 : Nat) : Int) by omega]⟩
theorem convlist_ap {p q : Int} {st : Stt} (hw : st.all (refsLt st.length) = true) (hp : p.natAbs ≤ 100000) (h0 : 0 ≤ q) (hq : q < 80000) : F_p_convergent_list [.d (pr p q)] st = .ok (.d (.list (cvs (FM.cfT p q)))) st := by
  have tm := terms_ap (p := p) hw h0 hq
  have bd := cf_bound q.toNat p q 100000 (Nat.le_refl _) (by omega) (by omega)
  have cl := FM.cfT_len p q
  generalize FM.cfT p q = l at tm bd cl
  have ir : iArgs rng2 (aCons (sC (.int 1)) (aCons (sBin addD (sCB lenD (aCons (sVar 1) aNil)) (sC (.int 1))) aNil)) [some (.d (pr p q)), some (.d (.list (l.map PyData.int))), none] st = .ok (intsD 1 l.length) st := by
    simp only [iArgs_ap, aCons_ap, sC_ap, bindR_ok, sBin_ap, sCB_ap, sVar_ap, aNil_ap, List.getElem?_cons_succ, List.getElem?_cons_zero, varR_ap, lenD_l, optR_some, addD_ii, List.length_map]
    exact rng2_up (by omega)
  have lc : sLc [2] (iArgs rng2 (aCons (sC (.int 1)) (aCons (sBin addD (sCB lenD (aCons (sVar 1) aNil)) (sC (.int 1))) aNil))) (gN 2) (sC (.bool true)) (sCall F_p_value_of (aCons (sSl (sVar 1) oNone (oSome (sVar 2))) aNil)) [some (.d (pr p q)), some (.d (.list (l.map PyData.int))), none] st = .ok (.d (.list (cvs l))) st := by
    rw [sLc_ap ir]
    have q := lcGo_map (g := gN 2) (f := sCall F_p_value_of (aCons (sSl (sVar 1) oNone (oSome (sVar 2))) aNil)) (e0 := [some (.d (pr p q)), some (.d (.list (l.map PyData.int))), none]) (h := fun d => match d with | .int i => cvD l i.toNat | _ => .none) (ge := fun d => [some (.d (pr p q)), some (.d (.list (l.map PyData.int))), some (.d d)]) (ds := intsD 1 l.length) (s := st) (acc := []) hw (fun d hd => rfl) (fun d hd t => by
      obtain ⟨i, hi, rfl⟩ := ints1_mem hd
      have ct : cutA (l.map PyData.int) none (some ((i : Int) + 1)) = (l.map PyData.int).take (i + 1) := cut_take (l.map PyData.int) (i + 1)
      have va := value_ap (l := l.take (i + 1)) (st := t) (fun x hx => by have := bd x (List.mem_of_mem_take hx); omega)
      rw [List.map_take] at va
      simp [ct, va]
      rfl) (by rw [intsD_length, List.length_nil]; omega)
    rw [List.nil_append] at q
    rw [ints1_map (h := fun i => cvD l (i + 1)) (fun i hi => rfl)] at q
    exact q
  rw [p_convergent_list_in]
  simp [B_p_convergent_list, tm, lc]
theorem convs_ap {p q : Int} {st : Stt} (hw : st.all (refsLt st.length) = true) (f : isFr (pr p q) = true) (hq : 1 ≤ q) : F_p_convergents [.d (pr p q)] st = .ok (.d (.list (cvs (FM.cfT p q)))) st := by
  obtain ⟨f1, f2, f3, f4, f5, f6⟩ := isFr_pr.mp f
  rw [p_convergents_in]
  simp [B_p_convergents, nottop_ap f hq, convlist_ap hw (show p.natAbs ≤ 100000 by omega) f3 (by omega)]
theorem convs_ex {p q : Int} {st : Stt} (f : isFr (pr p q) = true) (hp : p = 1) (hq : q = 0) : F_p_convergents [.d (pr p q)] st = .ex 8 st := by
  rw [p_convergents_in]
  simp [B_p_convergents, nottop_ex f hp hq]
theorem lcGo_draw {g : GX} {f : EX} {e0 : En} {ge : D → En} {P : D → Prop} {T : Stt} (hg : ∀ d, g d e0 = some (ge d)) (hT : T.all (refsLt (T.length + 1)) = true) (hf : ∀ d M acc, M < 9000 → ∃ y, P y ∧ f (ge d) (zr M :: (T ++ [.lst acc])) = .ok (.d y) (zr (M + 1) :: (T ++ [.lst acc]))) :
    ∀ (ds : List D) (M : Nat) (acc : List D), M + ds.length < 9000 → acc.length + ds.length ≤ 1000 → ∃ l : List D, l.length = ds.length ∧ (∀ y ∈ l, P y) ∧ lcGo g (sC (.bool true)) f e0 (T.length + 1) ds (zr M :: (T ++ [.lst acc])) = .ok (.d (.list (acc ++ l))) (zr (M + ds.length) :: T)
  | [], M, acc, _, _ => ⟨[], rfl, fun y hy => (by cases hy), by
    have e := lcGo_nil (g := g) (c := sC (.bool true)) (f := f) (e0 := e0) (n := T.length + 1) (s := zr M :: (T ++ [.lst acc])) (acc := acc) (by simp) (by simp) (by simp; exact ⟨rfl, fun x hx => List.all_eq_true.mp hT x hx⟩)
    rw [e, List.append_nil]
    simp⟩
  | d :: r, M, acc, h1, h2 => by
    rw [List.length_cons] at h1 h2
    obtain ⟨y, hy, ey⟩ := hf d M acc (by omega)
    obtain ⟨l, hl, hp, ih⟩ := lcGo_draw hg hT hf r (M + 1) (acc ++ [y]) (by omega) (by rw [List.length_append, List.length_singleton]; omega)
    refine ⟨y :: l, by rw [List.length_cons, hl]; rfl, fun z hz => (List.mem_cons.mp hz).elim (fun e => e ▸ hy) (hp z), ?_⟩
    rw [List.append_assoc, List.singleton_append] at ih
    rw [show M + (d :: r).length = M + 1 + r.length by rw [List.length_cons]; omega, ← ih]
    have g1 : (zr (M + 1) :: (T ++ [Ob.lst acc]) : Stt)[T.length + 1]? = some (.lst acc) := by simp
    have g2 : (zr (M + 1) :: (T ++ [Ob.lst acc]) : Stt).set (T.length + 1) (.lst (acc ++ [y])) = zr (M + 1) :: (T ++ [.lst (acc ++ [y])]) := by simp
    conv => lhs; unfold lcGo
    simp only [hg d, sC_ap, ifB_t, ey, g1]
    rw [if_pos (by omega), g2]
theorem pl_iD {l : List Int} : pl 1 (.tuple (iD l)) = true := by
  rw [pl_tup, plA_iff]
  intro x hx
  obtain ⟨i, _, rfl⟩ := List.mem_map.mp hx
  exact pl_int
theorem pl_cvs {l : List Int} : pl 2 (.list (cvs l)) = true := by
  rw [pl_lst, plA_iff]
  intro x hx
  obtain ⟨i, _, rfl⟩ := List.mem_map.mp hx
  exact pl_2
theorem rep_raised {c : Nat} {s : Stt} : repLD (.d (.list [raised c])) (.d (.int 2)) s = some (.list [raised c, raised c]) := rfl
theorem raised_pl (c : Nat) : pl 2 (raised c) = true := by
  unfold raised
  simp only [pl_tup, plA_cons, plA_nil, pl_int, Bool.and_true]
  unfold pl
  decide +kernel
theorem raised2_pl (c : Nat) : pl 3 (.list [raised c, raised c]) = true := by
  simp only [pl_lst, plA_cons, plA_nil, raised_pl, Bool.and_true]
end DL

namespace DL
open PySem PySem.Spec PyProof.Rows L2
def B_p_row : SX := (bSeq (bIf (sNot (sCall F_p_is_integer (aCons (sVar 0) (aCons (sC (.int 1)) (aCons (sC (.int 30)) aNil)))))
  (bRaise 3)
  bNext)
  (bSeq (bSet 1 (sLstM (aCons (sTup (aCons (sC (.int 0)) (aCons (sC (.int 1)) aNil))) (aCons (sTup (aCons (sC (.int 1)) (aCons (sVar 0) aNil))) aNil))))
  (bSeq (bWhile (sBin neD (sBin ixD (sVar 1) (sUn negD (sC (.int 1)))) (sTup (aCons (sC (.int 1)) (aCons (sC (.int 1)) aNil))))
  (bSeq (bTgt (gL 2 (gsCons (gT 2 (gsCons (gN 2) (gsCons (gN 3) gsNil))) (gsCons (gT 2 (gsCons (gN 4) (gsCons (gN 5) gsNil))) gsNil))) (sSl (sVar 1) (oSome (sUn negD (sC (.int 2)))) oNone))
  (bSeq (bSet 6 (sBin fdivD (sBin addD (sVar 0) (sVar 3)) (sVar 5)))
  (bDrop (sMut appR (sVar 1) (sTup (aCons (sBin subD (sBin mulD (sVar 6) (sVar 4)) (sVar 2)) (aCons (sBin subD (sBin mulD (sVar 6) (sVar 5)) (sVar 3)) aNil))))))))
  (bRet (sVar 1)))))
def F_p_row : List Sv → Stt → R Sv := Fg 7 1 B_p_row
theorem h_p_row : Hok 7 1 B_p_row F_p_row := hokg
theorem p_row_in {x0 : Sv} {s : Stt} : F_p_row [x0] s = gcR s.length (outR (B_p_row [some x0, none, none, none, none, none, none] s)) := rfl

def B_p_count_row : SX := (bSeq (bIf (sNot (sCall F_p_is_integer (aCons (sVar 0) (aCons (sC (.int 1)) (aCons (sC (.int 999)) aNil)))))
  (bRaise 3)
  bNext)
  (bSeq (bSet 1 (sListRg (sBin addD (sVar 0) (sC (.int 1)))))
  (bSeq (bFor (iArgs rng2 (aCons (sC (.int 2)) (aCons (sBin addD (sVar 0) (sC (.int 1))) aNil))) (gN 2)
  (bIf (sBin eqD (sBin ixD (sVar 1) (sVar 2)) (sVar 2))
  (bFor (iArgs rng3 (aCons (sVar 2) (aCons (sBin addD (sVar 0) (sC (.int 1))) (aCons (sVar 2) aNil)))) (gN 3)
  (bAugIx (fun i j => i - j) (sVar 1) (sVar 3) (sBin fdivD (sBin ixD (sVar 1) (sVar 3)) (sVar 2))))
  bNext))
  (bFrz 1 (bRet (sBin addD (sC (.int 1)) (sCB sumD (aCons (sVar 1) aNil))))))))
def F_p_count_row : List Sv → Stt → R Sv := Fg 4 1 B_p_count_row
theorem h_p_count_row : Hok 4 1 B_p_count_row F_p_count_row := hokg
theorem p_count_row_in {x0 : Sv} {s : Stt} : F_p_count_row [x0] s = gcR s.length (outR (B_p_count_row [some x0, none, none, none] s)) := rfl

def prP (x : Int × Int) : D := pr x.1 x.2
/-- the rest of a row (fuel; none where a bound fails) -/
def rwP : Nat → Int → Int → Int → Int → Int → Option (List (Int × Int))
  | 0, _, _, _, _, _ => none
  | k + 1, n, p, q, r, s => if r = 1 ∧ s = 1 then some [] else if 0 < s ∧ s ≤ 1000 ∧ 0 ≤ q ∧ q ≤ 1000 ∧ r.natAbs ≤ 1000 then
      (rwP k n r s ((n + q) / s * r - p) ((n + q) / s * s - q)).map (((n + q) / s * r - p, (n + q) / s * s - q) :: ·) else none
def rwC : EX := (sBin neD (sBin ixD (sVar 1) (sUn negD (sC (.int 1)))) (sTup (aCons (sC (.int 1)) (aCons (sC (.int 1)) aNil))))
def rwB : SX := (bSeq (bTgt (gL 2 (gsCons (gT 2 (gsCons (gN 2) (gsCons (gN 3) gsNil))) (gsCons (gT 2 (gsCons (gN 4) (gsCons (gN 5) gsNil))) gsNil))) (sSl (sVar 1) (oSome (sUn negD (sC (.int 2)))) oNone))
  (bSeq (bSet 6 (sBin fdivD (sBin addD (sVar 0) (sVar 3)) (sVar 5)))
  (bDrop (sMut appR (sVar 1) (sTup (aCons (sBin subD (sBin mulD (sVar 6) (sVar 4)) (sVar 2)) (aCons (sBin subD (sBin mulD (sVar 6) (sVar 5)) (sVar 3)) aNil)))))))
theorem ixD_end {st : Stt} {ds : List D} {i : Int} : ixD (.r st.length) (.d (.int i)) (st ++ [.lst ds]) = atI ds i := by
  unfold ixD
  simp
theorem slD_end {st : Stt} {ds : List D} {lo hi : Option Int} : slD (.r st.length) lo hi (st ++ [.lst ds]) = some (.list (cutA ds lo hi)) := by
  unfold slD toL
  simp
theorem cut_two {α : Type} (xs : List α) (a b : α) : cutA (xs ++ [a, b]) (some (-2)) none = [a, b] := by
  have e : HT.sIx (xs ++ [a, b]).length 0 (some (-2)) = xs.length := by
    show (if (-2 : Int) < 0 then ((-2 : Int) + ((xs ++ [a, b]).length : Int)).toNat else min (-2 : Int).toNat (xs ++ [a, b]).length) = _
    rw [if_pos (by decide), List.length_append]
    simp only [List.length_cons, List.length_nil]
    omega
  unfold cutA
  rw [e, HT.sIx_none, List.drop_left, List.length_append]
  simp
theorem wh_row {st : Stt} {n : Int} {j : Nat} (hn : n.natAbs ≤ 1000) : ∀ (k : Nat) (p q r s : Int) (l : List (Int × Int)) (acc : List D) (x2 x3 x4 x5 x6 : Option Sv), rwP k n p q r s = some l → acc.length + k ≤ 50000 →
    ∃ y2 y3 y4 y5 y6, wh rwC rwB (j + k) [some (.d (.int n)), some (.r st.length), x2, x3, x4, x5, x6] (st ++ [.lst (acc ++ [pr p q, pr r s])]) = .nx [some (.d (.int n)), some (.r st.length), y2, y3, y4, y5, y6] (st ++ [.lst (acc ++ [pr p q, pr r s] ++ l.map prP)])
  | 0, _, _, _, _, _, _, _, _, _, _, _, h, _ => by cases h
  | k + 1, p, q, r, s, l, acc, x2, x3, x4, x5, x6, h, hl => by
    have ix : atI (acc ++ [pr p q, pr r s]) (-1) = some (pr r s) := by
      rw [show acc ++ [pr p q, pr r s] = (acc ++ [pr p q]) ++ [pr r s] by simp]
      exact atI_last _ _
    have ct := cut_two acc (pr p q) (pr r s)
    show ∃ y2 y3 y4 y5 y6, wh rwC rwB ((j + k) + 1) _ _ = _
    rw [wh_succ]
    unfold rwP at h
    by_cases z : r = 1 ∧ s = 1
    · rw [if_pos z] at h
      cases h
      refine ⟨x2, x3, x4, x5, x6, ?_⟩
      have zz : (r == 1 && s == 1) = true := by rw [z.1, z.2]; rfl
      have c1 : rwC [some (.d (.int n)), some (.r st.length), x2, x3, x4, x5, x6] (st ++ [.lst (acc ++ [pr p q, pr r s])]) = .ok (.d (.bool false)) (st ++ [.lst (acc ++ [pr p q, pr r s])]) := by
        simp [rwC, ixD_end, ix, zz]
      rw [c1, bindS_ok, ifS_f, List.map_nil, List.append_nil]
    · rw [if_neg z] at h
      have zz : (r == 1 && s == 1) = false := by
        apply Bool.eq_false_iff.mpr
        intro w
        rw [Bool.and_eq_true] at w
        exact z ⟨by simpa using w.1, by simpa using w.2⟩
      split at h
      · rename_i b
        obtain ⟨b1, b2, b3, b4, b5⟩ := b
        cases e : rwP k n r s ((n + q) / s * r - p) ((n + q) / s * s - q) with
        | none => rw [e] at h; cases h
        | some l' =>
          rw [e] at h
          cases h
          have fd : 0 < s ∧ s < 1073741824 := ⟨b1, by omega⟩
          have ab := Int.natAbs_ediv_le_natAbs (n + q) s
          have m1 : mulOk ((n + q) / s) r = true := mulOk_l (by omega)
          have m2 : mulOk ((n + q) / s) s = true := mulOk_l (by omega)
          have c1 : rwC [some (.d (.int n)), some (.r st.length), x2, x3, x4, x5, x6] (st ++ [.lst (acc ++ [pr p q, pr r s])]) = .ok (.d (.bool true)) (st ++ [.lst (acc ++ [pr p q, pr r s])]) := by
            simp [rwC, ixD_end, ix, zz]
          have ap := appR_end (s := st) (ds := acc ++ [pr p q, pr r s]) (d := pr ((n + q) / s * r - p) ((n + q) / s * s - q)) (by simp; omega)
          have c2 : rwB [some (.d (.int n)), some (.r st.length), x2, x3, x4, x5, x6] (st ++ [.lst (acc ++ [pr p q, pr r s])]) = .nx [some (.d (.int n)), some (.r st.length), some (.d (.int p)), some (.d (.int q)), some (.d (.int r)), some (.d (.int s)), some (.d (.int ((n + q) / s)))] (st ++ [.lst (acc ++ [pr p q, pr r s] ++ [pr ((n + q) / s * r - p) ((n + q) / s * s - q)])]) := by
            simp [rwB, slD_end, ct, fd, m1, m2, isLst_end]
            rw [show acc ++ [pr p q, pr r s] = acc ++ [pr p q, pr r s] from rfl] at ap
            simp at ap
            simp [ap]
          obtain ⟨y2, y3, y4, y5, y6, ih⟩ := wh_row (st := st) (j := j) hn k r s _ _ l' (acc ++ [pr p q]) (some (.d (.int p))) (some (.d (.int q))) (some (.d (.int r))) (some (.d (.int s))) (some (.d (.int ((n + q) / s)))) e (by simp; omega)
          refine ⟨y2, y3, y4, y5, y6, ?_⟩
          rw [c1, bindS_ok, ifS_t, c2, seqR_nx]
          have ea : acc ++ [pr p q] ++ [pr r s, pr ((n + q) / s * r - p) ((n + q) / s * s - q)] = acc ++ [pr p q, pr r s] ++ [pr ((n + q) / s * r - p) ((n + q) / s * s - q)] := by simp
          rw [ea] at ih
          rw [ih]
          simp [prP]
      · cases h
def rowP (n : Int) : Option (List (Int × Int)) := (rwP 300 n 0 1 1 n).map fun l => (0, 1) :: (1, n) :: l
theorem row_ap {n : Int} {l : List (Int × Int)} {st : Stt} (hw : st.all (refsLt st.length) = true) (h1 : 1 ≤ n) (h2 : n ≤ 30) (h : rowP n = some l) : F_p_row [.d (.int n)] st = .ok (.d (.list (l.map prP))) st := by
  unfold rowP at h
  cases e : rwP 300 n 0 1 1 n with
  | none => rw [e] at h; cases h
  | some l' =>
    rw [e] at h
    cases h
    obtain ⟨y2, y3, y4, y5, y6, w⟩ := wh_row (st := st) (n := n) (j := fuel - 300) (by omega) 300 0 1 1 n l' [] none none none none none e (by decide)
    have fe : fuel - 300 + 300 = fuel := by unfold fuel; rfl
    rw [fe] at w
    unfold rwC rwB at w
    have lm : lstMR [.d (pr 0 1), .d (pr 1 n)] st = .ok (.r st.length) (st ++ [.lst [pr 0 1, pr 1 n]]) := rfl
    rw [p_row_in]
    simp only [List.nil_append] at w
    simp only [B_p_row, bSeq_ap, bIf_ap, sNot_ap, sCall_ap, aCons_ap, aNil_ap, sVar_ap, sC_ap, List.getElem?_cons_zero, List.getElem?_cons_succ, varR_ap, bindR_ok, F_p_is_integer, isDict, isInt, h1, h2, decide_true, Bool.and_self, bindS_ok, notB_b, Bool.not_true, ifS_f, bNext_ap, seqR_nx, bSet_ap, sLstM_ap, sTup_ap, tupD_2, optR_some, lm, List.set_cons_succ, List.set_cons_zero, bWhile_ap, w, bRet_ap, if_false, Bool.false_eq_true]
    exact gcR_end hw
def siS (one : Int) (t : List Int) (j : Int) : List Int := t.set j.toNat (t.getD j.toNat 0 - t.getD j.toNat 0 / one)
def siB : SX := (bAugIx (fun i j => i - j) (sVar 1) (sVar 3) (sBin fdivD (sBin ixD (sVar 1) (sVar 3)) (sVar 2)))
theorem at_iD {t : List Int} {j : Int} (h1 : 0 ≤ j) (h2 : j < t.length) : atI (iD t) j = some (.int (t.getD j.toNat 0)) := by
  obtain ⟨k, rfl⟩ := Int.eq_ofNat_of_zero_le h1
  refine atI_nat ?_
  rw [iD, List.getElem?_map]
  have : k < t.length := by omega
  simp [List.getD_eq_getElem?_getD, this]
theorem ixN_in {n : Nat} {j : Int} (h1 : 0 ≤ j) (h2 : j < n) : ixN n j = some j.toNat := by
  unfold ixN
  rw [if_pos h1, if_pos h2]
theorem iD_set {t : List Int} {j : Nat} {x : Int} : (iD t).set j (.int x) = iD (t.set j x) := by
  unfold iD
  rw [List.map_set]
theorem siS_len {one : Int} {t : List Int} {j : Int} : (siS one t j).length = t.length := List.length_set ..
theorem fold_len {one : Int} : ∀ (js t : List Int), (js.foldl (siS one) t).length = t.length
  | [], _ => rfl
  | j :: js, t => by rw [List.foldl_cons, fold_len js, siS_len]
theorem fo_si {x0 : Option Sv} {one : Int} {st : Stt} (h1 : 0 < one) (h2 : one < 1000000) : ∀ (js t : List Int) (x3 : Option Sv), (∀ j ∈ js, 0 ≤ j ∧ j < t.length) →
    ∃ y3, fo (gN 3) siB (js.map PyData.int) [x0, some (.r st.length), some (.d (.int one)), x3] (st ++ [.lst (iD t)]) = .nx [x0, some (.r st.length), some (.d (.int one)), y3] (st ++ [.lst (iD (js.foldl (siS one) t))])
  | [], t, x3, _ => ⟨x3, rfl⟩
  | j :: js, t, x3, h => by
    obtain ⟨j1, j2⟩ := h j List.mem_cons_self
    have ix := at_iD j1 j2
    have gi := getIx_r (n := st.length) (s := st ++ [.lst (iD t)]) (ds := iD t) get_end ix
    have ai := augIx_r (pp := fun i j => i - j) (env := [x0, some (.r st.length), some (.d (.int one)), some (.d (.int j))]) (a := t.getD j.toNat 0) (b := t.getD j.toNat 0 / one) (n := st.length) (k := j) (s := st ++ [.lst (iD t)]) (ds := iD t) get_end (ixN_in j1 (by rw [iD_length]; exact j2))
    rw [iD_set, set_end] at ai
    have fd : 0 < one ∧ one < 1073741824 := ⟨h1, by omega⟩
    have c : siB [x0, some (.r st.length), some (.d (.int one)), some (.d (.int j))] (st ++ [.lst (iD t)]) = .nx [x0, some (.r st.length), some (.d (.int one)), some (.d (.int j))] (st ++ [.lst (iD (siS one t j))]) := by
      unfold siB
      simp only [bAugIx_ap, sVar_ap, List.getElem?_cons_succ, List.getElem?_cons_zero, varR_ap, bindS_ok, gi, augIxO_some, sBin_ap, bindR_ok, ixD_end, ix, optR_some, fdivD_ii, fd, and_self, if_true, ai]
      rfl
    obtain ⟨y3, ih⟩ := fo_si h1 h2 js (siS one t j) (some (.d (.int j))) (fun k hk => by rw [siS_len]; exact h k (List.mem_cons_of_mem _ hk))
    refine ⟨y3, ?_⟩
    rw [List.map_cons, fo_cons (e := [x0, some (.r st.length), some (.d (.int one)), some (.d (.int j))]) rfl, c, seqR_nx, ih]
    rfl
def stI (lo c : Int) (n : Nat) : List Int := (List.range n).map fun i => lo + (i : Nat) * c
theorem stI_map {lo c : Int} {n : Nat} : stepsD lo c n = (stI lo c n).map PyData.int := by
  unfold stepsD stI
  rw [List.map_map]
  rfl
/-- one step of the sieve -/
def svS (n : Int) (t : List Int) (one : Int) : List Int := if t.getD one.toNat 0 = one then (stI one one (stepN one (n + 1) one)).foldl (siS one) t else t
def svB : SX := (bIf (sBin eqD (sBin ixD (sVar 1) (sVar 2)) (sVar 2))
  (bFor (iArgs rng3 (aCons (sVar 2) (aCons (sBin addD (sVar 0) (sC (.int 1))) (aCons (sVar 2) aNil)))) (gN 3) siB)
  bNext)
theorem svS_len {n : Int} {t : List Int} {one : Int} : (svS n t one).length = t.length := by
  unfold svS
  split
  · exact fold_len _ _
  · rfl
theorem stI_bd {one n j : Int} (h1 : 1 ≤ one) (h2 : one ≤ n) (h : j ∈ stI one one (stepN one (n + 1) one)) : 0 ≤ j ∧ j < n + 1 := by
  unfold stI at h
  obtain ⟨i, hi, rfl⟩ := List.mem_map.mp h
  have hi := List.mem_range.mp hi
  unfold stepN at hi
  rw [if_pos (by omega)] at hi
  have e := Int.mul_ediv_add_emod (n + 1 - one - 1) one
  have e2 := Int.emod_nonneg (n + 1 - one - 1) (show one ≠ 0 by omega)
  have d0 := Int.ediv_nonneg (show 0 ≤ n + 1 - one - 1 by omega) (show 0 ≤ one by omega)
  have m : (i : Int) * one ≤ ((n + 1 - one - 1) / one) * one := Int.mul_le_mul_of_nonneg_right (by omega) (by omega)
  have m0 : 0 ≤ (i : Int) * one := Int.mul_nonneg (by omega) (by omega)
  rw [Int.mul_comm one] at e
  omega
theorem fo_sv {n : Int} {st : Stt} (hn : 0 ≤ n) (hn2 : n ≤ 1000) : ∀ (os t : List Int) (x2 x3 : Option Sv), (∀ one ∈ os, 2 ≤ one ∧ one ≤ n) → t.length = (n + 1).toNat →
    ∃ y2 y3, fo (gN 2) svB (os.map PyData.int) [some (.d (.int n)), some (.r st.length), x2, x3] (st ++ [.lst (iD t)]) = .nx [some (.d (.int n)), some (.r st.length), y2, y3] (st ++ [.lst (iD (os.foldl (svS n) t))])
  | [], t, x2, x3, _, _ => ⟨x2, x3, rfl⟩
  | one :: os, t, x2, x3, h, hl => by
    obtain ⟨j1, j2⟩ := h one List.mem_cons_self
    have ix := at_iD (t := t) (j := one) (by omega) (by omega)
    have c : ∃ y3, svB [some (.d (.int n)), some (.r st.length), some (.d (.int one)), x3] (st ++ [.lst (iD t)]) = .nx [some (.d (.int n)), some (.r st.length), some (.d (.int one)), y3] (st ++ [.lst (iD (svS n t one))]) := by
      by_cases z : t.getD one.toNat 0 = one
      · have zz : (t.getD one.toNat 0 == one) = true := by simpa using z
        obtain ⟨y3, w⟩ := fo_si (x0 := some (.d (.int n))) (st := st) (one := one) (by omega) (by omega) (stI one one (stepN one (n + 1) one)) t x3 (fun j hj => by
          have := stI_bd (by omega) j2 hj
          omega)
        have rg := rng3_ap (i := one) (j := n + 1) (c := one) (s := st ++ [.lst (iD t)]) (by omega) (by omega) (by omega) (by omega)
        have hi : iArgs rng3 (aCons (sVar 2) (aCons (sBin addD (sVar 0) (sC (.int 1))) (aCons (sVar 2) aNil))) [some (.d (.int n)), some (.r st.length), some (.d (.int one)), x3] (st ++ [.lst (iD t)]) = .ok ((stI one one (stepN one (n + 1) one)).map PyData.int) (st ++ [.lst (iD t)]) := by
          rw [← stI_map]
          simp only [iArgs_ap, aCons_ap, aNil_ap, sVar_ap, sBin_ap, List.getElem?_cons_succ, List.getElem?_cons_zero, varR_ap, bindR_ok, sC_ap, addD_ii, optR_some, rg]
        refine ⟨y3, ?_⟩
        have e : svS n t one = (stI one one (stepN one (n + 1) one)).foldl (siS one) t := if_pos z
        rw [e]
        unfold svB
        rw [bIf_ap]
        simp only [sBin_ap, sVar_ap, List.getElem?_cons_succ, List.getElem?_cons_zero, varR_ap, bindR_ok, ixD_end, ix, optR_some, eqD_ii, zz, bindS_ok, ifS_t]
        rw [bFor_ap hi]
        exact w
      · have zz : (t.getD one.toNat 0 == one) = false := by
          apply Bool.eq_false_iff.mpr
          intro w
          exact z (by simpa using w)
        refine ⟨x3, ?_⟩
        have e : svS n t one = t := if_neg z
        rw [e]
        unfold svB
        simp only [bIf_ap, sBin_ap, sVar_ap, List.getElem?_cons_succ, List.getElem?_cons_zero, varR_ap, bindR_ok, ixD_end, ix, optR_some, eqD_ii, zz, bindS_ok, ifS_f, bNext_ap]
    obtain ⟨y3, c⟩ := c
    obtain ⟨z2, z3, ih⟩ := fo_sv (st := st) hn hn2 os (svS n t one) (some (.d (.int one))) y3 (fun k hk => h k (List.mem_cons_of_mem _ hk)) (by rw [svS_len]; exact hl)
    refine ⟨z2, z3, ?_⟩
    rw [List.map_cons, fo_cons (e := [some (.d (.int n)), some (.r st.length), some (.d (.int one)), x3]) rfl, c, seqR_nx, ih]
    rfl
def rgI (lo : Int) (n : Nat) : List Int := (List.range n).map fun i => lo + (i : Nat)
theorem rgI_mem {lo x : Int} {n : Nat} : x ∈ rgI lo n ↔ lo ≤ x ∧ x < lo + n := by
  unfold rgI
  rw [List.mem_map]
  constructor
  · rintro ⟨i, hi, rfl⟩
    have := List.mem_range.mp hi
    omega
  · intro h
    exact ⟨(x - lo).toNat, List.mem_range.mpr (by omega), by omega⟩
theorem rgI_len {lo : Int} {n : Nat} : (rgI lo n).length = n := by
  unfold rgI
  rw [List.length_map, List.length_range]
theorem ints_rg {lo : Int} {n : Nat} : intsD lo n = (rgI lo n).map PyData.int := by
  rw [intsD_map]
  rfl
def cntP (n : Int) : Int := 1 + ((rgI 2 (n - 1).toNat).foldl (svS n) (rgI 0 (n + 1).toNat)).sum
theorem asI : ∀ t : List Int, asInts (iD t) = some t
  | [] => rfl
  | a :: t => by
    show (match asInts (iD t) with | some l => some (a :: l) | none => none) = _
    rw [asI t]
theorem cnt_ap {n : Int} {st : Stt} (hw : st.all (refsLt st.length) = true) (h1 : 1 ≤ n) (h2 : n ≤ 999) : F_p_count_row [.d (.int n)] st = .ok (.d (.int (cntP n))) st := by
  have rl := rgL_ap (n := n + 1) (s := st) (by omega)
  rw [ints_rg] at rl
  obtain ⟨y2, y3, w⟩ := fo_sv (st := st) (n := n) (by omega) (by omega) (rgI 2 (n - 1).toNat) (rgI 0 (n + 1).toNat) none none (fun one h => by have := rgI_mem.mp h; omega) rgI_len
  have rg := rng2_ap (i := 2) (j := n + 1) (s := st ++ [.lst (iD (rgI 0 (n + 1).toNat))]) (by omega) (by omega)
  have hi : iArgs rng2 (aCons (sC (.int 2)) (aCons (sBin addD (sVar 0) (sC (.int 1))) aNil)) [some (.d (.int n)), some (.r st.length), none, none] (st ++ [.lst (iD (rgI 0 (n + 1).toNat))]) = .ok ((rgI 2 (n - 1).toNat).map PyData.int) (st ++ [.lst (iD (rgI 0 (n + 1).toNat))]) := by
    simp only [iArgs_ap, aCons_ap, aNil_ap, sVar_ap, sBin_ap, List.getElem?_cons_succ, List.getElem?_cons_zero, varR_ap, bindR_ok, sC_ap, addD_ii, optR_some, rg, ints_rg, show n + 1 - 2 = n - 1 by omega]
  rw [p_count_row_in]
  unfold svB siB at w
  have sm : sumD [.d (.list (iD ((rgI 2 (n - 1).toNat).foldl (svS n) (rgI 0 (n + 1).toNat))))] (st ++ [.gone]) = some (.int ((rgI 2 (n - 1).toNat).foldl (svS n) (rgI 0 (n + 1).toNat)).sum) := by
    show (match asInts (iD ((rgI 2 (n - 1).toNat).foldl (svS n) (rgI 0 (n + 1).toNat))) with | some l => some (PyData.int l.sum) | none => none) = _
    rw [asI]
  have bf := bFor_ap (g := gN 2) (B := (bIf (sBin eqD (sBin ixD (sVar 1) (sVar 2)) (sVar 2))
  (bFor (iArgs rng3 (aCons (sVar 2) (aCons (sBin addD (sVar 0) (sC (.int 1))) (aCons (sVar 2) aNil)))) (gN 3)
  (bAugIx (fun i j => i - j) (sVar 1) (sVar 3) (sBin fdivD (sBin ixD (sVar 1) (sVar 3)) (sVar 2))))
  bNext)) hi
  rw [w] at bf
  have h9 : decide (n ≤ 999) = true := decide_eq_true h2
  have h0 : decide (1 ≤ n) = true := decide_eq_true h1
  unfold iD at bf
  simp only [B_p_count_row, bSeq_ap, bIf_ap, sNot_ap, sCall_ap, aCons_ap, aNil_ap, sVar_ap, sC_ap, List.getElem?_cons_zero, List.getElem?_cons_succ, varR_ap, bindR_ok, F_p_is_integer, isDict, isInt, h0, h9, Bool.and_self, bindS_ok, notB_b, Bool.not_true, ifS_f, bNext_ap, seqR_nx, if_false, Bool.false_eq_true]
  show gcR st.length (outR (seqR (bSet 1 (sListRg (sBin addD (sVar 0) (sC (.int 1)))) [some (.d (.int n)), none, none, none] st) _)) = _
  have s1 : bSet 1 (sListRg (sBin addD (sVar 0) (sC (.int 1)))) [some (.d (.int n)), none, none, none] st = .nx [some (.d (.int n)), some (.r st.length), none, none] (st ++ [.lst ((rgI 0 (n + 1).toNat).map PyData.int)]) := by
    simp [rl]
  rw [s1, seqR_nx, bSeq_ap, bf, seqR_nx]
  unfold iD at sm
  simp only [bFrz_ap, List.getElem?_cons_succ, List.getElem?_cons_zero, frzR_ap, get_end, frzL_ap, set_end, List.set_cons_succ, List.set_cons_zero, bRet_ap, sBin_ap, sC_ap, bindR_ok, sCB_ap, aCons_ap, aNil_ap, sVar_ap, varR_ap, sm, optR_some, addD_ii]
  exact gcR_dend hw
end DL

namespace DL
open PySem PySem.Spec PyProof.Rows L2
def B_p_fits : SX := (bSeq (bIf (sOr (sNot (sUn (isiD "tuple") (sVar 0))) (sBin neD (sCB lenD (aCons (sVar 0) aNil)) (sC (.int 2))))
  (bRet (sC (.bool false)))
  bNext)
  (bSeq (bFor (iTupl (sVar 0)) (gN 1)
  (bIf (sOr (sNot (sUn (isiD "tuple") (sVar 1))) (sOr (sBin neD (sCB lenD (aCons (sVar 1) aNil)) (sC (.int 2))) (sNot (sCB allD (aCons (sLc [2] (iTupl (sVar 1)) (gN 2) (sC (.bool true)) (sCall F_p_is_integer (aCons (sVar 2) (aCons (sBin subD (sC (.int 0)) (sC (.int 99))) (aCons (sC (.int 99)) aNil))))) aNil)))))
  (bRet (sC (.bool false)))
  bNext))
  (bRet (sC (.bool true)))))
def F_p_fits : List Sv → Stt → R Sv := F0 3 1 B_p_fits
theorem h_p_fits : Hok 3 1 B_p_fits F_p_fits := hok0
theorem p_fits_in {x0 : Sv} {s : Stt} : F_p_fits [x0] s = outR (B_p_fits [some x0, none, none] s) := rfl

def B_p_is_matrix : SX := (bRet (sAnd (sCall F_p_fits (aCons (sVar 0) aNil)) (sBin eqD (sBin subD (sBin mulD (sBin ixD (sBin ixD (sVar 0) (sC (.int 0))) (sC (.int 0))) (sBin ixD (sBin ixD (sVar 0) (sC (.int 1))) (sC (.int 1)))) (sBin mulD (sBin ixD (sBin ixD (sVar 0) (sC (.int 0))) (sC (.int 1))) (sBin ixD (sBin ixD (sVar 0) (sC (.int 1))) (sC (.int 0))))) (sC (.int 1)))))
def F_p_is_matrix : List Sv → Stt → R Sv := F0 1 1 B_p_is_matrix
theorem h_p_is_matrix : Hok 1 1 B_p_is_matrix F_p_is_matrix := hok0
theorem p_is_matrix_in {x0 : Sv} {s : Stt} : F_p_is_matrix [x0] s = outR (B_p_is_matrix [some x0] s) := rfl

def B_p_check_matrix : SX := (bIf (sNot (sCall F_p_is_matrix (aCons (sVar 0) aNil)))
  (bRaise 4)
  bNext)
def F_p_check_matrix : List Sv → Stt → R Sv := F0 1 1 B_p_check_matrix
theorem h_p_check_matrix : Hok 1 1 B_p_check_matrix F_p_check_matrix := hok0
theorem p_check_matrix_in {x0 : Sv} {s : Stt} : F_p_check_matrix [x0] s = outR (B_p_check_matrix [some x0] s) := rfl

def B_p_turned : SX := (bSeq (bTgt (gT 2 (gsCons (gT 2 (gsCons (gN 2) (gsCons (gN 3) gsNil))) (gsCons (gT 2 (gsCons (gN 4) (gsCons (gN 5) gsNil))) gsNil))) (sVar 0))
  (bSeq (bPar 6 7 (sBin addD (sBin mulD (sVar 2) (sBin ixD (sVar 1) (sC (.int 0)))) (sBin mulD (sVar 3) (sBin ixD (sVar 1) (sC (.int 1))))) (sBin addD (sBin mulD (sVar 4) (sBin ixD (sVar 1) (sC (.int 0)))) (sBin mulD (sVar 5) (sBin ixD (sVar 1) (sC (.int 1))))))
  (bRet (sIte (sOr (sBin (cmpD fun i j => decide (i < j)) (sVar 7) (sC (.int 0))) (sAnd (sBin eqD (sVar 7) (sC (.int 0))) (sBin (cmpD fun i j => decide (i < j)) (sVar 6) (sC (.int 0))))) (sTup (aCons (sBin subD (sC (.int 0)) (sVar 6)) (aCons (sBin subD (sC (.int 0)) (sVar 7)) aNil))) (sTup (aCons (sVar 6) (aCons (sVar 7) aNil)))))))
def F_p_turned : List Sv → Stt → R Sv := F0 8 2 B_p_turned
theorem h_p_turned : Hok 8 2 B_p_turned F_p_turned := hok0
theorem p_turned_in {x0 x1 : Sv} {s : Stt} : F_p_turned [x0, x1] s = outR (B_p_turned [some x0, some x1, none, none, none, none, none, none] s) := rfl

def B_p_moved : SX := (bSeq (bDrop (sCall F_p_check_matrix (aCons (sVar 0) aNil)))
  (bSeq (bDrop (sCall F_p_check_fraction (aCons (sVar 1) aNil)))
  (bRet (sCall F_p_limited (aCons (sCall F_p_turned (aCons (sVar 0) (aCons (sVar 1) aNil))) aNil)))))
def F_p_moved : List Sv → Stt → R Sv := F0 2 2 B_p_moved
theorem h_p_moved : Hok 2 2 B_p_moved F_p_moved := hok0
theorem p_moved_in {x0 x1 : Sv} {s : Stt} : F_p_moved [x0, x1] s = outR (B_p_moved [some x0, some x1] s) := rfl

def B_p_product : SX := (bSeq (bDrop (sCall F_p_check_matrix (aCons (sVar 0) aNil)))
  (bSeq (bDrop (sCall F_p_check_matrix (aCons (sVar 1) aNil)))
  (bSeq (bSet 2 (sLstM aNil))
  (bSeq (bFor (iTupl (sVar 0)) (gT 2 (gsCons (gN 3) (gsCons (gN 4) gsNil)))
  (bDrop (sMut appR (sVar 2) (sTup (aCons (sBin addD (sBin mulD (sVar 3) (sBin ixD (sBin ixD (sVar 1) (sC (.int 0))) (sC (.int 0)))) (sBin mulD (sVar 4) (sBin ixD (sBin ixD (sVar 1) (sC (.int 1))) (sC (.int 0))))) (aCons (sBin addD (sBin mulD (sVar 3) (sBin ixD (sBin ixD (sVar 1) (sC (.int 0))) (sC (.int 1)))) (sBin mulD (sVar 4) (sBin ixD (sBin ixD (sVar 1) (sC (.int 1))) (sC (.int 1))))) aNil))))))
  (bFrz 2 (bSeq (bIf (sNot (sCall F_p_fits (aCons (sCB tupleD (aCons (sVar 2) aNil)) aNil)))
  (bRaise 10)
  bNext)
  (bRet (sCB tupleD (aCons (sVar 2) aNil)))))))))
def F_p_product : List Sv → Stt → R Sv := Fg 5 2 B_p_product
theorem h_p_product : Hok 5 2 B_p_product F_p_product := hokg
theorem p_product_in {x0 x1 : Sv} {s : Stt} : F_p_product [x0, x1] s = gcR s.length (outR (B_p_product [some x0, some x1, none, none, none] s)) := rfl

def B_p_matrix_of : SX := (bSeq (bIf (sOr (sNot (sUn (isiD "str") (sVar 0))) (sOr (sBin (cmpD fun i j => decide (j < i)) (sCB lenD (aCons (sVar 0) aNil)) (sC (.int 200))) (sNot (sCB allD (aCons (sLc [5] (iText (sVar 0)) (gN 5) (sC (.bool true)) (sBin inSD (sVar 5) (sC (.str "LR")))) aNil)))))
  (bRaise 1)
  bNext)
  (bSeq (bTgt (gT 2 (gsCons (gT 2 (gsCons (gN 1) (gsCons (gN 2) gsNil))) (gsCons (gT 2 (gsCons (gN 3) (gsCons (gN 4) gsNil))) gsNil))) (sTup (aCons (sTup (aCons (sC (.int 1)) (aCons (sC (.int 0)) aNil))) (aCons (sTup (aCons (sC (.int 0)) (aCons (sC (.int 1)) aNil))) aNil))))
  (bSeq (bFor (iText (sVar 0)) (gN 5)
  (bIf (sBin eqD (sVar 5) (sC (.str "L")))
  (bPar 1 3 (sBin addD (sVar 1) (sVar 2)) (sBin addD (sVar 3) (sVar 4)))
  (bPar 2 4 (sBin addD (sVar 1) (sVar 2)) (sBin addD (sVar 3) (sVar 4)))))
  (bSeq (bIf (sNot (sCall F_p_fits (aCons (sTup (aCons (sTup (aCons (sVar 1) (aCons (sVar 2) aNil))) (aCons (sTup (aCons (sVar 3) (aCons (sVar 4) aNil))) aNil))) aNil)))
  (bRaise 10)
  bNext)
  (bRet (sTup (aCons (sTup (aCons (sVar 1) (aCons (sVar 2) aNil))) (aCons (sTup (aCons (sVar 3) (aCons (sVar 4) aNil))) aNil))))))))
def F_p_matrix_of : List Sv → Stt → R Sv := F0 6 1 B_p_matrix_of
theorem h_p_matrix_of : Hok 6 1 B_p_matrix_of F_p_matrix_of := hok0
theorem p_matrix_of_in {x0 : Sv} {s : Stt} : F_p_matrix_of [x0] s = outR (B_p_matrix_of [some x0, none, none, none, none, none] s) := rfl

def B_p_word_of : SX := (bSeq (bDrop (sCall F_p_check_matrix (aCons (sVar 0) aNil)))
  (bSeq (bTgt (gT 2 (gsCons (gT 2 (gsCons (gN 1) (gsCons (gN 2) gsNil))) (gsCons (gT 2 (gsCons (gN 3) (gsCons (gN 4) gsNil))) gsNil))) (sVar 0))
  (bSeq (bIf (sBin (cmpD fun i j => decide (i < j)) (sCB min4D (aCons (sVar 1) (aCons (sVar 2) (aCons (sVar 3) (aCons (sVar 4) aNil))))) (sC (.int 0)))
  (bRaise 7)
  bNext)
  (bSeq (bSet 5 (sC (.str "")))
  (bSeq (bWhile (sBin neD (sTup (aCons (sVar 1) (aCons (sVar 2) (aCons (sVar 3) (aCons (sVar 4) aNil))))) (sTup (aCons (sC (.int 1)) (aCons (sC (.int 0)) (aCons (sC (.int 0)) (aCons (sC (.int 1)) aNil))))))
  (bIf (sAnd (sBin (cmpD fun i j => decide (i ≤ j)) (sBin addD (sVar 1) (sVar 2)) (sBin addD (sVar 3) (sVar 4))) (sAnd (sBin (cmpD fun i j => decide (i ≤ j)) (sVar 1) (sVar 3)) (sBin (cmpD fun i j => decide (i ≤ j)) (sVar 2) (sVar 4))))
  (bSeq (bPar 3 4 (sBin subD (sVar 3) (sVar 1)) (sBin subD (sVar 4) (sVar 2)))
  (bAug 5 (sC (.str "L"))))
  (bSeq (bPar 1 2 (sBin subD (sVar 1) (sVar 3)) (sBin subD (sVar 2) (sVar 4)))
  (bAug 5 (sC (.str "R"))))))
  (bRet (sVar 5)))))))
def F_p_word_of : List Sv → Stt → R Sv := F0 6 1 B_p_word_of
theorem h_p_word_of : Hok 6 1 B_p_word_of F_p_word_of := hok0
theorem p_word_of_in {x0 : Sv} {s : Stt} : F_p_word_of [x0] s = outR (B_p_word_of [some x0, none, none, none, none, none] s) := rfl

def fitRow (d : D) : Bool := match d with
  | .tuple [x, y] => isInt x (0 - 99) 99 && isInt y (0 - 99) 99
  | _ => false
def fitsB (v : D) : Bool := match v with
  | .tuple [x, y] => fitRow x && fitRow y
  | _ => false
/-- what may be asked -/
def rowOk (d : D) : Bool := match d with
  | .dict _ => false
  | .tuple [x, y] => !isDict x && !isDict y
  | _ => true
def matOk (v : D) : Bool := match v with
  | .dict _ => false
  | .tuple [x, y] => rowOk x && rowOk y
  | _ => true
def fitS : SX := bIf (sOr (sNot (sUn (isiD "tuple") (sVar 1))) (sOr (sBin neD (sCB lenD (aCons (sVar 1) aNil)) (sC (.int 2))) (sNot (sCB allD (aCons (sLc [2] (iTupl (sVar 1)) (gN 2) (sC (.bool true)) (sCall F_p_is_integer (aCons (sVar 2) (aCons (sBin subD (sC (.int 0)) (sC (.int 99))) (aCons (sC (.int 99)) aNil))))) aNil)))))
  (bRet (sC (.bool false)))
  bNext
theorem fit_lc {x0 : Option Sv} {x y : D} {st : Stt} (hw : st.all (refsLt st.length) = true) (hx : isDict x = false) (hy : isDict y = false) : sLc [2] (iTupl (sVar 1)) (gN 2) (sC (.bool true)) (sCall F_p_is_integer (aCons (sVar 2) (aCons (sBin subD (sC (.int 0)) (sC (.int 99))) (aCons (sC (.int 99)) aNil)))) [x0, some (.d (.tuple [x, y])), none] st = .ok (.d (.list [.bool (isInt x (0 - 99) 99), .bool (isInt y (0 - 99) 99)])) st := by
  rw [sLc_ap (ds := [x, y]) (s := st) (iTupl_ap rfl)]
  exact lcGo_map (h := fun d => .bool (isInt d (0 - 99) 99)) (ge := fun d => [x0, some (.d (.tuple [x, y])), some (.d d)]) (acc := []) hw (fun d hd => rfl) (fun d hd t => by
    have hd' : isDict d = false := by
      rcases List.mem_cons.mp hd with rfl | hd
      · exact hx
      · rcases List.mem_cons.mp hd with rfl | hd
        · exact hy
        · cases hd
    simp [F_p_is_integer, hd']) (by simp)
theorem fit_step {x0 : Option Sv} {d : D} {st : Stt} (hw : st.all (refsLt st.length) = true) (h : rowOk d = true) : fitS [x0, some (.d d), none] st = if fitRow d then .nx [x0, some (.d d), none] st else .rt (.d (.bool false)) st := by
  cases d with
  | dict => cases h
  | tuple ds =>
    match ds with
    | [] => simp [fitS, fitRow]
    | [x] => simp [fitS, fitRow]
    | x :: y :: z :: r =>
      have e : ¬ ((r.length : Int) + 1 + 1 + 1 = 2) := by omega
      simp [fitS, fitRow, e]
    | [x, y] =>
      have hx : isDict x = false := by simp [rowOk] at h; exact h.1
      have hy : isDict y = false := by simp [rowOk] at h; exact h.2
      have lc := fit_lc (x0 := x0) hw hx hy
      have al : ∀ b c : Bool, allD [.d (.list [.bool b, .bool c])] st = some (.bool (b && c)) := fun b c => by
        unfold allD
        simp [asBools]
      have fe : fitRow (.tuple [x, y]) = (isInt x (0 - 99) 99 && isInt y (0 - 99) 99) := rfl
      rw [fe]
      generalize isInt x (0 - 99) 99 = bx at lc
      generalize isInt y (0 - 99) 99 = by' at lc
      simp [fitS, lc, al]
      cases bx <;> cases by' <;> simp
  | _ => simp [fitS, fitRow]
theorem fits_ap {v : D} {st : Stt} (hw : st.all (refsLt st.length) = true) (h : matOk v = true) : F_p_fits [.d v] st = .ok (.d (.bool (fitsB v))) st := by
  rw [p_fits_in]
  have bf : B_p_fits = bSeq (bIf (sOr (sNot (sUn (isiD "tuple") (sVar 0))) (sBin neD (sCB lenD (aCons (sVar 0) aNil)) (sC (.int 2)))) (bRet (sC (.bool false))) bNext) (bSeq (bFor (iTupl (sVar 0)) (gN 1) fitS) (bRet (sC (.bool true)))) := rfl
  rw [bf]
  cases v with
  | dict => cases h
  | tuple ds =>
    match ds with
    | [] => simp [fitsB]
    | [x] => simp [fitsB]
    | x :: y :: z :: r =>
      have e : ¬ ((r.length : Int) + 1 + 1 + 1 = 2) := by omega
      simp [fitsB, e]
    | [x, y] =>
      have hx : rowOk x = true := by simp [matOk] at h; exact h.1
      have hy : rowOk y = true := by simp [matOk] at h; exact h.2
      have it : iTupl (sVar 0) [some (.d (.tuple [x, y])), none, none] st = .ok [x, y] st := iTupl_ap rfl
      have s1 := fit_step (x0 := some (.d (.tuple [x, y]))) hw hx
      have s2 := fit_step (x0 := some (.d (.tuple [x, y]))) hw hy
      have fe : fitsB (.tuple [x, y]) = (fitRow x && fitRow y) := rfl
      rw [fe]
      simp [bFor_ap it, s1]
      cases fitRow x
      · simp
      · simp [s2]
        cases fitRow y
        · simp
        · simp
  | _ => simp [fitsB]
abbrev mt (a b c d : Int) : D := .tuple [pr a b, pr c d]
def matB (v : D) : Bool := match v with
  | .tuple [.tuple [.int a, .int b], .tuple [.int c, .int d]] => fitsB v && (a * d - b * c == 1)
  | _ => false
theorem fits_mt {a b c d : Int} : fitsB (mt a b c d) = true ↔ (-99 ≤ a ∧ a ≤ 99) ∧ (-99 ≤ b ∧ b ≤ 99) ∧ (-99 ≤ c ∧ c ≤ 99) ∧ (-99 ≤ d ∧ d ≤ 99) := by
  simp [fitsB, fitRow, isInt, and_assoc]
theorem fits_ints {v : D} (h : fitsB v = true) : ∃ a b c d, v = mt a b c d := by
  unfold fitsB at h
  split at h
  · rename_i x y
    rw [Bool.and_eq_true] at h
    have r : ∀ z, fitRow z = true → ∃ a b, z = pr a b := fun z hz => by
      unfold fitRow at hz
      split at hz
      · rename_i u w
        cases u <;> cases w <;> simp_all [isInt]
      · cases hz
    obtain ⟨a, b, rfl⟩ := r x h.1
    obtain ⟨c, d, rfl⟩ := r y h.2
    exact ⟨a, b, c, d, rfl⟩
  · cases h
theorem ismat_ap {v : D} {st : Stt} (hw : st.all (refsLt st.length) = true) (h : matOk v = true) : F_p_is_matrix [.d v] st = .ok (.d (.bool (matB v))) st := by
  have f := fits_ap hw h
  rw [p_is_matrix_in]
  cases hf : fitsB v with
  | false =>
    rw [hf] at f
    have e : matB v = false := by
      unfold matB
      split
      · rw [hf]
        rfl
      · rfl
    simp [B_p_is_matrix, f, e]
  | true =>
    rw [hf] at f
    obtain ⟨a, b, c, d, rfl⟩ := fits_ints hf
    have b4 := fits_mt.mp hf
    have e : matB (mt a b c d) = (a * d - b * c == 1) := by
      show (fitsB (mt a b c d) && (a * d - b * c == 1)) = _
      rw [hf]
      rfl
    rw [e]
    simp [B_p_is_matrix, f, mulOk_l (show a.natAbs < 18446744073709551616 by omega), mulOk_l (show b.natAbs < 18446744073709551616 by omega)]
theorem mat_iff {a b c d : Int} : matB (mt a b c d) = true ↔ fitsB (mt a b c d) = true ∧ a * d - b * c = 1 := by
  show (fitsB (mt a b c d) && (a * d - b * c == 1)) = true ↔ _
  rw [Bool.and_eq_true]
  simp
theorem ckmat_ap {v : D} {st : Stt} (hw : st.all (refsLt st.length) = true) (h : matOk v = true) (m : matB v = true) : F_p_check_matrix [.d v] st = .ok (.d .none) st := by
  rw [p_check_matrix_in]
  simp [B_p_check_matrix, ismat_ap hw h, m]
theorem ckmat_ex {v : D} {st : Stt} (hw : st.all (refsLt st.length) = true) (h : matOk v = true) (m : matB v = false) : F_p_check_matrix [.d v] st = .ex 4 st := by
  rw [p_check_matrix_in]
  simp [B_p_check_matrix, ismat_ap hw h, m]
/-- the sign of a fraction put right -/
def sgP (x y : Int) : D := if y < 0 ∨ y = 0 ∧ x < 0 then pr (0 - x) (0 - y) else pr x y
theorem turned_ap {a b c d p q : Int} {st : Stt} (ha : a.natAbs < 1000000) (hb : b.natAbs < 1000000) (hc : c.natAbs < 1000000) (hd : d.natAbs < 1000000) : F_p_turned [.d (mt a b c d), .d (pr p q)] st = .ok (.d (sgP (a * p + b * q) (c * p + d * q))) st := by
  have m1 : ∀ r, mulOk a r = true := fun r => mulOk_l (by omega)
  have m2 : ∀ r, mulOk b r = true := fun r => mulOk_l (by omega)
  have m3 : ∀ r, mulOk c r = true := fun r => mulOk_l (by omega)
  have m4 : ∀ r, mulOk d r = true := fun r => mulOk_l (by omega)
  rw [p_turned_in]
  simp only [B_p_turned, bSeq_ap, bTgt_ap, sVar_ap, List.getElem?_cons_succ, List.getElem?_cons_zero, varR_ap, bindS_ok, tgtR_d, gT_ap, List.length_cons, List.length_nil, gsCons_ap, gsNil_ap, gN_ap, List.set_cons_zero, List.set_cons_succ, Option.bind_some, oNx_some, seqR_nx, Nat.zero_add, Nat.reduceAdd, if_true]
  unfold sgP
  by_cases h : c * p + d * q < 0 ∨ c * p + d * q = 0 ∧ a * p + b * q < 0
  · rw [if_pos h]
    by_cases h1 : c * p + d * q < 0
    · simp [m1, m2, m3, m4, h1]
    · have h2 := h.resolve_left h1
      simp [m1, m2, m3, m4, h2]
  · rw [if_neg h]
    have h1 : ¬ c * p + d * q < 0 := fun z => h (.inl z)
    by_cases h2 : c * p + d * q = 0
    · have h3 : ¬ a * p + b * q < 0 := fun z => h (.inr ⟨h2, z⟩)
      simp [m1, m2, m3, m4, h2, h3]
    · simp [m1, m2, m3, m4, h1, h2]
theorem moved_ap {a b c d p q : Int} {st : Stt} (hw : st.all (refsLt st.length) = true) (m : matB (mt a b c d) = true) (f : isFr (pr p q) = true) (g : isFr (sgP (a * p + b * q) (c * p + d * q)) = true) : F_p_moved [.d (mt a b c d), .d (pr p q)] st = .ok (.d (sgP (a * p + b * q) (c * p + d * q))) st := by
  have b4 := fits_mt.mp (mat_iff.mp m).1
  have t := turned_ap (a := a) (b := b) (c := c) (d := d) (p := p) (q := q) (st := st) (by omega) (by omega) (by omega) (by omega)
  rw [p_moved_in]
  simp [B_p_moved, ckmat_ap hw (v := mt a b c d) rfl m, ckfr_ap f, t, limited_ap g]
def prodS : SX := (bDrop (sMut appR (sVar 2) (sTup (aCons (sBin addD (sBin mulD (sVar 3) (sBin ixD (sBin ixD (sVar 1) (sC (.int 0))) (sC (.int 0)))) (sBin mulD (sVar 4) (sBin ixD (sBin ixD (sVar 1) (sC (.int 1))) (sC (.int 0))))) (aCons (sBin addD (sBin mulD (sVar 3) (sBin ixD (sBin ixD (sVar 1) (sC (.int 0))) (sC (.int 1)))) (sBin mulD (sVar 4) (sBin ixD (sBin ixD (sVar 1) (sC (.int 1))) (sC (.int 1))))) aNil)))))
theorem prod_step {x0 : Option Sv} {a b e f g h : Int} {st : Stt} {acc : List D} (ha : a.natAbs < 1000000) (hb : b.natAbs < 1000000) (hl : acc.length < 100) :
    prodS [x0, some (.d (mt e f g h)), some (.r st.length), some (.d (.int a)), some (.d (.int b))] (st ++ [.lst acc]) = .nx [x0, some (.d (mt e f g h)), some (.r st.length), some (.d (.int a)), some (.d (.int b))] (st ++ [.lst (acc ++ [pr (a * e + b * g) (a * f + b * h)])]) := by
  have m1 : ∀ r, mulOk a r = true := fun r => mulOk_l (by omega)
  have m2 : ∀ r, mulOk b r = true := fun r => mulOk_l (by omega)
  have ap := appR_end (s := st) (ds := acc) (d := pr (a * e + b * g) (a * f + b * h)) (by omega)
  simp [prodS, m1, m2, ap]
theorem product_ap {a b c d e f g h : Int} {st : Stt} (hw : st.all (refsLt st.length) = true) (m : matB (mt a b c d) = true) (n : matB (mt e f g h) = true) : F_p_product [.d (mt a b c d), .d (mt e f g h)] st = if fitsB (mt (a * e + b * g) (a * f + b * h) (c * e + d * g) (c * f + d * h)) then .ok (.d (mt (a * e + b * g) (a * f + b * h) (c * e + d * g) (c * f + d * h))) st else .ex 10 st := by
  have b4 := fits_mt.mp (mat_iff.mp m).1
  have hw2 : (st ++ [Ob.gone]).all (refsLt (st ++ [Ob.gone]).length) = true := by
    rw [List.all_append, Bool.and_eq_true]
    refine ⟨List.all_eq_true.mpr fun o ho => ?_, rfl⟩
    have := List.all_eq_true.mp hw o ho
    cases o with
    | ins cc fs =>
      unfold refsLt at this ⊢
      rw [List.all_eq_true] at this ⊢
      intro x hx
      have := this x hx
      revert this
      cases x.2 <;> simp
      omega
    | _ => rfl
  have s1 := prod_step (x0 := some (.d (mt a b c d))) (a := a) (b := b) (e := e) (f := f) (g := g) (h := h) (st := st) (acc := []) (by omega) (by omega) (by simp)
  have s2 := prod_step (x0 := some (.d (mt a b c d))) (a := c) (b := d) (e := e) (f := f) (g := g) (h := h) (st := st) (acc := [pr (a * e + b * g) (a * f + b * h)]) (by omega) (by omega) (by simp)
  rw [List.nil_append] at s1
  have fl : fo (gT 2 (gsCons (gN 3) (gsCons (gN 4) gsNil))) prodS [pr a b, pr c d] [some (.d (mt a b c d)), some (.d (mt e f g h)), some (.r st.length), none, none] (st ++ [.lst []]) = .nx [some (.d (mt a b c d)), some (.d (mt e f g h)), some (.r st.length), some (.d (.int c)), some (.d (.int d))] (st ++ [.lst [pr (a * e + b * g) (a * f + b * h), pr (c * e + d * g) (c * f + d * h)]]) := by
    rw [fo_cons (e := [some (.d (mt a b c d)), some (.d (mt e f g h)), some (.r st.length), some (.d (.int a)), some (.d (.int b))]) rfl, s1, seqR_nx, fo_cons (e := [some (.d (mt a b c d)), some (.d (mt e f g h)), some (.r st.length), some (.d (.int c)), some (.d (.int d))]) rfl, s2, seqR_nx]
    rfl
  have it : iTupl (sVar 0) [some (.d (mt a b c d)), some (.d (mt e f g h)), some (.r st.length), none, none] (st ++ [.lst []]) = .ok [pr a b, pr c d] (st ++ [.lst []]) := iTupl_ap rfl
  have ft := fits_ap (v := mt (a * e + b * g) (a * f + b * h) (c * e + d * g) (c * f + d * h)) (st := st ++ [.gone]) hw2 rfl
  have fr := (bFor_ap (B := prodS) it).trans fl
  unfold prodS at fr
  rw [p_product_in]
  simp [B_p_product, ckmat_ap hw (v := mt a b c d) rfl m, ckmat_ap hw (v := mt e f g h) rfl n, lstM0, fr, ft]
  cases hf : fitsB (mt (a * e + b * g) (a * f + b * h) (c * e + d * g) (c * f + d * h)) with
  | true =>
    simp
    exact gcR_dend hw
  | false =>
    simp
    unfold gcR
    simp [hw]
end DL

namespace DL
open PySem PySem.Spec PyProof.Rows L2
def B_p_ancestors : SX := (bSeq (bPar 1 2 (sDicM (sVar 0) (sC (.bool true))) (sLstM (aCons (sVar 0) aNil)))
  (bSeq (bWhile (sBin neD (sVar 2) (sLst aNil))
  (bSeq (bSet 3 (sPop (sVar 2)))
  (bIf (sBin (cmpD fun i j => decide (j < i)) (sBin ixD (sVar 3) (sC (.int 1))) (sC (.int 1)))
  (bFor (iTupl (sCall F_p_parents_of (aCons (sVar 3) aNil))) (gN 4)
  (bIf (sBin dninD (sVar 4) (sVar 1))
  (bSeq (bDPut (sVar 1) (sVar 4) (sC (.bool true)))
  (bDrop (sMut appR (sVar 2) (sVar 4))))
  bNext))
  bNext)))
  (bRet (sLc [5, 3] (iSeq (sCB sortD (aCons (sLc [3] (iKeys' (sVar 1)) (gN 3) (sC (.bool true)) (sTup (aCons (sBin ixD (sVar 3) (sC (.int 1))) (aCons (sVar 3) aNil)))) aNil))) (gT 2 (gsCons (gN 5) (gsCons (gN 3) gsNil))) (sC (.bool true)) (sVar 3)))))
def F_p_ancestors : List Sv → Stt → R Sv := Fg 6 1 B_p_ancestors
theorem h_p_ancestors : Hok 6 1 B_p_ancestors F_p_ancestors := hokg
theorem p_ancestors_in {x0 : Sv} {s : Stt} : F_p_ancestors [x0] s = gcR s.length (outR (B_p_ancestors [some x0, none, none, none, none, none] s)) := rfl

def B_p_way_up : SX := (bSeq (bSet 1 (sDicM (sC (.tuple [(.int 1), (.int 0)])) (sLst (aCons (sC (.tuple [(.int 1), (.int 0)])) aNil))))
  (bSeq (bIf (sBin neD (sVar 0) (sC (.tuple [(.int 1), (.int 0)])))
  (bFor (iSeq (sCall F_p_ancestors (aCons (sVar 0) aNil))) (gN 2)
  (bSeq (bSet 3 (sIte (sBin eqD (sBin ixD (sVar 2) (sC (.int 1))) (sC (.int 1))) (sLst (aCons (sC (.tuple [(.int 1), (.int 0)])) aNil)) (sCB listL (aCons (sCall F_p_parents_of (aCons (sVar 2) aNil)) aNil))))
  (bSeq (bSet 4 (sBin dgetD (sVar 1) (sBin ixD (sVar 3) (sC (.int 0)))))
  (bSeq (bIf (sBin (cmpD fun i j => decide (i < j)) (sCB lenD (aCons (sBin dgetD (sVar 1) (sBin ixD (sVar 3) (sUn negD (sC (.int 1))))) aNil)) (sCB lenD (aCons (sVar 4) aNil)))
  (bSet 4 (sBin dgetD (sVar 1) (sBin ixD (sVar 3) (sUn negD (sC (.int 1))))))
  bNext)
  (bDPut (sVar 1) (sVar 2) (sBin addD (sLst (aCons (sVar 2) aNil)) (sVar 4)))))))
  bNext)
  (bRet (sBin dgetD (sVar 1) (sVar 0)))))
def F_p_way_up : List Sv → Stt → R Sv := Fg 5 1 B_p_way_up
theorem h_p_way_up : Hok 5 1 B_p_way_up F_p_way_up := hokg
theorem p_way_up_in {x0 : Sv} {s : Stt} : F_p_way_up [x0] s = gcR s.length (outR (B_p_way_up [some x0, none, none, none, none] s)) := rfl

def B_p_lifting : SX := (bSeq (bTgt (gT 2 (gsCons (gN 1) (gsCons (gN 2) gsNil))) (sVar 0))
  (bSeq (bIf (sBin eqD (sVar 2) (sC (.int 0)))
  (bRet (sTup (aCons (sTup (aCons (sC (.int 1)) (aCons (sC (.int 0)) aNil))) (aCons (sTup (aCons (sC (.int 0)) (aCons (sC (.int 1)) aNil))) aNil))))
  bNext)
  (bSeq (bIf (sBin eqD (sVar 2) (sC (.int 1)))
  (bRet (sTup (aCons (sTup (aCons (sC (.int 0)) (aCons (sUn negD (sC (.int 1))) aNil))) (aCons (sTup (aCons (sC (.int 1)) (aCons (sBin subD (sC (.int 0)) (sVar 1)) aNil))) aNil))))
  bNext)
  (bSeq (bTgt (gT 2 (gsCons (gN 3) (gsCons (gN 4) gsNil))) (sBin ixD (sCall F_p_parents_of (aCons (sVar 0) aNil)) (sC (.int 0))))
  (bRet (sTup (aCons (sTup (aCons (sVar 4) (aCons (sBin subD (sC (.int 0)) (sVar 3)) aNil))) (aCons (sTup (aCons (sBin subD (sC (.int 0)) (sVar 2)) (aCons (sVar 1) aNil))) aNil))))))))
def F_p_lifting : List Sv → Stt → R Sv := F0 5 1 B_p_lifting
theorem h_p_lifting : Hok 5 1 B_p_lifting F_p_lifting := hok0
theorem p_lifting_in {x0 : Sv} {s : Stt} : F_p_lifting [x0] s = outR (B_p_lifting [some x0, none, none, none, none] s) := rfl

def B_p_back : SX := (bSeq (bTgt (gT 2 (gsCons (gT 2 (gsCons (gN 1) (gsCons (gN 2) gsNil))) (gsCons (gT 2 (gsCons (gN 3) (gsCons (gN 4) gsNil))) gsNil))) (sVar 0))
  (bRet (sTup (aCons (sTup (aCons (sVar 4) (aCons (sBin subD (sC (.int 0)) (sVar 2)) aNil))) (aCons (sTup (aCons (sBin subD (sC (.int 0)) (sVar 3)) (aCons (sVar 1) aNil))) aNil)))))
def F_p_back : List Sv → Stt → R Sv := F0 5 1 B_p_back
theorem h_p_back : Hok 5 1 B_p_back F_p_back := hok0
theorem p_back_in {x0 : Sv} {s : Stt} : F_p_back [x0] s = outR (B_p_back [some x0, none, none, none, none] s) := rfl

def B_p_road_between : SX := (bSeq (bSet 2 (sCall F_p_lifting (aCons (sVar 1) aNil)))
  (bRet (sLc [3] (iSeq (sCall F_p_way_up (aCons (sCall F_p_turned (aCons (sVar 2) (aCons (sVar 0) aNil))) aNil))) (gN 3) (sC (.bool true)) (sCall F_p_turned (aCons (sCall F_p_back (aCons (sVar 2) aNil)) (aCons (sVar 3) aNil))))))
def F_p_road_between : List Sv → Stt → R Sv := F0 4 2 B_p_road_between
theorem h_p_road_between : Hok 4 2 B_p_road_between F_p_road_between := hok0
theorem p_road_between_in {x0 x1 : Sv} {s : Stt} : F_p_road_between [x0, x1] s = outR (B_p_road_between [some x0, some x1, none, none] s) := rfl

def B_p_distance : SX := (bSeq (bDrop (sCall F_p_check_two (aCons (sVar 0) (aCons (sVar 1) aNil))))
  (bRet (sBin subD (sCB lenD (aCons (sCall F_p_road_between (aCons (sVar 0) (aCons (sVar 1) aNil))) aNil)) (sC (.int 1)))))
def F_p_distance : List Sv → Stt → R Sv := F0 2 2 B_p_distance
theorem h_p_distance : Hok 2 2 B_p_distance F_p_distance := hok0
theorem p_distance_in {x0 x1 : Sv} {s : Stt} : F_p_distance [x0, x1] s = outR (B_p_distance [some x0, some x1] s) := rfl

def kvF (F : List (Int × Int)) : List (List Int × D) := F.map fun x => ([x.1, x.2], .bool true)
theorem find_kvF {F : List (Int × Int)} {x : Int × Int} : (findI (kvF F) [x.1, x.2]).isSome = decide (x ∈ F) := by
  apply Bool.eq_iff_iff.mpr
  unfold findI kvF
  rw [Option.isSome_map, List.find?_isSome, decide_eq_true_eq]
  constructor
  · rintro ⟨p, hp, e⟩
    obtain ⟨y, hy, rfl⟩ := List.mem_map.mp hp
    have e := of_decide_eq_true e
    injection e with e1 e2
    injection e2 with e2 _
    have : y = x := Prod.ext e1 e2
    exact this ▸ hy
  · intro h
    exact ⟨_, List.mem_map.mpr ⟨x, h, rfl⟩, by simp⟩
theorem put_kvF {F : List (Int × Int)} {x : Int × Int} (h : x ∉ F) : putI (kvF F) [x.1, x.2] (.bool true) = kvF (F ++ [x]) := by
  have e := find_kvF (F := F) (x := x)
  rw [decide_eq_false h] at e
  unfold putI
  rw [e, if_neg (by decide)]
  unfold kvF
  rw [List.map_append]
  rfl
/-- what is known of the found ones and of those in line -/
structure AI (P Q : Int) (F L : List (Int × Int)) : Prop where
  nd : F.Nodup
  cone : ∀ x ∈ F, FM.Cone P Q x.1 x.2
  sub : ∀ x ∈ L, x ∈ F
  closed : ∀ x ∈ F, x ∈ L ∨ ∀ r s, FM.Par x.1 x.2 r s → (r, s) ∈ F ∧ (x.1 - r, x.2 - s) ∈ F
  self : (P, Q) ∈ F
def ancB : SX := (bSeq (bSet 3 (sPop (sVar 2)))
  (bIf (sBin (cmpD fun i j => decide (j < i)) (sBin ixD (sVar 3) (sC (.int 1))) (sC (.int 1)))
  (bFor (iTupl (sCall F_p_parents_of (aCons (sVar 3) aNil))) (gN 4)
  (bIf (sBin dninD (sVar 4) (sVar 1))
  (bSeq (bDPut (sVar 1) (sVar 4) (sC (.bool true)))
  (bDrop (sMut appR (sVar 2) (sVar 4))))
  bNext))
  bNext))
def ancC : EX := sBin neD (sVar 2) (sLst aNil)
def ancI : SX := (bIf (sBin dninD (sVar 4) (sVar 1))
  (bSeq (bDPut (sVar 1) (sVar 4) (sC (.bool true)))
  (bDrop (sMut appR (sVar 2) (sVar 4))))
  bNext)
def addA (z : List (Int × Int) × List (Int × Int)) (x : Int × Int) : List (Int × Int) × List (Int × Int) := if x ∈ z.1 then z else (z.1 ++ [x], z.2 ++ [x])
theorem anc_in {x0 x3 x5 : Option Sv} {F L : List (Int × Int)} {x : Int × Int} {st : Stt} (hF : F.length < 80000) (hL : L.length < 80000) :
    ancI [x0, some (.r st.length), some (.r (st.length + 1)), x3, some (.d (prP x)), x5] (st ++ [.dic (kvF F), .lst (L.map prP)]) = .nx [x0, some (.r st.length), some (.r (st.length + 1)), x3, some (.d (prP x)), x5] (st ++ [.dic (kvF (addA (F, L) x).1), .lst ((addA (F, L) x).2.map prP)]) := by
  have g1 : (st ++ [Ob.dic (kvF F), .lst (L.map prP)])[st.length]? = some (.dic (kvF F)) := by
    rw [List.getElem?_append_right (Nat.le_refl _), Nat.sub_self]; rfl
  have n1 := dnin_ap (s := st ++ [Ob.dic (kvF F), .lst (L.map prP)]) (y := prP x) g1 (key_pr (p := x.1) (q := x.2))
  rw [find_kvF] at n1
  unfold ancI addA
  by_cases h : x ∈ F
  · rw [decide_eq_true h] at n1
    rw [if_pos h]
    simp [n1]
  · rw [decide_eq_false h] at n1
    rw [if_neg h]
    have lk : (kvF F).length < 90000 := by unfold kvF; rw [List.length_map]; omega
    have p1 := dput_ap (env := [x0, some (.r st.length), some (.r (st.length + 1)), x3, some (.d (prP x)), x5]) (d := .bool true) (s := st ++ [Ob.dic (kvF F), .lst (L.map prP)]) (y := prP x) g1 (key_pr (p := x.1) (q := x.2)) lk
    rw [put_kvF h] at p1
    have s1 : (st ++ [Ob.dic (kvF F), .lst (L.map prP)]).set st.length (.dic (kvF (F ++ [x]))) = (st ++ [Ob.dic (kvF (F ++ [x]))]) ++ [.lst (L.map prP)] := by
      rw [List.set_append_right _ _ (Nat.le_refl _), Nat.sub_self]
      simp
    rw [s1] at p1
    have ap := appR_end (s := st ++ [Ob.dic (kvF (F ++ [x]))]) (ds := L.map prP) (d := prP x) (by rw [List.length_map]; omega)
    have il : isLst (.r (st ++ [Ob.dic (kvF (F ++ [x]))]).length) ((st ++ [Ob.dic (kvF (F ++ [x]))]) ++ [.lst (L.map prP)]) = true := isLst_end
    rw [List.length_append, List.length_singleton] at ap il
    simp only [bIf_ap, sBin_ap, sVar_ap, List.getElem?_cons_succ, List.getElem?_cons_zero, varR_ap, bindR_ok, n1, optR_some, Bool.not_false, bindS_ok, ifS_t, bSeq_ap, bDPut_ap, sC_ap, p1, seqR_nx, bDrop_ap, sMut_ap, il, if_true, ap]
    simp
theorem addA_len {z : List (Int × Int) × List (Int × Int)} {x : Int × Int} : (addA z x).1.length ≤ z.1.length + 1 ∧ (addA z x).2.length ≤ z.2.length + 1 ∧ (addA z x).1.length + z.2.length = z.1.length + (addA z x).2.length ∧ z.1.length ≤ (addA z x).1.length := by
  unfold addA
  split
  · omega
  · simp
    omega
theorem neD_rl {n : Nat} {ds : List D} {y : Sv} {s : Stt} (h : s[n]? = some (.lst ds)) : neD (.r n) y s = neD (.d (.list ds)) y s := by
  unfold neD
  have e : toRd s (.r n) = toRd s (.d (.list ds)) := by
    unfold toRd
    simp [h]
  rw [e]
theorem popR_end {s : Stt} {ds : List D} {d : D} : popR (.r s.length) (s ++ [.lst (ds ++ [d])]) = .ok (.d d) (s ++ [.lst ds]) := by
  unfold popR
  simp
theorem anc_it {P Q : Int} {x0 x3 x4 x5 : Option Sv} {F L : List (Int × Int)} {x : Int × Int} {st : Stt} (hw : st.all (refsLt (st.length + 2)) = true) (hQ : 1 ≤ Q) (hQ2 : Q < 40000) (hP : P.natAbs < 90000) (I : AI P Q F (L ++ [x])) (hL : L.length < 70000) :
    ∃ F' L' y4, AI P Q F' L' ∧ F'.length + (L.length) = F.length + L'.length ∧ F.length ≤ F'.length ∧ ancB [x0, some (.r st.length), some (.r (st.length + 1)), x3, x4, x5] (st ++ [.dic (kvF F), .lst ((L ++ [x]).map prP)]) = .nx [x0, some (.r st.length), some (.r (st.length + 1)), some (.d (prP x)), y4, x5] (st ++ [.dic (kvF F'), .lst (L'.map prP)]) := by
  have fl := FM.cone_len hQ I.nd I.cone
  have hc := I.cone x (I.sub x (by simp))
  have cn := FM.cone_num hQ hc
  have b1 := hc.b1
  have bQ := hc.bQ
  have pop : bSet 3 (sPop (sVar 2)) [x0, some (.r st.length), some (.r (st.length + 1)), x3, x4, x5] (st ++ [.dic (kvF F), .lst ((L ++ [x]).map prP)]) = .nx [x0, some (.r st.length), some (.r (st.length + 1)), some (.d (prP x)), x4, x5] (st ++ [.dic (kvF F), .lst (L.map prP)]) := by
    have p := popR_end (s := st ++ [Ob.dic (kvF F)]) (ds := L.map prP) (d := prP x)
    have e1 : (st ++ [Ob.dic (kvF F)]) ++ [.lst (L.map prP ++ [prP x])] = st ++ [.dic (kvF F), .lst ((L ++ [x]).map prP)] := by simp
    have e2 : (st ++ [Ob.dic (kvF F)]) ++ [.lst (L.map prP)] = st ++ [.dic (kvF F), .lst (L.map prP)] := by simp
    rw [e1, e2, List.length_append, List.length_singleton] at p
    have q : sPop (sVar 2) [x0, some (.r st.length), some (.r (st.length + 1)), x3, x4, x5] (st ++ [.dic (kvF F), .lst ((L ++ [x]).map prP)]) = popR (.r (st.length + 1)) (st ++ [.dic (kvF F), .lst ((L ++ [x]).map prP)]) := rfl
    rw [bSet_ap, q, p]
    rfl
  unfold ancB
  rw [bSeq_ap, pop, seqR_nx, bIf_ap]
  generalize hT : (st ++ [Ob.dic (kvF F), .lst (L.map prP)] : Stt) = T
  have test : (sBin (cmpD fun i j => decide (j < i)) (sBin ixD (sVar 3) (sC (.int 1))) (sC (.int 1))) [x0, some (.r st.length), some (.r (st.length + 1)), some (.d (prP x)), x4, x5] T = .ok (.d (.bool (decide (1 < x.2)))) T := by
    simp [prP]
  rw [test, bindS_ok]
  by_cases h : 1 < x.2
  · rw [decide_eq_true h, ifS_t]
    obtain ⟨r, s, p⟩ := FM.par_ex (p := x.1) (q := x.2) (by omega) hc.g
    have wT : T.all (refsLt T.length) = true := by
      rw [← hT, List.all_append, List.length_append, Bool.and_eq_true]
      exact ⟨hw, rfl⟩
    have pa := parents_ap (p := x.1) (q := x.2) (r := r) (s := s) (st := T) wT (by omega) (by omega) (by omega) hc.g p.hs p.hq p.d
    have hi : iTupl (sCall F_p_parents_of (aCons (sVar 3) aNil)) [x0, some (.r st.length), some (.r (st.length + 1)), some (.d (prP x)), x4, x5] T = .ok [prP (r, s), prP (x.1 - r, x.2 - s)] T := iTupl_ap (by
      have pa' : F_p_parents_of [.d (prP x)] T = .ok (.d (.tuple [prP (r, s), prP (x.1 - r, x.2 - s)])) T := pa
      simp only [sCall_ap, aCons_ap, aNil_ap, sVar_ap, List.getElem?_cons_succ, List.getElem?_cons_zero, varR_ap, bindR_ok, pa'])
    have l1 := addA_len (z := (F, L)) (x := (r, s))
    have i1 := anc_in (x0 := x0) (x3 := some (.d (prP x))) (x5 := x5) (F := F) (L := L) (x := (r, s)) (st := st) (by omega) (by omega)
    have i2 := anc_in (x0 := x0) (x3 := some (.d (prP x))) (x5 := x5) (F := (addA (F, L) (r, s)).1) (L := (addA (F, L) (r, s)).2) (x := (x.1 - r, x.2 - s)) (st := st) (by have := l1.1; simp only at this; omega) (by have := l1.2.1; simp only at this; omega)
    have l2 := addA_len (z := addA (F, L) (r, s)) (x := (x.1 - r, x.2 - s))
    obtain ⟨Z, hZ⟩ : ∃ Z, Z = addA (addA (F, L) (r, s)) (x.1 - r, x.2 - s) := ⟨_, rfl⟩
    refine ⟨Z.1, Z.2, some (.d (prP (x.1 - r, x.2 - s))), ?_, ?_, ?_, ?_⟩
    · -- the invariant
      have clo := FM.cone_lo hQ hc p
      have chi := FM.cone_hi hQ hc p
      have add : ∀ (z : List (Int × Int) × List (Int × Int)) (y : Int × Int), (z.1.Nodup ∧ (∀ x ∈ z.1, FM.Cone P Q x.1 x.2) ∧ (∀ x ∈ z.2, x ∈ z.1)) → FM.Cone P Q y.1 y.2 → ((addA z y).1.Nodup ∧ (∀ x ∈ (addA z y).1, FM.Cone P Q x.1 x.2) ∧ (∀ x ∈ (addA z y).2, x ∈ (addA z y).1)) ∧ (∀ x ∈ z.1, x ∈ (addA z y).1) ∧ (∀ x ∈ z.2, x ∈ (addA z y).2) ∧ y ∈ (addA z y).1 ∧ (∀ x ∈ (addA z y).1, x ∈ z.1 ∨ x ∈ (addA z y).2) := by
        intro z y hz hy
        unfold addA
        by_cases m : y ∈ z.1
        · rw [if_pos m]
          exact ⟨hz, fun x hx => hx, fun x hx => hx, m, fun x hx => .inl hx⟩
        · rw [if_neg m]
          refine ⟨⟨?_, fun x hx => ?_, fun x hx => ?_⟩, fun x hx => List.mem_append_left _ hx, fun x hx => List.mem_append_left _ hx, by simp, fun x hx => ?_⟩
          · rw [List.nodup_append]
            refine ⟨hz.1, by simp, fun a ha b hb => ?_⟩
            simp only [List.mem_cons, List.not_mem_nil, or_false] at hb
            subst hb
            rintro rfl
            exact m ha
          · rcases List.mem_append.mp hx with k | k
            · exact hz.2.1 x k
            · simp only [List.mem_cons, List.not_mem_nil, or_false] at k
              subst k
              exact hy
          · rcases List.mem_append.mp hx with k | k
            · exact List.mem_append_left _ (hz.2.2 x k)
            · exact List.mem_append_right _ k
          · rcases List.mem_append.mp hx with k | k
            · exact .inl k
            · exact .inr (List.mem_append_right _ k)
      obtain ⟨A1, A2, A3, A4, A5⟩ := add (F, L) (r, s) ⟨I.nd, I.cone, fun y hy => I.sub y (List.mem_append_left _ hy)⟩ clo
      obtain ⟨B1, B2, B3, B4, B5⟩ := add (addA (F, L) (r, s)) (x.1 - r, x.2 - s) A1 chi
      rw [← hZ] at B1 B2 B3 B4 B5
      refine ⟨B1.1, B1.2.1, B1.2.2, fun y hy => ?_, B2 _ (A2 _ I.self)⟩
      rcases B5 y hy with k | k
      · rcases A5 y k with k | k
        · rcases I.closed y k with k2 | k2
          · rcases List.mem_append.mp k2 with k3 | k3
            · exact .inl (B3 y (A3 y k3))
            · simp only [List.mem_cons, List.not_mem_nil, or_false] at k3
              subst k3
              refine .inr fun r' s' p' => ?_
              obtain ⟨e1, e2⟩ := p.uniq p'
              subst e1
              subst e2
              exact ⟨B2 _ A4, B4⟩
          · exact .inr fun r' s' p' => ⟨B2 _ (A2 _ (k2 r' s' p').1), B2 _ (A2 _ (k2 r' s' p').2)⟩
        · exact .inl (B3 y k)
      · exact .inl k
    · have a1 := l1.2.2.1
      have a2 := l2.2.2.1
      rw [← hZ] at a2
      simp only at a1
      omega
    · have a1 := l1.2.2.2
      have a2 := l2.2.2.2
      rw [← hZ] at a2
      simp only at a1
      omega
    · rw [bFor_ap hi, ← hT, fo_cons (e := [x0, some (.r st.length), some (.r (st.length + 1)), some (.d (prP x)), some (.d (prP (r, s))), x5]) rfl]
      have j1 : (bIf (sBin dninD (sVar 4) (sVar 1)) (bSeq (bDPut (sVar 1) (sVar 4) (sC (.bool true))) (bDrop (sMut appR (sVar 2) (sVar 4)))) bNext) = ancI := rfl
      rw [j1, i1, seqR_nx, fo_cons (e := [x0, some (.r st.length), some (.r (st.length + 1)), some (.d (prP x)), some (.d (prP (x.1 - r, x.2 - s))), x5]) rfl, i2, seqR_nx, hZ]
      rfl
  · rw [decide_eq_false h, ifS_f, bNext_ap]
    refine ⟨F, L, x4, ⟨I.nd, I.cone, fun y hy => I.sub y (List.mem_append_left _ hy), fun y hy => ?_, I.self⟩, rfl, Nat.le_refl _, by rw [hT]⟩
    rcases I.closed y hy with k2 | k2
    · rcases List.mem_append.mp k2 with k3 | k3
      · exact .inl k3
      · simp only [List.mem_cons, List.not_mem_nil, or_false] at k3
        subst k3
        refine .inr fun r' s' p' => ?_
        have := p'.hs
        have := p'.hq
        omega
    · exact .inr k2
theorem wh_anc {P Q : Int} {x0 x5 : Option Sv} {st : Stt} (hw : st.all (refsLt (st.length + 2)) = true) (hQ : 1 ≤ Q) (hQ2 : Q < 30000) (hP : P.natAbs < 90000) : ∀ (n : Nat) (F L : List (Int × Int)) (x3 x4 : Option Sv), AI P Q F L → 2 * (Q.toNat + 1 - F.length) + L.length < n → L.length + (Q.toNat + 1 - F.length) < 60000 →
    ∃ F' y3 y4, AI P Q F' [] ∧ wh ancC ancB n [x0, some (.r st.length), some (.r (st.length + 1)), x3, x4, x5] (st ++ [.dic (kvF F), .lst (L.map prP)]) = .nx [x0, some (.r st.length), some (.r (st.length + 1)), y3, y4, x5] (st ++ [.dic (kvF F'), .lst []])
  | 0, _, _, _, _, _, h, _ => by omega
  | n + 1, F, L, x3, x4, I, h, hl => by
    have g2 : ∀ (ds : List D), (st ++ [Ob.dic (kvF F), .lst ds])[st.length + 1]? = some (.lst ds) := fun ds => by
      rw [List.getElem?_append_right (by omega), show st.length + 1 - st.length = 1 by omega]; rfl
    rw [wh_succ]
    rcases List.eq_nil_or_concat L with e | ⟨L', x, e⟩
    · subst e
      refine ⟨F, x3, x4, I, ?_⟩
      have c1 : ancC [x0, some (.r st.length), some (.r (st.length + 1)), x3, x4, x5] (st ++ [.dic (kvF F), .lst (List.map prP [])]) = .ok (.d (.bool false)) (st ++ [.dic (kvF F), .lst (List.map prP [])]) := by
        have ne := neD_rl (y := .d (.list [])) (g2 (List.map prP []))
        have n0 : neD (.d (.list [])) (.d (.list [])) (st ++ [.dic (kvF F), .lst (List.map prP [])]) = some (.bool false) := neD_same (n := 2) (by simp)
        have ne' : neD (.r (st.length + 1)) (.d (.list [])) (st ++ [.dic (kvF F), .lst (List.map prP [])]) = some (.bool false) := ne.trans n0
        simp only [ancC, sBin_ap, sVar_ap, List.getElem?_cons_succ, List.getElem?_cons_zero, varR_ap, bindR_ok, sLst_ap, aNil_ap, lstD_0, optR_some, ne']
      rw [c1, bindS_ok, ifS_f]
      rfl
    · rw [List.concat_eq_append] at e
      subst e
      have c1 : ancC [x0, some (.r st.length), some (.r (st.length + 1)), x3, x4, x5] (st ++ [.dic (kvF F), .lst ((L' ++ [x]).map prP)]) = .ok (.d (.bool true)) (st ++ [.dic (kvF F), .lst ((L' ++ [x]).map prP)]) := by
        have ne := neD_rl (y := .d (.list [])) (g2 ((L' ++ [x]).map prP))
        have pls : pl 2 (.list ((L' ++ [x]).map prP)) = true := by
          rw [pl_lst, plA_iff]
          intro d hd
          obtain ⟨z, _, rfl⟩ := List.mem_map.mp hd
          simp [prP]
        have n0 : neD (.d (.list ((L' ++ [x]).map prP))) (.d (.list [])) (st ++ [.dic (kvF F), .lst ((L' ++ [x]).map prP)]) = some (.bool true) := neD_dif (n := 2) (m := 2) pls (by simp) (fun z => by
          injection z with z
          simp at z)
        have ne' := ne.trans n0
        simp only [ancC, sBin_ap, sVar_ap, List.getElem?_cons_succ, List.getElem?_cons_zero, varR_ap, bindR_ok, sLst_ap, aNil_ap, lstD_0, optR_some, ne']
      rw [List.length_append, List.length_singleton] at h hl
      obtain ⟨F2, L2, y4, I2, le, ge, st2⟩ := anc_it (x0 := x0) (x3 := x3) (x4 := x4) (x5 := x5) hw hQ (by omega) hP I (by omega)
      have fl := FM.cone_len hQ I.nd I.cone
      have fl2 := FM.cone_len hQ I2.nd I2.cone
      obtain ⟨F', z3, z4, IF, ih⟩ := wh_anc hw hQ hQ2 hP n F2 L2 (some (.d (prP x))) y4 I2 (by omega) (by omega)
      refine ⟨F', z3, z4, IF, ?_⟩
      rw [c1, bindS_ok, ifS_t, st2, seqR_nx]
      exact ih
theorem refs_up {st : Stt} {n m : Nat} (h : n ≤ m) (hw : st.all (refsLt n) = true) : st.all (refsLt m) = true := by
  rw [List.all_eq_true] at hw ⊢
  intro o ho
  have := hw o ho
  cases o with
  | ins cc fs =>
    unfold refsLt at this ⊢
    rw [List.all_eq_true] at this ⊢
    intro x hx
    have := this x hx
    revert this
    cases x.2 <;> simp
    omega
  | _ => rfl
theorem gcR_app {st g : Stt} {d : D} (hw : st.all (refsLt st.length) = true) : gcR st.length (.ok (.d d) (st ++ g)) = .ok (.d d) st := by
  unfold gcR
  simp only [List.take_left, hw, if_true]
def qD (x : Int × Int) : D := .tuple [.int x.2, prP x]
def leQ (x y : Int × Int) : Bool := decide (x.2 < y.2 ∨ (x.2 = y.2 ∧ x.1 ≤ y.1))
theorem leQ_is (x y : Int × Int) : PySem.W.dataLe false id (qD x) (qD y) = leQ x y := by
  show (!PySem.W.dataLt (qD y) (qD x)) = _
  unfold qD prP leQ
  rw [PySem.W.dataLt_pair (by simp [PySem.W.alike]) (by simp [PySem.W.alike, PySem.W.alikeAll]), PySem.W.dataLt_ii, PySem.W.dataLt_int, eqv_ii]
  by_cases e : y.2 = x.2
  · have b : (y.2 == x.2) = true := by simpa using e
    rw [b, if_pos rfl]
    by_cases e1 : y.1 = x.1
    · have b1 : PyData.eqv (.tuple [.int y.1, .int y.2]) (.tuple [.int x.1, .int x.2]) = true := by simp [PyData.eqv, PyData.eqvAll, e, e1]
      rw [b1, if_pos rfl, decide_eq_true (by omega)]
      rfl
    · have b1 : PyData.eqv (.tuple [.int y.1, .int y.2]) (.tuple [.int x.1, .int x.2]) = false := by simp [PyData.eqv, PyData.eqvAll, e, e1]
      rw [b1, if_neg (by decide)]
      apply Bool.eq_iff_iff.mpr
      simp only [Bool.not_eq_true', decide_eq_false_iff_not, decide_eq_true_eq]
      omega
  · have b : (y.2 == x.2) = false := by simpa using e
    rw [b, if_neg (by decide)]
    apply Bool.eq_iff_iff.mpr
    simp only [Bool.not_eq_true', decide_eq_false_iff_not, decide_eq_true_eq]
    omega
theorem sort_q {F : List (Int × Int)} : (F.map qD).mergeSort (PySem.W.dataLe false id) = (F.mergeSort leQ).map qD :=
  (List.map_mergeSort fun a _ b _ => (leQ_is a b).symm).symm
theorem sort_q_den (F : List (Int × Int)) : (F.mergeSort leQ).Pairwise fun x y => x.2 ≤ y.2 := by
  have tr : ∀ a b c : Int × Int, leQ a b → leQ b c → leQ a c := fun a b c h1 h2 => by
    simp only [leQ, decide_eq_true_eq] at *
    omega
  have to : ∀ a b : Int × Int, leQ a b || leQ b a := fun a b => by
    simp only [leQ, Bool.or_eq_true, decide_eq_true_eq]
    omega
  refine (List.pairwise_mergeSort tr to F).imp fun {a b} h => ?_
  simp only [leQ, decide_eq_true_eq] at h
  omega
/-- what the ancestors are -/
structure AncL (P Q : Int) (A : List (Int × Int)) : Prop where
  cone : ∀ x ∈ A, FM.Cone P Q x.1 x.2
  closed : ∀ x ∈ A, ∀ r s, FM.Par x.1 x.2 r s → (r, s) ∈ A ∧ (x.1 - r, x.2 - s) ∈ A
  self : (P, Q) ∈ A
  up : A.Pairwise fun x y => x.2 ≤ y.2
  len : A.length ≤ Q.toNat + 1
def nQ (d : D) : D := match d with
  | .tuple [_, y] => y
  | _ => .none
def qOf (d : D) : D := match d with
  | .tuple [.int a, .int b] => qD (a, b)
  | _ => .none
def geQ (e0 : En) (d : D) : En := match d with
  | .tuple [x, y] => (e0.set 5 (some (.d x))).set 3 (some (.d y))
  | _ => e0
theorem ancestors_ap {P Q : Int} {st : Stt} (hw : st.all (refsLt st.length) = true) (g : Int.gcd P Q = 1) (hQ : 1 ≤ Q) (hQ2 : Q < 29000) (hP : P.natAbs < 90000) : ∃ A, AncL P Q A ∧ F_p_ancestors [.d (pr P Q)] st = .ok (.d (.list (A.map prP))) st := by
  have I0 : AI P Q [(P, Q)] [(P, Q)] := ⟨by simp, fun x hx => by
    simp only [List.mem_cons, List.not_mem_nil, or_false] at hx
    subst hx
    exact FM.cone_self hQ g, fun x hx => hx, fun x hx => .inl hx, by simp⟩
  obtain ⟨F, y3, y4, I, w⟩ := wh_anc (x0 := some (.d (pr P Q))) (x5 := none) (st := st) (refs_up (by omega) hw) hQ (by omega) hP fuel [(P, Q)] [(P, Q)] none none I0 (by unfold fuel; simp; omega) (by simp; omega)
  have fl := FM.cone_len hQ I.nd I.cone
  have sp := sort_q_den F
  have pm := List.mergeSort_perm F leQ
  refine ⟨F.mergeSort leQ, ⟨fun x hx => I.cone x (pm.mem_iff.mp hx), fun x hx r s p => ?_, pm.mem_iff.mpr I.self, sp, by rw [pm.length_eq]; exact fl⟩, ?_⟩
  · rcases I.closed x (pm.mem_iff.mp hx) with k | k
    · cases k
    · exact ⟨pm.mem_iff.mpr (k r s p).1, pm.mem_iff.mpr (k r s p).2⟩
  · have s1 : bPar 1 2 (sDicM (sVar 0) (sC (.bool true))) (sLstM (aCons (sVar 0) aNil)) [some (.d (pr P Q)), none, none, none, none, none] st = .nx [some (.d (pr P Q)), some (.r st.length), some (.r (st.length + 1)), none, none, none] (st ++ [.dic (kvF [(P, Q)]), .lst ([(P, Q)].map prP)]) := by
      have dO := dicO_ap (st := st) (y := pr P Q) (d := .bool true) key_pr
      have l1 : (st ++ [Ob.dic [([P, Q], PyData.bool true)]]).length = st.length + 1 := by simp
      have lm : lstMR [.d (pr P Q)] (st ++ [Ob.dic [([P, Q], PyData.bool true)]]) = .ok (.r (st.length + 1)) ((st ++ [Ob.dic [([P, Q], PyData.bool true)]]) ++ [.lst [pr P Q]]) := by
        rw [← l1]
        rfl
      simp only [bPar_ap, sDicM_ap, sVar_ap, List.getElem?_cons_zero, List.getElem?_cons_succ, varR_ap, bindR_ok, bindS_ok, sC_ap, dO, sLstM_ap, aCons_ap, aNil_ap, lm, List.set_cons_succ, List.set_cons_zero]
      simp [kvF, prP]
    have g1 : (st ++ [Ob.dic (kvF F), .lst []])[st.length]? = some (.dic (kvF F)) := by
      rw [List.getElem?_append_right (Nat.le_refl _), Nat.sub_self]; rfl
    generalize he : ([some (.d (pr P Q)), some (.r st.length), some (.r (st.length + 1)), y3, y4, none] : List (Option Sv)) = env
    have hk : iKeys' (sVar 1) env (st ++ [.dic (kvF F), .lst []]) = .ok ((kvF F).map fun p => keyD p.1) (st ++ [.gone, .lst []]) := by
      have e := iKeys_ap (f := sVar 1) (env := env) (st := st ++ [Ob.dic (kvF F), .lst []]) (s := st ++ [Ob.dic (kvF F), .lst []]) (n := st.length) g1 (by rw [← he]; rfl)
      rw [e, List.set_append_right _ _ (Nat.le_refl _), Nat.sub_self]
      rfl
    have kd : ((kvF F).map fun p => keyD p.1) = F.map prP := by
      unfold kvF
      rw [List.map_map]
      rfl
    rw [kd] at hk
    obtain ⟨S1, hS1⟩ : ∃ S1 : Stt, S1 = st ++ [.gone, .lst []] := ⟨_, rfl⟩
    rw [← hS1] at hk
    have wS : S1.all (refsLt S1.length) = true := by
      rw [hS1, List.all_append, List.length_append, Bool.and_eq_true]
      exact ⟨refs_up (by omega) hw, rfl⟩
    have in1 : sLc [3] (iKeys' (sVar 1)) (gN 3) (sC (.bool true)) (sTup (aCons (sBin ixD (sVar 3) (sC (.int 1))) (aCons (sVar 3) aNil))) env (st ++ [.dic (kvF F), .lst []]) = .ok (.d (.list (F.map qD))) S1 := by
      generalize he0 : wipeE env [3] = e0
      have e0' : e0 = [some (.d (pr P Q)), some (.r st.length), some (.r (st.length + 1)), none, y4, none] := by rw [← he0, ← he]; rfl
      have qq := lcGo_map (g := gN 3) (f := sTup (aCons (sBin ixD (sVar 3) (sC (.int 1))) (aCons (sVar 3) aNil))) (e0 := e0) (h := qOf) (ge := fun d => e0.set 3 (some (.d d))) (ds := F.map prP) (s := S1) (acc := []) wS (fun d hd => by rw [e0']; rfl) (fun d hd t => by
        obtain ⟨x, hx, rfl⟩ := List.mem_map.mp hd
        rw [e0']
        simp [prP, qOf, qD]) (by rw [List.length_map, List.length_nil]; omega)
      rw [List.nil_append, List.map_map] at qq
      rw [sLc_ap hk, he0, qq]
      rfl
    have so : sortD [.d (.list (F.map qD))] S1 = some (.list ((F.mergeSort leQ).map qD)) := by
      rw [sortD_ap (by
        have : (F.map qD).all isP12 = true := by
          rw [List.all_eq_true]
          intro d hd
          obtain ⟨x, _, rfl⟩ := List.mem_map.mp hd
          rfl
        rw [this, Bool.or_true]) (by rw [List.length_map]; omega), sort_q]
    have out1 : sLc [5, 3] (iSeq (sCB sortD (aCons (sLc [3] (iKeys' (sVar 1)) (gN 3) (sC (.bool true)) (sTup (aCons (sBin ixD (sVar 3) (sC (.int 1))) (aCons (sVar 3) aNil)))) aNil))) (gT 2 (gsCons (gN 5) (gsCons (gN 3) gsNil))) (sC (.bool true)) (sVar 3) env (st ++ [.dic (kvF F), .lst []]) = .ok (.d (.list ((F.mergeSort leQ).map prP))) S1 := by
      have hi : iSeq (sCB sortD (aCons (sLc [3] (iKeys' (sVar 1)) (gN 3) (sC (.bool true)) (sTup (aCons (sBin ixD (sVar 3) (sC (.int 1))) (aCons (sVar 3) aNil)))) aNil)) env (st ++ [.dic (kvF F), .lst []]) = .ok ((F.mergeSort leQ).map qD) S1 := iSeq_ap (by
        rw [sCB_ap, aCons_ap, in1]
        simp only [bindR_ok, aNil_ap, so, optR_some])
      generalize he0 : wipeE env [5, 3] = e0
      have e0' : e0 = [some (.d (pr P Q)), some (.r st.length), some (.r (st.length + 1)), none, y4, none] := by rw [← he0, ← he]; rfl
      have qq := lcGo_map (g := gT 2 (gsCons (gN 5) (gsCons (gN 3) gsNil))) (f := sVar 3) (e0 := e0) (h := nQ) (ge := geQ e0) (ds := (F.mergeSort leQ).map qD) (s := S1) (acc := []) wS (fun d hd => by
        obtain ⟨x, hx, rfl⟩ := List.mem_map.mp hd
        rw [e0']
        rfl) (fun d hd t => by
        obtain ⟨x, hx, rfl⟩ := List.mem_map.mp hd
        rw [e0']
        rfl) (by rw [List.length_map, List.length_nil, pm.length_eq]; omega)
      rw [List.nil_append, List.map_map] at qq
      rw [sLc_ap hi, he0, qq]
      rfl
    have hB : B_p_ancestors = bSeq (bPar 1 2 (sDicM (sVar 0) (sC (.bool true))) (sLstM (aCons (sVar 0) aNil))) (bSeq (bWhile ancC ancB) (bRet (sLc [5, 3] (iSeq (sCB sortD (aCons (sLc [3] (iKeys' (sVar 1)) (gN 3) (sC (.bool true)) (sTup (aCons (sBin ixD (sVar 3) (sC (.int 1))) (aCons (sVar 3) aNil)))) aNil))) (gT 2 (gsCons (gN 5) (gsCons (gN 3) gsNil))) (sC (.bool true)) (sVar 3)))) := rfl
    rw [p_ancestors_in, hB, bSeq_ap, s1, seqR_nx, bSeq_ap, bWhile_ap, w, seqR_nx, he, bRet_ap, out1, hS1]
    exact gcR_app hw
theorem find_map (k j : List Int) (d : D) : ∀ kvs : List (List Int × D), findI (kvs.map fun p => if p.1 = k then (p.1, d) else p) j = (findI kvs j).map fun e => if j = k then d else e
  | [] => rfl
  | p :: kvs => by
    have ih := find_map k j d kvs
    by_cases e : p.1 = j
    · have e2 : (if p.1 = k then (p.1, d) else p).1 = j := by split <;> exact e
      have f1 : findI (p :: kvs) j = some p.2 := by simp [findI, List.find?_cons, e]
      have f2 : findI ((if p.1 = k then (p.1, d) else p) :: kvs.map fun p => if p.1 = k then (p.1, d) else p) j = some (if p.1 = k then (p.1, d) else p).2 := by simp [findI, List.find?_cons, e2]
      rw [List.map_cons, f1, f2]
      show some _ = some _
      congr 1
      by_cases z : p.1 = k
      · rw [if_pos z]
        exact (if_pos (e.symm.trans z)).symm
      · rw [if_neg z]
        exact (if_neg fun w => z (e.trans w)).symm
    · have e2 : ¬ (if p.1 = k then (p.1, d) else p).1 = j := by split <;> exact e
      have f1 : findI (p :: kvs) j = findI kvs j := by simp [findI, List.find?_cons, e]
      have f2 : findI ((if p.1 = k then (p.1, d) else p) :: kvs.map fun p => if p.1 = k then (p.1, d) else p) j = findI (kvs.map fun p => if p.1 = k then (p.1, d) else p) j := by simp [findI, List.find?_cons, e2]
      rw [List.map_cons, f1, f2, ih]
theorem find_snoc (k j : List Int) (d : D) : ∀ kvs : List (List Int × D), findI kvs k = none → findI (kvs ++ [(k, d)]) j = if j = k then some d else findI kvs j
  | [], _ => by
    by_cases e : j = k
    · rw [if_pos e]
      simp [findI, List.find?_cons, e]
    · rw [if_neg e]
      have : ¬ k = j := fun z => e z.symm
      simp [findI, List.find?_cons, this]
  | p :: kvs, h => by
    by_cases ek : p.1 = k
    · have f : findI (p :: kvs) k = some p.2 := by simp [findI, List.find?_cons, ek]
      rw [f] at h
      cases h
    · have f0 : findI (p :: kvs) k = findI kvs k := by simp [findI, List.find?_cons, ek]
      have ih := find_snoc k j d kvs (by rw [← f0]; exact h)
      rw [List.cons_append]
      by_cases e : p.1 = j
      · have f1 : findI (p :: kvs) j = some p.2 := by simp [findI, List.find?_cons, e]
        have f2 : findI (p :: (kvs ++ [(k, d)])) j = some p.2 := by simp [findI, List.find?_cons, e]
        rw [f1, f2, if_neg fun z => ek (e.trans z)]
      · have f1 : findI (p :: kvs) j = findI kvs j := by simp [findI, List.find?_cons, e]
        have f2 : findI (p :: (kvs ++ [(k, d)])) j = findI (kvs ++ [(k, d)]) j := by simp [findI, List.find?_cons, e]
        rw [f1, f2, ih]
theorem find_put {kvs : List (List Int × D)} {k j : List Int} {d : D} : findI (putI kvs k d) j = if j = k then some d else findI kvs j := by
  unfold putI
  cases h : findI kvs k with
  | none =>
    rw [if_neg (by simp)]
    exact find_snoc k j d kvs h
  | some e =>
    simp only [Option.isSome_some, if_true]
    rw [find_map]
    by_cases z : j = k
    · rw [if_pos z, z, h]
      simp
    · rw [if_neg z]
      simp [z]
/-- the ways known so far -/
def WI (kvs : List (List Int × D)) (S : List (Int × Int)) : Prop := findI kvs [1, 0] = some (.list [pr 1 0]) ∧ ∀ y ∈ S, ∃ l, FM.Way y.1 y.2 l ∧ findI kvs [y.1, y.2] = some (.list (l.map prP))
theorem up_le : ∀ (n : Nat) (p q : Int), FM.upF n p q ≤ n
  | 0, _, _ => Nat.le_refl _
  | n + 1, p, q => by
    unfold FM.upF
    split
    · omega
    · split
      · have := up_le n (-q) (-(p - (2 * p + q) / (2 * q) * q)); omega
      · have := up_le n q (p - (2 * p + q) / (2 * q) * q); omega
theorem way_len {p q : Int} {l : List (Int × Int)} (h : FM.Way p q l) : l.length ≤ q.toNat + 1 := by
  have := h.len
  have u := up_le q.toNat p q
  unfold FM.up at this
  omega
def wuB : SX := (bSeq (bSet 3 (sIte (sBin eqD (sBin ixD (sVar 2) (sC (.int 1))) (sC (.int 1))) (sLst (aCons (sC (.tuple [(.int 1), (.int 0)])) aNil)) (sCB listL (aCons (sCall F_p_parents_of (aCons (sVar 2) aNil)) aNil))))
  (bSeq (bSet 4 (sBin dgetD (sVar 1) (sBin ixD (sVar 3) (sC (.int 0)))))
  (bSeq (bIf (sBin (cmpD fun i j => decide (i < j)) (sCB lenD (aCons (sBin dgetD (sVar 1) (sBin ixD (sVar 3) (sUn negD (sC (.int 1))))) aNil)) (sCB lenD (aCons (sVar 4) aNil)))
  (bSet 4 (sBin dgetD (sVar 1) (sBin ixD (sVar 3) (sUn negD (sC (.int 1))))))
  bNext)
  (bDPut (sVar 1) (sVar 2) (sBin addD (sLst (aCons (sVar 2) aNil)) (sVar 4))))))
theorem wu_put {kvs : List (List Int × D)} {S : List (Int × Int)} {x : Int × Int} {l : List (Int × Int)} (h : WI kvs S) (w : FM.Way x.1 x.2 l) (nt : x ≠ (1, 0)) : WI (putI kvs [x.1, x.2] (.list (l.map prP))) (S ++ [x]) := by
  refine ⟨?_, fun y hy => ?_⟩
  · rw [find_put, if_neg (fun e => ?_)]
    · exact h.1
    · injection e with e1 e2
      injection e2 with e2 _
      exact nt (Prod.ext e1.symm e2.symm)
  · rw [find_put]
    by_cases e : y = x
    · subst e
      exact ⟨l, w, if_pos rfl⟩
    · rcases List.mem_append.mp hy with k | k
      · obtain ⟨m, w2, f⟩ := h.2 y k
        refine ⟨m, w2, ?_⟩
        rw [if_neg (fun z => e ?_)]
        · exact f
        · injection z with e1 e2
          injection e2 with e2 _
          exact Prod.ext e1 e2
      · simp only [List.mem_cons, List.not_mem_nil, or_false] at k
        exact absurd k e
theorem wu_step {x0 x3 x4 : Option Sv} {kvs : List (List Int × D)} {S : List (Int × Int)} {x : Int × Int} {st : Stt} (hw : st.all (refsLt st.length) = true) (h : WI kvs S) (g : Int.gcd x.1 x.2 = 1) (b1 : 1 ≤ x.2) (b2 : x.2 < 39000) (hn : x.1.natAbs < 99000) (par : ∀ r s, FM.Par x.1 x.2 r s → (r, s) ∈ S ∧ (x.1 - r, x.2 - s) ∈ S) (hk : kvs.length < 80000) :
    ∃ kvs' y3 y4, WI kvs' (S ++ [x]) ∧ kvs'.length ≤ kvs.length + 1 ∧ wuB [x0, some (.r st.length), some (.d (prP x)), x3, x4] (st ++ [.dic kvs]) = .nx [x0, some (.r st.length), some (.d (prP x)), y3, y4] (st ++ [.dic kvs']) := by
  have nt : x ≠ (1, 0) := fun e => by
    rw [e] at b1
    exact absurd b1 (by decide)
  have g1 : (st ++ [Ob.dic kvs])[st.length]? = some (.dic kvs) := get_end
  generalize hT : (st ++ [Ob.dic kvs] : Stt) = T at g1
  have wT : T.all (refsLt T.length) = true := by
    rw [← hT, List.all_append, List.length_append, Bool.and_eq_true]
    exact ⟨refs_up (by omega) hw, rfl⟩
  -- what is chosen, the way
  have fin : ∀ (some3 best : D) (l : List (Int × Int)), FM.Way x.1 x.2 ((x.1, x.2) :: l) → l.length ≤ 60000 → best = .list (l.map prP) → bDPut (sVar 1) (sVar 2) (sBin addD (sLst (aCons (sVar 2) aNil)) (sVar 4)) [x0, some (.r st.length), some (.d (prP x)), some (.d some3), some (.d best)] T = .nx [x0, some (.r st.length), some (.d (prP x)), some (.d some3), some (.d best)] (st ++ [.dic (putI kvs [x.1, x.2] (.list (((x.1, x.2) :: l).map prP)))]) := fun some3 best l w hl e => by
    have p1 := dput_ap (env := [x0, some (.r st.length), some (.d (prP x)), some (.d some3), some (.d best)]) (d := .list (((x.1, x.2) :: l).map prP)) (s := T) (y := prP x) g1 (key_pr (p := x.1) (q := x.2)) (by omega)
    have s1 : T.set st.length (.dic (putI kvs [x.1, x.2] (.list (((x.1, x.2) :: l).map prP)))) = st ++ [.dic (putI kvs [x.1, x.2] (.list (((x.1, x.2) :: l).map prP)))] := by rw [← hT, set_end]
    rw [s1] at p1
    have ad : addD (.d (.list [prP x])) (.d best) T = some (.list (((x.1, x.2) :: l).map prP)) := by
      have sz : szOk ([prP x].length + (l.map prP).length) = true := decide_eq_true (by rw [List.length_map]; simp; omega)
      rw [e]
      show (if szOk ([prP x].length + (l.map prP).length) = true then some (PyData.list ([prP x] ++ l.map prP)) else none) = _
      rw [if_pos sz]
      rfl
    simp only [bDPut_ap, sBin_ap, sLst_ap, aCons_ap, aNil_ap, sVar_ap, List.getElem?_cons_succ, List.getElem?_cons_zero, varR_ap, bindR_ok, lstD_1, optR_some, ad, bindS_ok, p1]
  by_cases z : x.2 = 1
  · have z' : (x.2 == 1) = true := by simpa using z
    have w : FM.Way x.1 x.2 ((x.1, x.2) :: [(1, 0)]) := by rw [z]; exact .one x.1
    refine ⟨_, some (.d (.list [pr 1 0])), some (.d (.list [pr 1 0])), wu_put h w nt, putI_len _ _ _, ?_⟩
    have f := fin (.list [pr 1 0]) (.list [pr 1 0]) [(1, 0)] w (by simp) rfl
    have i0 : atI [pr 1 0] 0 = some (pr 1 0) := rfl
    have i1 : atI [pr 1 0] (-1) = some (pr 1 0) := rfl
    have d0 : dgetD (.r st.length) (.d (pr 1 0)) T = some (.list [pr 1 0]) := (dget_ap g1 key_pr).trans h.1
    have ln : lenD [.d (.list [pr 1 0])] T = some (.int 1) := rfl
    have ei : ixD (.d (prP x)) (.d (.int 1)) T = some (.int x.2) := rfl
    have lt : decide ((1 : Int) < 1) = false := rfl
    unfold wuB
    simp only [bSeq_ap, bSet_ap, sIte_ap, sBin_ap, sVar_ap, List.getElem?_cons_succ, List.getElem?_cons_zero, varR_ap, bindR_ok, sC_ap, ei, optR_some, eqD_ii, z', ifB_t, sLst_ap, aCons_ap, aNil_ap, lstD_1, bindS_ok, seqR_nx, List.set_cons_succ, List.set_cons_zero, ixD_l, i0, d0, bIf_ap, sCB_ap, sUn_ap, negD_i, i1, ln, cmpD_ii, lt, ifS_f, bNext_ap]
    exact f
  · have z' : (x.2 == 1) = false := by simpa using z
    obtain ⟨r, s, p⟩ := FM.par_ex (p := x.1) (q := x.2) (by omega) g
    obtain ⟨m1, m2⟩ := par r s p
    obtain ⟨l1, w1, f1⟩ := h.2 _ m1
    obtain ⟨l2, w2, f2⟩ := h.2 _ m2
    have n1 := way_len w1
    have n2 := way_len w2
    have ps := p.hs
    have pq := p.hq
    simp only at n1 n2
    have w := FM.Way.step p w1 w2
    obtain ⟨l, hl⟩ : ∃ l, l = if l2.length < l1.length then l2 else l1 := ⟨_, rfl⟩
    rw [← hl] at w
    have pa := parents_ap (p := x.1) (q := x.2) (r := r) (s := s) (st := T) wT (by omega) (by omega) (by omega) g p.hs p.hq p.d
    have pa' : F_p_parents_of [.d (prP x)] T = .ok (.d (.tuple [pr r s, pr (x.1 - r) (x.2 - s)])) T := pa
    refine ⟨_, some (.d (.list [pr r s, pr (x.1 - r) (x.2 - s)])), some (.d (.list (l.map prP))), wu_put h w nt, putI_len _ _ _, ?_⟩
    have f := fin (.list [pr r s, pr (x.1 - r) (x.2 - s)]) (.list (l.map prP)) l w (by rw [hl]; split <;> omega) rfl
    have ll : listL [.d (.tuple [pr r s, pr (x.1 - r) (x.2 - s)])] T = some (.list [pr r s, pr (x.1 - r) (x.2 - s)]) := rfl
    have i0 : atI [pr r s, pr (x.1 - r) (x.2 - s)] 0 = some (pr r s) := rfl
    have i1 : atI [pr r s, pr (x.1 - r) (x.2 - s)] (-1) = some (pr (x.1 - r) (x.2 - s)) := rfl
    have d0 : dgetD (.r st.length) (.d (pr r s)) T = some (.list (l1.map prP)) := (dget_ap g1 key_pr).trans f1
    have d1 : dgetD (.r st.length) (.d (pr (x.1 - r) (x.2 - s))) T = some (.list (l2.map prP)) := (dget_ap g1 key_pr).trans f2
    have ln1 : lenD [.d (.list (l1.map prP))] T = some (.int (l1.length : Nat)) := by
      show some (PyData.int (List.map _ _).length) = _
      rw [List.length_map]
    have ln2 : lenD [.d (.list (l2.map prP))] T = some (.int (l2.length : Nat)) := by
      show some (PyData.int (List.map _ _).length) = _
      rw [List.length_map]
    have ei : ixD (.d (prP x)) (.d (.int 1)) T = some (.int x.2) := rfl
    unfold wuB
    by_cases c : l2.length < l1.length
    · rw [if_pos c] at hl
      subst hl
      have c' : ((l.length : Nat) : Int) < (l1.length : Nat) := by omega
      simp only [bSeq_ap, bSet_ap, sIte_ap, sBin_ap, sVar_ap, List.getElem?_cons_succ, List.getElem?_cons_zero, varR_ap, bindR_ok, sC_ap, ei, optR_some, eqD_ii, z', ifB_f, sCB_ap, aCons_ap, aNil_ap, sCall_ap, pa', ll, bindS_ok, seqR_nx, List.set_cons_succ, List.set_cons_zero, ixD_l, i0, d0, bIf_ap, sUn_ap, negD_i, i1, d1, ln1, ln2, cmpD_ii, decide_eq_true c', ifS_t]
      exact f
    · rw [if_neg c] at hl
      subst hl
      have c' : ¬ ((l2.length : Nat) : Int) < (l.length : Nat) := by omega
      simp only [bSeq_ap, bSet_ap, sIte_ap, sBin_ap, sVar_ap, List.getElem?_cons_succ, List.getElem?_cons_zero, varR_ap, bindR_ok, sC_ap, ei, optR_some, eqD_ii, z', ifB_f, sCB_ap, aCons_ap, aNil_ap, sCall_ap, pa', ll, bindS_ok, seqR_nx, List.set_cons_succ, List.set_cons_zero, ixD_l, i0, d0, bIf_ap, sUn_ap, negD_i, i1, d1, ln1, ln2, cmpD_ii, decide_eq_false c', ifS_f, bNext_ap]
      exact f
theorem fo_wu {P Q : Int} {x0 : Option Sv} {A : List (Int × Int)} {st : Stt} (hw : st.all (refsLt st.length) = true) (hA : AncL P Q A) (hQ : 1 ≤ Q) (hQ2 : Q < 39000) (hP : P.natAbs < 90000) : ∀ (post pre : List (Int × Int)) (kvs : List (List Int × D)) (x2 x3 x4 : Option Sv), A = pre ++ post → WI kvs pre → kvs.length + post.length < 80000 →
    ∃ kvs' y2 y3 y4, WI kvs' A ∧ fo (gN 2) wuB (post.map prP) [x0, some (.r st.length), x2, x3, x4] (st ++ [.dic kvs]) = .nx [x0, some (.r st.length), y2, y3, y4] (st ++ [.dic kvs'])
  | [], pre, kvs, x2, x3, x4, e, h, _ => ⟨kvs, x2, x3, x4, by rw [e, List.append_nil]; exact h, rfl⟩
  | x :: post, pre, kvs, x2, x3, x4, e, h, hl => by
    rw [List.length_cons] at hl
    have xa : x ∈ A := by rw [e]; simp
    have hc := hA.cone x xa
    have cn := FM.cone_num hQ hc
    have bQ := hc.bQ
    have up := hA.up
    rw [e, List.pairwise_append] at up
    have up2 := (List.pairwise_cons.mp up.2.1).1
    have low : ∀ y, y ∈ A → y.2 < x.2 → y ∈ pre := fun y hy lt => by
      rw [e] at hy
      rcases List.mem_append.mp hy with k | k
      · exact k
      · rcases List.mem_cons.mp k with k | k
        · rw [k] at lt; omega
        · have := up2 y k; omega
    obtain ⟨kvs', y3, y4, h', kl, s1⟩ := wu_step (x0 := x0) (x3 := x3) (x4 := x4) (kvs := kvs) (S := pre) (x := x) (st := st) hw h hc.g hc.b1 (by omega) (by omega) (fun r s p => by
      have ps := p.hs
      have pq := p.hq
      obtain ⟨c1, c2⟩ := hA.closed x xa r s p
      exact ⟨low _ c1 pq, low _ c2 (by show x.2 - s < x.2; omega)⟩) (by omega)
    obtain ⟨kvs2, z2, z3, z4, h2, ih⟩ := fo_wu (x0 := x0) hw hA hQ hQ2 hP post (pre ++ [x]) kvs' (some (.d (prP x))) y3 y4 (by rw [e]; simp) h' (by omega)
    refine ⟨kvs2, z2, z3, z4, h2, ?_⟩
    rw [List.map_cons, fo_cons (e := [x0, some (.r st.length), some (.d (prP x)), x3, x4]) rfl, s1, seqR_nx]
    exact ih
theorem way_up_ap {P Q : Int} {st : Stt} (hw : st.all (refsLt st.length) = true) (g : Int.gcd P Q = 1) (h0 : 0 ≤ Q) (ht : Q = 0 → P = 1) (hQ2 : Q < 29000) (hP : P.natAbs < 90000) : ∃ l, FM.Way P Q l ∧ F_p_way_up [.d (pr P Q)] st = .ok (.d (.list (l.map prP))) st := by
  have s1 : bSet 1 (sDicM (sC (.tuple [(.int 1), (.int 0)])) (sLst (aCons (sC (.tuple [(.int 1), (.int 0)])) aNil))) [some (.d (pr P Q)), none, none, none, none] st = .nx [some (.d (pr P Q)), some (.r st.length), none, none, none] (st ++ [.dic [([1, 0], .list [pr 1 0])]]) := by
    have dO := dicO_ap (st := st) (y := pr 1 0) (d := .list [pr 1 0]) key_pr
    simp only [bSet_ap, sDicM_ap, sC_ap, bindR_ok, sLst_ap, aCons_ap, aNil_ap, lstD_1, optR_some, dO, bindS_ok]
    rfl
  have W0 : WI [([1, 0], .list [pr 1 0])] [] := ⟨rfl, fun y hy => by cases hy⟩
  have ret : ∀ (kvs : List (List Int × D)) (x2 x3 x4 : Option Sv) (l : List (Int × Int)), findI kvs [P, Q] = some (.list (l.map prP)) → gcR st.length (outR (bRet (sBin dgetD (sVar 1) (sVar 0)) [some (.d (pr P Q)), some (.r st.length), x2, x3, x4] (st ++ [.dic kvs]))) = .ok (.d (.list (l.map prP))) st := fun kvs x2 x3 x4 l f => by
    have d0 : dgetD (.r st.length) (.d (pr P Q)) (st ++ [.dic kvs]) = some (.list (l.map prP)) := (dget_ap get_end key_pr).trans f
    simp only [bRet_ap, sBin_ap, sVar_ap, List.getElem?_cons_succ, List.getElem?_cons_zero, varR_ap, bindR_ok, d0, optR_some, bindS_ok, outR_rt]
    exact gcR_app hw
  have hB : B_p_way_up = bSeq (bSet 1 (sDicM (sC (.tuple [(.int 1), (.int 0)])) (sLst (aCons (sC (.tuple [(.int 1), (.int 0)])) aNil)))) (bSeq (bIf (sBin neD (sVar 0) (sC (.tuple [(.int 1), (.int 0)]))) (bFor (iSeq (sCall F_p_ancestors (aCons (sVar 0) aNil))) (gN 2) wuB) bNext) (bRet (sBin dgetD (sVar 1) (sVar 0)))) := rfl
  rw [p_way_up_in, hB, bSeq_ap, s1, seqR_nx, bSeq_ap, bIf_ap]
  by_cases z : Q = 0
  · have p1 := ht z
    have c : (P == 1 && Q == 0) = true := by rw [p1, z]; rfl
    refine ⟨[(1, 0)], by rw [p1, z]; exact .top, ?_⟩
    simp only [sBin_ap, sVar_ap, List.getElem?_cons_zero, varR_ap, bindR_ok, sC_ap, neD_2, c, optR_some, Bool.not_true, bindS_ok, ifS_f, bNext_ap, seqR_nx]
    refine ret _ _ _ _ [(1, 0)] ?_
    rw [p1, z]
    rfl
  · have c : (P == 1 && Q == 0) = false := by
      apply Bool.eq_false_iff.mpr
      intro w
      rw [Bool.and_eq_true] at w
      exact z (by simpa using w.2)
    have wT : (st ++ [Ob.dic [([1, 0], PyData.list [pr 1 0])]]).all (refsLt (st ++ [Ob.dic [([1, 0], PyData.list [pr 1 0])]]).length) = true := by
      rw [List.all_append, List.length_append, Bool.and_eq_true]
      exact ⟨refs_up (by omega) hw, rfl⟩
    obtain ⟨A, hA, an⟩ := ancestors_ap (st := st ++ [.dic [([1, 0], .list [pr 1 0])]]) wT g (show 1 ≤ Q by omega) hQ2 hP
    have hi : iSeq (sCall F_p_ancestors (aCons (sVar 0) aNil)) [some (.d (pr P Q)), some (.r st.length), none, none, none] (st ++ [.dic [([1, 0], .list [pr 1 0])]]) = .ok (A.map prP) (st ++ [.dic [([1, 0], .list [pr 1 0])]]) := iSeq_ap (by
      simp only [sCall_ap, aCons_ap, aNil_ap, sVar_ap, List.getElem?_cons_zero, varR_ap, bindR_ok, an])
    have al := hA.len
    obtain ⟨kvs', y2, y3, y4, h', w⟩ := fo_wu (x0 := some (.d (pr P Q))) hw hA (show 1 ≤ Q by omega) (by omega) hP A [] [([1, 0], .list [pr 1 0])] none none none rfl W0 (by simp; omega)
    obtain ⟨l, wl, f⟩ := h'.2 _ hA.self
    refine ⟨l, wl, ?_⟩
    simp only [sBin_ap, sVar_ap, List.getElem?_cons_zero, varR_ap, bindR_ok, sC_ap, neD_2, c, optR_some, Bool.not_false, bindS_ok, ifS_t]
    rw [bFor_ap hi, w, seqR_nx]
    exact ret _ _ _ _ l f
theorem back_ap {a b c d : Int} {st : Stt} : F_p_back [.d (mt a b c d)] st = .ok (.d (mt d (0 - b) (0 - c) a)) st := by
  rw [p_back_in]
  simp [B_p_back, -Int.zero_sub]
/-- the matrix that lifts a fraction to the top -/
inductive Lift : Int → Int → Int → Int → Int → Int → Prop
  | top : Lift 1 0 1 0 0 1
  | one (p : Int) : Lift p 1 0 (-1) 1 (0 - p)
  | two {p q r s : Int} (h : FM.Par p q r s) : Lift p q s (0 - r) (0 - q) p
theorem lift_ap {p q : Int} {st : Stt} (hw : st.all (refsLt st.length) = true) (f : isFr (pr p q) = true) : ∃ a b c d, Lift p q a b c d ∧ F_p_lifting [.d (pr p q)] st = .ok (.d (mt a b c d)) st := by
  obtain ⟨f1, f2, f3, f4, f5, f6⟩ := isFr_pr.mp f
  by_cases z : q = 0
  · have p1 : p = 1 := by omega
    refine ⟨1, 0, 0, 1, by rw [z, p1]; exact .top, ?_⟩
    have c : (q == 0) = true := by simpa using z
    rw [p_lifting_in]
    simp [B_p_lifting, c]
  · have c : (q == 0) = false := by simpa using z
    by_cases z1 : q = 1
    · refine ⟨0, -1, 1, 0 - p, by rw [z1]; exact .one p, ?_⟩
      have c1 : (q == 1) = true := by simpa using z1
      rw [p_lifting_in]
      simp [B_p_lifting, c, c1, -Int.zero_sub]
    · have c1 : (q == 1) = false := by simpa using z1
      obtain ⟨r, s, P⟩ := FM.par_ex (p := p) (q := q) (by omega) f5
      have pa := parents_ap (p := p) (q := q) (r := r) (s := s) (st := st) hw (by omega) (by omega) (by omega) f5 P.hs P.hq P.d
      refine ⟨s, 0 - r, 0 - q, p, .two P, ?_⟩
      rw [p_lifting_in]
      simp [B_p_lifting, c, c1, pa, -Int.zero_sub]
end DL

namespace DL
open PySem PySem.Spec PyProof.Rows L2
theorem road_top {p q : Int} {st : Stt} (hw : st.all (refsLt st.length) = true) (f : isFr (pr p q) = true) : ∃ l, FM.Way p q l ∧ F_p_road_between [.d (pr p q), .d (pr 1 0)] st = .ok (.d (.list (l.map prP))) st := by
  obtain ⟨f1, f2, f3, f4, f5, f6⟩ := isFr_pr.mp f
  have li : F_p_lifting [.d (pr 1 0)] st = .ok (.d (mt 1 0 0 1)) st := by
    rw [p_lifting_in]
    simp [B_p_lifting]
  have sg : ∀ x y : Int, 0 ≤ y → (y = 0 → x = 1) → sgP (1 * x + 0 * y) (0 * x + 1 * y) = pr x y := fun x y h1 h2 => by
    unfold sgP
    rw [Int.one_mul, Int.zero_mul, Int.zero_mul, Int.one_mul, Int.add_zero, Int.zero_add, if_neg]
    intro z
    rcases z with z | ⟨z1, z2⟩
    · omega
    · have := h2 z1
      omega
  have tu := turned_ap (a := 1) (b := 0) (c := 0) (d := 1) (p := p) (q := q) (st := st) (by decide) (by decide) (by decide) (by decide)
  rw [sg p q f3 (by omega)] at tu
  obtain ⟨l, wl, wu⟩ := way_up_ap (P := p) (Q := q) (st := st) hw f5 f3 (by omega) (by omega) (by omega)
  refine ⟨l, wl, ?_⟩
  have mem : ∀ {p q : Int} {l : List (Int × Int)}, FM.Way p q l → ∀ x ∈ l, 0 ≤ x.2 ∧ (x.2 = 0 → x.1 = 1) := by
    intro p q l h
    induction h with
    | top =>
      intro x hx
      simp only [List.mem_cons, List.not_mem_nil, or_false] at hx
      subst hx
      exact ⟨by decide, fun _ => rfl⟩
    | one p =>
      intro x hx
      simp only [List.mem_cons, List.not_mem_nil, or_false] at hx
      rcases hx with rfl | rfl
      · exact ⟨by show (0 : Int) ≤ 1; decide, fun z => absurd z (by show ¬ (1 : Int) = 0; decide)⟩
      · exact ⟨by decide, fun _ => rfl⟩
    | step h a b iha ihb =>
      intro x hx
      have := h.hs
      have := h.hq
      rcases List.mem_cons.mp hx with rfl | hx
      · exact ⟨by show 0 ≤ _; omega, fun z => by have z : _ = (0 : Int) := z; omega⟩
      · split at hx
        · exact ihb x hx
        · exact iha x hx
  have e1 : bSet 2 (sCall F_p_lifting (aCons (sVar 1) aNil)) [some (.d (pr p q)), some (.d (pr 1 0)), none, none] st = .nx [some (.d (pr p q)), some (.d (pr 1 0)), some (.d (mt 1 0 0 1)), none] st := by
    simp only [bSet_ap, sCall_ap, aCons_ap, aNil_ap, sVar_ap, List.getElem?_cons_succ, List.getElem?_cons_zero, varR_ap, bindR_ok, li, bindS_ok]
    rfl
  have hi : iSeq (sCall F_p_way_up (aCons (sCall F_p_turned (aCons (sVar 2) (aCons (sVar 0) aNil))) aNil)) [some (.d (pr p q)), some (.d (pr 1 0)), some (.d (mt 1 0 0 1)), none] st = .ok (l.map prP) st := iSeq_ap (by
    simp only [sCall_ap, aCons_ap, aNil_ap, sVar_ap, List.getElem?_cons_succ, List.getElem?_cons_zero, varR_ap, bindR_ok, tu, wu])
  have ll := way_len wl
  have qq := lcGo_map (g := gN 3) (f := sCall F_p_turned (aCons (sCall F_p_back (aCons (sVar 2) aNil)) (aCons (sVar 3) aNil))) (e0 := [some (.d (pr p q)), some (.d (pr 1 0)), some (.d (mt 1 0 0 1)), none]) (h := fun d => d) (ge := fun d => [some (.d (pr p q)), some (.d (pr 1 0)), some (.d (mt 1 0 0 1)), some (.d d)]) (ds := l.map prP) (s := st) (acc := []) hw (fun d hd => rfl) (fun d hd t => by
    obtain ⟨x, hx, rfl⟩ := List.mem_map.mp hd
    obtain ⟨m1, m2⟩ := mem wl x hx
    have bk := back_ap (a := 1) (b := 0) (c := 0) (d := 1) (st := t)
    have tt := turned_ap (a := 1) (b := 0) (c := 0) (d := 1) (p := x.1) (q := x.2) (st := t) (by decide) (by decide) (by decide) (by decide)
    rw [sg x.1 x.2 m1 m2] at tt
    have bk' : F_p_back [.d (mt 1 0 0 1)] t = .ok (.d (mt 1 0 0 1)) t := bk
    have tt' : F_p_turned [.d (mt 1 0 0 1), .d (prP x)] t = .ok (.d (prP x)) t := tt
    simp only [sCall_ap, aCons_ap, aNil_ap, sVar_ap, List.getElem?_cons_succ, List.getElem?_cons_zero, varR_ap, bindR_ok, bk', tt']) (by rw [List.length_map, List.length_nil]; omega)
  rw [List.nil_append, List.map_id'] at qq
  have hB : B_p_road_between = bSeq (bSet 2 (sCall F_p_lifting (aCons (sVar 1) aNil))) (bRet (sLc [3] (iSeq (sCall F_p_way_up (aCons (sCall F_p_turned (aCons (sVar 2) (aCons (sVar 0) aNil))) aNil))) (gN 3) (sC (.bool true)) (sCall F_p_turned (aCons (sCall F_p_back (aCons (sVar 2) aNil)) (aCons (sVar 3) aNil))))) := rfl
  rw [p_road_between_in, hB, bSeq_ap, e1, seqR_nx, bRet_ap, sLc_ap hi]
  have wi : wipeE [some (.d (pr p q)), some (.d (pr 1 0)), some (.d (mt 1 0 0 1)), none] [3] = [some (.d (pr p q)), some (.d (pr 1 0)), some (.d (mt 1 0 0 1)), none] := rfl
  rw [wi, qq]
  rfl
theorem dist_top {p q : Int} {st : Stt} (hw : st.all (refsLt st.length) = true) (f : isFr (pr p q) = true) : F_p_distance [.d (pr p q), .d (pr 1 0)] st = .ok (.d (.int (FM.up p q : Nat))) st := by
  obtain ⟨l, wl, r⟩ := road_top hw f
  have tw := two_ap (s := st) f fr_top
  have ln : lenD [.d (.list (l.map prP))] st = some (.int (FM.up p q + 1 : Nat)) := by
    show some (PyData.int (List.map _ _).length) = _
    rw [List.length_map, wl.len]
  have e : (((FM.up p q + 1 : Nat) : Int)) - 1 = (FM.up p q : Nat) := by omega
  rw [p_distance_in]
  simp only [B_p_distance, bSeq_ap, bDrop_ap, sCall_ap, aCons_ap, aNil_ap, sVar_ap, List.getElem?_cons_succ, List.getElem?_cons_zero, varR_ap, bindR_ok, tw, bindS_ok, seqR_nx, bRet_ap, sBin_ap, sCB_ap, r, ln, optR_some, sC_ap, subD_ii, e, outR_rt]
end DL

namespace DL
open PySem PySem.Spec PyProof.Rows L2
def tp (a b c d p q : Int) : Int × Int := if c * p + d * q < 0 ∨ c * p + d * q = 0 ∧ a * p + b * q < 0 then (0 - (a * p + b * q), 0 - (c * p + d * q)) else (a * p + b * q, c * p + d * q)
theorem sg_tp {a b c d p q : Int} : sgP (a * p + b * q) (c * p + d * q) = prP (tp a b c d p q) := by
  unfold sgP tp
  split <;> rfl
theorem mat_gcd {a b c d p q : Int} (det : a * d - b * c = 1) (g : Int.gcd p q = 1) : Int.gcd (a * p + b * q) (c * p + d * q) = 1 := by
  generalize hx : a * p + b * q = x
  generalize hy : c * p + d * q = y
  have e1 : d * x - b * y = p := by
    rw [← hx, ← hy, Int.mul_add, Int.mul_add, ← Int.mul_assoc, ← Int.mul_assoc, ← Int.mul_assoc, ← Int.mul_assoc, Int.mul_comm d a, Int.mul_comm d b]
    have : (a * d - b * c) * p = a * d * p - b * c * p := Int.sub_mul ..
    rw [det, Int.one_mul] at this
    omega
  have e2 : a * y - c * x = q := by
    rw [← hx, ← hy, Int.mul_add, Int.mul_add, ← Int.mul_assoc, ← Int.mul_assoc, ← Int.mul_assoc, ← Int.mul_assoc, Int.mul_comm c a, Int.mul_comm c b]
    have : (a * d - b * c) * q = a * d * q - b * c * q := Int.sub_mul ..
    rw [det, Int.one_mul] at this
    omega
  have d1 : ((Int.gcd x y : Nat) : Int) ∣ p := by
    rw [← e1]
    exact Int.dvd_sub (Int.dvd_mul_of_dvd_right (Int.gcd_dvd_left ..)) (Int.dvd_mul_of_dvd_right (Int.gcd_dvd_right ..))
  have d2 : ((Int.gcd x y : Nat) : Int) ∣ q := by
    rw [← e2]
    exact Int.dvd_sub (Int.dvd_mul_of_dvd_right (Int.gcd_dvd_right ..)) (Int.dvd_mul_of_dvd_right (Int.gcd_dvd_left ..))
  have d3 := Int.dvd_gcd d1 d2
  rw [g] at d3
  exact Nat.dvd_one.mp d3
theorem tp_ok {a b c d p q : Int} (det : a * d - b * c = 1) (g : Int.gcd p q = 1) : Int.gcd (tp a b c d p q).1 (tp a b c d p q).2 = 1 ∧ 0 ≤ (tp a b c d p q).2 ∧ ((tp a b c d p q).2 = 0 → (tp a b c d p q).1 = 1) := by
  have gg := mat_gcd det g
  unfold tp
  generalize a * p + b * q = x at *
  generalize c * p + d * q = y at *
  have one : ∀ z : Int, Int.gcd z 0 = 1 → 0 ≤ z → z = 1 := fun z h1 h2 => by
    rw [Int.gcd_zero_right] at h1
    omega
  split
  · rename_i h
    refine ⟨by rw [Int.zero_sub, Int.zero_sub, Int.gcd_neg, Int.neg_gcd]; exact gg, by show 0 ≤ 0 - y; omega, fun z => ?_⟩
    have z : 0 - y = 0 := z
    have y0 : y = 0 := by omega
    subst y0
    rcases h with h | ⟨_, h⟩
    · omega
    · show 0 - x = 1
      have := one (-x) (by rw [Int.neg_gcd]; exact gg) (by omega)
      omega
  · rename_i h
    refine ⟨gg, ?_, fun z => ?_⟩
    · show 0 ≤ y
      by_cases k : y < 0
      · exact absurd (.inl k) h
      · omega
    · have z : y = 0 := z
      subst z
      show x = 1
      refine one x gg ?_
      by_cases k : x < 0
      · exact absurd (.inr ⟨rfl, k⟩) h
      · omega
theorem Lift.det {u v a b c d : Int} (h : Lift u v a b c d) : a * d - b * c = 1 := by
  cases h with
  | top => rfl
  | one p => omega
  | two P =>
    rename_i r
    have e := P.d
    have m : (0 - r) * (0 - v) = v * r := by rw [Int.zero_sub, Int.zero_sub, Int.neg_mul_neg, Int.mul_comm]
    rw [m, Int.mul_comm]
    exact e
/-- a parent's numerator -/
theorem par_num {p q r s : Int} (P : FM.Par p q r s) : (r.natAbs : Int) ≤ p.natAbs + 1 := by
  have hs := P.hs
  have hq := P.hq
  have d := P.d
  have c1 : p * s ≤ p.natAbs * s := Int.mul_le_mul_of_nonneg_right (by omega) (by omega)
  have c2 : -(p.natAbs * s) ≤ p * s := by
    rw [← Int.neg_mul]
    exact Int.mul_le_mul_of_nonneg_right (by omega) (by omega)
  have c3 : (p.natAbs : Int) * s ≤ p.natAbs * q := Int.mul_le_mul_of_nonneg_left (by omega) (by omega)
  have w1 : r ≤ p.natAbs + 1 := Int.le_of_mul_le_mul_left (a := q) (by rw [Int.mul_add, Int.mul_comm q (p.natAbs : Int)]; omega) (by omega)
  have w2 : -(p.natAbs + 1) ≤ r := Int.le_of_mul_le_mul_left (a := q) (by rw [Int.mul_neg, Int.mul_add, Int.mul_comm q (p.natAbs : Int)]; omega) (by omega)
  omega
theorem Lift.bd {u v a b c d : Int} (h : Lift u v a b c d) (f : isFr (pr u v) = true) : a.natAbs < 20000 ∧ b.natAbs < 20000 ∧ c.natAbs < 20000 ∧ d.natAbs < 20000 := by
  obtain ⟨f1, f2, f3, f4, f5, f6⟩ := isFr_pr.mp f
  cases h with
  | top => decide
  | one p => omega
  | two P =>
    have := par_num P
    have := P.hs
    have := P.hq
    omega
def mapT (a b c d : Int) (z : Int × Int) : Int × Int := tp a b c d z.1 z.2
def turnD (a b c d : Int) (e : D) : D := match e with
  | .tuple [.int p, .int q] => prP (tp a b c d p q)
  | e => e
theorem road_ap {p q u v : Int} {st : Stt} (hw : st.all (refsLt st.length) = true) (f : isFr (pr p q) = true) (g : isFr (pr u v) = true) (hB : ∀ a b c d, Lift u v a b c d → (tp a b c d p q).2 < 29000 ∧ (tp a b c d p q).1.natAbs < 90000) :
    ∃ a b c d l, Lift u v a b c d ∧ FM.Way (tp a b c d p q).1 (tp a b c d p q).2 l ∧ F_p_road_between [.d (pr p q), .d (pr u v)] st = .ok (.d (.list ((l.map (mapT d (0 - b) (0 - c) a)).map prP))) st := by
  obtain ⟨f1, f2, f3, f4, f5, f6⟩ := isFr_pr.mp f
  obtain ⟨a, b, c, d, L, li⟩ := lift_ap hw g
  obtain ⟨n1, n2, n3, n4⟩ := L.bd g
  obtain ⟨t1, t2, t3⟩ := tp_ok (p := p) (q := q) L.det f5
  obtain ⟨b1, b2⟩ := hB a b c d L
  have tu := turned_ap (a := a) (b := b) (c := c) (d := d) (p := p) (q := q) (st := st) (by omega) (by omega) (by omega) (by omega)
  rw [sg_tp] at tu
  obtain ⟨l, wl, wu⟩ := way_up_ap (P := (tp a b c d p q).1) (Q := (tp a b c d p q).2) (st := st) hw t1 t2 t3 b1 b2
  have wu' : F_p_way_up [.d (prP (tp a b c d p q))] st = .ok (.d (.list (l.map prP))) st := wu
  refine ⟨a, b, c, d, l, L, wl, ?_⟩
  have e1 : bSet 2 (sCall F_p_lifting (aCons (sVar 1) aNil)) [some (.d (pr p q)), some (.d (pr u v)), none, none] st = .nx [some (.d (pr p q)), some (.d (pr u v)), some (.d (mt a b c d)), none] st := by
    simp only [bSet_ap, sCall_ap, aCons_ap, aNil_ap, sVar_ap, List.getElem?_cons_succ, List.getElem?_cons_zero, varR_ap, bindR_ok, li, bindS_ok]
    rfl
  have hi : iSeq (sCall F_p_way_up (aCons (sCall F_p_turned (aCons (sVar 2) (aCons (sVar 0) aNil))) aNil)) [some (.d (pr p q)), some (.d (pr u v)), some (.d (mt a b c d)), none] st = .ok (l.map prP) st := iSeq_ap (by
    simp only [sCall_ap, aCons_ap, aNil_ap, sVar_ap, List.getElem?_cons_succ, List.getElem?_cons_zero, varR_ap, bindR_ok, tu, wu'])
  have ll := way_len wl
  have qq := lcGo_map (g := gN 3) (f := sCall F_p_turned (aCons (sCall F_p_back (aCons (sVar 2) aNil)) (aCons (sVar 3) aNil))) (e0 := [some (.d (pr p q)), some (.d (pr u v)), some (.d (mt a b c d)), none]) (h := turnD d (0 - b) (0 - c) a) (ge := fun e => [some (.d (pr p q)), some (.d (pr u v)), some (.d (mt a b c d)), some (.d e)]) (ds := l.map prP) (s := st) (acc := []) hw (fun e he => rfl) (fun e he t => by
    obtain ⟨x, hx, rfl⟩ := List.mem_map.mp he
    have bk := back_ap (a := a) (b := b) (c := c) (d := d) (st := t)
    have tt := turned_ap (a := d) (b := 0 - b) (c := 0 - c) (d := a) (p := x.1) (q := x.2) (st := t) (by omega) (by omega) (by omega) (by omega)
    rw [sg_tp] at tt
    have tt' : F_p_turned [.d (mt d (0 - b) (0 - c) a), .d (prP x)] t = .ok (.d (prP (tp d (0 - b) (0 - c) a x.1 x.2))) t := tt
    simp only [sCall_ap, aCons_ap, aNil_ap, sVar_ap, List.getElem?_cons_succ, List.getElem?_cons_zero, varR_ap, bindR_ok, bk, tt']
    rfl) (by rw [List.length_map, List.length_nil]; omega)
  rw [List.nil_append, List.map_map] at qq
  have hB : B_p_road_between = bSeq (bSet 2 (sCall F_p_lifting (aCons (sVar 1) aNil))) (bRet (sLc [3] (iSeq (sCall F_p_way_up (aCons (sCall F_p_turned (aCons (sVar 2) (aCons (sVar 0) aNil))) aNil))) (gN 3) (sC (.bool true)) (sCall F_p_turned (aCons (sCall F_p_back (aCons (sVar 2) aNil)) (aCons (sVar 3) aNil))))) := rfl
  rw [p_road_between_in, hB, bSeq_ap, e1, seqR_nx, bRet_ap, sLc_ap hi]
  have wi : wipeE [some (.d (pr p q)), some (.d (pr u v)), some (.d (mt a b c d)), none] [3] = [some (.d (pr p q)), some (.d (pr u v)), some (.d (mt a b c d)), none] := rfl
  rw [wi, qq, List.map_map]
  rfl
theorem dist_ap {p q u v : Int} {st : Stt} (hw : st.all (refsLt st.length) = true) (f : isFr (pr p q) = true) (g : isFr (pr u v) = true) (hB : ∀ a b c d, Lift u v a b c d → (tp a b c d p q).2 < 29000 ∧ (tp a b c d p q).1.natAbs < 90000) :
    ∃ a b c d, Lift u v a b c d ∧ F_p_distance [.d (pr p q), .d (pr u v)] st = .ok (.d (.int (FM.up (tp a b c d p q).1 (tp a b c d p q).2 : Nat))) st := by
  obtain ⟨a, b, c, d, l, L, wl, r⟩ := road_ap hw f g hB
  refine ⟨a, b, c, d, L, ?_⟩
  have tw := two_ap (s := st) f g
  have ln : lenD [.d (.list ((l.map (mapT d (0 - b) (0 - c) a)).map prP))] st = some (.int (FM.up (tp a b c d p q).1 (tp a b c d p q).2 + 1 : Nat)) := by
    show some (PyData.int (List.map _ _).length) = _
    rw [List.length_map, List.length_map, wl.len]
  have e : (((FM.up (tp a b c d p q).1 (tp a b c d p q).2 + 1 : Nat) : Int)) - 1 = (FM.up (tp a b c d p q).1 (tp a b c d p q).2 : Nat) := by omega
  rw [p_distance_in]
  simp only [B_p_distance, bSeq_ap, bDrop_ap, sCall_ap, aCons_ap, aNil_ap, sVar_ap, List.getElem?_cons_succ, List.getElem?_cons_zero, varR_ap, bindR_ok, tw, bindS_ok, seqR_nx, bRet_ap, sBin_ap, sCB_ap, r, ln, optR_some, sC_ap, subD_ii, e, outR_rt]
end DL

namespace DL
open PySem PySem.Spec PyProof.Rows L2
def nbP (x y : Int × Int) : Prop := x.1 * y.2 - x.2 * y.1 = 1 ∨ x.1 * y.2 - x.2 * y.1 = -1
def chainP : Int × Int → List (Int × Int) → Prop
  | _, [] => True
  | x, y :: r => nbP x y ∧ chainP y r
/-- reduced, the denominator from 0 on -/
def Nrm (x : Int × Int) : Prop := Int.gcd x.1 x.2 = 1 ∧ 0 ≤ x.2 ∧ (x.2 = 0 → x.1 = 1)
theorem way_chain {p q : Int} {l : List (Int × Int)} (h : FM.Way p q l) : ∃ t, l = (p, q) :: t ∧ chainP (p, q) t ∧ l.getLast? = some (1, 0) := by
  induction h with
  | top => exact ⟨[], rfl, trivial, rfl⟩
  | one p => exact ⟨[(1, 0)], rfl, ⟨.inr (by show p * 0 - 1 * 1 = -1; omega), trivial⟩, rfl⟩
  | step P a b iha ihb =>
    obtain ⟨t1, e1, c1, l1⟩ := iha
    obtain ⟨t2, e2, c2, l2⟩ := ihb
    split
    · refine ⟨_, rfl, ?_, ?_⟩
      · rw [e2]
        refine ⟨.inr ?_, c2⟩
        have := P.d2
        rename_i p q r s l m _
        show p * (q - s) - q * (p - r) = -1
        rw [Int.mul_comm q]
        omega
      · rw [e2] at l2 ⊢
        exact l2
    · refine ⟨_, rfl, ?_, ?_⟩
      · rw [e1]
        exact ⟨.inl P.d, c1⟩
      · rw [e1] at l1 ⊢
        exact l1
theorem way_nrm {p q : Int} {l : List (Int × Int)} (h : FM.Way p q l) : ∀ x ∈ l, Nrm x := by
  induction h with
  | top =>
    intro x hx
    simp only [List.mem_cons, List.not_mem_nil, or_false] at hx
    subst hx
    exact ⟨by decide, by decide, fun _ => rfl⟩
  | one p =>
    intro x hx
    simp only [List.mem_cons, List.not_mem_nil, or_false] at hx
    rcases hx with rfl | rfl
    · exact ⟨Int.gcd_one, by show (0 : Int) ≤ 1; decide, fun z => absurd z (by show ¬ (1 : Int) = 0; decide)⟩
    · exact ⟨by decide, by decide, fun _ => rfl⟩
  | step h a b iha ihb =>
    intro x hx
    have := h.hs
    have := h.hq
    rcases List.mem_cons.mp hx with rfl | hx
    · exact ⟨h.gcd1, by show 0 ≤ _; omega, fun z => by have z : _ = (0 : Int) := z; omega⟩
    · split at hx
      · exact ihb x hx
      · exact iha x hx
theorem tp_pm (a b c d p q : Int) : (tp a b c d p q = (a * p + b * q, c * p + d * q)) ∨ tp a b c d p q = (-(a * p + b * q), -(c * p + d * q)) := by
  unfold tp
  split
  · right
    rw [Int.zero_sub, Int.zero_sub]
  · left
    rfl
theorem mat_cross {a b c d p q u v : Int} (det : a * d - b * c = 1) : (a * p + b * q) * (c * u + d * v) - (c * p + d * q) * (a * u + b * v) = p * v - q * u := by
  have e1 : (a * p + b * q) * (c * u + d * v) = a * c * (p * u) + a * d * (p * v) + b * c * (q * u) + b * d * (q * v) := by
    simp only [Int.add_mul, Int.mul_add]
    have h1 : a * p * (c * u) = a * c * (p * u) := by rw [Int.mul_assoc, Int.mul_left_comm p, ← Int.mul_assoc a c]
    have h2 : a * p * (d * v) = a * d * (p * v) := by rw [Int.mul_assoc, Int.mul_left_comm p, ← Int.mul_assoc a d]
    have h3 : b * q * (c * u) = b * c * (q * u) := by rw [Int.mul_assoc, Int.mul_left_comm q, ← Int.mul_assoc b c]
    have h4 : b * q * (d * v) = b * d * (q * v) := by rw [Int.mul_assoc, Int.mul_left_comm q, ← Int.mul_assoc b d]
    omega
  have e2 : (c * p + d * q) * (a * u + b * v) = a * c * (p * u) + b * c * (p * v) + a * d * (q * u) + b * d * (q * v) := by
    simp only [Int.add_mul, Int.mul_add]
    have h1 : c * p * (a * u) = a * c * (p * u) := by rw [Int.mul_assoc, Int.mul_left_comm p, ← Int.mul_assoc c a, Int.mul_comm c a]
    have h2 : c * p * (b * v) = b * c * (p * v) := by rw [Int.mul_assoc, Int.mul_left_comm p, ← Int.mul_assoc c b, Int.mul_comm c b]
    have h3 : d * q * (a * u) = a * d * (q * u) := by rw [Int.mul_assoc, Int.mul_left_comm q, ← Int.mul_assoc d a, Int.mul_comm d a]
    have h4 : d * q * (b * v) = b * d * (q * v) := by rw [Int.mul_assoc, Int.mul_left_comm q, ← Int.mul_assoc d b, Int.mul_comm d b]
    omega
  have e3 : (a * d - b * c) * (p * v) = a * d * (p * v) - b * c * (p * v) := Int.sub_mul ..
  have e4 : (a * d - b * c) * (q * u) = a * d * (q * u) - b * c * (q * u) := Int.sub_mul ..
  rw [det, Int.one_mul] at e3 e4
  omega
theorem tp_nb {a b c d : Int} {x y : Int × Int} (det : a * d - b * c = 1) (h : nbP x y) : nbP (mapT a b c d x) (mapT a b c d y) := by
  have m := mat_cross (p := x.1) (q := x.2) (u := y.1) (v := y.2) det
  unfold nbP mapT
  unfold nbP at h
  rcases tp_pm a b c d x.1 x.2 with e1 | e1 <;> rcases tp_pm a b c d y.1 y.2 with e2 | e2 <;> rw [e1, e2] <;> simp only [Int.neg_mul, Int.mul_neg] <;> omega
theorem chain_map {a b c d : Int} (det : a * d - b * c = 1) : ∀ (l : List (Int × Int)) (x : Int × Int), chainP x l → chainP (mapT a b c d x) (l.map (mapT a b c d))
  | [], _, _ => trivial
  | y :: l, x, h => ⟨tp_nb det h.1, chain_map det l y h.2⟩
theorem tp_nrm {a b c d : Int} {x : Int × Int} (det : a * d - b * c = 1) (h : Nrm x) : Nrm (mapT a b c d x) := tp_ok det h.1
/-- a fraction by its sign alone -/
theorem nrm_pm {x y : Int × Int} (hx : Nrm x) (hy : Nrm y) (h : x = y ∨ (x.1 = -y.1 ∧ x.2 = -y.2)) : x = y := by
  rcases h with h | ⟨h1, h2⟩
  · exact h
  · obtain ⟨g1, q1, t1⟩ := hx
    obtain ⟨g2, q2, t2⟩ := hy
    have z1 : x.2 = 0 := by omega
    have z2 : y.2 = 0 := by omega
    have := t1 z1
    have := t2 z2
    omega
theorem tp_inv {a b c d : Int} {x : Int × Int} (det : a * d - b * c = 1) (h : Nrm x) : mapT d (0 - b) (0 - c) a (mapT a b c d x) = x := by
  have det2 : d * a - (0 - b) * (0 - c) = 1 := by
    rw [Int.zero_sub, Int.zero_sub, Int.neg_mul_neg, Int.mul_comm d]
    exact det
  have n1 := tp_nrm det h
  have n2 := tp_nrm det2 n1
  refine nrm_pm n2 h ?_
  have k1 : d * (a * x.1 + b * x.2) - b * (c * x.1 + d * x.2) = x.1 := by
    have e : (a * d - b * c) * x.1 = a * d * x.1 - b * c * x.1 := Int.sub_mul ..
    rw [det, Int.one_mul] at e
    rw [Int.mul_add, Int.mul_add, ← Int.mul_assoc, ← Int.mul_assoc, ← Int.mul_assoc, ← Int.mul_assoc, Int.mul_comm d a, Int.mul_comm d b]
    omega
  have k2 : a * (c * x.1 + d * x.2) - c * (a * x.1 + b * x.2) = x.2 := by
    have e : (a * d - b * c) * x.2 = a * d * x.2 - b * c * x.2 := Int.sub_mul ..
    rw [det, Int.one_mul] at e
    rw [Int.mul_add, Int.mul_add, ← Int.mul_assoc, ← Int.mul_assoc, ← Int.mul_assoc, ← Int.mul_assoc, Int.mul_comm c a, Int.mul_comm c b]
    omega
  generalize hX : a * x.1 + b * x.2 = X at *
  generalize hY : c * x.1 + d * x.2 = Y at *
  have k3 : d * X + (0 - b) * Y = x.1 := by rw [Int.sub_mul, Int.zero_mul]; omega
  have k4 : (0 - c) * X + a * Y = x.2 := by rw [Int.sub_mul, Int.zero_mul]; omega
  have outer : ∀ U V : Int, (U = X ∧ V = Y) ∨ (U = -X ∧ V = -Y) → mapT d (0 - b) (0 - c) a (U, V) = x ∨ ((mapT d (0 - b) (0 - c) a (U, V)).1 = -x.1 ∧ (mapT d (0 - b) (0 - c) a (U, V)).2 = -x.2) := by
    intro U V h
    have hp := tp_pm d (0 - b) (0 - c) a U V
    unfold mapT
    rcases h with ⟨h1, h2⟩ | ⟨h1, h2⟩
    · subst h1
      subst h2
      rw [k3, k4] at hp
      rcases hp with e | e
      · exact .inl e
      · exact .inr (by rw [e]; exact ⟨rfl, rfl⟩)
    · subst h1
      subst h2
      rw [show d * -X + (0 - b) * -Y = -x.1 by rw [Int.mul_neg, Int.mul_neg]; omega, show (0 - c) * -X + a * -Y = -x.2 by rw [Int.mul_neg, Int.mul_neg]; omega] at hp
      rcases hp with e | e
      · exact .inr (by rw [e]; exact ⟨rfl, rfl⟩)
      · exact .inl (by rw [e, Int.neg_neg, Int.neg_neg])
  have inner := tp_pm a b c d x.1 x.2
  rw [hX, hY] at inner
  have e0 : mapT a b c d x = ((mapT a b c d x).1, (mapT a b c d x).2) := rfl
  rw [e0]
  refine outer _ _ ?_
  unfold mapT
  rcases inner with e | e
  · rw [e]; exact .inl ⟨rfl, rfl⟩
  · rw [e]; exact .inr ⟨rfl, rfl⟩
/-- the lifting moves its fraction to the top -/
theorem lift_top {u v a b c d : Int} (L : Lift u v a b c d) : tp a b c d u v = (1, 0) := by
  cases L with
  | top => rfl
  | one p =>
    have e1 : (0 : Int) * u + -1 * 1 = -1 := by omega
    have e2 : (1 : Int) * u + (0 - u) * 1 = 0 := by omega
    unfold tp
    rw [e1, e2]
    rfl
  | two P =>
    rename_i r
    have e1 : a * u + (0 - r) * v = 1 := by
      have := P.d
      rw [Int.mul_comm a u, Int.sub_mul, Int.zero_mul, Int.mul_comm r v]
      omega
    have e2 : (0 - v) * u + u * v = 0 := by
      rw [Int.sub_mul, Int.zero_mul, Int.mul_comm u v]
      omega
    unfold tp
    rw [e1, e2]
    rfl
end DL

namespace DL
open PySem PySem.Spec PyProof.Rows L2
inductive Ch : Int × Int → Int × Int → Nat → Prop
  | nil {x : Int × Int} (h : Nrm x) : Ch x x 0
  | cons {x y z : Int × Int} {n : Nat} (h : Nrm x) (e : nbP x y) (t : Ch y z n) : Ch x z (n + 1)
theorem Ch.fst {x y : Int × Int} {n : Nat} (h : Ch x y n) : Nrm x := by
  cases h with
  | nil h => exact h
  | cons h _ _ => exact h
theorem Ch.lst {x y : Int × Int} {n : Nat} (h : Ch x y n) : Nrm y := by
  induction h with
  | nil h => exact h
  | cons _ _ _ ih => exact ih
theorem nbP.symm {x y : Int × Int} (h : nbP x y) : nbP y x := by
  unfold nbP at h ⊢
  rw [Int.mul_comm y.1, Int.mul_comm y.2]
  omega
theorem Ch.trans {x y z : Int × Int} {n m : Nat} (h : Ch x y n) (g : Ch y z m) : Ch x z (n + m) := by
  induction h with
  | nil h => rw [Nat.zero_add]; exact g
  | cons h e t ih =>
    rw [show ∀ k, k + 1 + m = k + m + 1 from fun k => by omega]
    exact .cons h e (ih g)
theorem Ch.symm {x y : Int × Int} {n : Nat} (h : Ch x y n) : Ch y x n := by
  induction h with
  | nil h => exact .nil h
  | cons h e t ih => exact ih.trans (.cons t.fst e.symm (.nil h))
theorem Ch.map {x y : Int × Int} {n : Nat} {a b c d : Int} (det : a * d - b * c = 1) (h : Ch x y n) : Ch (mapT a b c d x) (mapT a b c d y) n := by
  induction h with
  | nil h => exact .nil (tp_nrm det h)
  | cons h e t ih => exact .cons (tp_nrm det h) (tp_nb det e) ih
theorem Ch.of : ∀ (t : List (Int × Int)) (x y : Int × Int), chainP x t → (∀ z ∈ x :: t, Nrm z) → (x :: t).getLast? = some y → Ch x y t.length
  | [], x, y, _, hn, hl => by
    cases hl
    exact .nil (hn x List.mem_cons_self)
  | z :: t, x, y, h, hn, hl => by
    rw [List.getLast?_cons_cons] at hl
    exact .cons (hn x List.mem_cons_self) h.1 (Ch.of t z y h.2 (fun w hw => hn w (List.mem_cons_of_mem _ hw)) hl)
theorem Ch.up {x y : Int × Int} {n : Nat} (h : Ch x y n) (hy : y = (1, 0)) : FM.up x.1 x.2 ≤ n := by
  induction h with
  | nil h => subst hy; decide
  | @cons x y z n h e t ih =>
    have i := ih hy
    obtain ⟨g2, y0, t2⟩ := t.fst
    obtain ⟨g1, q0, t1⟩ := h
    have := FM.up_nb g1 q0 t1 g2 y0 t2 (by
      unfold nbP at e
      exact e)
    omega
/-- the distance -/
def IsD (x y : Int × Int) (n : Nat) : Prop := Ch x y n ∧ ∀ m, Ch x y m → n ≤ m
theorem IsD.uniq {x y : Int × Int} {n m : Nat} (h : IsD x y n) (g : IsD x y m) : n = m := Nat.le_antisymm (h.2 _ g.1) (g.2 _ h.1)
theorem IsD.symm {x y : Int × Int} {n : Nat} (h : IsD x y n) : IsD y x n := ⟨h.1.symm, fun m c => h.2 m c.symm⟩
theorem IsD.tri {x y z : Int × Int} {n m k : Nat} (h : IsD x y n) (a : IsD x z m) (b : IsD z y k) : n ≤ m + k := h.2 _ (a.1.trans b.1)
theorem IsD.map {x y : Int × Int} {n : Nat} {a b c d : Int} (det : a * d - b * c = 1) (h : IsD x y n) : IsD (mapT a b c d x) (mapT a b c d y) n := by
  refine ⟨h.1.map det, fun m k => h.2 m ?_⟩
  have det2 : d * a - (0 - b) * (0 - c) = 1 := by
    rw [Int.zero_sub, Int.zero_sub, Int.neg_mul_neg, Int.mul_comm d]
    exact det
  have q := k.map det2
  rw [tp_inv det h.1.fst, tp_inv det h.1.lst] at q
  exact q
theorem isd_top {x : Int × Int} (h : Nrm x) : IsD x (1, 0) (FM.up x.1 x.2) := by
  obtain ⟨l, w⟩ := FM.way_ex x.2.toNat x.1 x.2 (Nat.le_refl _) h.2.1 h.2.2 h.1
  obtain ⟨t, e, c, ll⟩ := way_chain w
  have k := w.len
  have n := way_nrm w
  rw [e] at k ll n
  have z := Ch.of t (x.1, x.2) (1, 0) c n ll
  rw [List.length_cons] at k
  have k : t.length = FM.up x.1 x.2 := by omega
  rw [k] at z
  exact ⟨z, fun m g => g.up rfl⟩
theorem nrm_of {p q : Int} (f : isFr (pr p q) = true) : Nrm (p, q) := by
  obtain ⟨f1, f2, f3, f4, f5, f6⟩ := isFr_pr.mp f
  exact ⟨f5, f3, fun z => by
    have z : q = 0 := z
    show p = 1
    omega⟩
theorem isd_tp {a b c d : Int} {x y : Int × Int} (det : a * d - b * c = 1) (hy : Nrm y) (e : mapT a b c d y = (1, 0)) (hx : Nrm x) : IsD x y (FM.up (mapT a b c d x).1 (mapT a b c d x).2) := by
  have h := isd_top (tp_nrm (x := x) det hx)
  have det2 : d * a - (0 - b) * (0 - c) = 1 := by
    rw [Int.zero_sub, Int.zero_sub, Int.neg_mul_neg, Int.mul_comm d]
    exact det
  have q := h.map det2
  rw [← e, tp_inv det hx, tp_inv det hy] at q
  exact q
theorem isd_lift {p q u v a b c d : Int} (L : Lift u v a b c d) (hy : Nrm (u, v)) (hx : Nrm (p, q)) : IsD (p, q) (u, v) (FM.up (tp a b c d p q).1 (tp a b c d p q).2) := isd_tp L.det hy (lift_top L) hx
/-- the program's distance -/
theorem dist_is {p q u v : Int} {st : Stt} (hw : st.all (refsLt st.length) = true) (f : isFr (pr p q) = true) (g : isFr (pr u v) = true) (hB : ∀ a b c d, Lift u v a b c d → (tp a b c d p q).2 < 29000 ∧ (tp a b c d p q).1.natAbs < 90000) :
    ∃ n, IsD (p, q) (u, v) n ∧ F_p_distance [.d (pr p q), .d (pr u v)] st = .ok (.d (.int (n : Nat))) st := by
  obtain ⟨a, b, c, d, L, e⟩ := dist_ap hw f g hB
  exact ⟨_, isd_lift L (nrm_of g) (nrm_of f), e⟩
theorem up_two {p q : Int} (hq : 2 ≤ q) (g : Int.gcd p q = 1) : 2 ≤ FM.up p q := by
  obtain ⟨r, s, P⟩ := FM.par_ex hq g
  have e := FM.up_par q.toNat p q r s (Nat.le_refl _) P
  have h1 := FM.up_ge (p := r) (q := s) (by have := P.hs; omega)
  have h2 := FM.up_ge (p := p - r) (q := q - s) (by have := P.hq; omega)
  unfold FM.upPar at e
  omega
theorem isd_zero {x y : Int × Int} {n : Nat} (h : IsD x y n) : n = 0 ↔ x = y := by
  constructor
  · intro e
    subst e
    obtain ⟨c, _⟩ := h
    cases c
    rfl
  · rintro rfl
    have := h.2 0 (.nil h.1.fst)
    omega
theorem nb_ne {x y : Int × Int} (h : nbP x y) : x ≠ y := by
  rintro rfl
  unfold nbP at h
  rw [Int.mul_comm x.1] at h
  omega
theorem isd_one {x y : Int × Int} {n : Nat} (h : IsD x y n) : n = 1 ↔ nbP x y := by
  constructor
  · intro e
    subst e
    obtain ⟨c, _⟩ := h
    cases c with
    | cons _ e t =>
      cases t
      exact e
  · intro e
    have h1 := h.2 1 (.cons h.1.fst e (.nil h.1.lst))
    have h0 : n ≠ 0 := fun z => nb_ne e ((isd_zero h).mp z)
    omega
end DL

namespace DL
open PySem PySem.Spec PyProof.Rows L2
def B_p_road : SX := (bSeq (bDrop (sCall F_p_check_two (aCons (sVar 0) (aCons (sVar 1) aNil))))
  (bRet (sCall F_p_road_between (aCons (sVar 0) (aCons (sVar 1) aNil)))))
def F_p_road : List Sv → Stt → R Sv := F0 2 2 B_p_road
theorem h_p_road : Hok 2 2 B_p_road F_p_road := hok0
theorem p_road_in {x0 x1 : Sv} {s : Stt} : F_p_road [x0, x1] s = outR (B_p_road [some x0, some x1] s) := rfl

def B_p_is_road : SX := (bSeq (bDrop (sCall F_p_check_two (aCons (sVar 0) (aCons (sVar 1) aNil))))
  (bSeq (bIf (sOr (sNot (sUn (isiD "list") (sVar 2))) (sOr (sBin eqD (sVar 2) (sLst aNil)) (sNot (sCB allD (aCons (sLc [5] (iSeq (sVar 2)) (gN 5) (sC (.bool true)) (sCall F_p_is_reduced (aCons (sVar 5) (aCons (sC (.int 999999999)) aNil)))) aNil)))))
  (bRet (sC (.bool false)))
  bNext)
  (bSeq (bIf (sOr (sBin neD (sBin ixD (sVar 2) (sC (.int 0))) (sVar 0)) (sBin neD (sBin ixD (sVar 2) (sUn negD (sC (.int 1)))) (sVar 1)))
  (bRet (sC (.bool false)))
  bNext)
  (bRet (sCB allD (aCons (sLc [3, 4] (iArgs zipA (aCons (sVar 2) (aCons (sSl (sVar 2) (oSome (sC (.int 1))) oNone) aNil))) (gT 2 (gsCons (gN 3) (gsCons (gN 4) gsNil))) (sC (.bool true)) (sCall F_p_beside (aCons (sVar 3) (aCons (sVar 4) aNil)))) aNil))))))
def F_p_is_road : List Sv → Stt → R Sv := F0 6 3 B_p_is_road
theorem h_p_is_road : Hok 6 3 B_p_is_road F_p_is_road := hok0
theorem p_is_road_in {x0 x1 x2 : Sv} {s : Stt} : F_p_is_road [x0, x1, x2] s = outR (B_p_is_road [some x0, some x1, some x2, none, none, none] s) := rfl

theorem boolsM {α : Type} (p : α → Bool) : ∀ l : List α, asBools (l.map fun a => PyData.bool (p a)) = some (l.map p)
  | [] => rfl
  | a :: l => by
    show (match asBools (l.map fun a => PyData.bool (p a)) with | some l => some (p a :: l) | none => none) = _
    rw [boolsM p l]
    rfl
theorem allM {α : Type} (p : α → Bool) (l : List α) {s : Stt} : allD [.d (.list (l.map fun a => PyData.bool (p a)))] s = some (.bool (l.all p)) := by
  unfold allD
  simp only [boolsM]
  congr 2
  rw [List.all_map]
  rfl
def zpD : Int × Int → List (Int × Int) → List D
  | _, [] => []
  | x, y :: r => .tuple [prP x, prP y] :: zpD y r
theorem zipD_cons {x y : D} {ds es : List D} : zipD (x :: ds) (y :: es) = .tuple [x, y] :: zipD ds es := by
  unfold zipD
  rw [List.length_cons, List.length_cons, Nat.add_min_add_right, List.range_succ_eq_map, List.map_cons, List.map_map]
  rfl
theorem zipD_nil {ds : List D} : zipD ds [] = [] := by
  unfold zipD
  rw [List.length_nil, Nat.min_zero]
  rfl
theorem zip_zp : ∀ (r : List (Int × Int)) (x : Int × Int), zipD (prP x :: r.map prP) (r.map prP) = zpD x r
  | [], _ => zipD_nil
  | y :: r, x => by
    rw [List.map_cons, zipD_cons, zip_zp r y]
    rfl
theorem isi_list {ds : List D} {s : Stt} : isiD "list" (.d (.list ds)) s = some (.bool true) := isi_eval (k := "list") rfl (by decide +kernel)
def redL (ds : List D) : Bool := ds.all fun d => isRed d 999999999
def redD (d : D) : D := .bool (isRed d 999999999)
theorem lc_red {x0 x1 x3 x4 x5 : Option Sv} {ds : List D} {st : Stt} (hw : st.all (refsLt st.length) = true) (hl : ds.length ≤ 90000) (ha : ∀ d ∈ ds, askOk d = true) : sLc [5] (iSeq (sVar 2)) (gN 5) (sC (.bool true)) (sCall F_p_is_reduced (aCons (sVar 5) (aCons (sC (.int 999999999)) aNil))) [x0, x1, some (.d (.list ds)), x3, x4, x5] st = .ok (.d (.list (ds.map redD))) st := by
  have qq := lcGo_map (g := gN 5) (f := sCall F_p_is_reduced (aCons (sVar 5) (aCons (sC (.int 999999999)) aNil))) (e0 := [x0, x1, some (.d (.list ds)), x3, x4, none]) (h := redD) (ge := fun d => [x0, x1, some (.d (.list ds)), x3, x4, some (.d d)]) (ds := ds) (s := st) (acc := []) hw (fun d hd => rfl) (fun d hd t => by
    have e : F_p_is_reduced [.d d, .d (.int 999999999)] t = .ok (.d (redD d)) t := if_pos (by rw [ha d hd]; decide)
    simp only [sCall_ap, aCons_ap, aNil_ap, sVar_ap, List.getElem?_cons_succ, List.getElem?_cons_zero, varR_ap, bindR_ok, sC_ap, e]) (by rw [List.length_nil]; omega)
  rw [sLc_ap (ds := ds) (s := st) (iSeq_ap rfl)]
  exact qq
theorem all_red {ds : List D} {s : Stt} : allD [.d (.list (ds.map redD))] s = some (.bool (redL ds)) := by
  have e := allM (fun d => isRed d 999999999) ds (s := s)
  exact e
theorem isroad_no {x y : D} {k : String} {v : D} {st : Stt} (fx : isFr x = true) (fy : isFr y = true) (hk : kindOf st (.d v) = some k) (hs : subTy k "list" = some false) : F_p_is_road [.d x, .d y, .d v] st = .ok (.d (.bool false)) st := by
  have tw := two_ap (s := st) fx fy
  have is := isi_eval (T := "list") hk hs
  rw [p_is_road_in]
  simp [B_p_is_road, tw, is]
theorem isroad_nil {x y : D} {st : Stt} (fx : isFr x = true) (fy : isFr y = true) : F_p_is_road [.d x, .d y, .d (.list [])] st = .ok (.d (.bool false)) st := by
  have tw := two_ap (s := st) fx fy
  have e : eqD (.d (.list [])) (.d (.list [])) st = some (.bool true) := eqD_same (n := 1) (by simp)
  rw [p_is_road_in]
  simp [B_p_is_road, tw, isi_list, e]
theorem isroad_bad {x y : D} {ds : List D} {n : Nat} {st : Stt} (hw : st.all (refsLt st.length) = true) (fx : isFr x = true) (fy : isFr y = true) (hl : ds.length ≤ 90000) (ha : ∀ d ∈ ds, askOk d = true) (hp : pl 3 (.list ds) = true) (hb : redL ds = false) : F_p_is_road [.d x, .d y, .d (.list ds)] st = .ok (.d (.bool false)) st := by
  have tw := two_ap (s := st) fx fy
  have lc := lc_red (x0 := some (.d x)) (x1 := some (.d y)) (x3 := none) (x4 := none) (x5 := none) hw hl ha
  have al := all_red (ds := ds) (s := st)
  rw [hb] at al
  have ne : ds ≠ [] := fun z => by rw [z] at hb; cases hb
  have e : eqD (.d (.list ds)) (.d (.list [])) st = some (.bool false) := eqD_dif (n := 3) (m := 3) hp (by simp) (fun z => ne (by injection z))
  rw [p_is_road_in]
  simp [B_p_is_road, tw, isi_list, e, lc, al]
def nbB (x y : Int × Int) : Bool := x.1 * y.2 - x.2 * y.1 == 1 || x.1 * y.2 - x.2 * y.1 == -1
def chB : Int × Int → List (Int × Int) → Bool
  | _, [] => true
  | x, y :: r => nbB x y && chB y r
theorem chB_of : ∀ (l : List (Int × Int)) (x : Int × Int), chainP x l → chB x l = true
  | [], _, _ => rfl
  | y :: l, x, h => by
    unfold chB
    rw [chB_of l y h.2, Bool.and_true]
    unfold nbB
    rcases h.1 with k | k <;> rw [k] <;> rfl
def bsdD (d : D) : D := match d with
  | .tuple [.tuple [.int a, .int b], .tuple [.int c, .int e]] => .bool (nbB (a, b) (c, e))
  | _ => .none
theorem zp_bs : ∀ (l : List (Int × Int)) (x : Int × Int) (s : Stt), allD [.d (.list ((zpD x l).map bsdD))] s = some (.bool (chB x l)) := by
  intro l x s
  have e : ∀ (l : List (Int × Int)) (x : Int × Int), asBools ((zpD x l).map bsdD) = some ((zpD x l).map fun d => match bsdD d with | .bool b => b | _ => false) ∧ ((zpD x l).map fun d => match bsdD d with | .bool b => b | _ => false).all id = chB x l := by
    intro l
    induction l with
    | nil => intro x; exact ⟨rfl, rfl⟩
    | cons y l ih =>
      intro x
      obtain ⟨i1, i2⟩ := ih y
      constructor
      · show (match asBools ((zpD y l).map bsdD) with | some m => some (nbB x y :: m) | none => none) = _
        rw [i1]
        rfl
      · show (nbB x y && _) = (nbB x y && chB y l)
        rw [← i2]
  obtain ⟨e1, e2⟩ := e l x
  unfold allD
  simp only [e1]
  rw [← e2]
theorem zpD_mem : ∀ (l : List (Int × Int)) (z : Int × Int) (d : D), d ∈ zpD z l → ∃ a b, a ∈ z :: l ∧ b ∈ z :: l ∧ d = .tuple [prP a, prP b]
  | [], _, _, h => by cases h
  | y :: l, z, d, h => by
    rcases List.mem_cons.mp h with e | h
    · exact ⟨z, y, List.mem_cons_self, List.mem_cons_of_mem _ List.mem_cons_self, e⟩
    · obtain ⟨a, b, h1, h2, e⟩ := zpD_mem l y d h
      exact ⟨a, b, List.mem_cons_of_mem _ h1, List.mem_cons_of_mem _ h2, e⟩
theorem zpD_len : ∀ (l : List (Int × Int)) (z : Int × Int), (zpD z l).length = l.length
  | [], _ => rfl
  | y :: l, z => by
    unfold zpD
    rw [List.length_cons, List.length_cons, zpD_len l y]
theorem red_bd {x : Int × Int} (h : isRed (prP x) 999999999 = true) : x.1.natAbs ≤ 999999999 ∧ x.2.natAbs ≤ 999999999 := by
  unfold isRed prP isInt at h
  simp only [Bool.and_eq_true, decide_eq_true_eq] at h
  omega
theorem isroad_prs {x y : Int × Int} {z : Int × Int} {l : List (Int × Int)} {w : Int × Int} {st : Stt} (hw : st.all (refsLt st.length) = true) (fx : isFr (prP x) = true) (fy : isFr (prP y) = true) (hl : l.length ≤ 80000) (hr : redL ((z :: l).map prP) = true) (hlast : (z :: l).getLast? = some w) : F_p_is_road [.d (prP x), .d (prP y), .d (.list ((z :: l).map prP))] st = .ok (.d (.bool (decide (z = x) && (decide (w = y) && chB z l)))) st := by
  have tw := two_ap (s := st) fx fy
  have ha : ∀ d ∈ (z :: l).map prP, askOk d = true := fun d hd => by
    obtain ⟨a, _, rfl⟩ := List.mem_map.mp hd
    rfl
  have lc := lc_red (x0 := some (.d (prP x))) (x1 := some (.d (prP y))) (x3 := none) (x4 := none) (x5 := none) (ds := (z :: l).map prP) hw (by rw [List.length_map, List.length_cons]; omega) ha
  have al := all_red (ds := (z :: l).map prP) (s := st)
  rw [hr] at al
  have hp : pl 3 (.list ((z :: l).map prP)) = true := by
    rw [pl_lst, plA_iff]
    intro d hd
    obtain ⟨a, _, rfl⟩ := List.mem_map.mp hd
    simp [prP]
  have e : eqD (.d (.list ((z :: l).map prP))) (.d (.list [])) st = some (.bool false) := eqD_dif (n := 3) (m := 3) hp (by simp) (fun k => by injection k with k; cases k)
  have i0 : atI ((z :: l).map prP) 0 = some (prP z) := atI_nat rfl
  have i1 : atI ((z :: l).map prP) (-1) = some (prP w) := by
    obtain ⟨u, v, h1, h2⟩ := last_split (l := z :: l) (List.cons_ne_nil _ _)
    rw [hlast] at h2
    cases h2
    rw [h1, List.map_append]
    exact atI_last _ _
  have cd : cutA ((z :: l).map prP) (some 1) none = l.map prP := cut_drop ((z :: l).map prP) 1
  have n0 : neD (.d (prP z)) (.d (prP x)) st = some (.bool (!decide (z = x))) := by
    unfold prP
    rw [neD_2]
    congr 3
    apply Bool.eq_iff_iff.mpr
    simp [Prod.ext_iff]
  have n1 : neD (.d (prP w)) (.d (prP y)) st = some (.bool (!decide (w = y))) := by
    unfold prP
    rw [neD_2]
    congr 3
    apply Bool.eq_iff_iff.mpr
    simp [Prod.ext_iff]
  have bd : ∀ a ∈ z :: l, a.1.natAbs ≤ 999999999 ∧ a.2.natAbs ≤ 999999999 := fun a ha => by
    unfold redL at hr
    rw [List.all_eq_true] at hr
    exact red_bd (hr (prP a) (List.mem_map.mpr ⟨a, ha, rfl⟩))
  have hz : iArgs zipA (aCons (sVar 2) (aCons (sSl (sVar 2) (oSome (sC (.int 1))) oNone) aNil)) [some (.d (prP x)), some (.d (prP y)), some (.d (.list ((z :: l).map prP))), none, none, none] st = .ok (zpD z l) st := by
    have e := zip_zp l z
    simp only [iArgs_ap, aCons_ap, aNil_ap, sVar_ap, List.getElem?_cons_succ, List.getElem?_cons_zero, varR_ap, bindR_ok, sSl_ap, oSome_ap, intO_i, oNone_ap, sC_ap, slD_l, cd, optR_some, zipA_ap]
    rw [← e]
    rfl
  have qq := lcGo_map (g := gT 2 (gsCons (gN 3) (gsCons (gN 4) gsNil))) (f := sCall F_p_beside (aCons (sVar 3) (aCons (sVar 4) aNil))) (e0 := [some (.d (prP x)), some (.d (prP y)), some (.d (.list ((z :: l).map prP))), none, none, none]) (h := bsdD) (ge := fun d => match d with | .tuple [a, b] => [some (.d (prP x)), some (.d (prP y)), some (.d (.list ((z :: l).map prP))), some (.d a), some (.d b), none] | _ => []) (ds := zpD z l) (s := st) (acc := []) hw (fun d hd => by
    obtain ⟨a, b, _, _, rfl⟩ := zpD_mem l z d hd
    rfl) (fun d hd t => by
    obtain ⟨a, b, h1, h2, rfl⟩ := zpD_mem l z d hd
    obtain ⟨b1, b2⟩ := bd a h1
    have bs := beside_ap (p := a.1) (q := a.2) (r := b.1) (t := b.2) (s := t) (by rw [mulOk_l (by omega), mulOk_l (by omega)]; rfl)
    have bs' : F_p_beside [.d (prP a), .d (prP b)] t = .ok (.d (.bool (nbB a b))) t := bs
    simp only [sCall_ap, aCons_ap, aNil_ap, sVar_ap, List.getElem?_cons_succ, List.getElem?_cons_zero, varR_ap, bindR_ok, bs']
    rfl) (by rw [zpD_len, List.length_nil]; omega)
  have zb := zp_bs l z st
  have lz : sLc [3, 4] (iArgs zipA (aCons (sVar 2) (aCons (sSl (sVar 2) (oSome (sC (.int 1))) oNone) aNil))) (gT 2 (gsCons (gN 3) (gsCons (gN 4) gsNil))) (sC (.bool true)) (sCall F_p_beside (aCons (sVar 3) (aCons (sVar 4) aNil))) [some (.d (prP x)), some (.d (prP y)), some (.d (.list ((z :: l).map prP))), none, none, none] st = .ok (.d (.list ((zpD z l).map bsdD))) st := by
    rw [sLc_ap hz]
    exact qq
  rw [p_is_road_in]
  simp only [B_p_is_road, bSeq_ap, bDrop_ap, sCall_ap, aCons_ap, aNil_ap, sVar_ap, List.getElem?_cons_succ, List.getElem?_cons_zero, varR_ap, bindR_ok, tw, bindS_ok, seqR_nx, bIf_ap, sOr_ap, sNot_ap, sUn_ap, isi_list, optR_some, notB_b, Bool.not_true, ifB_f, sBin_ap, sLst_ap, lstD_0, e, sCB_ap, lc, al, ifS_f, bNext_ap, sC_ap, ixD_l, i0, n0]
  by_cases c0 : z = x
  · rw [decide_eq_true c0]
    simp only [Bool.not_true, ifB_f, negD_i, ixD_l, bindR_ok, optR_some, i1, n1]
    by_cases c1 : w = y
    · rw [decide_eq_true c1]
      simp only [Bool.not_true, bindS_ok, ifS_f, seqR_nx, bRet_ap, sCB_ap, aCons_ap, aNil_ap, lz, bindR_ok, zb, optR_some, outR_rt, Bool.true_and]
    · rw [decide_eq_false c1]
      rfl
  · rw [decide_eq_false c0]
    rfl
theorem way_cone {P Q : Int} (hQ : 1 ≤ Q) {p q : Int} {l : List (Int × Int)} (h : FM.Way p q l) : FM.Cone P Q p q → ∀ x ∈ l, x = (1, 0) ∨ FM.Cone P Q x.1 x.2 := by
  induction h with
  | top =>
    intro _ x hx
    simp only [List.mem_cons, List.not_mem_nil, or_false] at hx
    exact .inl hx
  | one p =>
    intro c x hx
    simp only [List.mem_cons, List.not_mem_nil, or_false] at hx
    rcases hx with rfl | rfl
    · exact .inr c
    · exact .inl rfl
  | step h a b iha ihb =>
    intro c x hx
    rcases List.mem_cons.mp hx with rfl | hx
    · exact .inr c
    · split at hx
      · exact ihb (FM.cone_hi hQ c h) x hx
      · exact iha (FM.cone_lo hQ c h) x hx
theorem way_bd {P Q : Int} {l : List (Int × Int)} (h : FM.Way P Q l) (g : Int.gcd P Q = 1) (h0 : 0 ≤ Q) : ∀ x ∈ l, (x.1.natAbs : Int) ≤ P.natAbs + 1 ∧ x.2 ≤ Q + 1 ∧ 0 ≤ x.2 := by
  intro x hx
  by_cases z : Q = 0
  · cases h with
    | top =>
      simp only [List.mem_cons, List.not_mem_nil, or_false] at hx
      subst hx
      decide
    | one => exact absurd z (by decide)
    | step p _ _ => have := p.hs; have := p.hq; omega
  · have hQ : 1 ≤ Q := by omega
    rcases way_cone hQ h (FM.cone_self hQ g) x hx with e | c
    · subst e
      exact ⟨by show ((1 : Int).natAbs : Int) ≤ _; have : (1 : Int).natAbs = 1 := rfl; omega, by show (0 : Int) ≤ _; omega, Int.le_refl 0⟩
    · have := FM.cone_num hQ c
      have := c.bQ
      have := c.b1
      exact ⟨by omega, by omega, by omega⟩
/-- a small lifting -/
theorem Lift.sm {u v a b c d B : Int} (h : Lift u v a b c d) (hu : (u.natAbs : Int) ≤ B) (hv : v ≤ B) (h0 : 0 ≤ v) (hB : 1 ≤ B) : (a.natAbs : Int) ≤ B + 1 ∧ (b.natAbs : Int) ≤ B + 1 ∧ (c.natAbs : Int) ≤ B + 1 ∧ (d.natAbs : Int) ≤ B + 1 := by
  cases h with
  | top => have e1 : (1 : Int).natAbs = 1 := rfl; have e0 : (0 : Int).natAbs = 0 := rfl; omega
  | one p => have e1 : (1 : Int).natAbs = 1 := rfl; have e0 : (0 : Int).natAbs = 0 := rfl; have e2 : (-1 : Int).natAbs = 1 := rfl; omega
  | two P =>
    have := par_num P
    have := P.hs
    have := P.hq
    omega
theorem lin_bd {a b x y A X Y : Int} (ha : (a.natAbs : Int) ≤ A) (hb : (b.natAbs : Int) ≤ A) (hx : (x.natAbs : Int) ≤ X) (hy : (y.natAbs : Int) ≤ Y) : ((a * x + b * y).natAbs : Int) ≤ A * X + A * Y := by
  have h1 : ((a * x).natAbs : Int) ≤ A * X := by
    rw [Int.natAbs_mul, Int.natCast_mul]
    exact Int.mul_le_mul ha hx (by omega) (by omega)
  have h2 : ((b * y).natAbs : Int) ≤ A * Y := by
    rw [Int.natAbs_mul, Int.natCast_mul]
    exact Int.mul_le_mul hb hy (by omega) (by omega)
  omega
theorem tp_bd {a b c d x y A X Y : Int} (ha : (a.natAbs : Int) ≤ A) (hb : (b.natAbs : Int) ≤ A) (hc : (c.natAbs : Int) ≤ A) (hd : (d.natAbs : Int) ≤ A) (hx : (x.natAbs : Int) ≤ X) (hy : (y.natAbs : Int) ≤ Y) : ((tp a b c d x y).1.natAbs : Int) ≤ A * X + A * Y ∧ ((tp a b c d x y).2.natAbs : Int) ≤ A * X + A * Y := by
  have h1 := lin_bd ha hb hx hy
  have h2 := lin_bd hc hd hx hy
  rcases tp_pm a b c d x y with e | e <;> rw [e]
  · exact ⟨h1, h2⟩
  · exact ⟨by rw [Int.natAbs_neg]; exact h1, by rw [Int.natAbs_neg]; exact h2⟩
/-- what is true of the road -/
structure RoadP (p q u v : Int) (R : List (Int × Int)) : Prop where
  hd : ∃ t, R = (p, q) :: t ∧ chainP (p, q) t
  lst : R.getLast? = some (u, v)
  nrm : ∀ x ∈ R, Nrm x
  bd : ∀ x ∈ R, x.1.natAbs ≤ 9000000 ∧ x.2.natAbs ≤ 9000000
  len : R.length ≤ 30000
  triv : (p, q) = (u, v) → R = [(p, q)]
theorem roadP_ap {p q u v : Int} {st : Stt} (hw : st.all (refsLt st.length) = true) (f : isFr (pr p q) = true) (g : isFr (pr u v) = true) (hp : p.natAbs ≤ 150) (hq : q ≤ 50) (hu : u.natAbs ≤ 150) (hv : v ≤ 50) : ∃ R, RoadP p q u v R ∧ F_p_road_between [.d (pr p q), .d (pr u v)] st = .ok (.d (.list (R.map prP))) st := by
  obtain ⟨f1, f2, f3, f4, f5, f6⟩ := isFr_pr.mp f
  obtain ⟨g1, g2, g3, g4, g5, g6⟩ := isFr_pr.mp g
  have small : ∀ a b c d, Lift u v a b c d → ((tp a b c d p q).1.natAbs : Int) ≤ 31000 ∧ ((tp a b c d p q).2.natAbs : Int) ≤ 31000 := fun a b c d L => by
    obtain ⟨n1, n2, n3, n4⟩ := L.sm (B := 150) (by omega) (by omega) g3 (by decide)
    have t := tp_bd (a := a) (b := b) (c := c) (d := d) (x := p) (y := q) (A := 151) (X := 150) (Y := 50) n1 n2 n3 n4 (by omega) (by omega)
    omega
  have den : ∀ a b c d, Lift u v a b c d → (tp a b c d p q).2 ≤ 15000 := fun a b c d L => by
    have m : ∀ y : Int, ((c * p + d * q).natAbs : Int) ≤ 15000 → (tp a b c d p q).2 ≤ 15000 := fun _ h => by
      rcases tp_pm a b c d p q with e | e <;> rw [e] <;> simp only <;> omega
    refine m 0 ?_
    have b1 : ((v * p).natAbs : Int) ≤ 50 * 150 := by
      rw [Int.natAbs_mul, Int.natCast_mul]
      exact Int.mul_le_mul (by omega) (by omega) (by omega) (by omega)
    have b2 : ((u * q).natAbs : Int) ≤ 150 * 50 := by
      rw [Int.natAbs_mul, Int.natCast_mul]
      exact Int.mul_le_mul (by omega) (by omega) (by omega) (by omega)
    cases L with
    | top => omega
    | one _ =>
      rw [Int.one_mul, Int.sub_mul, Int.zero_mul]
      omega
    | two P =>
      rw [Int.sub_mul, Int.zero_mul]
      omega
  obtain ⟨a, b, c, d, l, L, wl, r⟩ := road_ap hw f g (fun a b c d L => by
    have := small a b c d L
    have := den a b c d L
    omega)
  have det := L.det
  have det2 : d * a - (0 - b) * (0 - c) = 1 := by
    rw [Int.zero_sub, Int.zero_sub, Int.neg_mul_neg, Int.mul_comm d]
    exact det
  obtain ⟨t1, t2, t3⟩ := tp_ok (p := p) (q := q) det f5
  obtain ⟨s1, s2⟩ := small a b c d L
  have s3 := den a b c d L
  obtain ⟨n1, n2, n3, n4⟩ := L.sm (B := 150) (by omega) (by omega) g3 (by decide)
  obtain ⟨t, e, ch, la⟩ := way_chain wl
  have wb := way_bd wl t1 t2
  have wn := way_nrm wl
  have ll := way_len wl
  have hd0 : mapT d (0 - b) (0 - c) a (tp a b c d p q) = (p, q) := tp_inv (x := (p, q)) det ⟨f5, f3, fun z => by have z : q = 0 := z; show p = 1; omega⟩
  have la0 : mapT d (0 - b) (0 - c) a (1, 0) = (u, v) := by
    have i := tp_inv (x := (u, v)) det ⟨g5, g3, fun z => by have z : v = 0 := z; show u = 1; omega⟩
    have lt : mapT a b c d (u, v) = (1, 0) := lift_top L
    rw [lt] at i
    exact i
  refine ⟨l.map (mapT d (0 - b) (0 - c) a), ⟨⟨t.map (mapT d (0 - b) (0 - c) a), ?_, ?_⟩, ?_, fun x hx => ?_, fun x hx => ?_, ?_, fun eq => ?_⟩, r⟩
  · rw [e, List.map_cons]
    congr 1
  · have := chain_map det2 t _ ch
    rw [show mapT d (0 - b) (0 - c) a ((tp a b c d p q).1, (tp a b c d p q).2) = (p, q) from hd0] at this
    exact this
  · rw [List.getLast?_map, la]
    show some (mapT d (0 - b) (0 - c) a (1, 0)) = _
    rw [la0]
  · obtain ⟨y, hy, rfl⟩ := List.mem_map.mp hx
    exact tp_nrm det2 (wn y hy)
  · obtain ⟨y, hy, rfl⟩ := List.mem_map.mp hx
    obtain ⟨y1, y2, y3⟩ := wb y hy
    have tb := tp_bd (a := d) (b := 0 - b) (c := 0 - c) (d := a) (x := y.1) (y := y.2) (A := 151) (X := 31001) (Y := 15001) (by omega) (by omega) (by omega) (by omega) (by omega) (by omega)
    unfold mapT
    omega
  · rw [List.length_map]
    omega
  · injection eq with q1 q2
    subst q1
    subst q2
    rw [lift_top L] at wl
    have := wl.uniq FM.Way.top
    rw [this, List.map_cons, List.map_nil, la0]
theorem lcGo_mapS {g : GX} {f : EX} {e0 : En} {h : D → D} {ge : D → En} : ∀ {ds : List D} {s : Stt} {acc : List D}, s.all (refsLt s.length) = true → (∀ d ∈ ds, g d e0 = some (ge d)) → (∀ d ∈ ds, ∀ acc, f (ge d) (s ++ [.lst acc]) = .ok (.d (h d)) (s ++ [.lst acc])) → acc.length + ds.length ≤ 100000 →
    lcGo g (sC (.bool true)) f e0 s.length ds (s ++ [.lst acc]) = .ok (.d (.list (acc ++ ds.map h))) s
  | [], s, acc, hw, _, _, _ => by
    have e := lcGo_nil (g := g) (c := sC (.bool true)) (f := f) (e0 := e0) (n := s.length) (s := s ++ [.lst acc]) (acc := acc) (by rw [List.getElem?_append_right (Nat.le_refl _), Nat.sub_self]; rfl) (by rw [List.length_append]; rfl) (by rw [List.take_left]; exact hw)
    rw [List.take_left] at e
    rw [List.map_nil, List.append_nil]
    exact e
  | d :: r, s, acc, hw, hg, hf, hl => by
    rw [List.length_cons] at hl
    have ih := lcGo_mapS (g := g) (f := f) (e0 := e0) (h := h) (ge := ge) (ds := r) (s := s) (acc := acc ++ [h d]) hw (fun x hx => hg x (List.mem_cons_of_mem _ hx)) (fun x hx => hf x (List.mem_cons_of_mem _ hx)) (by rw [List.length_append]; simp; omega)
    rw [List.append_assoc] at ih
    rw [List.map_cons]
    unfold lcGo
    simp only [hg d List.mem_cons_self, sC_ap, ifB_t, hf d List.mem_cons_self]
    rw [List.getElem?_append_right (Nat.le_refl _), Nat.sub_self]
    simp only [List.getElem?_cons_zero]
    rw [if_pos (by omega), List.set_append_right _ _ (Nat.le_refl _), Nat.sub_self]
    exact ih
def chL : List (Int × Int) → Prop
  | [] => True
  | x :: l => chainP x l
theorem chL_tail {x : Int × Int} {l : List (Int × Int)} (h : chL (x :: l)) : chL l := by
  cases l with
  | nil => trivial
  | cons y l => exact h.2
theorem nbP_sym {x y : Int × Int} (h : nbP x y) : nbP y x := by
  unfold nbP at *
  rw [Int.mul_comm y.1, Int.mul_comm y.2]
  omega
theorem chL_app : ∀ (l m : List (Int × Int)), chL l → chL m → (∀ x y, l.getLast? = some x → m.head? = some y → nbP x y) → chL (l ++ m)
  | [], m, _, h, _ => h
  | [x], m, _, h, n => by
    cases m with
    | nil => trivial
    | cons y m => exact ⟨n x y rfl rfl, h⟩
  | x :: y :: l, m, h1, h2, n => by
    refine ⟨h1.1, chL_app (y :: l) m h1.2 h2 fun a b e1 e2 => n a b ?_ e2⟩
    rw [List.getLast?_cons_cons]
    exact e1
theorem chL_rev : ∀ l : List (Int × Int), chL l → chL l.reverse
  | [], _ => trivial
  | x :: l, h => by
    rw [List.reverse_cons]
    refine chL_app _ _ (chL_rev l (chL_tail h)) trivial fun a b e1 e2 => ?_
    rw [List.getLast?_reverse] at e1
    cases e2
    cases l with
    | nil => cases e1
    | cons y l =>
      cases e1
      exact nbP_sym h.1
theorem isred_of {x : Int × Int} (h : Nrm x) (b : x.1.natAbs ≤ 900000000 ∧ x.2.natAbs ≤ 900000000) : isRed (prP x) 999999999 = true := by
  obtain ⟨g, q0, t⟩ := h
  unfold isRed prP isInt redIn
  have e : ((Int.gcd x.1 x.2 : Nat) == 1) = true := by rw [g]; rfl
  have e2 : (decide (0 < x.2) || x.1 == 1) = true := by
    by_cases z : x.2 = 0
    · rw [t z, Bool.or_eq_true]
      exact .inr rfl
    · rw [Bool.or_eq_true]
      exact .inl (decide_eq_true (by omega))
  simp only [Bool.and_eq_true, decide_eq_true_eq]
  exact ⟨⟨⟨by omega, by omega⟩, by omega, by omega⟩, e, e2⟩
/-- a road is told to be one -/
theorem isroad_yes {x y : Int × Int} {L : List (Int × Int)} {st : Stt} (hw : st.all (refsLt st.length) = true) (fx : isFr (prP x) = true) (fy : isFr (prP y) = true) (hl : L.length ≤ 80000) (hh : L.head? = some x) (hlast : L.getLast? = some y) (hc : chL L) (hn : ∀ z ∈ L, Nrm z ∧ z.1.natAbs ≤ 900000000 ∧ z.2.natAbs ≤ 900000000) : F_p_is_road [.d (prP x), .d (prP y), .d (.list (L.map prP))] st = .ok (.d (.bool true)) st := by
  cases L with
  | nil => cases hh
  | cons z l =>
    cases hh
    rw [List.length_cons] at hl
    have e := isroad_prs (x := x) (y := y) (z := x) (l := l) (w := y) hw fx fy (by omega) (by
      unfold redL
      rw [List.all_eq_true]
      intro d hd
      obtain ⟨a, ha, rfl⟩ := List.mem_map.mp hd
      exact isred_of (hn a ha).1 (hn a ha).2) hlast
    rw [chB_of l x hc] at e
    simpa using e
/-- a list of fractions that ends or begins elsewhere, or breaks -/
theorem isroad_fls {x y z w : Int × Int} {l : List (Int × Int)} {st : Stt} (hw : st.all (refsLt st.length) = true) (fx : isFr (prP x) = true) (fy : isFr (prP y) = true) (hl : l.length ≤ 80000) (hlast : (z :: l).getLast? = some w) (hn : ∀ a ∈ z :: l, Nrm a ∧ a.1.natAbs ≤ 900000000 ∧ a.2.natAbs ≤ 900000000) (h : z ≠ x ∨ w ≠ y ∨ chB z l = false) : F_p_is_road [.d (prP x), .d (prP y), .d (.list ((z :: l).map prP))] st = .ok (.d (.bool false)) st := by
  have e := isroad_prs (x := x) (y := y) (z := z) (l := l) (w := w) hw fx fy hl (by
    unfold redL
    rw [List.all_eq_true]
    intro d hd
    obtain ⟨a, ha, rfl⟩ := List.mem_map.mp hd
    exact isred_of (hn a ha).1 (hn a ha).2) hlast
  rw [e]
  congr 3
  rcases h with h | h | h
  · rw [decide_eq_false h]; rfl
  · rw [decide_eq_false h, Bool.false_and, Bool.and_false]
  · rw [h, Bool.and_false, Bool.and_false]
end DL

namespace DL
open PySem PySem.Spec PyProof.Rows L2
def B_l_up_steps : SX := (bSeq (bPar3 1 2 3 (sC (.int 0)) (sBin ixD (sVar 0) (sC (.int 0))) (sBin ixD (sVar 0) (sC (.int 1))))
  (bSeq (bWhile (sBin (cmpD fun i j => decide (j < i)) (sVar 3) (sC (.int 0)))
  (bSeq (bPar 2 3 (sVar 3) (sBin subD (sVar 2) (sBin mulD (sBin fdivD (sBin addD (sBin mulD (sC (.int 2)) (sVar 2)) (sVar 3)) (sBin mulD (sC (.int 2)) (sVar 3))) (sVar 3))))
  (bSeq (bIf (sBin (cmpD fun i j => decide (i < j)) (sVar 3) (sC (.int 0)))
  (bPar 2 3 (sBin subD (sC (.int 0)) (sVar 2)) (sBin subD (sC (.int 0)) (sVar 3)))
  bNext)
  (bAug 1 (sC (.int 1))))))
  (bRet (sVar 1))))
def F_l_up_steps : List Sv → Stt → R Sv := F0 4 1 B_l_up_steps
theorem h_l_up_steps : Hok 4 1 B_l_up_steps F_l_up_steps := hok0
theorem l_up_steps_in {x0 : Sv} {s : Stt} : F_l_up_steps [x0] s = outR (B_l_up_steps [some x0, none, none, none] s) := rfl

def upC : EX := sBin (cmpD fun i j => decide (j < i)) (sVar 3) (sC (.int 0))
def upB : SX := (bSeq (bPar 2 3 (sVar 3) (sBin subD (sVar 2) (sBin mulD (sBin fdivD (sBin addD (sBin mulD (sC (.int 2)) (sVar 2)) (sVar 3)) (sBin mulD (sC (.int 2)) (sVar 3))) (sVar 3))))
  (bSeq (bIf (sBin (cmpD fun i j => decide (i < j)) (sVar 3) (sC (.int 0)))
  (bPar 2 3 (sBin subD (sC (.int 0)) (sVar 2)) (sBin subD (sC (.int 0)) (sVar 3)))
  bNext)
  (bAug 1 (sC (.int 1)))))
theorem wh_up {x0 : Option Sv} {st : Stt} : ∀ (n : Nat) (c : Nat) (p q : Int), q.toNat < n → 0 ≤ q → q < 500000000 →
    ∃ y2 y3, wh upC upB n [x0, some (.d (.int (c : Nat))), some (.d (.int p)), some (.d (.int q))] st = .nx [x0, some (.d (.int (c + FM.up p q : Nat))), y2, y3] st
  | 0, c, p, q, h, _, _ => by omega
  | n + 1, c, p, q, h, h0, hb => by
    rw [wh_succ]
    by_cases hq : 0 < q
    · have ct : upC [x0, some (.d (.int (c : Nat))), some (.d (.int p)), some (.d (.int q))] st = .ok (.d (.bool true)) st := by
        simp [upC, hq]
      rw [ct, bindS_ok, ifS_t]
      have m1 : mulOk 2 p = true := mulOk_l (by omega)
      have m2 : mulOk 2 q = true := mulOk_l (by omega)
      have m3 : mulOk ((2 * p + q) / (2 * q)) q = true := mulOk_r (by omega)
      obtain ⟨k1, k2⟩ := FM.near (p := p) hq
      have ue := FM.up_eq (p := p) (q := q) (n := (2 * p + q) / (2 * q)) (t := p - (2 * p + q) / (2 * q) * q) hq (by omega) k1 k2
      have b1 : bPar 2 3 (sVar 3) (sBin subD (sVar 2) (sBin mulD (sBin fdivD (sBin addD (sBin mulD (sC (.int 2)) (sVar 2)) (sVar 3)) (sBin mulD (sC (.int 2)) (sVar 3))) (sVar 3))) [x0, some (.d (.int (c : Nat))), some (.d (.int p)), some (.d (.int q))] st = .nx [x0, some (.d (.int (c : Nat))), some (.d (.int q)), some (.d (.int (p - (2 * p + q) / (2 * q) * q)))] st := by
        have fd : fdivD (.d (.int (2 * p + q))) (.d (.int (2 * q))) st = some (.int ((2 * p + q) / (2 * q))) := if_pos ⟨by omega, by omega⟩
        have e1 : mulD (.d (.int 2)) (.d (.int p)) st = some (.int (2 * p)) := by rw [mulD_ii, if_pos m1]
        have e2 : mulD (.d (.int 2)) (.d (.int q)) st = some (.int (2 * q)) := by rw [mulD_ii, if_pos m2]
        have e3 : mulD (.d (.int ((2 * p + q) / (2 * q)))) (.d (.int q)) st = some (.int ((2 * p + q) / (2 * q) * q)) := by rw [mulD_ii, if_pos m3]
        simp only [bPar_ap, sVar_ap, List.getElem?_cons_succ, List.getElem?_cons_zero, varR_ap, bindS_ok, sBin_ap, bindR_ok, sC_ap, e1, optR_some, addD_ii, e2, fd, e3, subD_ii]
        rfl
      generalize p - (2 * p + q) / (2 * q) * q = t at *
      have aug : ∀ (a b : Int), bAug 1 (sC (.int 1)) [x0, some (.d (.int (c : Nat))), some (.d (.int a)), some (.d (.int b))] st = .nx [x0, some (.d (.int (c + 1 : Nat))), some (.d (.int a)), some (.d (.int b))] st := fun a b => by
        have e : ((c : Nat) : Int) + 1 = ((c + 1 : Nat) : Int) := by omega
        have e2 : augD (.d (.int (c : Nat))) (.d (.int 1)) st = some (.int (c + 1 : Nat)) := by rw [← e]; rfl
        unfold bAug
        simp only [bSet_ap, sBin_ap, sVar_ap, List.getElem?_cons_succ, List.getElem?_cons_zero, varR_ap, bindR_ok, sC_ap, e2, optR_some, bindS_ok]
        rfl
      unfold upB
      rw [bSeq_ap, b1, seqR_nx]
      by_cases ht : t < 0
      · rw [if_pos ht] at ue
        obtain ⟨y2, y3, ih⟩ := wh_up (x0 := x0) (st := st) n (c + 1) (-q) (-t) (by omega) (by omega) (by omega)
        refine ⟨y2, y3, ?_⟩
        have b2 : bIf (sBin (cmpD fun i j => decide (i < j)) (sVar 3) (sC (.int 0))) (bPar 2 3 (sBin subD (sC (.int 0)) (sVar 2)) (sBin subD (sC (.int 0)) (sVar 3))) bNext [x0, some (.d (.int (c : Nat))), some (.d (.int q)), some (.d (.int t))] st = .nx [x0, some (.d (.int (c : Nat))), some (.d (.int (-q))), some (.d (.int (-t)))] st := by
          simp [ht]
        rw [bSeq_ap, b2, seqR_nx, aug, seqR_nx]
        rw [ue]
        rw [show c + (1 + FM.up (-q) (-t)) = c + 1 + FM.up (-q) (-t) by omega]
        exact ih
      · rw [if_neg ht] at ue
        obtain ⟨y2, y3, ih⟩ := wh_up (x0 := x0) (st := st) n (c + 1) q t (by omega) (by omega) (by omega)
        refine ⟨y2, y3, ?_⟩
        have b2 : bIf (sBin (cmpD fun i j => decide (i < j)) (sVar 3) (sC (.int 0))) (bPar 2 3 (sBin subD (sC (.int 0)) (sVar 2)) (sBin subD (sC (.int 0)) (sVar 3))) bNext [x0, some (.d (.int (c : Nat))), some (.d (.int q)), some (.d (.int t))] st = .nx [x0, some (.d (.int (c : Nat))), some (.d (.int q)), some (.d (.int t))] st := by
          simp [ht]
        rw [bSeq_ap, b2, seqR_nx, aug, seqR_nx]
        rw [ue]
        rw [show c + (1 + FM.up q t) = c + 1 + FM.up q t by omega]
        exact ih
    · have ct : upC [x0, some (.d (.int (c : Nat))), some (.d (.int p)), some (.d (.int q))] st = .ok (.d (.bool false)) st := by
        simp [upC, hq]
      rw [ct, bindS_ok, ifS_f]
      have q0 : q = 0 := by omega
      subst q0
      exact ⟨_, _, rfl⟩
theorem up_ap {p q : Int} {st : Stt} (h0 : 0 ≤ q) (hb : q < 500000000) : F_l_up_steps [.d (pr p q)] st = .ok (.d (.int (FM.up p q : Nat))) st := by
  obtain ⟨y2, y3, w⟩ := wh_up (x0 := some (.d (pr p q))) (st := st) fuel 0 p q (by unfold fuel; omega) h0 hb
  rw [Nat.zero_add] at w
  rw [l_up_steps_in]
  have hB : B_l_up_steps = bSeq (bPar3 1 2 3 (sC (.int 0)) (sBin ixD (sVar 0) (sC (.int 0))) (sBin ixD (sVar 0) (sC (.int 1)))) (bSeq (bWhile upC upB) (bRet (sVar 1))) := rfl
  have e1 : bPar3 1 2 3 (sC (.int 0)) (sBin ixD (sVar 0) (sC (.int 0))) (sBin ixD (sVar 0) (sC (.int 1))) [some (.d (pr p q)), none, none, none] st = .nx [some (.d (pr p q)), some (.d (.int ((0 : Nat) : Int))), some (.d (.int p)), some (.d (.int q))] st := by
    simp
  rw [hB, bSeq_ap, e1, seqR_nx, bSeq_ap, bWhile_ap, w, seqR_nx]
  rfl
end DL

namespace DL
open PySem PySem.Spec PyProof.Rows L2
def B_p_height_of : SX := (bRet (sBin subD (sCB lenD (aCons (sCall F_p_way_up (aCons (sVar 0) aNil)) aNil)) (sC (.int 1))))
def F_p_height_of : List Sv → Stt → R Sv := F0 1 1 B_p_height_of
theorem h_p_height_of : Hok 1 1 B_p_height_of F_p_height_of := hok0
theorem p_height_of_in {x0 : Sv} {s : Stt} : F_p_height_of [x0] s = outR (B_p_height_of [some x0] s) := rfl

def B_m_init : SX := (bSeq (bDrop (sCall F_p_check_fraction (aCons (sVar 1) aNil)))
  (bSeq (bFld 13 "points" (sVar 0) (sLstM (aCons (sVar 1) aNil)))
  (bFld 13 "kept" (sVar 0) (sC (.int 1)))))
def F_m_init : List Sv → Stt → R Sv := F0 2 2 B_m_init
theorem h_m_init : Hok 2 2 B_m_init F_m_init := hok0
theorem m_init_in {x0 x1 : Sv} {s : Stt} : F_m_init [x0, x1] s = outR (B_m_init [some x0, some x1] s) := rfl

def B_m_move : SX := (bSeq (bDrop (sCall F_p_check_fraction (aCons (sVar 1) aNil)))
  (bSeq (bIf (sNot (sCall F_p_beside (aCons (sBin ixD (sFld 13 "points" (sVar 0)) (sUn negD (sC (.int 1)))) (aCons (sVar 1) aNil))))
  (bRaise 5)
  bNext)
  (bSeq (bDrop (sMut appR (sFld 13 "points" (sVar 0)) (sVar 1)))
  (bRet (sBin ixD (sVar 1) (sC (.int 1)))))))
def F_m_move : List Sv → Stt → R Sv := F0 2 2 B_m_move
theorem h_m_move : Hok 2 2 B_m_move F_m_move := hok0
theorem m_move_in {x0 x1 : Sv} {s : Stt} : F_m_move [x0, x1] s = outR (B_m_move [some x0, some x1] s) := rfl

def B_m_climb : SX := (bSeq (bIf (sBin eqD (sBin ixD (sFld 13 "points" (sVar 0)) (sUn negD (sC (.int 1)))) (sC (.tuple [(.int 1), (.int 0)])))
  (bRaise 8)
  bNext)
  (bSeq (bDrop (sMut appR (sFld 13 "points" (sVar 0)) (sBin ixD (sCall F_p_way_up (aCons (sBin ixD (sFld 13 "points" (sVar 0)) (sUn negD (sC (.int 1)))) aNil)) (sC (.int 1)))))
  (bRet (sBin ixD (sFld 13 "points" (sVar 0)) (sUn negD (sC (.int 1)))))))
def F_m_climb : List Sv → Stt → R Sv := F0 1 1 B_m_climb
theorem h_m_climb : Hok 1 1 B_m_climb F_m_climb := hok0
theorem m_climb_in {x0 : Sv} {s : Stt} : F_m_climb [x0] s = outR (B_m_climb [some x0] s) := rfl

def B_m_place : SX := (bRet (sBin ixD (sFld 13 "points" (sVar 0)) (sUn negD (sC (.int 1)))))
def F_m_place : List Sv → Stt → R Sv := F0 1 1 B_m_place
theorem h_m_place : Hok 1 1 B_m_place F_m_place := hok0
theorem m_place_in {x0 : Sv} {s : Stt} : F_m_place [x0] s = outR (B_m_place [some x0] s) := rfl

def B_m_path : SX := (bRet (sCB listL (aCons (sFld 13 "points" (sVar 0)) aNil)))
def F_m_path : List Sv → Stt → R Sv := F0 1 1 B_m_path
theorem h_m_path : Hok 1 1 B_m_path F_m_path := hok0
theorem m_path_in {x0 : Sv} {s : Stt} : F_m_path [x0] s = outR (B_m_path [some x0] s) := rfl

def B_m_height : SX := (bRet (sCall F_p_height_of (aCons (sBin ixD (sFld 13 "points" (sVar 0)) (sUn negD (sC (.int 1)))) aNil)))
def F_m_height : List Sv → Stt → R Sv := F0 1 1 B_m_height
theorem h_m_height : Hok 1 1 B_m_height F_m_height := hok0
theorem m_height_in {x0 : Sv} {s : Stt} : F_m_height [x0] s = outR (B_m_height [some x0] s) := rfl

def B_m_undo : SX := (bSeq (bIf (sBin eqD (sCB lenD (aCons (sFld 13 "points" (sVar 0)) aNil)) (sFld 13 "kept" (sVar 0)))
  (bRaise 11)
  bNext)
  (bSeq (bFld 13 "points" (sVar 0) (sSlM (sFld 13 "points" (sVar 0)) oNone (oSome (sUn negD (sC (.int 1))))))
  (bRet (sBin ixD (sFld 13 "points" (sVar 0)) (sUn negD (sC (.int 1)))))))
def F_m_undo : List Sv → Stt → R Sv := F0 1 1 B_m_undo
theorem h_m_undo : Hok 1 1 B_m_undo F_m_undo := hok0
theorem m_undo_in {x0 : Sv} {s : Stt} : F_m_undo [x0] s = outR (B_m_undo [some x0] s) := rfl

def B_m_duplicate : SX := (bSeq (bSet 1 (sNew 13 F_m_init (aCons (sBin ixD (sFld 13 "points" (sVar 0)) (sC (.int 0))) aNil)))
  (bSeq (bFld 13 "points" (sVar 1) (sListM (aCons (sFld 13 "points" (sVar 0)) aNil)))
  (bSeq (bFld 13 "kept" (sVar 1) (sCB lenD (aCons (sFld 13 "points" (sVar 0)) aNil)))
  (bRet (sVar 1)))))
def F_m_duplicate : List Sv → Stt → R Sv := F0 2 1 B_m_duplicate
theorem h_m_duplicate : Hok 2 1 B_m_duplicate F_m_duplicate := hok0
theorem m_duplicate_in {x0 : Sv} {s : Stt} : F_m_duplicate [x0] s = outR (B_m_duplicate [some x0, none] s) := rfl

def B_m_eq : SX := (bRet (sAnd (sUn (isCD 13) (sVar 1)) (sBin eqD (sFld 13 "points" (sVar 0)) (sFld 13 "points" (sVar 1)))))
def F_m_eq : List Sv → Stt → R Sv := F0 2 2 B_m_eq
theorem h_m_eq : Hok 2 2 B_m_eq F_m_eq := hok0
theorem m_eq_in {x0 x1 : Sv} {s : Stt} : F_m_eq [x0, x1] s = outR (B_m_eq [some x0, some x1] s) := rfl

def B_m_len : SX := (bRet (sCB lenD (aCons (sSl (sFld 13 "points" (sVar 0)) (oSome (sC (.int 1))) oNone) aNil)))
def F_m_len : List Sv → Stt → R Sv := F0 1 1 B_m_len
theorem h_m_len : Hok 1 1 B_m_len F_m_len := hok0
theorem m_len_in {x0 : Sv} {s : Stt} : F_m_len [x0] s = outR (B_m_len [some x0] s) := rfl

abbrev wkF (m : Nat) (k : Int) : List (Str × Sv) := [("points", .r m), ("kept", .d (.int k))]
abbrev wkP (m : Nat) : List (Str × Sv) := [("points", .r m)]
def wkO (m : Nat) (k : Int) : Ob := .ins 13 (wkF m k)
theorem str_pk : ¬ ("points" : Str) = "kept" := by decide +kernel
/-- a walker stands at n -/
structure IsW (s : Stt) (n m : Nat) (ds : List D) (k : Int) : Prop where
  i : s[n]? = some (wkO m k)
  l : s[m]? = some (.lst ds)
theorem IsW.ne {s : Stt} {n m : Nat} {ds : List D} {k : Int} (h : IsW s n m ds k) : n ≠ m := by
  rintro rfl
  have := h.i.symm.trans h.l
  cases this
section
variable {s : Stt} {n m : Nat} {ds : List D} {k : Int} {env : En} {st : Stt} {f g : EX} {fs : AX}
theorem insAt_w (h : IsW s n m ds k) : insAt 13 (Sv.r n) s = some (n, wkF m k) := by
  unfold insAt
  simp only [h.i]
  rfl
theorem fld_p (h : IsW s n m ds k) (e : f env st = .ok (.r n) s) : sFld 13 "points" f env st = .ok (.r m) s := by
  unfold sFld
  rw [e, bindR_ok, insAt_w h]
  rfl
theorem fld_k (h : IsW s n m ds k) (e : f env st = .ok (.r n) s) : sFld 13 "kept" f env st = .ok (.d (.int k)) s := by
  unfold sFld
  rw [e, bindR_ok, insAt_w h]
  show (match lookS "kept" (wkF m k) with | some y => DL.R.ok y s | none => DL.R.bad) = _
  have e1 : lookS "kept" (wkF m k) = some (.d (.int k)) := by
    show (if ("points" : Str) = "kept" then some (Sv.r m) else (if ("kept" : Str) = "kept" then some (Sv.d (.int k)) else none)) = _
    rw [if_neg str_pk, if_pos rfl]
  rw [e1]
theorem inv_ap {mt : Str} {F : List Sv → Stt → DL.R Sv} {xs : List Sv} {s' : Stt} (h : IsW s n m ds k) (hm : (lookS mt (wkF m k)).isNone = true) (e : f env st = .ok (.r n) s) (ea : fs env s = .ok xs s') : sInv 13 mt F f fs env st = F (.r n :: xs) s' := by
  unfold sInv
  rw [e, bindR_ok, insAt_w h]
  show (if (lookS mt (wkF m k)).isNone then bindR (fs env s) fun xs s => F (.r n :: xs) s else DL.R.bad) = _
  rw [if_pos hm, ea, bindR_ok]
theorem no_attr {mt : Str} (h1 : ¬ ("points" : Str) = mt) (h2 : ¬ ("kept" : Str) = mt) : (lookS mt (wkF m k)).isNone = true := by
  show (if ("points" : Str) = mt then some (Sv.r m) else (if ("kept" : Str) = mt then some (Sv.d (.int k)) else none)).isNone = true
  rw [if_neg h1, if_neg h2]
  rfl
theorem ixD_w (h : IsW s n m ds k) (i : Int) : ixD (.r m) (.d (.int i)) s = atI ds i := by
  unfold ixD
  simp only [h.l]
theorem isL_w (h : IsW s n m ds k) : isLst (.r m) s = true := isLst_r h.l
theorem ckfr_ex {v : D} {st : Stt} (ha : askOk v = true) (f : isFr v = false) : F_p_check_fraction [.d v] st = .ex 0 st := by
  show (if askOk v then (if isFr v then DL.R.ok (Sv.d .none) st else DL.R.ex 0 st) else DL.R.bad) = _
  rw [if_pos ha, f]
  rfl
theorem init_ap {p q : Int} {s : Stt} (f : isFr (pr p q) = true) : F_m_init [.r s.length, .d (pr p q)] (s ++ [Ob.ins 13 []]) = .ok (.d .none) (s ++ [wkO (s.length + 1) 1, Ob.lst [pr p q]]) := by
  rw [m_init_in]
  have e1 : bDrop (sCall F_p_check_fraction (aCons (sVar 1) aNil)) [some (.r s.length), some (.d (pr p q))] (s ++ [Ob.ins 13 []]) = .nx [some (.r s.length), some (.d (pr p q))] (s ++ [Ob.ins 13 []]) := by
    simp only [bDrop_ap, sCall_ap, aCons_ap, aNil_ap, sVar_ap, List.getElem?_cons_succ, List.getElem?_cons_zero, varR_ap, bindR_ok, ckfr_ap f, bindS_ok]
  have g1 : (s ++ [Ob.ins 13 []] ++ [Ob.lst [pr p q]] : Stt)[s.length]? = some (Ob.ins 13 []) := by simp
  have i1 : insAt 13 (Sv.r s.length) (s ++ [Ob.ins 13 []] ++ [Ob.lst [pr p q]]) = some (s.length, []) := by
    unfold insAt
    simp only [g1, if_pos]
  have e2 : bFld 13 "points" (sVar 0) (sLstM (aCons (sVar 1) aNil)) [some (.r s.length), some (.d (pr p q))] (s ++ [Ob.ins 13 []]) = .nx [some (.r s.length), some (.d (pr p q))] (s ++ [Ob.ins 13 (wkP (s.length + 1)), Ob.lst [pr p q]]) := by
    unfold bFld
    simp only [sLstM_ap, aCons_ap, aNil_ap, sVar_ap, List.getElem?_cons_succ, List.getElem?_cons_zero, varR_ap, bindR_ok]
    have l1 : lstMR [.d (pr p q)] (s ++ [Ob.ins 13 []]) = .ok (.r (s.length + 1)) (s ++ [Ob.ins 13 []] ++ [Ob.lst [pr p q]]) := by
      show DL.R.ok (Sv.r (s ++ [Ob.ins 13 []]).length) _ = _
      rw [List.length_append]
      rfl
    rw [l1, bindS_ok, bindS_ok, i1]
    show RS.nx _ ((s ++ [Ob.ins 13 []] ++ [Ob.lst [pr p q]]).set s.length (Ob.ins 13 (wkP (s.length + 1)))) = _
    rw [List.append_assoc, List.set_append_right _ _ (Nat.le_refl _), Nat.sub_self]
    rfl
  have i2 : insAt 13 (Sv.r s.length) (s ++ [Ob.ins 13 (wkP (s.length + 1)), Ob.lst [pr p q]]) = some (s.length, (wkP (s.length + 1))) := by
    unfold insAt
    have g2 : (s ++ [Ob.ins 13 (wkP (s.length + 1)), Ob.lst [pr p q]] : Stt)[s.length]? = some (Ob.ins 13 (wkP (s.length + 1))) := by simp
    simp only [g2, if_pos]
  have e3 : bFld 13 "kept" (sVar 0) (sC (.int 1)) [some (.r s.length), some (.d (pr p q))] (s ++ [Ob.ins 13 (wkP (s.length + 1)), Ob.lst [pr p q]]) = .nx [some (.r s.length), some (.d (pr p q))] (s ++ [wkO (s.length + 1) 1, Ob.lst [pr p q]]) := by
    unfold bFld
    simp only [sC_ap, sVar_ap, List.getElem?_cons_succ, List.getElem?_cons_zero, varR_ap, bindS_ok, i2]
    show RS.nx _ ((s ++ [Ob.ins 13 (wkP (s.length + 1)), Ob.lst [pr p q]]).set s.length (Ob.ins 13 (if ("points" : Str) = "kept" then [("points", .d (.int 1))] else [("points", .r (s.length + 1)), ("kept", .d (.int 1))]))) = _
    rw [if_neg str_pk, List.set_append_right _ _ (Nat.le_refl _), Nat.sub_self]
    rfl
  show outR (bSeq _ (bSeq _ _) _ _) = _
  rw [bSeq_ap, e1, seqR_nx, bSeq_ap, e2, seqR_nx, e3]
  rfl
theorem init_ex {v : D} {s : Stt} (ha : askOk v = true) (f : isFr v = false) : F_m_init [.r s.length, .d v] (s ++ [Ob.ins 13 []]) = .ex 0 (s ++ [Ob.ins 13 []]) := by
  rw [m_init_in]
  have e1 : bDrop (sCall F_p_check_fraction (aCons (sVar 1) aNil)) [some (.r s.length), some (.d v)] (s ++ [Ob.ins 13 []]) = .ex 0 (s ++ [Ob.ins 13 []]) := by
    simp only [bDrop_ap, sCall_ap, aCons_ap, aNil_ap, sVar_ap, List.getElem?_cons_succ, List.getElem?_cons_zero, varR_ap, bindR_ok, ckfr_ex ha f]
    rfl
  show outR (bSeq _ (bSeq _ _) _ _) = _
  rw [bSeq_ap, e1]
  rfl
theorem new_ap {p q : Int} (f : isFr (pr p q) = true) (ea : fs env st = .ok [.d (pr p q)] s) : sNew 13 F_m_init fs env st = .ok (.r s.length) (s ++ [wkO (s.length + 1) 1, Ob.lst [pr p q]]) := by
  unfold sNew
  rw [ea, bindR_ok, init_ap f]
theorem new_ex {v : D} (ha : askOk v = true) (f : isFr v = false) (ea : fs env st = .ok [.d v] s) : sNew 13 F_m_init fs env st = .ex 0 (s ++ [Ob.ins 13 []]) := by
  unfold sNew
  rw [ea, bindR_ok, init_ex ha f]
theorem isW_new {d : D} : IsW (s ++ [wkO (s.length + 1) 1, Ob.lst [d]]) s.length (s.length + 1) [d] 1 := by
  constructor
  · simp
  · simp [List.getElem?_append_right]
theorem place_ap {d : D} (h : IsW s n m (ds ++ [d]) k) : F_m_place [.r n] s = .ok (.d d) s := by
  rw [m_place_in]
  simp only [B_m_place, bRet_ap, sBin_ap, fld_p (f := sVar 0) (env := [some (.r n)]) h rfl, bindR_ok, sUn_ap, sC_ap, negD_i, optR_some, ixD_w h, atI_last, bindS_ok, outR_rt]
theorem path_ap (h : IsW s n m ds k) : F_m_path [.r n] s = .ok (.d (.list ds)) s := by
  have e : listL [Sv.r m] s = some (.list ds) := by
    show (match toL s (.r m) with | some ds => some (PyData.list ds) | _ => none) = _
    have : toL s (.r m) = some ds := by
      unfold toL
      simp only [h.l]
    rw [this]
  rw [m_path_in]
  simp only [B_m_path, bRet_ap, sCB_ap, aCons_ap, aNil_ap, fld_p (f := sVar 0) (env := [some (.r n)]) h rfl, bindR_ok, e, optR_some, bindS_ok, outR_rt]
theorem rd_w (h : IsW s n m ds k) : toRd s (Sv.r m) = some (.list ds) := by
  unfold toRd
  simp only [h.l]
theorem toL_w (h : IsW s n m ds k) : toL s (.r m) = some ds := by
  unfold toL
  simp only [h.l]
theorem lenW_ap (h : IsW s n m ds k) : F_m_len [.r n] s = .ok (.d (.int (ds.length - 1 : Nat))) s := by
  have e : slD (.r m) (some 1) none s = some (.list (ds.drop 1)) := by
    show (match toL s (.r m) with | some ds => some (PyData.list (cutA ds (some 1) none)) | none => none) = _
    rw [toL_w h]
    show some (PyData.list (cutA ds (some ((1 : Nat) : Int)) none)) = _
    rw [cut_drop _ 1]
  have e2 : lenD [.d (.list (ds.drop 1))] s = some (.int (ds.length - 1 : Nat)) := by
    show some (PyData.int ((ds.drop 1).length : Nat)) = _
    rw [List.length_drop]
  rw [m_len_in]
  simp only [B_m_len, bRet_ap, sCB_ap, aCons_ap, aNil_ap, sSl_ap, oSome_ap, oNone_ap, sC_ap, intO_i, fld_p (f := sVar 0) (env := [some (.r n)]) h rfl, bindR_ok, e, e2, optR_some, bindS_ok, outR_rt]
theorem sLenI_ap (h : IsW s n m ds k) (hl : ds.length ≤ 1000000) (ea : fs env st = .ok [.r n] s) : sLenI 13 F_m_len fs env st = .ok (.d (.int (ds.length - 1 : Nat))) s := by
  unfold sLenI
  rw [ea, bindR_ok]
  show (match insAt 13 (Sv.r n) s with | some _ => (match F_m_len [.r n] s with | .ok (.d (.int k)) s' => if 0 ≤ k ∧ bndI k = true then DL.R.ok (Sv.d (.int k)) s' else .bad | _ => .bad) | none => .bad) = _
  rw [insAt_w h]
  show (match F_m_len [.r n] s with | .ok (.d (.int k)) s' => if 0 ≤ k ∧ bndI k = true then DL.R.ok (Sv.d (.int k)) s' else .bad | _ => .bad) = _
  rw [lenW_ap h]
  show (if 0 ≤ ((ds.length - 1 : Nat) : Int) ∧ bndI ((ds.length - 1 : Nat) : Int) = true then _ else _) = _
  rw [if_pos ⟨by omega, bndI_of (by omega)⟩]
theorem height_ap {p q : Int} (hw : s.all (refsLt s.length) = true) (h : IsW s n m (ds ++ [pr p q]) k) (f : isFr (pr p q) = true) : F_m_height [.r n] s = .ok (.d (.int (FM.up p q : Nat))) s := by
  obtain ⟨f1, f2, f3, f4, f5, f6⟩ := isFr_pr.mp f
  obtain ⟨l, w, wu⟩ := way_up_ap (P := p) (Q := q) (st := s) hw f5 f3 (fun z => by omega) (by omega) (by omega)
  have ln : lenD [.d (.list (l.map prP))] s = some (.int (FM.up p q + 1 : Nat)) := by
    show some (PyData.int (List.map _ _).length) = _
    rw [List.length_map, w.len]
  have e : (((FM.up p q + 1 : Nat) : Int)) - 1 = (FM.up p q : Nat) := by omega
  have e1 : F_p_height_of [.d (pr p q)] s = .ok (.d (.int (FM.up p q : Nat))) s := by
    rw [p_height_of_in]
    simp only [B_p_height_of, bRet_ap, sBin_ap, sCB_ap, sCall_ap, aCons_ap, aNil_ap, sVar_ap, List.getElem?_cons_zero, varR_ap, bindR_ok, wu, ln, optR_some, sC_ap, subD_ii, e, bindS_ok, outR_rt]
  rw [m_height_in]
  simp only [B_m_height, bRet_ap, sCall_ap, aCons_ap, aNil_ap, sBin_ap, fld_p (f := sVar 0) (env := [some (.r n)]) h rfl, bindR_ok, sUn_ap, sC_ap, negD_i, optR_some, ixD_w h, atI_last, e1, bindS_ok, outR_rt]
theorem eqW_ap {n2 m2 : Nat} {k2 : Int} {es : List D} (h : IsW s n m ds k) (h2 : IsW s n2 m2 es k2) (hl : plA 2 ds = true) (he : ds = es) : F_m_eq [.r n, .r n2] s = .ok (.d (.bool true)) s := by
  subst he
  have ic : isCD 13 (.r n2) s = some (.bool true) := by
    unfold isCD
    rw [insAt_w h2]
  have e : eqD (Sv.r m) (Sv.r m2) s = some (.bool true) := by
    have q : eqD (.d (.list ds)) (.d (.list ds)) s = some (.bool true) := eqD_same (n := 3) (by rw [pl_lst]; exact hl)
    unfold eqD at q ⊢
    rw [rd_w h, rd_w h2]
    exact q
  rw [m_eq_in]
  simp only [B_m_eq, bRet_ap, sAnd_ap, sUn_ap, sVar_ap, List.getElem?_cons_succ, List.getElem?_cons_zero, varR_ap, bindR_ok, ic, optR_some, ifB_t, sBin_ap, fld_p (f := sVar 0) (env := [some (.r n), some (.r n2)]) h rfl, fld_p (f := sVar 1) (env := [some (.r n), some (.r n2)]) h2 rfl, e, bindS_ok, outR_rt]
theorem isW_app {d : D} (h : IsW s n m ds k) : IsW (s.set m (Ob.lst (ds ++ [d]))) n m (ds ++ [d]) k := by
  refine ⟨?_, set_get (lt_get h.l)⟩
  rw [List.getElem?_set_ne (Ne.symm h.ne)]
  exact h.i
theorem appR_w {d : D} (h : IsW s n m ds k) (hl : ds.length < 100000) : appR (.r m) (.d d) s = .ok (.d .none) (s.set m (Ob.lst (ds ++ [d]))) := appR_r h.l hl
theorem move_ap {p q u v : Int} (h : IsW s n m (ds ++ [pr p q]) k) (f0 : isFr (pr p q) = true) (f : isFr (pr u v) = true) (nb : (p * v - q * u == 1 || p * v - q * u == -1) = true) (hl : ds.length < 90000) :
    F_m_move [.r n, .d (pr u v)] s = .ok (.d (.int v)) (s.set m (Ob.lst (ds ++ [pr p q] ++ [pr u v]))) := by
  have bs := fun st => beside_ap (s := st) (fr_mul (r := u) (t := v) f0)
  rw [nb] at bs
  have a := appR_w (d := pr u v) h (by rw [List.length_append]; simp; omega)
  rw [m_move_in]
  simp only [B_m_move, bSeq_ap, bDrop_ap, sCall_ap, aCons_ap, aNil_ap, sVar_ap, List.getElem?_cons_succ, List.getElem?_cons_zero, varR_ap, bindR_ok, ckfr_ap f, bindS_ok, seqR_nx, bIf_ap, sNot_ap, sBin_ap, fld_p (f := sVar 0) (env := [some (.r n), some (.d (pr u v))]) h rfl, sUn_ap, sC_ap, negD_i, optR_some, ixD_w h, atI_last, bs, notB_b, Bool.not_true, ifS_f, bNext_ap, sMut_ap, isL_w h, if_true, a, bRet_ap, ixD_t, at2_1, outR_rt]
theorem move_no {p q u v : Int} (h : IsW s n m (ds ++ [pr p q]) k) (f0 : isFr (pr p q) = true) (f : isFr (pr u v) = true) (nb : (p * v - q * u == 1 || p * v - q * u == -1) = false) : F_m_move [.r n, .d (pr u v)] s = .ex 5 s := by
  have bs := fun st => beside_ap (s := st) (fr_mul (r := u) (t := v) f0)
  rw [nb] at bs
  rw [m_move_in]
  simp only [B_m_move, bSeq_ap, bDrop_ap, sCall_ap, aCons_ap, aNil_ap, sVar_ap, List.getElem?_cons_succ, List.getElem?_cons_zero, varR_ap, bindR_ok, ckfr_ap f, bindS_ok, seqR_nx, bIf_ap, sNot_ap, sBin_ap, fld_p (f := sVar 0) (env := [some (.r n), some (.d (pr u v))]) h rfl, sUn_ap, sC_ap, negD_i, optR_some, ixD_w h, atI_last, bs, notB_b, Bool.not_false, ifS_t, bRaise_ap]
  rfl
theorem move_bad {v : D} {s : Stt} {n : Nat} (ha : askOk v = true) (f : isFr v = false) : F_m_move [.r n, .d v] s = .ex 0 s := by
  have ck := ckfr_ex (st := s) ha f
  rw [m_move_in]
  simp only [B_m_move, bSeq_ap, bDrop_ap, sCall_ap, aCons_ap, aNil_ap, sVar_ap, List.getElem?_cons_succ, List.getElem?_cons_zero, varR_ap, bindR_ok, ck]
  rfl
theorem climb_top (h : IsW s n m (ds ++ [pr 1 0]) k) : F_m_climb [.r n] s = .ex 8 s := by
  have e : eqD (.d (pr 1 0)) (.d (.tuple [.int 1, .int 0])) s = some (.bool true) := eqD_same (n := 2) rfl
  rw [m_climb_in]
  simp only [B_m_climb, bSeq_ap, bIf_ap, sBin_ap, fld_p (f := sVar 0) (env := [some (.r n)]) h rfl, bindR_ok, sUn_ap, sC_ap, negD_i, optR_some, ixD_w h, atI_last, e, bindS_ok, ifS_t, bRaise_ap]
  rfl
theorem climb_ap {p q u v : Int} {l : List (Int × Int)} (hw : s.all (refsLt s.length) = true) (h : IsW s n m (ds ++ [pr p q]) k) (f : isFr (pr p q) = true) (hq : 1 ≤ q) (w : FM.Way p q ((p, q) :: (u, v) :: l)) (hl : ds.length < 90000) :
    F_m_climb [.r n] s = .ok (.d (pr u v)) (s.set m (Ob.lst (ds ++ [pr p q] ++ [pr u v]))) := by
  obtain ⟨f1, f2, f3, f4, f5, f6⟩ := isFr_pr.mp f
  obtain ⟨l', w', wu⟩ := way_up_ap (P := p) (Q := q) (st := s) hw f5 f3 (fun z => by omega) (by omega) (by omega)
  have := w'.uniq w
  subst this
  have e : eqD (.d (pr p q)) (.d (.tuple [.int 1, .int 0])) s = some (.bool false) := eqD_dif (n := 2) (m := 2) rfl rfl (by
    intro z
    injection z with z
    injection z with z1 z2
    injection z2 with z2
    injection z2 with z2
    omega)
  have at1 : atI (((p, q) :: (u, v) :: l).map prP) 1 = some (pr u v) := by
    unfold atI ixN
    rw [if_pos (by decide), if_pos (by simp; omega)]
    rfl
  have a := appR_w (d := pr u v) h (by rw [List.length_append]; simp; omega)
  have h2 := isW_app (d := pr u v) h
  rw [m_climb_in]
  simp only [B_m_climb, bSeq_ap, bIf_ap, sBin_ap, fld_p (f := sVar 0) (env := [some (.r n)]) h rfl, bindR_ok, sUn_ap, sC_ap, negD_i, optR_some, ixD_w h, atI_last, e, bindS_ok, ifS_f, bNext_ap, seqR_nx, bDrop_ap, sMut_ap, isL_w h, if_true, sCall_ap, aCons_ap, aNil_ap, wu, ixD_l, at1, a, bRet_ap, fld_p (f := sVar 0) (env := [some (.r n)]) h2 rfl, ixD_w h2, outR_rt]
theorem undo_no (h : IsW s n m ds k) (hk : (ds.length : Int) = k) : F_m_undo [.r n] s = .ex 11 s := by
  have e1 : lenD [.r m] s = some (.int ds.length) := by
    unfold lenD
    simp only [rd_w h]
  have e : eqD (.d (.int ds.length)) (.d (.int k)) s = some (.bool true) := by
    rw [hk]
    exact eqD_same (n := 1) rfl
  rw [m_undo_in]
  simp only [B_m_undo, bSeq_ap, bIf_ap, sBin_ap, sCB_ap, aCons_ap, aNil_ap, fld_p (f := sVar 0) (env := [some (.r n)]) h rfl, fld_k (f := sVar 0) (env := [some (.r n)]) h rfl, bindR_ok, e1, optR_some, e, bindS_ok, ifS_t, bRaise_ap]
  rfl
theorem undo_ap {d e : D} (h : IsW s n m (ds ++ [d] ++ [e]) k) (hk : ¬ ((ds.length + 2 : Nat) : Int) = k) : F_m_undo [.r n] s = .ok (.d d) ((s ++ [Ob.lst (ds ++ [d])]).set n (wkO s.length k)) := by
  have e1 : lenD [.r m] s = some (.int (ds.length + 2 : Nat)) := by
    unfold lenD
    simp only [rd_w h]
    show some (PyData.int ((ds ++ [d] ++ [e]).length : Nat)) = _
    rw [List.length_append, List.length_append]
    rfl
  have en : eqD (.d (.int (ds.length + 2 : Nat))) (.d (.int k)) s = some (.bool false) := eqD_dif (n := 1) (m := 1) rfl rfl (by
    intro z
    injection z with z
    exact hk z)
  have sl : sSlM (sFld 13 "points" (sVar 0)) oNone (oSome (sUn negD (sC (.int 1)))) [some (.r n)] s = .ok (.r s.length) (s ++ [Ob.lst (ds ++ [d])]) := by
    unfold sSlM
    simp only [fld_p (f := sVar 0) (env := [some (.r n)]) h rfl, bindR_ok, oNone_ap, oSome_ap, sUn_ap, sC_ap, negD_i, optR_some, intO_i]
    show (match toL s (.r m) with | some ds => DL.R.ok (Sv.r s.length) (s ++ [Ob.lst (cutA ds none (some (-1)))]) | none => .bad) = _
    rw [toL_w h]
    show DL.R.ok (Sv.r s.length) (s ++ [Ob.lst (cutA (ds ++ [d] ++ [e]) none (some (-1)))]) = _
    rw [cut_init, List.dropLast_concat]
  have hn := lt_get h.i
  have h1 : IsW (s ++ [Ob.lst (ds ++ [d])]) n m (ds ++ [d] ++ [e]) k := ⟨by rw [List.getElem?_append_left hn]; exact h.i, by rw [List.getElem?_append_left (lt_get h.l)]; exact h.l⟩
  have h2 : IsW ((s ++ [Ob.lst (ds ++ [d])]).set n (wkO s.length k)) n s.length (ds ++ [d]) k := by
    refine ⟨set_get (by rw [List.length_append]; omega), ?_⟩
    rw [List.getElem?_set_ne (by omega)]
    simp
  have st : bFld 13 "points" (sVar 0) (sSlM (sFld 13 "points" (sVar 0)) oNone (oSome (sUn negD (sC (.int 1))))) [some (.r n)] s = .nx [some (.r n)] ((s ++ [Ob.lst (ds ++ [d])]).set n (wkO s.length k)) := by
    unfold bFld
    rw [sl, bindS_ok, sVar_ap]
    show bindS (DL.R.ok (Sv.r n) (s ++ [Ob.lst (ds ++ [d])])) _ = _
    rw [bindS_ok, insAt_w h1]
    rfl
  rw [m_undo_in]
  simp only [B_m_undo, bSeq_ap, bIf_ap, sBin_ap, sCB_ap, aCons_ap, aNil_ap, fld_p (f := sVar 0) (env := [some (.r n)]) h rfl, fld_k (f := sVar 0) (env := [some (.r n)]) h rfl, bindR_ok, e1, optR_some, en, bindS_ok, ifS_f, bNext_ap, seqR_nx, st, bRet_ap, fld_p (f := sVar 0) (env := [some (.r n)]) h2 rfl, sUn_ap, sC_ap, negD_i, ixD_w h2, atI_last, outR_rt]
theorem dup_ap {p q : Int} (h : IsW s n m (pr p q :: ds) k) (f : isFr (pr p q) = true) : F_m_duplicate [.r n] s = .ok (.r s.length) (s ++ [wkO (s.length + 2) ((ds.length + 1 : Nat) : Int), Ob.lst [pr p q], Ob.lst (pr p q :: ds)]) := by
  have at0 : atI (pr p q :: ds) 0 = some (pr p q) := by
    unfold atI ixN
    rw [if_pos (by decide), if_pos (by simp)]
    rfl
  have nw : sNew 13 F_m_init (aCons (sBin ixD (sFld 13 "points" (sVar 0)) (sC (.int 0))) aNil) [some (.r n), none] s = .ok (.r s.length) (s ++ [wkO (s.length + 1) 1, Ob.lst [pr p q]]) := new_ap f (by
    simp only [aCons_ap, aNil_ap, sBin_ap, fld_p (f := sVar 0) (env := [some (.r n), none]) h rfl, bindR_ok, sC_ap, ixD_w h, at0, optR_some])
  have e1 : bSet 1 (sNew 13 F_m_init (aCons (sBin ixD (sFld 13 "points" (sVar 0)) (sC (.int 0))) aNil)) [some (.r n), none] s = .nx [some (.r n), some (.r s.length)] (s ++ [wkO (s.length + 1) 1, Ob.lst [pr p q]]) := by
    rw [bSet_ap, nw, bindS_ok]
    rfl
  generalize hS : (s ++ [wkO (s.length + 1) 1, Ob.lst [pr p q]] : Stt) = S at e1
  have lS : S.length = s.length + 2 := by rw [← hS, List.length_append]; rfl
  have hn := lt_get h.i
  have hm := lt_get h.l
  have h1 : IsW S n m (pr p q :: ds) k := by
    rw [← hS]
    exact ⟨by rw [List.getElem?_append_left hn]; exact h.i, by rw [List.getElem?_append_left hm]; exact h.l⟩
  have h2 : IsW S s.length (s.length + 1) [pr p q] 1 := by
    rw [← hS]
    exact isW_new
  have ml : sListM (aCons (sFld 13 "points" (sVar 0)) aNil) [some (.r n), some (.r s.length)] S = .ok (.r S.length) (S ++ [Ob.lst (pr p q :: ds)]) := by
    unfold sListM
    simp only [aCons_ap, aNil_ap, fld_p (f := sVar 0) (env := [some (.r n), some (.r s.length)]) h1 rfl, bindR_ok]
    show (match (match toL S (.r m) with | some ds => some (PyData.list ds) | _ => none) with | some (.list ds) => DL.R.ok (Sv.r S.length) (S ++ [Ob.lst ds]) | _ => .bad) = _
    rw [toL_w h1]
  have h3 : IsW (S ++ [Ob.lst (pr p q :: ds)]) s.length (s.length + 1) [pr p q] 1 := ⟨by rw [List.getElem?_append_left (by omega)]; exact h2.i, by rw [List.getElem?_append_left (by omega)]; exact h2.l⟩
  have e2 : bFld 13 "points" (sVar 1) (sListM (aCons (sFld 13 "points" (sVar 0)) aNil)) [some (.r n), some (.r s.length)] S = .nx [some (.r n), some (.r s.length)] ((S ++ [Ob.lst (pr p q :: ds)]).set s.length (wkO S.length 1)) := by
    unfold bFld
    rw [ml, bindS_ok, sVar_ap]
    show bindS (DL.R.ok (Sv.r s.length) (S ++ [Ob.lst (pr p q :: ds)])) _ = _
    rw [bindS_ok, insAt_w h3]
    rfl
  have hS2 : (S ++ [Ob.lst (pr p q :: ds)]).set s.length (wkO S.length 1) = s ++ [wkO (s.length + 2) 1, Ob.lst [pr p q], Ob.lst (pr p q :: ds)] := by
    rw [lS, ← hS, List.append_assoc, List.set_append_right _ _ (Nat.le_refl _), Nat.sub_self]
    rfl
  rw [hS2] at e2
  generalize hT : (s ++ [wkO (s.length + 2) 1, Ob.lst [pr p q], Ob.lst (pr p q :: ds)] : Stt) = T at e2
  have h4 : IsW T n m (pr p q :: ds) k := by
    rw [← hT]
    exact ⟨by rw [List.getElem?_append_left hn]; exact h.i, by rw [List.getElem?_append_left hm]; exact h.l⟩
  have h5 : IsW T s.length (s.length + 2) (pr p q :: ds) 1 := by
    rw [← hT]
    constructor
    · simp
    · simp [List.getElem?_append_right]
  have ln : lenD [.r m] T = some (.int (ds.length + 1 : Nat)) := by
    unfold lenD
    simp only [rd_w h4]
    rfl
  have e3 : bFld 13 "kept" (sVar 1) (sCB lenD (aCons (sFld 13 "points" (sVar 0)) aNil)) [some (.r n), some (.r s.length)] T = .nx [some (.r n), some (.r s.length)] (T.set s.length (wkO (s.length + 2) ((ds.length + 1 : Nat) : Int))) := by
    unfold bFld
    simp only [sCB_ap, aCons_ap, aNil_ap, fld_p (f := sVar 0) (env := [some (.r n), some (.r s.length)]) h4 rfl, bindR_ok, ln, optR_some, bindS_ok, sVar_ap, List.getElem?_cons_succ, List.getElem?_cons_zero, varR_ap, insAt_w h5]
    show RS.nx _ (T.set s.length (Ob.ins 13 (if ("points" : Str) = "kept" then [("points", .d (.int (ds.length + 1 : Nat))), ("kept", .d (.int 1))] else (("points" : Str), Sv.r (s.length + 2)) :: (if ("kept" : Str) = "kept" then [(("kept" : Str), Sv.d (.int (ds.length + 1 : Nat)))] else _)))) = _
    rw [if_neg str_pk, if_pos rfl]
    rfl
  have hT2 : T.set s.length (wkO (s.length + 2) ((ds.length + 1 : Nat) : Int)) = s ++ [wkO (s.length + 2) ((ds.length + 1 : Nat) : Int), Ob.lst [pr p q], Ob.lst (pr p q :: ds)] := by
    rw [← hT, List.set_append_right _ _ (Nat.le_refl _), Nat.sub_self]
    rfl
  rw [m_duplicate_in]
  show outR (bSeq _ (bSeq _ (bSeq _ _)) _ _) = _
  rw [bSeq_ap, e1, seqR_nx, bSeq_ap, e2, seqR_nx, bSeq_ap, e3, seqR_nx, hT2]
  rfl
end
end DL

namespace DL
open PySem PySem.Spec PyProof.Rows L2
def B_l_strolled : SX := (bSeq (bSet 4 (sListM (aCons (sVar 3) aNil)))
  (bSeq (bFor (iRange1 (sBin addD (sC (.int 1)) (sCall F_l_draw (aCons (sVar 0) (aCons (sVar 1) (aCons (sC (.int 6)) aNil)))))) (gN 5)
  (bSeq (bSet 6 (sBin ixD (sVar 4) (sUn negD (sC (.int 1)))))
  (bSeq (bSet 7 (sIte (sBin eqD (sBin ixD (sVar 6) (sC (.int 1))) (sC (.int 1))) (sLstM (aCons (sTup (aCons (sC (.int 1)) (aCons (sC (.int 0)) aNil))) aNil)) (sLstM aNil)))
  (bSeq (bIf (sBin (cmpD fun i j => decide (j < i)) (sBin ixD (sVar 6) (sC (.int 1))) (sC (.int 1)))
  (bSet 7 (sListM (aCons (sCall F_l_elders (aCons (sVar 6) aNil)) aNil)))
  bNext)
  (bSeq (bIf (sBin (cmpD fun i j => decide (i < j)) (sBin ixD (sVar 6) (sC (.int 1))) (sC (.int 60)))
  (bSeq (bSet 8 (sCall F_l_draw (aCons (sVar 0) (aCons (sVar 1) (aCons (sC (.int 3)) aNil)))))
  (bSeq (bSet 9 (sIte (sBin neD (sVar 7) (sLst aNil)) (sBin ixD (sVar 7) (sC (.int 0))) (sTup (aCons (sBin subD (sCall F_l_draw (aCons (sVar 0) (aCons (sVar 1) (aCons (sC (.int 5)) aNil)))) (sC (.int 2))) (aCons (sC (.int 1)) aNil)))))
  (bDrop (sMut appR (sVar 7) (sTup (aCons (sBin addD (sBin ixD (sVar 9) (sC (.int 0))) (sBin mulD (sVar 8) (sBin ixD (sVar 6) (sC (.int 0))))) (aCons (sBin addD (sBin ixD (sVar 9) (sC (.int 1))) (sBin mulD (sVar 8) (sBin ixD (sVar 6) (sC (.int 1))))) aNil)))))))
  bNext)
  (bSeq (bSet 10 (sCall F_l_pick (aCons (sVar 0) (aCons (sVar 1) (aCons (sVar 7) aNil)))))
  (bSeq (bIf (sBin neD (sInv 13 "move" F_m_move (sVar 2) (aCons (sVar 10) aNil)) (sBin ixD (sVar 10) (sC (.int 1))))
  (bRet (sC .none))
  bNext)
  (bDrop (sMut appR (sVar 4) (sVar 10))))))))))
  (bRet (sVar 4))))
def F_l_strolled : List Sv → Stt → R Sv := Fg 11 4 B_l_strolled
theorem h_l_strolled : Hok 11 4 B_l_strolled F_l_strolled := hokg
theorem l_strolled_in {x0 x1 x2 x3 : Sv} {s : Stt} : F_l_strolled [x0, x1, x2, x3] s = gcR s.length (outR (B_l_strolled [some x0, some x1, some x2, some x3, none, none, none, none, none, none, none] s)) := rfl

def B_l_back : SX := (bTry 1
  (bRet (sInv 13 "undo" F_m_undo (sVar 0) aNil)))
def F_l_back : List Sv → Stt → R Sv := F0 2 1 B_l_back
theorem h_l_back : Hok 2 1 B_l_back F_l_back := hok0
theorem l_back_in {x0 : Sv} {s : Stt} : F_l_back [x0] s = outR (B_l_back [some x0, none] s) := rfl

def B_law_s0 : SX := (bSet 1 (sLstM aNil))
def B_law_s1 : SX := (bSet 2 (sCall F_l_some_fraction (aCons (sVar 0) (aCons (sVar 1) (aCons (sC (.int 20)) aNil)))))
def B_law_s2 : SX := (bSet 3 (sNew 13 F_m_init (aCons (sVar 2) aNil)))
def B_law_s3 : SX := (bSet 4 (sCall F_l_strolled (aCons (sVar 0) (aCons (sVar 1) (aCons (sVar 3) (aCons (sLst (aCons (sVar 2) aNil)) aNil))))))
def B_law_s4 : SX := (bSet 5 (sInv 13 "duplicate" F_m_duplicate (sVar 3) aNil))
def B_law_s5 : SX := (bIf (sOr (sBin isND (sVar 4) (sC .none)) (sOr (sNot (sEqI 13 F_m_eq (sVar 5) (sVar 3))) (sOr (sBin neD (sInv 13 "path" F_m_path (sVar 5) aNil) (sVar 4)) (sBin neD (sCall F_l_back (aCons (sVar 5) aNil)) (sTup (aCons (sC (.str "raised")) (aCons (sC (.int 11)) aNil)))))))
  (bRet (sC (.bool false)))
  bNext)
def B_law_s6 : SX := (bSet 6 (sCall F_l_strolled (aCons (sVar 0) (aCons (sVar 1) (aCons (sVar 5) (aCons (sVar 4) aNil))))))
def B_law_s7 : SX := (bIf (sOr (sBin isND (sVar 6) (sC .none)) (sOr (sBin neD (sInv 13 "path" F_m_path (sVar 5) aNil) (sVar 6)) (sBin neD (sInv 13 "path" F_m_path (sVar 3) aNil) (sVar 4))))
  (bRet (sC (.bool false)))
  bNext)
def B_law_s8 : SX := (bFor (iSeq (sUn revD (sSl (sVar 6) (oSome (sBin subD (sCB lenD (aCons (sVar 4) aNil)) (sC (.int 1)))) (oSome (sUn negD (sC (.int 1))))))) (gN 7)
  (bIf (sBin neD (sCall F_l_back (aCons (sVar 5) aNil)) (sVar 7))
  (bRet (sC (.bool false)))
  bNext))
def B_law_s9 : SX := (bIf (sOr (sBin neD (sCall F_l_back (aCons (sVar 5) aNil)) (sTup (aCons (sC (.str "raised")) (aCons (sC (.int 11)) aNil)))) (sBin neD (sInv 13 "path" F_m_path (sVar 5) aNil) (sVar 4)))
  (bRet (sC (.bool false)))
  bNext)
def B_law_s10 : SX := (bFor (iSeq (sUn revD (sSl (sVar 4) oNone (oSome (sUn negD (sC (.int 1))))))) (gN 7)
  (bIf (sOr (sBin neD (sCall F_l_back (aCons (sVar 3) aNil)) (sVar 7)) (sBin neD (sInv 13 "place" F_m_place (sVar 3) aNil) (sVar 7)))
  (bRet (sC (.bool false)))
  bNext))
def B_law_s11 : SX := (bRet (sAnd (sBin eqD (sCall F_l_back (aCons (sVar 3) aNil)) (sTup (aCons (sC (.str "raised")) (aCons (sC (.int 11)) aNil)))) (sAnd (sBin eqD (sInv 13 "path" F_m_path (sVar 3) aNil) (sLst (aCons (sVar 2) aNil))) (sBin eqD (sInv 13 "path" F_m_path (sVar 5) aNil) (sVar 4)))))
def B_law_r11 : SX := B_law_s11
def B_law_r10 : SX := (bSeq B_law_s10 B_law_r11)
def B_law_r9 : SX := (bSeq B_law_s9 B_law_r10)
def B_law_r8 : SX := (bSeq B_law_s8 B_law_r9)
def B_law_r7 : SX := (bSeq B_law_s7 B_law_r8)
def B_law_r6 : SX := (bSeq B_law_s6 B_law_r7)
def B_law_r5 : SX := (bSeq B_law_s5 B_law_r6)
def B_law_r4 : SX := (bSeq B_law_s4 B_law_r5)
def B_law_r3 : SX := (bSeq B_law_s3 B_law_r4)
def B_law_r2 : SX := (bSeq B_law_s2 B_law_r3)
def B_law_r1 : SX := (bSeq B_law_s1 B_law_r2)
def B_law_r0 : SX := (bSeq B_law_s0 B_law_r1)
def B_law : SX := (bSeq (bSet 1 (sLstM aNil))
  (bSeq (bSet 2 (sCall F_l_some_fraction (aCons (sVar 0) (aCons (sVar 1) (aCons (sC (.int 20)) aNil)))))
  (bSeq (bSet 3 (sNew 13 F_m_init (aCons (sVar 2) aNil)))
  (bSeq (bSet 4 (sCall F_l_strolled (aCons (sVar 0) (aCons (sVar 1) (aCons (sVar 3) (aCons (sLst (aCons (sVar 2) aNil)) aNil))))))
  (bSeq (bSet 5 (sInv 13 "duplicate" F_m_duplicate (sVar 3) aNil))
  (bSeq (bIf (sOr (sBin isND (sVar 4) (sC .none)) (sOr (sNot (sEqI 13 F_m_eq (sVar 5) (sVar 3))) (sOr (sBin neD (sInv 13 "path" F_m_path (sVar 5) aNil) (sVar 4)) (sBin neD (sCall F_l_back (aCons (sVar 5) aNil)) (sTup (aCons (sC (.str "raised")) (aCons (sC (.int 11)) aNil)))))))
  (bRet (sC (.bool false)))
  bNext)
  (bSeq (bSet 6 (sCall F_l_strolled (aCons (sVar 0) (aCons (sVar 1) (aCons (sVar 5) (aCons (sVar 4) aNil))))))
  (bSeq (bIf (sOr (sBin isND (sVar 6) (sC .none)) (sOr (sBin neD (sInv 13 "path" F_m_path (sVar 5) aNil) (sVar 6)) (sBin neD (sInv 13 "path" F_m_path (sVar 3) aNil) (sVar 4))))
  (bRet (sC (.bool false)))
  bNext)
  (bSeq (bFor (iSeq (sUn revD (sSl (sVar 6) (oSome (sBin subD (sCB lenD (aCons (sVar 4) aNil)) (sC (.int 1)))) (oSome (sUn negD (sC (.int 1))))))) (gN 7)
  (bIf (sBin neD (sCall F_l_back (aCons (sVar 5) aNil)) (sVar 7))
  (bRet (sC (.bool false)))
  bNext))
  (bSeq (bIf (sOr (sBin neD (sCall F_l_back (aCons (sVar 5) aNil)) (sTup (aCons (sC (.str "raised")) (aCons (sC (.int 11)) aNil)))) (sBin neD (sInv 13 "path" F_m_path (sVar 5) aNil) (sVar 4)))
  (bRet (sC (.bool false)))
  bNext)
  (bSeq (bFor (iSeq (sUn revD (sSl (sVar 4) oNone (oSome (sUn negD (sC (.int 1))))))) (gN 7)
  (bIf (sOr (sBin neD (sCall F_l_back (aCons (sVar 3) aNil)) (sVar 7)) (sBin neD (sInv 13 "place" F_m_place (sVar 3) aNil) (sVar 7)))
  (bRet (sC (.bool false)))
  bNext))
  (bRet (sAnd (sBin eqD (sCall F_l_back (aCons (sVar 3) aNil)) (sTup (aCons (sC (.str "raised")) (aCons (sC (.int 11)) aNil)))) (sAnd (sBin eqD (sInv 13 "path" F_m_path (sVar 3) aNil) (sLst (aCons (sVar 2) aNil))) (sBin eqD (sInv 13 "path" F_m_path (sVar 5) aNil) (sVar 4))))))))))))))))
theorem B_law_eq : B_law = B_law_r0 := rfl

theorem plP (D : List (Int × Int)) : plA 2 (D.map prP) = true := by
  rw [plA_iff]
  intro d hd
  obtain ⟨x, _, rfl⟩ := List.mem_map.mp hd
  rfl
theorem plL (D : List (Int × Int)) : pl 3 (.list (D.map prP)) = true := by
  rw [pl_lst]
  exact plP D
theorem draw_s {ns : List Int} {s : Stt} {N : Nat} {m : Int} (hs : s[0]? = some (zr N)) (h1 : ns.length ≤ 63) (h2 : N < 9000) (h3 : 0 < m) : F_l_draw [.s ns, .r 0, .d (.int m)] s = .ok (.d (.int (mixV ns (N + 1) m))) (s.set 0 (zr (N + 1))) := by
  have e := draw_ap (ns := ns) (t := 0) (m := m) (s := s) (zs := List.replicate N (.int 0)) hs h1 (by rw [List.length_replicate]; omega) h3
  rw [List.length_replicate] at e
  rw [e]
  have : List.replicate N (PyData.int 0) ++ [PyData.int 0] = List.replicate (N + 1) (.int 0) := List.replicate_succ'.symm
  rw [this]
  rfl
/-- the store while a walker strolls: the town, the walker, the trail -/
structure TS (S : Stt) (n m : Nat) (k : Int) (s : Stt) (N : Nat) (D : List (Int × Int)) : Prop where
  len : S.length + 1 ≤ s.length
  town : s[0]? = some (zr N)
  w : IsW s n m (D.map prP) k
  tr : s[S.length]? = some (.lst (D.map prP))
  fr : ∀ i, i < S.length → i ≠ 0 → i ≠ m → s[i]? = S[i]?
  wf : s.all (refsLt s.length) = true
structure Pl (S : Stt) (n m : Nat) : Prop where
  n0 : 0 < n
  m0 : 0 < m
  nS : n < S.length
  mS : m < S.length
section
variable {S : Stt} {n m : Nat} {k : Int} {s : Stt} {N : Nat} {D : List (Int × Int)}
theorem TS.app (P : Pl S n m) (h : TS S n m k s N D) (ds : List PyData) : TS S n m k (s ++ [.lst ds]) N D := by
  have hl := h.len
  have := P.n0
  have := P.nS
  have := P.mS
  have g : ∀ i, i < s.length → (s ++ [.lst ds])[i]? = s[i]? := fun i hi => List.getElem?_append_left hi
  exact ⟨by rw [List.length_append]; omega, by rw [g 0 (by omega)]; exact h.town, ⟨by rw [g n (by omega)]; exact h.w.i, by rw [g m (by omega)]; exact h.w.l⟩, by rw [g _ (by omega)]; exact h.tr, fun i hi a b => by rw [g i (by omega)]; exact h.fr i hi a b, by rw [List.all_append, Bool.and_eq_true]; exact ⟨refs_up (by rw [List.length_append]; omega) h.wf, rfl⟩⟩
theorem TS.own (P : Pl S n m) (h : TS S n m k s N D) {j : Nat} (hj : S.length < j) (ds : List PyData) : TS S n m k (s.set j (.lst ds)) N D := by
  have := P.n0
  have := P.nS
  have := P.mS
  have g : ∀ i, i ≤ S.length → (s.set j (.lst ds))[i]? = s[i]? := fun i hi => List.getElem?_set_ne (by omega)
  exact ⟨by rw [List.length_set]; exact h.len, by rw [g 0 (by omega)]; exact h.town, ⟨by rw [g n (by omega)]; exact h.w.i, by rw [g m (by omega)]; exact h.w.l⟩, by rw [g _ (Nat.le_refl _)]; exact h.tr, fun i hi a b => by rw [g i (by omega)]; exact h.fr i hi a b, by rw [List.length_set]; exact wf_set h.wf⟩
theorem TS.setT (P : Pl S n m) (h : TS S n m k s N D) (M : Nat) : TS S n m k (s.set 0 (zr M)) M D := by
  have hl := h.len
  have := P.n0
  have := P.m0
  have := P.nS
  have g : ∀ i, i ≠ 0 → (s.set 0 (zr M))[i]? = s[i]? := fun i hi => List.getElem?_set_ne (by omega)
  exact ⟨by rw [List.length_set]; exact h.len, List.getElem?_set_self (by omega), ⟨by rw [g n (by omega)]; exact h.w.i, by rw [g m (by omega)]; exact h.w.l⟩, by rw [g _ (by omega)]; exact h.tr, fun i hi a b => by rw [g i a]; exact h.fr i hi a b, by rw [List.length_set]; exact wf_set h.wf⟩
theorem TS.step (P : Pl S n m) (h : TS S n m k s N D) (x : Int × Int) : TS S n m k ((s.set m (.lst ((D ++ [x]).map prP))).set S.length (.lst ((D ++ [x]).map prP))) N (D ++ [x]) := by
  have hl := h.len
  have := P.n0
  have := P.m0
  have := P.nS
  have := P.mS
  have nm := h.w.ne
  have g1 : ∀ i, i ≠ S.length → ∀ t : Stt, (t.set S.length (.lst ((D ++ [x]).map prP)))[i]? = t[i]? := fun i hi t => List.getElem?_set_ne (by omega)
  have g2 : ∀ i, i ≠ m → (s.set m (.lst ((D ++ [x]).map prP)))[i]? = s[i]? := fun i hi => List.getElem?_set_ne (by omega)
  refine ⟨by rw [List.length_set, List.length_set]; exact hl, by rw [g1 0 (by omega), g2 0 (by omega)]; exact h.town, ⟨by rw [g1 n (by omega), g2 n nm]; exact h.w.i, ?_⟩, List.getElem?_set_self (by rw [List.length_set]; omega), fun i hi a b => by rw [g1 i (by omega), g2 i b]; exact h.fr i hi a b, by rw [List.length_set, List.length_set]; exact wf_set (wf_set h.wf)⟩
  rw [g1 m (by omega)]
  exact List.getElem?_set_self (by omega)
/-- behind the def -/
theorem TS.out (P : Pl S n m) (hw : S.all (refsLt S.length) = true) (h : TS S n m k s N D) : gcR S.length (.ok (.r S.length) s) = .ok (.d (.list (D.map prP))) ((S.set 0 (zr N)).set m (.lst (D.map prP))) := by
  have hl := h.len
  have := P.m0
  have := P.mS
  have e : s.take S.length = (S.set 0 (zr N)).set m (.lst (D.map prP)) := by
    apply List.ext_getElem?
    intro i
    by_cases hi : i < S.length
    · rw [List.getElem?_take_of_lt hi]
      by_cases hm : i = m
      · subst hm
        rw [List.getElem?_set_self (by rw [List.length_set]; omega)]
        exact h.w.l
      · rw [List.getElem?_set_ne (by omega)]
        by_cases h0 : i = 0
        · subst h0
          rw [List.getElem?_set_self (by omega)]
          exact h.town
        · rw [List.getElem?_set_ne (by omega)]
          exact h.fr i hi h0 hm
    · rw [List.getElem?_eq_none (by rw [List.length_take]; omega), List.getElem?_eq_none (by rw [List.length_set, List.length_set]; omega)]
  have w2 : ((S.set 0 (zr N)).set m (.lst (D.map prP))).all (refsLt S.length) = true := wf_set (wf_set hw)
  unfold gcR
  simp only [e, w2, if_true, Nat.lt_irrefl, if_false, h.tr]
end
structure Gd (B : Int) (x : Int × Int) : Prop where
  nr : Nrm x
  v : x.2 ≤ 180
  b : x.2 = 0 ∨ (x.1 ≤ B * x.2 ∧ -(B * x.2) ≤ x.1)
theorem Gd.fr {B : Int} {x : Int × Int} (h : Gd B x) (hB : B ≤ 30) : isFr (prP x) = true := by
  obtain ⟨⟨g, h0, t⟩, hv, hb⟩ := h
  have c1 : B * x.2 ≤ 30 * x.2 := Int.mul_le_mul_of_nonneg_right hB h0
  refine isFr_pr.mpr ?_
  rcases hb with z | ⟨b1, b2⟩
  · have := t z
    exact ⟨by omega, by omega, h0, by omega, g, .inr this⟩
  · refine ⟨by omega, by omega, h0, by omega, g, ?_⟩
    by_cases z : x.2 = 0
    · exact .inr (t z)
    · exact .inl (by omega)
theorem Gd.mono {B C : Int} {x : Int × Int} (h : Gd B x) (k : B ≤ C) : Gd C x := by
  refine ⟨h.nr, h.v, ?_⟩
  rcases h.b with z | ⟨b1, b2⟩
  · exact .inl z
  · have := Int.mul_le_mul_of_nonneg_right (c := x.2) k h.nr.2.1
    exact .inr ⟨by omega, by omega⟩
/-- a neighbour of a finite fraction -/
theorem gd_nb {B : Int} {x y : Int × Int} (h : Gd B x) (hx : 1 ≤ x.2) (nb : nbP x y) (hy : 1 ≤ y.2) (hv : y.2 ≤ 180) : Gd (B + 1) y := by
  obtain ⟨⟨g, h0, t⟩, v, hb⟩ := h
  unfold nbP at nb
  have gy : Int.gcd y.1 y.2 = 1 := by
    refine FM.cop_cross (p := y.1) (q := y.2) (r := x.1) (t := x.2) ?_
    rw [Int.mul_comm y.1, Int.mul_comm y.2]
    omega
  refine ⟨⟨gy, by omega, fun z => by omega⟩, hv, .inr ?_⟩
  rcases hb with z | ⟨b1, b2⟩
  · omega
  · have c1 : x.1 * y.2 ≤ B * x.2 * y.2 := Int.mul_le_mul_of_nonneg_right b1 (by omega)
    have c2 : -(B * x.2) * y.2 ≤ x.1 * y.2 := Int.mul_le_mul_of_nonneg_right b2 (by omega)
    rw [Int.neg_mul] at c2
    have e1 : x.2 * (B * y.2) = B * x.2 * y.2 := by grind
    have e2 : x.2 * ((B + 1) * y.2) = B * x.2 * y.2 + x.2 * y.2 := by grind
    have c3 : 1 ≤ x.2 * y.2 := by
      have := Int.mul_le_mul hx hy (by decide) (by omega)
      omega
    constructor
    · apply Int.le_of_mul_le_mul_left (a := x.2) _ (by omega)
      omega
    · apply Int.le_of_mul_le_mul_left (a := x.2) _ (by omega)
      rw [Int.mul_neg]
      omega
/-- what may be picked -/
def CandP (B : Int) (x y : Int × Int) : Prop := nbP x y ∧ Gd (B + 1) y
theorem cand_top {B p : Int} (h : Gd B (p, 1)) : CandP B (p, 1) (1, 0) := ⟨.inr (by show p * 0 - 1 * 1 = -1; omega), ⟨by decide, by decide, fun _ => rfl⟩, by show (0 : Int) ≤ 180; decide, .inl rfl⟩
theorem cand_one {B p c : Int} (h : Gd B (p, 1)) (h0 : 0 ≤ c) (h2 : c ≤ 2) : CandP B (p, 1) (1 + c * p, 0 + c * 1) := by
  have nb : nbP (p, 1) (1 + c * p, 0 + c * 1) := .inr (by show p * (0 + c * 1) - 1 * (1 + c * p) = -1; rw [Int.zero_add, Int.mul_one, Int.mul_comm c p]; omega)
  by_cases z : c = 0
  · subst z
    have e : ((1 + 0 * p, 0 + 0 * 1) : Int × Int) = (1, 0) := by rw [Int.zero_mul]; rfl
    rw [e]
    exact cand_top h
  · exact ⟨nb, gd_nb h (by show (1 : Int) ≤ 1; decide) nb (by show 1 ≤ 0 + c * 1; omega) (by show 0 + c * 1 ≤ 180; omega)⟩
theorem cand_par {B p q r s : Int} (h : Gd B (p, q)) (P : FM.Par p q r s) : CandP B (p, q) (r, s) ∧ CandP B (p, q) (p - r, q - s) := by
  have hs := P.hs
  have hq := P.hq
  have hv : q ≤ 180 := h.v
  have n1 : nbP (p, q) (r, s) := .inl P.d
  have n2 : nbP (p, q) (p - r, q - s) := .inr (by show p * (q - s) - q * (p - r) = -1; have := P.d2; rw [Int.mul_comm q]; omega)
  exact ⟨⟨n1, gd_nb h (by show 1 ≤ q; omega) n1 hs (by show s ≤ 180; omega)⟩, ⟨n2, gd_nb h (by show 1 ≤ q; omega) n2 (by show 1 ≤ q - s; omega) (by show q - s ≤ 180; omega)⟩⟩
theorem cand_lin {B p q r s c : Int} (h : Gd B (p, q)) (P : FM.Par p q r s) (h6 : q < 60) (h0 : 0 ≤ c) (h2 : c ≤ 2) : CandP B (p, q) (r + c * p, s + c * q) := by
  have hs := P.hs
  have hq := P.hq
  have n1 : nbP (p, q) (r + c * p, s + c * q) := .inl (by
    show p * (s + c * q) - q * (r + c * p) = 1
    have := P.d
    have e : p * (s + c * q) - q * (r + c * p) = p * s - q * r := by grind
    omega)
  have c0 : 0 ≤ c * q := Int.mul_nonneg h0 (by omega)
  have c2 : c * q ≤ 2 * q := Int.mul_le_mul_of_nonneg_right h2 (by omega)
  exact ⟨n1, gd_nb h (by show 1 ≤ q; omega) n1 (by show 1 ≤ s + c * q; omega) (by show s + c * q ≤ 180; omega)⟩
theorem cand_free {B j c : Int} (hB : 4 ≤ B) (h0 : 0 ≤ c) (h2 : c ≤ 2) (j0 : 0 ≤ j) (j4 : j ≤ 4) : CandP B (1, 0) (j - 2 + c * 1, 1 + c * 0) := by
  have e : ((j - 2 + c * 1, 1 + c * 0) : Int × Int) = (j - 2 + c, 1) := by rw [Int.mul_one, Int.mul_zero, Int.add_zero]
  rw [e]
  refine ⟨.inl (by show 1 * 1 - 0 * (j - 2 + c) = 1; omega), ⟨Int.gcd_one, by show (0 : Int) ≤ 1; decide, fun z => absurd z (by show ¬ (1 : Int) = 0; decide)⟩, by show (1 : Int) ≤ 180; decide, .inr ⟨?_, ?_⟩⟩
  · show j - 2 + c ≤ (B + 1) * 1
    omega
  · show -((B + 1) * 1) ≤ j - 2 + c
    omega
theorem pick_s {ns : List Int} {s : Stt} {N j : Nat} {C : List (Int × Int)} (hs : s[0]? = some (zr N)) (h1 : ns.length ≤ 63) (h2 : N < 9000) (hj : s[j]? = some (.lst (C.map prP))) (j0 : 0 < j) (hC : 1 ≤ C.length) (hl : C.length ≤ 1000) :
    ∃ y ∈ C, F_l_pick [.s ns, .r 0, .r j] s = .ok (.d (prP y)) (s.set 0 (zr (N + 1))) := by
  have d := draw_s (ns := ns) (s := s) (N := N) (m := (C.length : Int)) hs h1 h2 (by omega)
  have v1 := mixV_nn ns (N + 1) (m := (C.length : Int)) (by omega)
  have v2 := mixV_lt ns (N + 1) (m := (C.length : Int)) (by omega)
  generalize mixV ns (N + 1) (C.length : Int) = i at *
  obtain ⟨a, ha⟩ : ∃ a : Nat, i = a := ⟨i.toNat, by omega⟩
  subst ha
  have la : a < C.length := by omega
  have at1 : atI (C.map prP) (a : Int) = some (prP C[a]) := by
    unfold atI ixN
    rw [if_pos (by omega), if_pos (by rw [List.length_map]; omega)]
    show (C.map prP)[((a : Nat) : Int).toNat]? = _
    rw [Int.toNat_natCast, List.getElem?_map, List.getElem?_eq_getElem la]
    rfl
  have ln : lenD [.r j] s = some (.int (C.length : Nat)) := by
    unfold lenD toRd
    simp only [hj, List.length_map]
  have ix : ixD (.r j) (.d (.int (a : Int))) (s.set 0 (zr (N + 1))) = some (prP C[a]) := by
    unfold ixD
    have : (s.set 0 (zr (N + 1)))[j]? = some (.lst (C.map prP)) := by rw [List.getElem?_set_ne (by omega)]; exact hj
    simp only [this, at1]
  refine ⟨C[a], List.getElem_mem _, ?_⟩
  rw [l_pick_in]
  simp only [B_l_pick, bRet_ap, sBin_ap, sVar_ap, List.getElem?_cons_succ, List.getElem?_cons_zero, varR_ap, bindR_ok, sCall_ap, aCons_ap, aNil_ap, sCB_ap, ln, optR_some, d, ix, bindS_ok, outR_rt]
def stA : SX := bSet 6 (sBin ixD (sVar 4) (sUn negD (sC (.int 1))))
def stB : SX := bSet 7 (sIte (sBin eqD (sBin ixD (sVar 6) (sC (.int 1))) (sC (.int 1))) (sLstM (aCons (sTup (aCons (sC (.int 1)) (aCons (sC (.int 0)) aNil))) aNil)) (sLstM aNil))
def stC : SX := (bIf (sBin (cmpD fun i j => decide (j < i)) (sBin ixD (sVar 6) (sC (.int 1))) (sC (.int 1)))
  (bSet 7 (sListM (aCons (sCall F_l_elders (aCons (sVar 6) aNil)) aNil)))
  bNext)
def stD1 : SX := (bSet 9 (sIte (sBin neD (sVar 7) (sLst aNil)) (sBin ixD (sVar 7) (sC (.int 0))) (sTup (aCons (sBin subD (sCall F_l_draw (aCons (sVar 0) (aCons (sVar 1) (aCons (sC (.int 5)) aNil)))) (sC (.int 2))) (aCons (sC (.int 1)) aNil)))))
def stD2 : SX := (bDrop (sMut appR (sVar 7) (sTup (aCons (sBin addD (sBin ixD (sVar 9) (sC (.int 0))) (sBin mulD (sVar 8) (sBin ixD (sVar 6) (sC (.int 0))))) (aCons (sBin addD (sBin ixD (sVar 9) (sC (.int 1))) (sBin mulD (sVar 8) (sBin ixD (sVar 6) (sC (.int 1))))) aNil)))))
def stD : SX := (bIf (sBin (cmpD fun i j => decide (i < j)) (sBin ixD (sVar 6) (sC (.int 1))) (sC (.int 60)))
  (bSeq (bSet 8 (sCall F_l_draw (aCons (sVar 0) (aCons (sVar 1) (aCons (sC (.int 3)) aNil))))) (bSeq stD1 stD2))
  bNext)
def stE : SX := bSet 10 (sCall F_l_pick (aCons (sVar 0) (aCons (sVar 1) (aCons (sVar 7) aNil))))
def stF : SX := (bIf (sBin neD (sInv 13 "move" F_m_move (sVar 2) (aCons (sVar 10) aNil)) (sBin ixD (sVar 10) (sC (.int 1))))
  (bRet (sC .none))
  bNext)
def stG : SX := bDrop (sMut appR (sVar 4) (sVar 10))
def turnS : SX := bSeq stA (bSeq stB (bSeq stC (bSeq stD (bSeq stE (bSeq stF stG)))))
section
variable {S : Stt} {n m : Nat} {k : Int} {ns : List Int}
/-- the last step of the building: one more candidate -/
theorem stD2_ap {x0 x1 x2 x3 x4 x5 x10 : Option Sv} {p q r t c : Int} {j : Nat} {s : Stt} {C : List (Int × Int)} (hj : s[j]? = some (.lst (C.map prP))) (hl : C.length ≤ 1000) (c0 : 0 ≤ c) (c2 : c ≤ 2) :
    stD2 [x0, x1, x2, x3, x4, x5, some (.d (pr p q)), some (.r j), some (.d (.int c)), some (.d (pr r t)), x10] s = .nx [x0, x1, x2, x3, x4, x5, some (.d (pr p q)), some (.r j), some (.d (.int c)), some (.d (pr r t)), x10] (s.set j (.lst ((C ++ [(r + c * p, t + c * q)]).map prP))) := by
  have il : isLst (.r j) s = true := isLst_r hj
  have ap := appR_r (d := pr (r + c * p) (t + c * q)) hj (by rw [List.length_map]; omega)
  have m1 : mulD (.d (.int c)) (.d (.int p)) s = some (.int (c * p)) := by rw [mulD_ii, if_pos (mulOk_l (by omega))]
  have m2 : mulD (.d (.int c)) (.d (.int q)) s = some (.int (c * q)) := by rw [mulD_ii, if_pos (mulOk_l (by omega))]
  have e : (C ++ [(r + c * p, t + c * q)]).map prP = C.map prP ++ [pr (r + c * p) (t + c * q)] := by rw [List.map_append]; rfl
  rw [e]
  unfold stD2
  rw [bDrop_ap, sMut_ap]
  simp only [sVar_ap, List.getElem?_cons_succ, List.getElem?_cons_zero, varR_ap, bindR_ok, il, if_true, sTup_ap, aCons_ap, aNil_ap, sBin_ap, sC_ap, ixD_t, at2_0, at2_1, optR_some, m1, m2, addD_ii, tupD_2, ap, bindS_ok]
/-- candidates with a first one -/
theorem stD_one {x0 x2 x3 x4 x5 x8 x9 x10 : Option Sv} {p q : Int} {j N : Nat} {s : Stt} {D C : List (Int × Int)} {c0 : Int × Int} (P : Pl S n m) (h : TS S n m k s N D) (hn : ns.length ≤ 63) (hN : N < 8000) (jS : S.length < j) (hj : s[j]? = some (.lst ((c0 :: C).map prP))) (hl : C.length ≤ 900) (q6 : q < 60) :
    ∃ c y8 y9 s', 0 ≤ c ∧ c ≤ 2 ∧ TS S n m k s' (N + 1) D ∧ s'[j]? = some (.lst ((c0 :: C ++ [(c0.1 + c * p, c0.2 + c * q)]).map prP)) ∧ stD [some (.s ns), some (.r 0), x2, x3, x4, x5, some (.d (pr p q)), some (.r j), x8, x9, x10] s = .nx [some (.s ns), some (.r 0), x2, x3, x4, x5, some (.d (pr p q)), some (.r j), y8, y9, x10] s' := by
  have d := draw_s (ns := ns) (s := s) (N := N) (m := 3) h.town hn (by omega) (by decide)
  have v1 := mixV_nn ns (N + 1) (m := 3) (by decide)
  have v2 := mixV_lt ns (N + 1) (m := 3) (by decide)
  generalize mixV ns (N + 1) 3 = c at *
  have hj' : (s.set 0 (zr (N + 1)))[j]? = some (.lst ((c0 :: C).map prP)) := by rw [List.getElem?_set_ne (by omega)]; exact hj
  have h2 := h.setT P (N + 1)
  refine ⟨c, some (.d (.int c)), some (.d (prP c0)), _, by omega, by omega, h2.own P jS ((c0 :: C ++ [(c0.1 + c * p, c0.2 + c * q)]).map prP), ?_, ?_⟩
  · exact List.getElem?_set_self (lt_get hj')
  · have s1 : bSet 8 (sCall F_l_draw (aCons (sVar 0) (aCons (sVar 1) (aCons (sC (.int 3)) aNil)))) [some (.s ns), some (.r 0), x2, x3, x4, x5, some (.d (pr p q)), some (.r j), x8, x9, x10] s = .nx [some (.s ns), some (.r 0), x2, x3, x4, x5, some (.d (pr p q)), some (.r j), some (.d (.int c)), x9, x10] (s.set 0 (zr (N + 1))) := by
      simp only [bSet_ap, sCall_ap, aCons_ap, aNil_ap, sVar_ap, List.getElem?_cons_succ, List.getElem?_cons_zero, varR_ap, bindR_ok, sC_ap, d, bindS_ok]
      rfl
    have ne : neD (.r j) (.d (.list [])) (s.set 0 (zr (N + 1))) = some (.bool true) := by
      rw [neD_rl hj']
      exact neD_dif (n := 3) (m := 1) (plL _) rfl (by intro z; cases z)
    have ix : ixD (.r j) (.d (.int 0)) (s.set 0 (zr (N + 1))) = some (prP c0) := by
      unfold ixD
      simp only [hj']
      unfold atI ixN
      rw [if_pos (by decide), if_pos (by simp)]
      rfl
    have s2 : stD1 [some (.s ns), some (.r 0), x2, x3, x4, x5, some (.d (pr p q)), some (.r j), some (.d (.int c)), x9, x10] (s.set 0 (zr (N + 1))) = .nx [some (.s ns), some (.r 0), x2, x3, x4, x5, some (.d (pr p q)), some (.r j), some (.d (.int c)), some (.d (prP c0)), x10] (s.set 0 (zr (N + 1))) := by
      unfold stD1
      simp only [bSet_ap, sIte_ap, sBin_ap, sVar_ap, List.getElem?_cons_succ, List.getElem?_cons_zero, varR_ap, bindR_ok, sLst_ap, aNil_ap, lstD_0, optR_some, ne, ifB_t, sC_ap, ix, bindS_ok]
      rfl
    have s3 := stD2_ap (x0 := some (.s ns)) (x1 := some (.r 0)) (x2 := x2) (x3 := x3) (x4 := x4) (x5 := x5) (x10 := x10) (p := p) (q := q) (r := c0.1) (t := c0.2) (c := c) hj' (by rw [List.length_cons]; omega) (by omega) (by omega)
    have c6 : decide (q < 60) = true := decide_eq_true q6
    unfold stD
    rw [bIf_ap]
    simp only [sBin_ap, sVar_ap, List.getElem?_cons_succ, List.getElem?_cons_zero, varR_ap, bindR_ok, sC_ap, ixD_t, at2_1, optR_some, cmpD_ii, c6, bindS_ok, ifS_t]
    rw [bSeq_ap, s1, seqR_nx, bSeq_ap, s2, seqR_nx]
    exact s3
theorem stD_none {x0 x2 x3 x4 x5 x8 x9 x10 : Option Sv} {p q : Int} {j N : Nat} {s : Stt} {D : List (Int × Int)} (P : Pl S n m) (h : TS S n m k s N D) (hn : ns.length ≤ 63) (hN : N < 8000) (jS : S.length < j) (hj : s[j]? = some (.lst [])) (q6 : q < 60) :
    ∃ c i y8 y9 s', 0 ≤ c ∧ c ≤ 2 ∧ 0 ≤ i ∧ i ≤ 4 ∧ TS S n m k s' (N + 2) D ∧ s'[j]? = some (.lst ([(i - 2 + c * p, 1 + c * q)].map prP)) ∧ stD [some (.s ns), some (.r 0), x2, x3, x4, x5, some (.d (pr p q)), some (.r j), x8, x9, x10] s = .nx [some (.s ns), some (.r 0), x2, x3, x4, x5, some (.d (pr p q)), some (.r j), y8, y9, x10] s' := by
  have d := draw_s (ns := ns) (s := s) (N := N) (m := 3) h.town hn (by omega) (by decide)
  have v1 := mixV_nn ns (N + 1) (m := 3) (by decide)
  have v2 := mixV_lt ns (N + 1) (m := 3) (by decide)
  have h2 := h.setT P (N + 1)
  have d2 := draw_s (ns := ns) (s := s.set 0 (zr (N + 1))) (N := N + 1) (m := 5) h2.town hn (by omega) (by decide)
  have w1 := mixV_nn ns (N + 1 + 1) (m := 5) (by decide)
  have w2 := mixV_lt ns (N + 1 + 1) (m := 5) (by decide)
  generalize mixV ns (N + 1) 3 = c at *
  generalize mixV ns (N + 1 + 1) 5 = i at *
  have h3 := h2.setT P (N + 2)
  have hj' : (s.set 0 (zr (N + 1)))[j]? = some (.lst []) := by rw [List.getElem?_set_ne (by omega)]; exact hj
  have hj2 : ((s.set 0 (zr (N + 1))).set 0 (zr (N + 2)))[j]? = some (.lst (([] : List (Int × Int)).map prP)) := by rw [List.getElem?_set_ne (by omega)]; exact hj'
  refine ⟨c, i, some (.d (.int c)), some (.d (pr (i - 2) 1)), _, by omega, by omega, by omega, by omega, h3.own P jS ([(i - 2 + c * p, 1 + c * q)].map prP), ?_, ?_⟩
  · exact List.getElem?_set_self (lt_get hj2)
  · have s1 : bSet 8 (sCall F_l_draw (aCons (sVar 0) (aCons (sVar 1) (aCons (sC (.int 3)) aNil)))) [some (.s ns), some (.r 0), x2, x3, x4, x5, some (.d (pr p q)), some (.r j), x8, x9, x10] s = .nx [some (.s ns), some (.r 0), x2, x3, x4, x5, some (.d (pr p q)), some (.r j), some (.d (.int c)), x9, x10] (s.set 0 (zr (N + 1))) := by
      simp only [bSet_ap, sCall_ap, aCons_ap, aNil_ap, sVar_ap, List.getElem?_cons_succ, List.getElem?_cons_zero, varR_ap, bindR_ok, sC_ap, d, bindS_ok]
      rfl
    have ne : neD (.r j) (.d (.list [])) (s.set 0 (zr (N + 1))) = some (.bool false) := by
      rw [neD_rl hj']
      rfl
    have s2 : stD1 [some (.s ns), some (.r 0), x2, x3, x4, x5, some (.d (pr p q)), some (.r j), some (.d (.int c)), x9, x10] (s.set 0 (zr (N + 1))) = .nx [some (.s ns), some (.r 0), x2, x3, x4, x5, some (.d (pr p q)), some (.r j), some (.d (.int c)), some (.d (pr (i - 2) 1)), x10] ((s.set 0 (zr (N + 1))).set 0 (zr (N + 2))) := by
      unfold stD1
      simp only [bSet_ap, sIte_ap, sBin_ap, sVar_ap, List.getElem?_cons_succ, List.getElem?_cons_zero, varR_ap, bindR_ok, sLst_ap, aNil_ap, lstD_0, optR_some, ne, ifB_f, sTup_ap, aCons_ap, sCall_ap, sC_ap, d2, subD_ii, tupD_2, bindS_ok]
      rfl
    have s3 := stD2_ap (x0 := some (.s ns)) (x1 := some (.r 0)) (x2 := x2) (x3 := x3) (x4 := x4) (x5 := x5) (x10 := x10) (p := p) (q := q) (r := i - 2) (t := 1) (c := c) hj2 (by decide) (by omega) (by omega)
    have c6 : decide (q < 60) = true := decide_eq_true q6
    unfold stD
    rw [bIf_ap]
    simp only [sBin_ap, sVar_ap, List.getElem?_cons_succ, List.getElem?_cons_zero, varR_ap, bindR_ok, sC_ap, ixD_t, at2_1, optR_some, cmpD_ii, c6, bindS_ok, ifS_t]
    rw [bSeq_ap, s1, seqR_nx, bSeq_ap, s2, seqR_nx]
    exact s3
/-- the candidates -/
theorem cands {x2 x3 x4 x5 x7 x8 x9 x10 : Option Sv} {p q B : Int} {N : Nat} {s : Stt} {D : List (Int × Int)} (P : Pl S n m) (h : TS S n m k s N D) (hn : ns.length ≤ 63) (hN : N < 8000) (g : Gd B (p, q)) (hB : 4 ≤ B) (hB2 : B ≤ 30) :
    ∃ (C : List (Int × Int)) (j N' : Nat) (y8 y9 : Option Sv) (s' : Stt), TS S n m k s' N' D ∧ N' ≤ N + 2 ∧ S.length < j ∧ s'[j]? = some (.lst (C.map prP)) ∧ 1 ≤ C.length ∧ C.length ≤ 5 ∧ (∀ c ∈ C, CandP B (p, q) c) ∧
      bSeq stB (bSeq stC stD) [some (.s ns), some (.r 0), x2, x3, x4, x5, some (.d (pr p q)), x7, x8, x9, x10] s = .nx [some (.s ns), some (.r 0), x2, x3, x4, x5, some (.d (pr p q)), some (.r j), y8, y9, x10] s' := by
  have f := g.fr hB2
  obtain ⟨f1, f2, f3, f4, f5, f6⟩ := isFr_pr.mp f
  have hl := h.len
  by_cases q1 : q = 1
  · subst q1
    have sB : stB [some (.s ns), some (.r 0), x2, x3, x4, x5, some (.d (pr p 1)), x7, x8, x9, x10] s = .nx [some (.s ns), some (.r 0), x2, x3, x4, x5, some (.d (pr p 1)), some (.r s.length), x8, x9, x10] (s ++ [.lst ([(1, 0)].map prP)]) := by
      unfold stB
      simp only [bSet_ap, sIte_ap, sBin_ap, sVar_ap, List.getElem?_cons_succ, List.getElem?_cons_zero, varR_ap, bindR_ok, sC_ap, ixD_t, at2_1, optR_some, eqD_ii, beq_self_eq_true, ifB_t, sLstM_ap, aCons_ap, aNil_ap, sTup_ap, tupD_2]
      rfl
    have sC' : stC [some (.s ns), some (.r 0), x2, x3, x4, x5, some (.d (pr p 1)), some (.r s.length), x8, x9, x10] (s ++ [.lst ([(1, 0)].map prP)]) = .nx [some (.s ns), some (.r 0), x2, x3, x4, x5, some (.d (pr p 1)), some (.r s.length), x8, x9, x10] (s ++ [.lst ([(1, 0)].map prP)]) := rfl
    obtain ⟨c, y8, y9, s', c0, c2, h', hj, e⟩ := stD_one (x2 := x2) (x3 := x3) (x4 := x4) (x5 := x5) (x8 := x8) (x9 := x9) (x10 := x10) (x0 := none) (p := p) (q := 1) (j := s.length) (c0 := (1, 0)) (C := []) (ns := ns) P (h.app P ([(1, 0)].map prP)) hn hN (by omega) get_end (by decide) (by decide)
    refine ⟨[(1, 0)] ++ [(1 + c * p, 0 + c * 1)], s.length, N + 1, y8, y9, s', h', by omega, by omega, hj, by simp, by simp, fun z hz => ?_, ?_⟩
    · simp only [List.cons_append, List.nil_append, List.mem_cons, List.not_mem_nil, or_false] at hz
      rcases hz with rfl | rfl
      · exact cand_top g
      · exact cand_one g c0 c2
    · rw [bSeq_ap, sB, seqR_nx, bSeq_ap, sC', seqR_nx, e]
  · have n1 : (q == 1) = false := by simpa using q1
    have sB : stB [some (.s ns), some (.r 0), x2, x3, x4, x5, some (.d (pr p q)), x7, x8, x9, x10] s = .nx [some (.s ns), some (.r 0), x2, x3, x4, x5, some (.d (pr p q)), some (.r s.length), x8, x9, x10] (s ++ [.lst []]) := by
      unfold stB
      simp only [bSet_ap, sIte_ap, sBin_ap, sVar_ap, List.getElem?_cons_succ, List.getElem?_cons_zero, varR_ap, bindR_ok, sC_ap, ixD_t, at2_1, optR_some, eqD_ii, n1, ifB_f, sLstM_ap, aNil_ap]
      rfl
    have h1 := h.app P []
    by_cases q0 : q = 0
    · have p1 : p = 1 := g.nr.2.2 q0
      subst q0
      subst p1
      have sC' : stC [some (.s ns), some (.r 0), x2, x3, x4, x5, some (.d (pr 1 0)), some (.r s.length), x8, x9, x10] (s ++ [.lst []]) = .nx [some (.s ns), some (.r 0), x2, x3, x4, x5, some (.d (pr 1 0)), some (.r s.length), x8, x9, x10] (s ++ [.lst []]) := rfl
      obtain ⟨c, i, y8, y9, s', c0, c2, i0, i4, h', hj, e⟩ := stD_none (x2 := x2) (x3 := x3) (x4 := x4) (x5 := x5) (x8 := x8) (x9 := x9) (x10 := x10) (x0 := none) (p := 1) (q := 0) (j := s.length) (ns := ns) P h1 hn hN (by omega) get_end (by decide)
      refine ⟨[(i - 2 + c * 1, 1 + c * 0)], s.length, N + 2, y8, y9, s', h', by omega, by omega, hj, by simp, by simp, fun z hz => ?_, ?_⟩
      · rw [List.mem_singleton] at hz
        subst hz
        exact cand_free hB c0 c2 i0 i4
      · rw [bSeq_ap, sB, seqR_nx, bSeq_ap, sC', seqR_nx, e]
    · obtain ⟨r, t, Pa⟩ := FM.par_ex (p := p) (q := q) (by omega) f5
      have ps := Pa.hs
      have pq := Pa.hq
      have hw := h.wf
      have hw2 : (s ++ [Ob.lst []]).all (refsLt (s ++ [Ob.lst []]).length) = true := by
        rw [List.all_append, Bool.and_eq_true]
        exact ⟨refs_up (by rw [List.length_append]; omega) hw, rfl⟩
      have el := elders_ap (st := s ++ [.lst []]) hw2 (p := p) (q := q) (r := r) (s := t) (by omega) (by omega) (by omega) f5 ps pq Pa.d
      have sC' : stC [some (.s ns), some (.r 0), x2, x3, x4, x5, some (.d (pr p q)), some (.r s.length), x8, x9, x10] (s ++ [.lst []]) = .nx [some (.s ns), some (.r 0), x2, x3, x4, x5, some (.d (pr p q)), some (.r (s.length + 1)), x8, x9, x10] (s ++ [.lst []] ++ [.lst ([(r, t), (p - r, q - t)].map prP)]) := by
        have c1 : decide (1 < q) = true := decide_eq_true (by omega)
        have lm : sListM (aCons (sCall F_l_elders (aCons (sVar 6) aNil)) aNil) [some (.s ns), some (.r 0), x2, x3, x4, x5, some (.d (pr p q)), some (.r s.length), x8, x9, x10] (s ++ [.lst []]) = .ok (.r (s.length + 1)) (s ++ [.lst []] ++ [.lst ([(r, t), (p - r, q - t)].map prP)]) := by
          unfold sListM
          simp only [aCons_ap, aNil_ap, sCall_ap, sVar_ap, List.getElem?_cons_succ, List.getElem?_cons_zero, varR_ap, bindR_ok, el, listL_t]
          rw [List.length_append]
          rfl
        unfold stC
        rw [bIf_ap]
        simp only [sBin_ap, sVar_ap, List.getElem?_cons_succ, List.getElem?_cons_zero, varR_ap, bindR_ok, sC_ap, ixD_t, at2_1, optR_some, cmpD_ii, c1, bindS_ok, ifS_t]
        rw [bSet_ap, lm, bindS_ok]
        rfl
      have h2 := h1.app P ([(r, t), (p - r, q - t)].map prP)
      have hj0 : (s ++ [.lst []] ++ [.lst ([(r, t), (p - r, q - t)].map prP)])[s.length + 1]? = some (.lst ([(r, t), (p - r, q - t)].map prP)) := by
        have e : s.length + 1 = (s ++ [Ob.lst []]).length := by rw [List.length_append]; rfl
        rw [e]
        exact get_end
      obtain ⟨k1, k2⟩ := cand_par g Pa
      by_cases q6 : q < 60
      · obtain ⟨c, y8, y9, s', c0, c2, h', hj, e⟩ := stD_one (x2 := x2) (x3 := x3) (x4 := x4) (x5 := x5) (x8 := x8) (x9 := x9) (x10 := x10) (x0 := none) (p := p) (q := q) (j := s.length + 1) (c0 := (r, t)) (C := [(p - r, q - t)]) (ns := ns) P h2 hn hN (by omega) hj0 (by simp) q6
        refine ⟨[(r, t), (p - r, q - t)] ++ [(r + c * p, t + c * q)], s.length + 1, N + 1, y8, y9, s', h', by omega, by omega, hj, by simp, by simp, fun z hz => ?_, ?_⟩
        · simp only [List.cons_append, List.nil_append, List.mem_cons, List.not_mem_nil, or_false] at hz
          rcases hz with rfl | rfl | rfl
          · exact k1
          · exact k2
          · exact cand_lin g Pa q6 c0 c2
        · rw [bSeq_ap, sB, seqR_nx, bSeq_ap, sC', seqR_nx, e]
      · have c6 : decide (q < 60) = false := decide_eq_false q6
        refine ⟨[(r, t), (p - r, q - t)], s.length + 1, N, x8, x9, _, h2, by omega, by omega, hj0, by simp, by simp, fun z hz => ?_, ?_⟩
        · simp only [List.mem_cons, List.not_mem_nil, or_false] at hz
          rcases hz with rfl | rfl
          · exact k1
          · exact k2
        · have sD : stD [some (.s ns), some (.r 0), x2, x3, x4, x5, some (.d (pr p q)), some (.r (s.length + 1)), x8, x9, x10] (s ++ [.lst []] ++ [.lst ([(r, t), (p - r, q - t)].map prP)]) = .nx [some (.s ns), some (.r 0), x2, x3, x4, x5, some (.d (pr p q)), some (.r (s.length + 1)), x8, x9, x10] (s ++ [.lst []] ++ [.lst ([(r, t), (p - r, q - t)].map prP)]) := by
            unfold stD
            rw [bIf_ap]
            simp only [sBin_ap, sVar_ap, List.getElem?_cons_succ, List.getElem?_cons_zero, varR_ap, bindR_ok, sC_ap, ixD_t, at2_1, optR_some, cmpD_ii, c6, bindS_ok, ifS_f, bNext_ap]
          rw [bSeq_ap, sB, seqR_nx, bSeq_ap, sC', seqR_nx, sD]
/-- one turn -/
theorem turn_ap17 {x3 x5 x6 x7 x8 x9 x10 : Option Sv} {x : Int × Int} {B : Int} {N : Nat} {s : Stt} {D : List (Int × Int)} (P : Pl S n m) (h : TS S n m k s N (D ++ [x])) (hn : ns.length ≤ 63) (hN : N < 7000) (g : Gd B x) (hB : 4 ≤ B) (hB2 : B ≤ 29) (hl : D.length ≤ 1000) :
    ∃ (y : Int × Int) (N' : Nat) (y6 y7 y8 y9 y10 : Option Sv) (s' : Stt), CandP B x y ∧ N' ≤ N + 3 ∧ TS S n m k s' N' (D ++ [x] ++ [y]) ∧
      turnS [some (.s ns), some (.r 0), some (.r n), x3, some (.r S.length), x5, x6, x7, x8, x9, x10] s = .nx [some (.s ns), some (.r 0), some (.r n), x3, some (.r S.length), x5, y6, y7, y8, y9, y10] s' := by
  obtain ⟨p, q⟩ := x
  have f := g.fr (by omega)
  have mp : (D ++ [(p, q)]).map prP = D.map prP ++ [pr p q] := by rw [List.map_append]; rfl
  have sA : stA [some (.s ns), some (.r 0), some (.r n), x3, some (.r S.length), x5, x6, x7, x8, x9, x10] s = .nx [some (.s ns), some (.r 0), some (.r n), x3, some (.r S.length), x5, some (.d (pr p q)), x7, x8, x9, x10] s := by
    have ix : ixD (.r S.length) (.d (.int (-1))) s = some (pr p q) := by
      unfold ixD
      simp only [h.tr, mp, atI_last]
    unfold stA
    simp only [bSet_ap, sBin_ap, sVar_ap, List.getElem?_cons_succ, List.getElem?_cons_zero, varR_ap, bindR_ok, sUn_ap, sC_ap, negD_i, optR_some, ix, bindS_ok]
    rfl
  obtain ⟨C, j, N1, y8, y9, s1, h1, hN1, hj, hC, c1, c2, hP, e⟩ := cands (x2 := some (.r n)) (x3 := x3) (x4 := some (.r S.length)) (x5 := x5) (x7 := x7) (x8 := x8) (x9 := x9) (x10 := x10) P h hn (by omega) g hB (by omega)
  obtain ⟨y, hy, pk⟩ := pick_s (ns := ns) h1.town hn (by omega) hC (by omega) c1 (by omega)
  obtain ⟨nb, gy⟩ := hP y hy
  have h2 := h1.setT P (N1 + 1)
  have fy : isFr (pr y.1 y.2) = true := gy.fr (by omega)
  have w2 := h2.w
  rw [mp] at w2
  have nbb : (p * y.2 - q * y.1 == 1 || p * y.2 - q * y.1 == -1) = true := by
    have nb' : p * y.2 - q * y.1 = 1 ∨ p * y.2 - q * y.1 = -1 := nb
    simpa using nb'
  have mv := move_ap (u := y.1) (v := y.2) w2 f fy nbb (by rw [List.length_map]; omega)
  have my : (D ++ [(p, q)] ++ [y]).map prP = D.map prP ++ [pr p q] ++ [pr y.1 y.2] := by rw [List.map_append, mp]; rfl
  rw [← my] at mv
  have iv := inv_ap (mt := "move") (F := F_m_move) (f := sVar 2) (fs := aCons (sVar 10) aNil) (env := [some (.s ns), some (.r 0), some (.r n), x3, some (.r S.length), x5, some (.d (pr p q)), some (.r j), y8, y9, some (.d (prP y))]) (st := s1.set 0 (zr (N1 + 1))) (xs := [.d (prP y)]) w2 (no_attr (by decide +kernel) (by decide +kernel)) rfl rfl
  have mv' : F_m_move [.r n, .d (prP y)] (s1.set 0 (zr (N1 + 1))) = .ok (.d (.int y.2)) ((s1.set 0 (zr (N1 + 1))).set m (.lst ((D ++ [(p, q)] ++ [y]).map prP))) := mv
  rw [mv'] at iv
  have h3 := h2.step P y
  refine ⟨y, N1 + 1, some (.d (pr p q)), some (.r j), y8, y9, some (.d (prP y)), _, ⟨nb, gy⟩, by omega, h3, ?_⟩
  have sE : stE [some (.s ns), some (.r 0), some (.r n), x3, some (.r S.length), x5, some (.d (pr p q)), some (.r j), y8, y9, x10] s1 = .nx [some (.s ns), some (.r 0), some (.r n), x3, some (.r S.length), x5, some (.d (pr p q)), some (.r j), y8, y9, some (.d (prP y))] (s1.set 0 (zr (N1 + 1))) := by
    unfold stE
    simp only [bSet_ap, sCall_ap, aCons_ap, aNil_ap, sVar_ap, List.getElem?_cons_succ, List.getElem?_cons_zero, varR_ap, bindR_ok, pk, bindS_ok]
    rfl
  have sF : stF [some (.s ns), some (.r 0), some (.r n), x3, some (.r S.length), x5, some (.d (pr p q)), some (.r j), y8, y9, some (.d (prP y))] (s1.set 0 (zr (N1 + 1))) = .nx [some (.s ns), some (.r 0), some (.r n), x3, some (.r S.length), x5, some (.d (pr p q)), some (.r j), y8, y9, some (.d (prP y))] ((s1.set 0 (zr (N1 + 1))).set m (.lst ((D ++ [(p, q)] ++ [y]).map prP))) := by
    have i1 : ∀ t, ixD (.d (prP y)) (.d (.int 1)) t = some (.int y.2) := fun t => rfl
    unfold stF
    rw [bIf_ap, sBin_ap, iv]
    simp only [i1, sBin_ap, sVar_ap, List.getElem?_cons_succ, List.getElem?_cons_zero, varR_ap, bindR_ok, sC_ap, ixD_t, at2_1, optR_some, neD_ii, beq_self_eq_true, Bool.not_true, bindS_ok, ifS_f, bNext_ap]
  have tr2 : ((s1.set 0 (zr (N1 + 1))).set m (.lst ((D ++ [(p, q)] ++ [y]).map prP)))[S.length]? = some (.lst ((D ++ [(p, q)]).map prP)) := by
    rw [List.getElem?_set_ne (by have := P.mS; omega)]
    exact h2.tr
  have sG : stG [some (.s ns), some (.r 0), some (.r n), x3, some (.r S.length), x5, some (.d (pr p q)), some (.r j), y8, y9, some (.d (prP y))] ((s1.set 0 (zr (N1 + 1))).set m (.lst ((D ++ [(p, q)] ++ [y]).map prP))) = .nx [some (.s ns), some (.r 0), some (.r n), x3, some (.r S.length), x5, some (.d (pr p q)), some (.r j), y8, y9, some (.d (prP y))] (((s1.set 0 (zr (N1 + 1))).set m (.lst ((D ++ [(p, q)] ++ [y]).map prP))).set S.length (.lst ((D ++ [(p, q)] ++ [y]).map prP))) := by
    have il := isLst_r tr2
    have ap := appR_r (d := prP y) tr2 (by rw [List.length_map, List.length_append]; simp; omega)
    have e1 : (D ++ [(p, q)]).map prP ++ [prP y] = (D ++ [(p, q)] ++ [y]).map prP := by rw [my, mp]; rfl
    rw [e1] at ap
    unfold stG
    rw [bDrop_ap, sMut_ap]
    simp only [sVar_ap, List.getElem?_cons_succ, List.getElem?_cons_zero, varR_ap, bindR_ok, il, if_true, ap, bindS_ok]
  have asc : turnS [some (.s ns), some (.r 0), some (.r n), x3, some (.r S.length), x5, x6, x7, x8, x9, x10] s = seqR (bSeq stB (bSeq stC stD) [some (.s ns), some (.r 0), some (.r n), x3, some (.r S.length), x5, some (.d (pr p q)), x7, x8, x9, x10] s) (bSeq stE (bSeq stF stG)) := by
    unfold turnS
    rw [bSeq_ap, sA, seqR_nx]
    simp only [bSeq_ap]
    generalize stB [some (.s ns), some (.r 0), some (.r n), x3, some (.r S.length), x5, some (.d (pr p q)), x7, x8, x9, x10] s = r1
    cases r1 with
    | nx e1 t1 =>
      simp only [seqR_nx, bSeq_ap]
      generalize stC e1 t1 = r2
      cases r2 with
      | nx e2 t2 => simp only [seqR_nx, bSeq_ap]
      | _ => rfl
    | _ => rfl
  rw [asc, e, seqR_nx, bSeq_ap, sE, seqR_nx, bSeq_ap, sF, seqR_nx]
  exact sG
theorem fo_st {x3 : Option Sv} (P : Pl S n m) (hn : ns.length ≤ 63) : ∀ (l : List D) (N : Nat) (s : Stt) (D : List (Int × Int)) (x : Int × Int) (B : Int) (x5 x6 x7 x8 x9 x10 : Option Sv), TS S n m k s N (D ++ [x]) → Gd B x → 4 ≤ B → B + l.length ≤ 29 → N + 3 * l.length ≤ 6000 → D.length + l.length ≤ 500 →
    ∃ (D' : List (Int × Int)) (x' : Int × Int) (X : List (Int × Int)) (N' : Nat) (s' : Stt) (y5 y6 y7 y8 y9 y10 : Option Sv), D' ++ [x'] = D ++ [x] ++ X ∧ X.length = l.length ∧ Gd (B + l.length) x' ∧ N' ≤ N + 3 * l.length ∧ TS S n m k s' N' (D' ++ [x']) ∧
      fo (gN 5) turnS l [some (.s ns), some (.r 0), some (.r n), x3, some (.r S.length), x5, x6, x7, x8, x9, x10] s = .nx [some (.s ns), some (.r 0), some (.r n), x3, some (.r S.length), y5, y6, y7, y8, y9, y10] s'
  | [], N, s, D, x, B, x5, x6, x7, x8, x9, x10, h, g, hB, hB2, hN, hD => ⟨D, x, [], N, s, x5, x6, x7, x8, x9, x10, by simp, rfl, by simpa using g, by simp, h, rfl⟩
  | z :: l, N, s, D, x, B, x5, x6, x7, x8, x9, x10, h, g, hB, hB2, hN, hD => by
    rw [List.length_cons] at hB2 hN hD
    obtain ⟨y, N1, y6, y7, y8, y9, y10, s1, c, hN1, h1, e⟩ := turn_ap17 (x3 := x3) (x5 := some (.d z)) (x6 := x6) (x7 := x7) (x8 := x8) (x9 := x9) (x10 := x10) P h hn (by omega) g hB (by omega) (by omega)
    obtain ⟨D', x', X, N', s', z5, z6, z7, z8, z9, z10, e1, e2, g', hN', h', e'⟩ := fo_st (x3 := x3) P hn l N1 s1 (D ++ [x]) y (B + 1) (some (.d z)) y6 y7 y8 y9 y10 h1 c.2 (by omega) (by omega) (by omega) (by rw [List.length_append]; simp; omega)
    refine ⟨D', x', y :: X, N', s', z5, z6, z7, z8, z9, z10, by rw [e1]; simp, by rw [List.length_cons, List.length_cons, e2], ?_, by rw [List.length_cons]; omega, h', ?_⟩
    · rw [List.length_cons, show B + ((l.length + 1 : Nat) : Int) = B + 1 + l.length by omega]
      exact g'
    · rw [fo_cons (e := [some (.s ns), some (.r 0), some (.r n), x3, some (.r S.length), some (.d z), x6, x7, x8, x9, x10]) rfl, e, seqR_nx]
      exact e'
theorem strolled_ap {x : Int × Int} {B : Int} {N : Nat} {D : List (Int × Int)} (P : Pl S n m) (hw : S.all (refsLt S.length) = true) (ht : S[0]? = some (zr N)) (w : IsW S n m ((D ++ [x]).map prP) k) (hn : ns.length ≤ 63) (hN : N < 5000) (g : Gd B x) (hB : 4 ≤ B) (hB2 : B ≤ 20) (hD : D.length ≤ 100) :
    ∃ (D' : List (Int × Int)) (x' : Int × Int) (X : List (Int × Int)) (N' : Nat), D' ++ [x'] = D ++ [x] ++ X ∧ 1 ≤ X.length ∧ X.length ≤ 6 ∧ Gd (B + 6) x' ∧ N' ≤ N + 30 ∧
      F_l_strolled [.s ns, .r 0, .r n, .d (.list ((D ++ [x]).map prP))] S = .ok (.d (.list ((D' ++ [x']).map prP))) ((S.set 0 (zr N')).set m (.lst ((D' ++ [x']).map prP))) := by
  have pn0 := P.n0
  have pm0 := P.m0
  have pn := P.nS
  have pm := P.mS
  have ga : ∀ i, i < S.length → (S ++ [Ob.lst ((D ++ [x]).map prP)])[i]? = S[i]? := fun i hi => List.getElem?_append_left hi
  have h0 : TS S n m k (S ++ [.lst ((D ++ [x]).map prP)]) N (D ++ [x]) := ⟨by rw [List.length_append]; simp, by rw [ga 0 (by omega)]; exact ht, ⟨by rw [ga n pn]; exact w.i, by rw [ga m pm]; exact w.l⟩, get_end, fun i hi _ _ => ga i hi, by rw [List.all_append, Bool.and_eq_true]; exact ⟨refs_up (by rw [List.length_append]; omega) hw, rfl⟩⟩
  have d := draw_s (ns := ns) (N := N) (m := 6) h0.town hn (by omega) (by decide)
  have v1 := mixV_nn ns (N + 1) (m := 6) (by decide)
  have v2 := mixV_lt ns (N + 1) (m := 6) (by decide)
  generalize mixV ns (N + 1) 6 = j at *
  have h1 := h0.setT P (N + 1)
  have ll := intsD_length 0 (1 + j).toNat
  obtain ⟨D', x', X, N', s', y5, y6, y7, y8, y9, y10, e1, e2, g', hN', h', e⟩ := fo_st (x3 := some (.d (.list ((D ++ [x]).map prP)))) P hn (intsD 0 (1 + j).toNat) (N + 1) _ D x B none none none none none none h1 g hB (by rw [ll]; omega) (by rw [ll]; omega) (by rw [ll]; omega)
  rw [ll] at e2 g' hN'
  refine ⟨D', x', X, N', e1, by omega, by omega, g'.mono (by omega), by omega, ?_⟩
  have s1 : bSet 4 (sListM (aCons (sVar 3) aNil)) [some (.s ns), some (.r 0), some (.r n), some (.d (.list ((D ++ [x]).map prP))), none, none, none, none, none, none, none] S = .nx [some (.s ns), some (.r 0), some (.r n), some (.d (.list ((D ++ [x]).map prP))), some (.r S.length), none, none, none, none, none, none] (S ++ [.lst ((D ++ [x]).map prP)]) := by
    have lm : sListM (aCons (sVar 3) aNil) [some (.s ns), some (.r 0), some (.r n), some (.d (.list ((D ++ [x]).map prP))), none, none, none, none, none, none, none] S = .ok (.r S.length) (S ++ [.lst ((D ++ [x]).map prP)]) := by
      unfold sListM
      simp only [aCons_ap, aNil_ap, sVar_ap, List.getElem?_cons_succ, List.getElem?_cons_zero, varR_ap, bindR_ok, listL_l]
    rw [bSet_ap, lm, bindS_ok]
    rfl
  have it : iRange1 (sBin addD (sC (.int 1)) (sCall F_l_draw (aCons (sVar 0) (aCons (sVar 1) (aCons (sC (.int 6)) aNil))))) [some (.s ns), some (.r 0), some (.r n), some (.d (.list ((D ++ [x]).map prP))), some (.r S.length), none, none, none, none, none, none] (S ++ [Ob.lst ((D ++ [x]).map prP)]) = .ok (intsD 0 (1 + j).toNat) ((S ++ [Ob.lst ((D ++ [x]).map prP)]).set 0 (zr (N + 1))) := iRange1_ap (j := 1 + j) (by
    simp only [sBin_ap, sCall_ap, aCons_ap, aNil_ap, sVar_ap, List.getElem?_cons_succ, List.getElem?_cons_zero, varR_ap, bindR_ok, sC_ap, d, addD_ii, optR_some]) (by omega) (by omega)
  have hB : B_l_strolled = bSeq (bSet 4 (sListM (aCons (sVar 3) aNil))) (bSeq (bFor (iRange1 (sBin addD (sC (.int 1)) (sCall F_l_draw (aCons (sVar 0) (aCons (sVar 1) (aCons (sC (.int 6)) aNil)))))) (gN 5) turnS) (bRet (sVar 4))) := rfl
  rw [l_strolled_in, hB, bSeq_ap, s1, seqR_nx, bSeq_ap, bFor_ap it, e, seqR_nx, bRet_ap]
  simp only [sVar_ap, List.getElem?_cons_succ, List.getElem?_cons_zero, varR_ap, bindS_ok, outR_rt]
  exact h'.out P hw
end
theorem back_no {s : Stt} {n m : Nat} {ds : List D} {k : Int} (h : IsW s n m ds k) (hk : (ds.length : Int) = k) : F_l_back [.r n] s = .ok (.d (raised 11)) s := by
  have c := undo_no h hk
  have iv := inv_ap (mt := "undo") (F := F_m_undo) (f := sVar 0) (fs := aNil) (env := [some (.r n), none]) (st := s) (xs := []) h (no_attr (by decide +kernel) (by decide +kernel)) rfl rfl
  rw [l_back_in]
  simp only [B_l_back, bTry_ap, bRet_ap]
  rw [iv, c]
  rfl
theorem backW_ap {s : Stt} {n m : Nat} {A : List (Int × Int)} {f e : Int × Int} {k : Int} (h : IsW s n m ((A ++ [f] ++ [e]).map prP) k) (hk : ¬ ((A.length + 2 : Nat) : Int) = k) :
    ∃ s', F_l_back [.r n] s = .ok (.d (prP f)) s' ∧ IsW s' n s.length ((A ++ [f]).map prP) k ∧ ∀ n2 m2 ds2 k2, n2 ≠ n → IsW s n2 m2 ds2 k2 → IsW s' n2 m2 ds2 k2 := by
  have mp : (A ++ [f] ++ [e]).map prP = A.map prP ++ [prP f] ++ [prP e] := by rw [List.map_append, List.map_append]; rfl
  have mp2 : (A ++ [f]).map prP = A.map prP ++ [prP f] := by rw [List.map_append]; rfl
  rw [mp] at h
  have c := undo_ap h (by rw [List.length_map]; exact hk)
  have iv := inv_ap (mt := "undo") (F := F_m_undo) (f := sVar 0) (fs := aNil) (env := [some (.r n), none]) (st := s) (xs := []) h (no_attr (by decide +kernel) (by decide +kernel)) rfl rfl
  have hn := lt_get h.i
  refine ⟨(s ++ [Ob.lst (A.map prP ++ [prP f])]).set n (wkO s.length k), ?_, ⟨List.getElem?_set_self (by rw [List.length_append]; omega), ?_⟩, fun n2 m2 ds2 k2 hne h2 => ?_⟩
  · rw [l_back_in]
    simp only [B_l_back, bTry_ap, bRet_ap]
    rw [iv, c]
    rfl
  · rw [List.getElem?_set_ne (by omega), mp2]
    exact get_end
  · have l1 := lt_get h2.i
    have l2 := lt_get h2.l
    have hm : m2 ≠ n := by
      rintro rfl
      have := h.i.symm.trans h2.l
      cases this
    exact ⟨by rw [List.getElem?_set_ne (by omega), List.getElem?_append_left l1]; exact h2.i, by rw [List.getElem?_set_ne (by omega), List.getElem?_append_left l2]; exact h2.l⟩
def itm (x : Int × Int) : List (Int × Int) → List (Int × Int)
  | [] => []
  | _ :: Z => Z ++ [x]
theorem fo_back {body : SX} {n n2 m2 : Nat} {k k2 : Int} {ds2 : List D} {x2 : Int × Int} {D2 : List (Int × Int)} (E : Option Sv → En) (hg : ∀ d y, gN 7 d (E y) = some (E (some (.d d))))
    (hb : ∀ s m A f e, IsW s n m ((A ++ [f] ++ [e]).map prP) k → ¬ ((A.length + 2 : Nat) : Int) = k → IsW s n2 m2 ds2 k2 → ∃ s' m', body (E (some (.d (prP f)))) s = .nx (E (some (.d (prP f)))) s' ∧ IsW s' n m' ((A ++ [f]).map prP) k ∧ IsW s' n2 m2 ds2 k2) (hk : k ≤ D2.length + 1) :
    ∀ (Z : List (Int × Int)) (s : Stt) (m : Nat) (y : Option Sv), IsW s n m ((D2 ++ [x2] ++ Z.reverse).map prP) k → IsW s n2 m2 ds2 k2 → ∃ y' s' m', fo (gN 7) body ((itm x2 Z).map prP) (E y) s = .nx (E y') s' ∧ IsW s' n m' ((D2 ++ [x2]).map prP) k ∧ IsW s' n2 m2 ds2 k2
  | [], s, m, y, h, h2 => ⟨y, s, m, rfl, by simpa using h, h2⟩
  | [e], s, m, y, h, h2 => by
    obtain ⟨s', m', e1, h', h2'⟩ := hb s m D2 x2 e h (by omega) h2
    refine ⟨some (.d (prP x2)), s', m', ?_, h', h2'⟩
    show fo (gN 7) body [prP x2] (E y) s = _
    rw [fo_cons (hg _ _), e1, seqR_nx]
    rfl
  | e :: f :: Z, s, m, y, h, h2 => by
    have rv : D2 ++ [x2] ++ (e :: f :: Z).reverse = (D2 ++ [x2] ++ Z.reverse) ++ [f] ++ [e] := by simp
    rw [rv] at h
    obtain ⟨s', m', e1, h', h2'⟩ := hb s m (D2 ++ [x2] ++ Z.reverse) f e h (by rw [List.length_append, List.length_append]; simp; omega) h2
    have rv2 : (D2 ++ [x2] ++ Z.reverse) ++ [f] = D2 ++ [x2] ++ (f :: Z).reverse := by simp
    rw [rv2] at h'
    obtain ⟨y', s2, m2', e2, h3, h4⟩ := fo_back (n := n) (n2 := n2) E hg hb hk (f :: Z) s' m' (some (.d (prP f))) h' h2'
    refine ⟨y', s2, m2', ?_, h3, h4⟩
    show fo (gN 7) body (prP f :: (itm x2 (f :: Z)).map prP) (E y) s = _
    rw [fo_cons (hg _ _), e1, seqR_nx]
    exact e2
theorem itm_rev (x : Int × Int) (Z : List (Int × Int)) : ((x :: Z.reverse).dropLast).reverse = itm x Z := by
  cases Z with
  | nil => rfl
  | cons e Z =>
    rw [List.reverse_cons, ← List.cons_append, List.dropLast_concat, List.reverse_cons, List.reverse_reverse]
    rfl
theorem cut_mid {α : Type} (xs : List α) (j : Nat) (hj : j ≤ xs.length) : cutA xs (some (j : Int)) (some (-1)) = (xs.dropLast).drop j := by
  have e : HT.sIx xs.length xs.length (some (-1)) = xs.length - 1 := by
    show (if (-1 : Int) < 0 then ((-1 : Int) + (xs.length : Int)).toNat else min (-1 : Int).toNat xs.length) = _
    rw [if_pos (by decide)]
    omega
  unfold cutA
  rw [e, HT.sIx_nat, Nat.min_eq_left hj, List.dropLast_eq_take, List.drop_take]
theorem sEqI_ap {s : Stt} {n m n2 m2 : Nat} {ds : List D} {k k2 : Int} {env : En} {st : Stt} {f g : EX} (h : IsW s n m ds k) (h2 : IsW s n2 m2 ds k2) (hl : plA 2 ds = true) (e1 : f env st = .ok (.r n) s) (e2 : g env s = .ok (.r n2) s) : sEqI 13 F_m_eq f g env st = .ok (.d (.bool true)) s := by
  unfold sEqI
  rw [e1, bindR_ok, e2, bindR_ok]
  simp only [insAt_w h, insAt_w h2, eqW_ap h h2 hl rfl]
theorem sf_3 (ns : List Int) (z : Nat) {m : Int} (h : 0 < m) : (sfF ns z m).2 = 0 ∨ ((sfF ns z m).1 ≤ 4 * (sfF ns z m).2 ∧ -(4 * (sfF ns z m).2) ≤ (sfF ns z m).1) := by
  unfold sfF
  split
  · exact .inl rfl
  · right
    have q1 := (sfQ_bd ns z h).1
    obtain ⟨b1, b2⟩ := sfP_bd ns z h
    have g0 := gcd_pos (p := sfP ns z m) (q := sfQ ns z m) (by omega)
    have e1 := lowP_mul (p := sfP ns z m) (q := sfQ ns z m)
    have e2 := lowQ_mul (p := sfP ns z m) (q := sfQ ns z m)
    have q0 := lowQ_pos (p := sfP ns z m) (q := sfQ ns z m) (by omega)
    dsimp only
    generalize lowP (sfP ns z m) (sfQ ns z m) = P at *
    generalize lowQ (sfP ns z m) (sfQ ns z m) = Q at *
    generalize ((Int.gcd (sfP ns z m) (sfQ ns z m) : Nat) : Int) = G at *
    have a1 : P ≤ 3 * Q := Int.le_of_mul_le_mul_right (a := G) (by rw [Int.mul_assoc]; omega) g0
    have a2 : -(3 * Q) ≤ P := Int.le_of_mul_le_mul_right (a := G) (by rw [Int.neg_mul, Int.mul_assoc]; omega) g0
    omega
theorem path_iv {s : Stt} {n m : Nat} {ds : List D} {k : Int} {env : En} {f : EX} (h : IsW s n m ds k) (e : f env s = .ok (.r n) s) : sInv 13 "path" F_m_path f aNil env s = .ok (.d (.list ds)) s := by
  have iv := inv_ap (mt := "path") (F := F_m_path) (f := f) (fs := aNil) (env := env) (st := s) (xs := []) h (no_attr (by decide +kernel) (by decide +kernel)) e rfl
  rw [path_ap h] at iv
  exact iv
def bd1 : SX := (bIf (sBin neD (sCall F_l_back (aCons (sVar 5) aNil)) (sVar 7))
  (bRet (sC (.bool false)))
  bNext)
def bd2 : SX := (bIf (sOr (sBin neD (sCall F_l_back (aCons (sVar 3) aNil)) (sVar 7)) (sBin neD (sInv 13 "place" F_m_place (sVar 3) aNil) (sVar 7)))
  (bRet (sC (.bool false)))
  bNext)
theorem bd1_ap {x0 x1 x2 x3 x4 x6 : Option Sv} {n n2 m2 : Nat} {k k2 : Int} {ds2 : List D} (hne : n2 ≠ n) (s : Stt) (m : Nat) (A : List (Int × Int)) (f e : Int × Int) (h : IsW s n m ((A ++ [f] ++ [e]).map prP) k) (hk : ¬ ((A.length + 2 : Nat) : Int) = k) (h2 : IsW s n2 m2 ds2 k2) :
    ∃ s' m', bd1 [x0, x1, x2, x3, x4, some (.r n), x6, some (.d (prP f))] s = .nx [x0, x1, x2, x3, x4, some (.r n), x6, some (.d (prP f))] s' ∧ IsW s' n m' ((A ++ [f]).map prP) k ∧ IsW s' n2 m2 ds2 k2 := by
  obtain ⟨s', e1, h', h3⟩ := backW_ap h hk
  refine ⟨s', _, ?_, h', h3 _ _ _ _ hne h2⟩
  have q : neD (.d (prP f)) (.d (prP f)) s' = some (.bool false) := neD_same (n := 2) rfl
  unfold bd1
  rw [bIf_ap, sBin_ap]
  simp only [sCall_ap, aCons_ap, aNil_ap, sVar_ap, List.getElem?_cons_succ, List.getElem?_cons_zero, varR_ap, bindR_ok, e1, q, optR_some, bindS_ok, ifS_f, bNext_ap]
theorem bd2_ap {x0 x1 x2 x4 x5 x6 : Option Sv} {n n2 m2 : Nat} {k k2 : Int} {ds2 : List D} (hne : n2 ≠ n) (s : Stt) (m : Nat) (A : List (Int × Int)) (f e : Int × Int) (h : IsW s n m ((A ++ [f] ++ [e]).map prP) k) (hk : ¬ ((A.length + 2 : Nat) : Int) = k) (h2 : IsW s n2 m2 ds2 k2) :
    ∃ s' m', bd2 [x0, x1, x2, some (.r n), x4, x5, x6, some (.d (prP f))] s = .nx [x0, x1, x2, some (.r n), x4, x5, x6, some (.d (prP f))] s' ∧ IsW s' n m' ((A ++ [f]).map prP) k ∧ IsW s' n2 m2 ds2 k2 := by
  obtain ⟨s', e1, h', h3⟩ := backW_ap h hk
  refine ⟨s', _, ?_, h', h3 _ _ _ _ hne h2⟩
  have q : neD (.d (prP f)) (.d (prP f)) s' = some (.bool false) := neD_same (n := 2) rfl
  have hp : (A ++ [f]).map prP = A.map prP ++ [prP f] := by rw [List.map_append]; rfl
  have iv := inv_ap (mt := "place") (F := F_m_place) (f := sVar 3) (fs := aNil) (env := [x0, x1, x2, some (.r n), x4, x5, x6, some (.d (prP f))]) (st := s') (xs := []) h' (no_attr (by decide +kernel) (by decide +kernel)) rfl rfl
  have pa : F_m_place [.r n] s' = .ok (.d (prP f)) s' := place_ap (by rw [← hp]; exact h')
  rw [pa] at iv
  unfold bd2
  rw [bIf_ap, sOr_ap]
  simp only [sBin_ap, sCall_ap, aCons_ap, aNil_ap, sVar_ap, List.getElem?_cons_succ, List.getElem?_cons_zero, varR_ap, bindR_ok, e1, q, optR_some, ifB_f, iv, bindS_ok, ifS_f, bNext_ap]
theorem k17_run (ns : List Int) (h : ns.length ≤ 63) : okT (B_law [some (.s ns), none, none, none, none, none, none, none] []) = true := by
  have e1 := sf_z (m := 20) (s := []) 0 h (by decide) (by decide) (by decide)
  have f1 := (sf_ok ns 0 (m := 20) (by decide))
  have n1 := sfN_le ns 0
  rw [Nat.zero_add] at e1
  have s3 := sf_3 ns 0 (m := 20) (by decide)
  generalize sfF ns 0 20 = a at e1 f1 s3
  generalize sfN ns 0 = M at e1 n1
  obtain ⟨p, q⟩ := a
  simp only at e1 f1 s3
  have f := f1.fr (by decide) (by decide)
  have q1 := f1.qm

  have g : Gd 4 (p, q) := ⟨nrm_of f, by show q ≤ 180; omega, s3⟩
  have s0 : B_law_s0 [some (.s ns), none, none, none, none, none, none, none] [] = .nx [some (.s ns), some (.r 0), none, none, none, none, none, none] [zr 0] := rfl
  have s1 : B_law_s1 [some (.s ns), some (.r 0), none, none, none, none, none, none] [zr 0] = .nx [some (.s ns), some (.r 0), some (.d (pr p q)), none, none, none, none, none] [zr M] := by
    simp [B_law_s1, e1]
  have s2 : B_law_s2 [some (.s ns), some (.r 0), some (.d (pr p q)), none, none, none, none, none] [zr M] = .nx [some (.s ns), some (.r 0), some (.d (pr p q)), some (.r 1), none, none, none, none] [zr M, wkO 2 1, .lst [pr p q]] := by
    unfold B_law_s2
    rw [bSet_ap, new_ap (s := [zr M]) f rfl, bindS_ok]
    rfl
  obtain ⟨D2, x2, X, N1, eX, lX1, lX2, g2, hN1, st1⟩ := strolled_ap (S := [zr M, wkO 2 1, .lst [pr p q]]) (n := 1) (m := 2) (k := 1) (ns := ns) (N := M) (D := []) (x := (p, q)) ⟨by decide, by decide, by show 1 < 3; decide, by show 2 < 3; decide⟩ rfl rfl ⟨rfl, rfl⟩ h (by omega) g (by decide) (by decide) (by decide)
  rw [List.nil_append] at eX st1
  have lD2 : D2.length = X.length := by
    have := congrArg List.length eX
    simpa using this
  have st1' : F_l_strolled [.s ns, .r 0, .r 1, .d (.list [pr p q])] [zr M, wkO 2 1, .lst [pr p q]] = .ok (.d (.list ((D2 ++ [x2]).map prP))) [zr N1, wkO 2 1, .lst ((D2 ++ [x2]).map prP)] := st1
  generalize hL1 : D2 ++ [x2] = L1 at eX st1'
  have lL1 : L1.length = D2.length + 1 := by rw [← hL1, List.length_append]; rfl
  have s3' : B_law_s3 [some (.s ns), some (.r 0), some (.d (pr p q)), some (.r 1), none, none, none, none] [zr M, wkO 2 1, .lst [pr p q]] = .nx [some (.s ns), some (.r 0), some (.d (pr p q)), some (.r 1), some (.d (.list (L1.map prP))), none, none, none] [zr N1, wkO 2 1, .lst (L1.map prP)] := by
    unfold B_law_s3
    simp only [bSet_ap, sCall_ap, aCons_ap, aNil_ap, sVar_ap, List.getElem?_cons_succ, List.getElem?_cons_zero, varR_ap, bindR_ok, sLst_ap, lstD_1, optR_some, st1', bindS_ok]
    rfl
  have i1 : IsW [zr N1, wkO 2 1, .lst (L1.map prP)] 1 2 (L1.map prP) 1 := ⟨rfl, rfl⟩
  have eL1 : L1.map prP = pr p q :: X.map prP := by rw [eX, List.map_append]; rfl
  have dp := dup_ap (s := [zr N1, wkO 2 1, .lst (L1.map prP)]) (n := 1) (m := 2) (k := 1) (ds := X.map prP) (by rw [← eL1]; exact i1) f
  rw [← eL1, List.length_map] at dp
  obtain ⟨c, hc⟩ : ∃ c : Int, c = ((X.length + 1 : Nat) : Int) := ⟨_, rfl⟩
  rw [← hc] at dp
  have dp' : F_m_duplicate [.r 1] [zr N1, wkO 2 1, .lst (L1.map prP)] = .ok (.r 3) [zr N1, wkO 2 1, .lst (L1.map prP), wkO 5 c, .lst [pr p q], .lst (L1.map prP)] := dp
  have ivd := inv_ap (mt := "duplicate") (F := F_m_duplicate) (f := sVar 3) (fs := aNil) (env := [some (.s ns), some (.r 0), some (.d (pr p q)), some (.r 1), some (.d (.list (L1.map prP))), none, none, none]) (st := [zr N1, wkO 2 1, .lst (L1.map prP)]) (xs := []) i1 (no_attr (by decide +kernel) (by decide +kernel)) rfl rfl
  rw [dp'] at ivd
  have s4 : B_law_s4 [some (.s ns), some (.r 0), some (.d (pr p q)), some (.r 1), some (.d (.list (L1.map prP))), none, none, none] [zr N1, wkO 2 1, .lst (L1.map prP)] = .nx [some (.s ns), some (.r 0), some (.d (pr p q)), some (.r 1), some (.d (.list (L1.map prP))), some (.r 3), none, none] [zr N1, wkO 2 1, .lst (L1.map prP), wkO 5 c, .lst [pr p q], .lst (L1.map prP)] := by
    unfold B_law_s4
    rw [bSet_ap, ivd, bindS_ok]
    rfl
  have i2 : IsW [zr N1, wkO 2 1, .lst (L1.map prP), wkO 5 c, .lst [pr p q], .lst (L1.map prP)] 1 2 (L1.map prP) 1 := ⟨rfl, rfl⟩
  have i3 : IsW [zr N1, wkO 2 1, .lst (L1.map prP), wkO 5 c, .lst [pr p q], .lst (L1.map prP)] 3 5 (L1.map prP) c := ⟨rfl, rfl⟩
  have hk : ((L1.map prP).length : Int) = c := by rw [List.length_map, hc]; omega
  have s5 : B_law_s5 [some (.s ns), some (.r 0), some (.d (pr p q)), some (.r 1), some (.d (.list (L1.map prP))), some (.r 3), none, none] [zr N1, wkO 2 1, .lst (L1.map prP), wkO 5 c, .lst [pr p q], .lst (L1.map prP)] = .nx [some (.s ns), some (.r 0), some (.d (pr p q)), some (.r 1), some (.d (.list (L1.map prP))), some (.r 3), none, none] [zr N1, wkO 2 1, .lst (L1.map prP), wkO 5 c, .lst [pr p q], .lst (L1.map prP)] := by
    have q0 : isND (.d (.list (L1.map prP))) (.d .none) [zr N1, wkO 2 1, .lst (L1.map prP), wkO 5 c, .lst [pr p q], .lst (L1.map prP)] = some (.bool false) := rfl
    have q1 : neD (.d (.list (L1.map prP))) (.d (.list (L1.map prP))) [zr N1, wkO 2 1, .lst (L1.map prP), wkO 5 c, .lst [pr p q], .lst (L1.map prP)] = some (.bool false) := neD_same (n := 3) (plL _)
    have q2 : neD (.d (raised 11)) (.d (.tuple [.str "raised", .int 11])) [zr N1, wkO 2 1, .lst (L1.map prP), wkO 5 c, .lst [pr p q], .lst (L1.map prP)] = some (.bool false) := neD_same (n := 2) (raised_pl 11)
    have bk := back_no i3 hk
    have eq := sEqI_ap (f := sVar 5) (g := sVar 3) (env := [some (.s ns), some (.r 0), some (.d (pr p q)), some (.r 1), some (.d (.list (L1.map prP))), some (.r 3), none, none]) (st := [zr N1, wkO 2 1, .lst (L1.map prP), wkO 5 c, .lst [pr p q], .lst (L1.map prP)]) i3 i2 (plP _) rfl rfl
    have pv := path_iv (f := sVar 5) (env := [some (.s ns), some (.r 0), some (.d (pr p q)), some (.r 1), some (.d (.list (L1.map prP))), some (.r 3), none, none]) i3 rfl
    unfold B_law_s5
    rw [bIf_ap, sOr_ap]
    simp only [sBin_ap, sVar_ap, List.getElem?_cons_succ, List.getElem?_cons_zero, varR_ap, bindR_ok, sC_ap, q0, optR_some, ifB_f, sOr_ap, sNot_ap]
    rw [eq]
    simp only [bindR_ok, notB_b, Bool.not_true, ifB_f]
    rw [pv]
    simp only [bindR_ok, q1, optR_some, ifB_f, sCall_ap, aCons_ap, aNil_ap, sVar_ap, List.getElem?_cons_succ, List.getElem?_cons_zero, varR_ap, bk, sTup_ap, sC_ap, tupD_2, q2, bindS_ok, ifS_f, bNext_ap]
  obtain ⟨D3, x3, Y, N2, eY, lY1, lY2, g3, hN2, st2⟩ := strolled_ap (S := [zr N1, wkO 2 1, .lst (L1.map prP), wkO 5 c, .lst [pr p q], .lst (L1.map prP)]) (n := 3) (m := 5) (k := c) (ns := ns) (N := N1) (D := D2) (x := x2) ⟨by decide, by show 0 < 5; decide, by show 3 < 6; decide, by show 5 < 6; decide⟩ rfl rfl (by rw [hL1]; exact i3) h (by omega) g2 (by decide) (by decide) (by omega)
  rw [hL1] at eY st2
  have st2' : F_l_strolled [.s ns, .r 0, .r 3, .d (.list (L1.map prP))] [zr N1, wkO 2 1, .lst (L1.map prP), wkO 5 c, .lst [pr p q], .lst (L1.map prP)] = .ok (.d (.list ((D3 ++ [x3]).map prP))) [zr N2, wkO 2 1, .lst (L1.map prP), wkO 5 c, .lst [pr p q], .lst ((D3 ++ [x3]).map prP)] := st2
  generalize hL2 : D3 ++ [x3] = L2 at eY st2'
  have s6 : B_law_s6 [some (.s ns), some (.r 0), some (.d (pr p q)), some (.r 1), some (.d (.list (L1.map prP))), some (.r 3), none, none] [zr N1, wkO 2 1, .lst (L1.map prP), wkO 5 c, .lst [pr p q], .lst (L1.map prP)] = .nx [some (.s ns), some (.r 0), some (.d (pr p q)), some (.r 1), some (.d (.list (L1.map prP))), some (.r 3), some (.d (.list (L2.map prP))), none] [zr N2, wkO 2 1, .lst (L1.map prP), wkO 5 c, .lst [pr p q], .lst (L2.map prP)] := by
    unfold B_law_s6
    simp only [bSet_ap, sCall_ap, aCons_ap, aNil_ap, sVar_ap, List.getElem?_cons_succ, List.getElem?_cons_zero, varR_ap, bindR_ok, st2', bindS_ok]
    rfl
  have j2 : IsW [zr N2, wkO 2 1, .lst (L1.map prP), wkO 5 c, .lst [pr p q], .lst (L2.map prP)] 1 2 (L1.map prP) 1 := ⟨rfl, rfl⟩
  have j3 : IsW [zr N2, wkO 2 1, .lst (L1.map prP), wkO 5 c, .lst [pr p q], .lst (L2.map prP)] 3 5 (L2.map prP) c := ⟨rfl, rfl⟩
  have s7 : B_law_s7 [some (.s ns), some (.r 0), some (.d (pr p q)), some (.r 1), some (.d (.list (L1.map prP))), some (.r 3), some (.d (.list (L2.map prP))), none] [zr N2, wkO 2 1, .lst (L1.map prP), wkO 5 c, .lst [pr p q], .lst (L2.map prP)] = .nx [some (.s ns), some (.r 0), some (.d (pr p q)), some (.r 1), some (.d (.list (L1.map prP))), some (.r 3), some (.d (.list (L2.map prP))), none] [zr N2, wkO 2 1, .lst (L1.map prP), wkO 5 c, .lst [pr p q], .lst (L2.map prP)] := by
    have q0 : isND (.d (.list (L2.map prP))) (.d .none) [zr N2, wkO 2 1, .lst (L1.map prP), wkO 5 c, .lst [pr p q], .lst (L2.map prP)] = some (.bool false) := rfl
    have q1 : neD (.d (.list (L2.map prP))) (.d (.list (L2.map prP))) [zr N2, wkO 2 1, .lst (L1.map prP), wkO 5 c, .lst [pr p q], .lst (L2.map prP)] = some (.bool false) := neD_same (n := 3) (plL _)
    have q2 : neD (.d (.list (L1.map prP))) (.d (.list (L1.map prP))) [zr N2, wkO 2 1, .lst (L1.map prP), wkO 5 c, .lst [pr p q], .lst (L2.map prP)] = some (.bool false) := neD_same (n := 3) (plL _)
    have pv := path_iv (f := sVar 5) (env := [some (.s ns), some (.r 0), some (.d (pr p q)), some (.r 1), some (.d (.list (L1.map prP))), some (.r 3), some (.d (.list (L2.map prP))), none]) j3 rfl
    have pv2 := path_iv (f := sVar 3) (env := [some (.s ns), some (.r 0), some (.d (pr p q)), some (.r 1), some (.d (.list (L1.map prP))), some (.r 3), some (.d (.list (L2.map prP))), none]) j2 rfl
    unfold B_law_s7
    rw [bIf_ap, sOr_ap]
    simp only [sBin_ap, sVar_ap, List.getElem?_cons_succ, List.getElem?_cons_zero, varR_ap, bindR_ok, sC_ap, q0, optR_some, ifB_f, sOr_ap]
    rw [pv]
    simp only [bindR_ok, q1, optR_some, ifB_f]
    rw [pv2]
    simp only [bindR_ok, q2, optR_some, bindS_ok, ifS_f, bNext_ap]
  have rY : L2 = D2 ++ [x2] ++ Y.reverse.reverse := by rw [List.reverse_reverse, eY, hL1]
  obtain ⟨y7, s', m', lp1, k1, k2⟩ := fo_back (body := bd1) (n := 3) (n2 := 1) (m2 := 2) (k := c) (k2 := 1) (ds2 := L1.map prP) (x2 := x2) (D2 := D2) (fun y => [some (.s ns), some (.r 0), some (.d (pr p q)), some (.r 1), some (.d (.list (L1.map prP))), some (.r 3), some (.d (.list (L2.map prP))), y]) (fun d y => rfl) (fun s m A f e h1 h2 h3 => bd1_ap (by decide) s m A f e h1 h2 h3) (by omega) Y.reverse [zr N2, wkO 2 1, .lst (L1.map prP), wkO 5 c, .lst [pr p q], .lst (L2.map prP)] 5 none (by rw [← rY]; exact j3) j2
  have it1 : iSeq (sUn revD (sSl (sVar 6) (oSome (sBin subD (sCB lenD (aCons (sVar 4) aNil)) (sC (.int 1)))) (oSome (sUn negD (sC (.int 1)))))) [some (.s ns), some (.r 0), some (.d (pr p q)), some (.r 1), some (.d (.list (L1.map prP))), some (.r 3), some (.d (.list (L2.map prP))), none] [zr N2, wkO 2 1, .lst (L1.map prP), wkO 5 c, .lst [pr p q], .lst (L2.map prP)] = .ok ((itm x2 Y.reverse).map prP) [zr N2, wkO 2 1, .lst (L1.map prP), wkO 5 c, .lst [pr p q], .lst (L2.map prP)] := by
    have ln : lenD [.d (.list (L1.map prP))] [zr N2, wkO 2 1, .lst (L1.map prP), wkO 5 c, .lst [pr p q], .lst (L2.map prP)] = some (.int (L1.map prP).length) := rfl
    have e : (((L1.map prP).length : Nat) : Int) - 1 = ((D2.length : Nat) : Int) := by rw [List.length_map]; omega
    have cm := cut_mid (L2.map prP) D2.length (by rw [List.length_map, rY]; simp)
    have di : (L2.map prP).dropLast.drop D2.length = ((x2 :: Y.reverse.reverse).dropLast).map prP := by
      rw [rY, ← List.map_dropLast, ← List.map_drop, List.append_assoc, List.dropLast_append_of_ne_nil (by simp), List.drop_append_of_le_length (Nat.le_refl _), List.drop_length, List.nil_append]
      rfl
    have rv : (((x2 :: Y.reverse.reverse).dropLast).map prP).reverse = (itm x2 Y.reverse).map prP := by rw [← List.map_reverse, itm_rev]
    refine iSeq_ap ?_
    simp only [sUn_ap, sSl_ap, oSome_ap, sBin_ap, sCB_ap, aCons_ap, aNil_ap, sVar_ap, List.getElem?_cons_succ, List.getElem?_cons_zero, varR_ap, bindR_ok, ln, optR_some, sC_ap, subD_ii, e, intO_i, negD_i, slD_l, cm, di, revD_l, rv]
  have s8 : B_law_s8 [some (.s ns), some (.r 0), some (.d (pr p q)), some (.r 1), some (.d (.list (L1.map prP))), some (.r 3), some (.d (.list (L2.map prP))), none] [zr N2, wkO 2 1, .lst (L1.map prP), wkO 5 c, .lst [pr p q], .lst (L2.map prP)] = .nx [some (.s ns), some (.r 0), some (.d (pr p q)), some (.r 1), some (.d (.list (L1.map prP))), some (.r 3), some (.d (.list (L2.map prP))), y7] s' := by
    show bFor _ (gN 7) bd1 _ _ = _
    rw [bFor_ap it1]
    exact lp1
  rw [hL1] at k1
  have s9 : B_law_s9 [some (.s ns), some (.r 0), some (.d (pr p q)), some (.r 1), some (.d (.list (L1.map prP))), some (.r 3), some (.d (.list (L2.map prP))), y7] s' = .nx [some (.s ns), some (.r 0), some (.d (pr p q)), some (.r 1), some (.d (.list (L1.map prP))), some (.r 3), some (.d (.list (L2.map prP))), y7] s' := by
    have q1 : neD (.d (.list (L1.map prP))) (.d (.list (L1.map prP))) s' = some (.bool false) := neD_same (n := 3) (plL _)
    have q2 : neD (.d (raised 11)) (.d (.tuple [.str "raised", .int 11])) s' = some (.bool false) := neD_same (n := 2) (raised_pl 11)
    have bk := back_no k1 hk
    have pv := path_iv (f := sVar 5) (env := [some (.s ns), some (.r 0), some (.d (pr p q)), some (.r 1), some (.d (.list (L1.map prP))), some (.r 3), some (.d (.list (L2.map prP))), y7]) k1 rfl
    unfold B_law_s9
    rw [bIf_ap, sOr_ap]
    simp only [sBin_ap, sCall_ap, aCons_ap, aNil_ap, sVar_ap, List.getElem?_cons_succ, List.getElem?_cons_zero, varR_ap, bindR_ok, bk, sTup_ap, sC_ap, tupD_2, optR_some, q2, ifB_f]
    rw [pv]
    simp only [bindR_ok, q1, optR_some, bindS_ok, ifS_f, bNext_ap]
  have rX : L1 = [] ++ [(p, q)] ++ X.reverse.reverse := by rw [List.reverse_reverse, eX]; rfl
  obtain ⟨z7, s'', m'', lp2, l1, l2⟩ := fo_back (body := bd2) (n := 1) (n2 := 3) (m2 := m') (k := 1) (k2 := c) (ds2 := L1.map prP) (x2 := (p, q)) (D2 := []) (fun y => [some (.s ns), some (.r 0), some (.d (pr p q)), some (.r 1), some (.d (.list (L1.map prP))), some (.r 3), some (.d (.list (L2.map prP))), y]) (fun d y => rfl) (fun s m A f e h1 h2 h3 => bd2_ap (by decide) s m A f e h1 h2 h3) (by decide) X.reverse s' 2 y7 (by rw [← rX]; exact k2) k1
  have it2 : iSeq (sUn revD (sSl (sVar 4) oNone (oSome (sUn negD (sC (.int 1)))))) [some (.s ns), some (.r 0), some (.d (pr p q)), some (.r 1), some (.d (.list (L1.map prP))), some (.r 3), some (.d (.list (L2.map prP))), y7] s' = .ok ((itm (p, q) X.reverse).map prP) s' := by
    have cm : cutA (L1.map prP) none (some (-1)) = (((p, q) :: X.reverse.reverse).dropLast).map prP := by
      rw [cut_init, rX, ← List.map_dropLast]
      rfl
    have rv : ((((p, q) :: X.reverse.reverse).dropLast).map prP).reverse = (itm (p, q) X.reverse).map prP := by rw [← List.map_reverse, itm_rev]
    refine iSeq_ap ?_
    simp only [sUn_ap, sSl_ap, oSome_ap, oNone_ap, sVar_ap, List.getElem?_cons_succ, List.getElem?_cons_zero, varR_ap, bindR_ok, optR_some, sC_ap, intO_i, negD_i, slD_l, cm, revD_l, rv]
  have s10 : B_law_s10 [some (.s ns), some (.r 0), some (.d (pr p q)), some (.r 1), some (.d (.list (L1.map prP))), some (.r 3), some (.d (.list (L2.map prP))), y7] s' = .nx [some (.s ns), some (.r 0), some (.d (pr p q)), some (.r 1), some (.d (.list (L1.map prP))), some (.r 3), some (.d (.list (L2.map prP))), z7] s'' := by
    show bFor _ (gN 7) bd2 _ _ = _
    rw [bFor_ap it2]
    exact lp2
  have s11 : okT (B_law_s11 [some (.s ns), some (.r 0), some (.d (pr p q)), some (.r 1), some (.d (.list (L1.map prP))), some (.r 3), some (.d (.list (L2.map prP))), z7] s'') = true := by
    have l1' : IsW s'' 1 m'' [pr p q] 1 := l1
    have q1 : eqD (.d (.list (L1.map prP))) (.d (.list (L1.map prP))) s'' = some (.bool true) := eqD_same (n := 3) (plL _)
    have q2 : eqD (.d (raised 11)) (.d (.tuple [.str "raised", .int 11])) s'' = some (.bool true) := eqD_same (n := 2) (raised_pl 11)
    have q3 : eqD (.d (.list [pr p q])) (.d (.list [pr p q])) s'' = some (.bool true) := eqD_same (n := 3) (plL [(p, q)])
    have bk := back_no l1' rfl
    have pv := path_iv (f := sVar 3) (env := [some (.s ns), some (.r 0), some (.d (pr p q)), some (.r 1), some (.d (.list (L1.map prP))), some (.r 3), some (.d (.list (L2.map prP))), z7]) l1' rfl
    have pv2 := path_iv (f := sVar 5) (env := [some (.s ns), some (.r 0), some (.d (pr p q)), some (.r 1), some (.d (.list (L1.map prP))), some (.r 3), some (.d (.list (L2.map prP))), z7]) l2 rfl
    unfold B_law_s11
    rw [bRet_ap, sAnd_ap]
    simp only [sBin_ap, sCall_ap, aCons_ap, aNil_ap, sVar_ap, List.getElem?_cons_succ, List.getElem?_cons_zero, varR_ap, bindR_ok, bk, sTup_ap, sC_ap, tupD_2, optR_some, q2, ifB_t, sAnd_ap]
    rw [pv]
    simp only [bindR_ok, sLst_ap, aCons_ap, aNil_ap, sVar_ap, List.getElem?_cons_succ, List.getElem?_cons_zero, varR_ap, lstD_1, optR_some, q3, ifB_t]
    rw [pv2]
    simp only [bindR_ok, q1, optR_some]
    rfl
  rw [B_law_eq]
  show okT (bSeq B_law_s0 (bSeq B_law_s1 (bSeq B_law_s2 (bSeq B_law_s3 (bSeq B_law_s4 (bSeq B_law_s5 (bSeq B_law_s6 (bSeq B_law_s7 (bSeq B_law_s8 (bSeq B_law_s9 (bSeq B_law_s10 B_law_s11)))))))))) _ _) = true
  rw [bSeq_ap, s0, seqR_nx, bSeq_ap, s1, seqR_nx, bSeq_ap, s2, seqR_nx, bSeq_ap, s3', seqR_nx, bSeq_ap, s4, seqR_nx, bSeq_ap, s5, seqR_nx, bSeq_ap, s6, seqR_nx, bSeq_ap, s7, seqR_nx, bSeq_ap, s8, seqR_nx, bSeq_ap, s9, seqR_nx, bSeq_ap, s10, seqR_nx]
  exact s11
theorem h_law : Hok 8 1 B_law F_law := by
  apply law_hok
  intro ns h
  exact okT_out (k17_run ns h)
end DL

namespace DL
open PySem PySem.Spec PyProof.Rows L2
def topS (i : Nat) : Stmt := PySem.Challenge.pw_fracgraph_k17_whole_walkers_undone.main.body.getD i (.Pass ⟨0, 0, 0, 0⟩)
abbrev N_p_is_integer : List Str := (["value", "low", "high"] : List Str)
theorem sc_p_is_integer : FnScope N_p_is_integer (["value", "low", "high"] : List Str) (defScope (topS 18)) := ⟨rfl, rfl, rfl, by decide +kernel, rfl, by decide +kernel, by decide +kernel⟩
abbrev N_p_common_divisor : List Str := (["one", "other"] : List Str)
theorem sc_p_common_divisor : FnScope N_p_common_divisor (["one", "other"] : List Str) (defScope (topS 19)) := ⟨rfl, rfl, rfl, by decide +kernel, rfl, by decide +kernel, by decide +kernel⟩
abbrev N_p_cross : List Str := (["one", "other"] : List Str)
theorem sc_p_cross : FnScope N_p_cross (["one", "other"] : List Str) (defScope (topS 23)) := ⟨rfl, rfl, rfl, by decide +kernel, rfl, by decide +kernel, by decide +kernel⟩
abbrev N_m_place : List Str := (["self"] : List Str)
theorem sc_m_place : FnScope N_m_place (["self"] : List Str) (defScope (inClass (topS 28) 3)) := ⟨rfl, rfl, rfl, by decide +kernel, rfl, by decide +kernel, by decide +kernel⟩
abbrev N_m_path : List Str := (["self"] : List Str)
theorem sc_m_path : FnScope N_m_path (["self"] : List Str) (defScope (inClass (topS 28) 4)) := ⟨rfl, rfl, rfl, by decide +kernel, rfl, by decide +kernel, by decide +kernel⟩
abbrev N_m_undo : List Str := (["self"] : List Str)
theorem sc_m_undo : FnScope N_m_undo (["self"] : List Str) (defScope (inClass (topS 28) 6)) := ⟨rfl, rfl, rfl, by decide +kernel, rfl, by decide +kernel, by decide +kernel⟩
abbrev N_m_eq : List Str := (["self", "other"] : List Str)
theorem sc_m_eq : FnScope N_m_eq (["self", "other"] : List Str) (defScope (inClass (topS 28) 8)) := ⟨rfl, rfl, rfl, by decide +kernel, rfl, by decide +kernel, by decide +kernel⟩
abbrev N_l_cell_at : List Str := (["_law_script", "_law_k", "_law_spare", "_law_again"] : List Str)
theorem sc_l_cell_at : FnScope N_l_cell_at (["_law_script", "_law_k"] : List Str) (defScope (topS 30)) := ⟨rfl, rfl, rfl, by decide +kernel, rfl, by decide +kernel, by decide +kernel⟩
abbrev N_l_common : List Str := (["_law_one", "_law_other"] : List Str)
theorem sc_l_common : FnScope N_l_common (["_law_one", "_law_other"] : List Str) (defScope (topS 33)) := ⟨rfl, rfl, rfl, by decide +kernel, rfl, by decide +kernel, by decide +kernel⟩
abbrev N_l_which : List Str := (["_law_e", "_law_own"] : List Str)
theorem sc_l_which : FnScope N_l_which (["_law_e"] : List Str) (defScope (topS 36)) := ⟨rfl, rfl, rfl, by decide +kernel, rfl, by decide +kernel, by decide +kernel⟩
abbrev N_l_turn : List Str := (["_law_one", "_law_other"] : List Str)
theorem sc_l_turn : FnScope N_l_turn (["_law_one", "_law_other"] : List Str) (defScope (topS 38)) := ⟨rfl, rfl, rfl, by decide +kernel, rfl, by decide +kernel, by decide +kernel⟩
abbrev N_p_is_reduced : List Str := (["value", "limit"] : List Str)
theorem sc_p_is_reduced : FnScope N_p_is_reduced (["value", "limit"] : List Str) (defScope (topS 20)) := ⟨rfl, rfl, rfl, by decide +kernel, rfl, by decide +kernel, by decide +kernel⟩
abbrev N_p_beside : List Str := (["one", "other"] : List Str)
theorem sc_p_beside : FnScope N_p_beside (["one", "other"] : List Str) (defScope (topS 24)) := ⟨rfl, rfl, rfl, by decide +kernel, rfl, by decide +kernel, by decide +kernel⟩
abbrev N_l_mixed : List Str := (["_law_script", "_law_k", "_law_many", "_law_spun"] : List Str)
theorem sc_l_mixed : FnScope N_l_mixed (["_law_script", "_law_k", "_law_many"] : List Str) (defScope (topS 31)) := ⟨rfl, rfl, rfl, by decide +kernel, rfl, by decide +kernel, by decide +kernel⟩
abbrev N_l_lowest_terms : List Str := (["_law_p", "_law_q", "_law_many"] : List Str)
theorem sc_l_lowest_terms : FnScope N_l_lowest_terms (["_law_p", "_law_q"] : List Str) (defScope (topS 34)) := ⟨rfl, rfl, rfl, by decide +kernel, rfl, by decide +kernel, by decide +kernel⟩
abbrev N_l_near_each : List Str := (["_law_one", "_law_other"] : List Str)
theorem sc_l_near_each : FnScope N_l_near_each (["_law_one", "_law_other"] : List Str) (defScope (topS 39)) := ⟨rfl, rfl, rfl, by decide +kernel, rfl, by decide +kernel, by decide +kernel⟩
abbrev N_l_fall : List Str := (["_law_low", "_law_high"] : List Str)
theorem sc_l_fall : FnScope N_l_fall (["_law_low", "_law_high"] : List Str) (defScope (topS 40)) := ⟨rfl, rfl, rfl, by decide +kernel, rfl, by decide +kernel, by decide +kernel⟩
abbrev N_l_back : List Str := (["_law_w", "_law_e"] : List Str)
theorem sc_l_back : FnScope N_l_back (["_law_w"] : List Str) (defScope (topS 43)) := ⟨rfl, rfl, rfl, by decide +kernel, rfl, by decide +kernel, by decide +kernel⟩
abbrev N_p_is_fraction : List Str := (["value"] : List Str)
theorem sc_p_is_fraction : FnScope N_p_is_fraction (["value"] : List Str) (defScope (topS 21)) := ⟨rfl, rfl, rfl, by decide +kernel, rfl, by decide +kernel, by decide +kernel⟩
abbrev N_l_draw : List Str := (["_law_script", "_law_town", "_law_many"] : List Str)
theorem sc_l_draw : FnScope N_l_draw (["_law_script", "_law_town", "_law_many"] : List Str) (defScope (topS 32)) := ⟨rfl, rfl, rfl, by decide +kernel, rfl, by decide +kernel, by decide +kernel⟩
abbrev N_l_elders : List Str := (["_law_point", "_law_made", "_law_s", "_law_r"] : List Str)
theorem sc_l_elders : FnScope N_l_elders (["_law_point"] : List Str) (defScope (topS 41)) := ⟨rfl, rfl, rfl, by decide +kernel, rfl, by decide +kernel, by decide +kernel⟩
abbrev N_p_check_fraction : List Str := (["fraction"] : List Str)
theorem sc_p_check_fraction : FnScope N_p_check_fraction (["fraction"] : List Str) (defScope (topS 22)) := ⟨rfl, rfl, rfl, by decide +kernel, rfl, by decide +kernel, by decide +kernel⟩
abbrev N_l_some_fraction : List Str := (["_law_script", "_law_town", "_law_most", "_law_q"] : List Str)
theorem sc_l_some_fraction : FnScope N_l_some_fraction (["_law_script", "_law_town", "_law_most"] : List Str) (defScope (topS 35)) := ⟨rfl, rfl, rfl, by decide +kernel, rfl, by decide +kernel, by decide +kernel⟩
abbrev N_l_pick : List Str := (["_law_script", "_law_town", "_law_some"] : List Str)
theorem sc_l_pick : FnScope N_l_pick (["_law_script", "_law_town", "_law_some"] : List Str) (defScope (topS 37)) := ⟨rfl, rfl, rfl, by decide +kernel, rfl, by decide +kernel, by decide +kernel⟩
abbrev N_m_init : List Str := (["self", "fraction"] : List Str)
theorem sc_m_init : FnScope N_m_init (["self", "fraction"] : List Str) (defScope (inClass (topS 28) 0)) := ⟨rfl, rfl, rfl, by decide +kernel, rfl, by decide +kernel, by decide +kernel⟩
abbrev N_m_move : List Str := (["self", "fraction"] : List Str)
theorem sc_m_move : FnScope N_m_move (["self", "fraction"] : List Str) (defScope (inClass (topS 28) 1)) := ⟨rfl, rfl, rfl, by decide +kernel, rfl, by decide +kernel, by decide +kernel⟩
abbrev N_l_strolled : List Str := (["_law_script", "_law_town", "_law_walker", "_law_begun", "_law_trail", "_law_again", "_law_here", "_law_some", "_law_more", "_law_one", "_law_point"] : List Str)
theorem sc_l_strolled : FnScope N_l_strolled (["_law_script", "_law_town", "_law_walker", "_law_begun"] : List Str) (defScope (topS 42)) := ⟨rfl, rfl, rfl, by decide +kernel, rfl, by decide +kernel, by decide +kernel⟩
abbrev N_m_duplicate : List Str := (["self", "other"] : List Str)
theorem sc_m_duplicate : FnScope N_m_duplicate (["self"] : List Str) (defScope (inClass (topS 28) 7)) := ⟨rfl, rfl, rfl, by decide +kernel, rfl, by decide +kernel, by decide +kernel⟩
abbrev N_law : List Str := (["_law_script", "_law_town", "_law_own", "_law_w", "_law_trail", "_law_twin", "_law_more", "_law_point"] : List Str)
theorem sc_law : FnScope N_law (["_law_script"] : List Str) (defScope (topS 44)) := ⟨rfl, rfl, rfl, by decide +kernel, rfl, by decide +kernel, by decide +kernel⟩
structure Tx (K : PySem.W.Frag) (mg : Str → Option Value) (ca : Nat → Addr) where
  p_is_integer : FnT K mg "is_integer" (topS 18) (["value", "low", "high"] : List Str)
  p_common_divisor : FnT K mg "common_divisor" (topS 19) (["one", "other"] : List Str)
  p_cross : FnT K mg "cross" (topS 23) (["one", "other"] : List Str)
  m_place : MtT K (ca 13) "place" "Walker.place" (inClass (topS 28) 3) (["self"] : List Str)
  m_path : MtT K (ca 13) "path" "Walker.path" (inClass (topS 28) 4) (["self"] : List Str)
  m_undo : MtT K (ca 13) "undo" "Walker.undo" (inClass (topS 28) 6) (["self"] : List Str)
  m_eq : MtT K (ca 13) "__eq__" "Walker.__eq__" (inClass (topS 28) 8) (["self", "other"] : List Str)
  l_cell_at : FnT K mg "_law_cell_at" (topS 30) (["_law_script", "_law_k"] : List Str)
  l_common : FnT K mg "_law_common" (topS 33) (["_law_one", "_law_other"] : List Str)
  l_which : FnT K mg "_law_which" (topS 36) (["_law_e"] : List Str)
  l_turn : FnT K mg "_law_turn" (topS 38) (["_law_one", "_law_other"] : List Str)
  p_is_reduced : FnT K mg "is_reduced" (topS 20) (["value", "limit"] : List Str)
  p_beside : FnT K mg "beside" (topS 24) (["one", "other"] : List Str)
  l_mixed : FnT K mg "_law_mixed" (topS 31) (["_law_script", "_law_k", "_law_many"] : List Str)
  l_lowest_terms : FnT K mg "_law_lowest_terms" (topS 34) (["_law_p", "_law_q"] : List Str)
  l_near_each : FnT K mg "_law_near_each" (topS 39) (["_law_one", "_law_other"] : List Str)
  l_fall : FnT K mg "_law_fall" (topS 40) (["_law_low", "_law_high"] : List Str)
  l_back : FnT K mg "_law_back" (topS 43) (["_law_w"] : List Str)
  p_is_fraction : FnT K mg "is_fraction" (topS 21) (["value"] : List Str)
  l_draw : FnT K mg "_law_draw" (topS 32) (["_law_script", "_law_town", "_law_many"] : List Str)
  l_elders : FnT K mg "_law_elders" (topS 41) (["_law_point"] : List Str)
  p_check_fraction : FnT K mg "check_fraction" (topS 22) (["fraction"] : List Str)
  l_some_fraction : FnT K mg "_law_some_fraction" (topS 35) (["_law_script", "_law_town", "_law_most"] : List Str)
  l_pick : FnT K mg "_law_pick" (topS 37) (["_law_script", "_law_town", "_law_some"] : List Str)
  m_init : MtT K (ca 13) "__init__" "Walker.__init__" (inClass (topS 28) 0) (["self", "fraction"] : List Str)
  m_move : MtT K (ca 13) "move" "Walker.move" (inClass (topS 28) 1) (["self", "fraction"] : List Str)
  l_strolled : FnT K mg "_law_strolled" (topS 42) (["_law_script", "_law_town", "_law_walker", "_law_begun"] : List Str)
  m_duplicate : MtT K (ca 13) "duplicate" "Walker.duplicate" (inClass (topS 28) 7) (["self"] : List Str)
  law : FnT K mg "law" (topS 44) (["_law_script"] : List Str)
  Walker : ClT K mg "Walker" (ca 13)
  Walker_is : C8.InsC K (ca 13)
  InvalidFraction : ExT K mg "InvalidFraction" (ca 0)
  InvalidWord : ExT K mg "InvalidWord" (ca 1)
  InvalidExpansion : ExT K mg "InvalidExpansion" (ca 2)
  InvalidNumber : ExT K mg "InvalidNumber" (ca 3)
  InvalidMatrix : ExT K mg "InvalidMatrix" (ca 4)
  NotNeighbours : ExT K mg "NotNeighbours" (ca 5)
  NoParents : ExT K mg "NoParents" (ca 6)
  NotAbove : ExT K mg "NotAbove" (ca 7)
  IsTop : ExT K mg "IsTop" (ca 8)
  Equal : ExT K mg "Equal" (ca 9)
  TooLarge : ExT K mg "TooLarge" (ca 10)
  NothingToUndo : ExT K mg "NothingToUndo" (ca 11)
  ParseError : ExT K mg "ParseError" (ca 12)
  FractionError : mg "FractionError" = some (.ref (ca 14))
  xf : ExF K ca
  LARGEST : Gl1 K mg "LARGEST" (.int 9999)
  n_ValueError : mg "ValueError" = none
  n_bool : mg "bool" = none
  n_int : mg "int" = none
  n_isinstance : mg "isinstance" = none
  n_len : mg "len" = none
  n_list : mg "list" = none
  n_max : mg "max" = none
  n_min : mg "min" = none
  n_range : mg "range" = none
  n_tuple : mg "tuple" = none
section
variable {P : Program} {w : World} {K : PySem.W.Frag} {mg : Str → Option Value} {base : Heap} {ca : Nat → Addr}
theorem ok_p_is_integer (T : Tx K mg ca) : FnOk P w K mg base (L2.CX P w) 1 T.p_is_integer.f T.p_is_integer.fd (["value", "low", "high"] : List Str) (spF K ca F_p_is_integer) := by
  refine def_ok T.p_is_integer.F sc_p_is_integer h_p_is_integer fun cdv A outer s H E hr => ?_
  have nd := sc_p_is_integer.nd
  exact (ms_one (ms_ret (m_and (m_isi "int" T.n_isinstance T.n_int (m_var 0)) (m_and (m_not (m_isi "bool" T.n_isinstance T.n_bool (m_var 0))) (m_one (m_chain op_le op_le (os_cmp _) (os_cmp _) (m_var 1) (m_var 0) (m_var 2)))))))
theorem ok_p_common_divisor (T : Tx K mg ca) : FnOk P w K mg base (L2.CX P w) 1 T.p_common_divisor.f T.p_common_divisor.fd (["one", "other"] : List Str) (spF K ca F_p_common_divisor) := by
  refine def_ok T.p_common_divisor.F sc_p_common_divisor h_p_common_divisor fun cdv A outer s H E hr => ?_
  have nd := sc_p_common_divisor.nd
  exact (ms_cons (ms_par 0 1 rfl nd (m_callB (call_max2 rfl) cs_max2 T.n_max (by decide +kernel) (ma_cons (m_var 0) (ma_cons (m_op op_sub os_sub m_int (m_var 0)) ma_nil))) (m_callB (call_max2 rfl) cs_max2 T.n_max (by decide +kernel) (ma_cons (m_var 1) (ma_cons (m_op op_sub os_sub m_int (m_var 1)) ma_nil))))
  (ms_cons (ms_while (passes_of rfl) (mt_cmp op_gt (os_cmp _) (m_var 1) m_int (nomark _))
  (ms_one (ms_par 0 1 rfl nd (m_var 1) (m_op op_mod os_mod (m_var 0) (m_var 1)))))
  (ms_one (ms_ret (m_var 0)))))
theorem ok_p_cross (T : Tx K mg ca) : FnOk P w K mg base (L2.CX P w) 1 T.p_cross.f T.p_cross.fd (["one", "other"] : List Str) (spF K ca F_p_cross) := by
  refine def_ok T.p_cross.F sc_p_cross h_p_cross fun cdv A outer s H E hr => ?_
  have nd := sc_p_cross.nd
  exact (ms_one (ms_ret (m_op op_sub os_sub (m_op op_mul os_mul (m_ix ix_lt os_ix (m_var 0) m_int (fun _ _ => rfl)) (m_ix ix_lt os_ix (m_var 1) m_int (fun _ _ => rfl))) (m_op op_mul os_mul (m_ix ix_lt os_ix (m_var 0) m_int (fun _ _ => rfl)) (m_ix ix_lt os_ix (m_var 1) m_int (fun _ _ => rfl))))))
theorem ok_m_place (T : Tx K mg ca) : FnOk P w K mg base (L2.CX P w) 1 T.m_place.f T.m_place.fd (["self"] : List Str) (spF K ca F_m_place) := by
  refine def_ok T.m_place.F sc_m_place h_m_place fun cdv A outer s H E hr => ?_
  have nd := sc_m_place.nd
  exact (ms_one (ms_ret (m_ix ix_lt os_ix (m_fld 13 T.Walker.cl T.Walker.nP (m_var 0)) (m_un un_neg us_neg m_int) (fun _ _ => rfl))))
theorem ok_m_path (T : Tx K mg ca) : FnOk P w K mg base (L2.CX P w) 1 T.m_path.f T.m_path.fd (["self"] : List Str) (spF K ca F_m_path) := by
  refine def_ok T.m_path.F sc_m_path h_m_path fun cdv A outer s H E hr => ?_
  have nd := sc_m_path.nd
  exact (ms_one (ms_ret (m_callTy call_list_of cs_list T.n_list (by decide +kernel) (ma_cons (m_fld 13 T.Walker.cl T.Walker.nP (m_var 0)) ma_nil))))
theorem ok_m_undo (T : Tx K mg ca) : FnOk P w K mg base (L2.CX P w) 1 T.m_undo.f T.m_undo.fd (["self"] : List Str) (spF K ca F_m_undo) := by
  refine def_ok T.m_undo.F sc_m_undo h_m_undo fun cdv A outer s H E hr => ?_
  have nd := sc_m_undo.nd
  exact (ms_cons (ms_if (mt_cmp (op_eqD hr.units) os_eq (m_callB call_len cs_len T.n_len (by decide +kernel) (ma_cons (m_fld 13 T.Walker.cl T.Walker.nP (m_var 0)) ma_nil)) (m_fld 13 T.Walker.cl T.Walker.nK (m_var 0)) (nomark _))
  (ms_one (ms_raise 11 rfl (takes_of rfl rfl rfl rfl) T.NothingToUndo.x T.NothingToUndo.g T.NothingToUndo.k (T.NothingToUndo.r rfl)))
  ms_nil)
  (ms_cons (ms_fld 13 T.Walker.cl T.Walker.nP (m_var 0) (m_sliceM (m_fld 13 T.Walker.cl T.Walker.nP (m_var 0)) mo_none (mo_some (m_un un_neg us_neg m_int))))
  (ms_one (ms_ret (m_ix ix_lt os_ix (m_fld 13 T.Walker.cl T.Walker.nP (m_var 0)) (m_un un_neg us_neg m_int) (fun _ _ => rfl))))))
theorem ok_m_eq (T : Tx K mg ca) : FnOk P w K mg base (L2.CX P w) 1 T.m_eq.f T.m_eq.fd (["self", "other"] : List Str) (spF K ca F_m_eq) := by
  refine def_ok T.m_eq.F sc_m_eq h_m_eq fun cdv A outer s H E hr => ?_
  have nd := sc_m_eq.nd
  exact (ms_one (ms_ret (m_and (m_isC 13 T.Walker_is T.n_isinstance T.Walker.g (m_var 1)) (m_one (m_cmp (op_eqD hr.units) os_eq (m_fld 13 T.Walker.cl T.Walker.nP (m_var 0)) (m_fld 13 T.Walker.cl T.Walker.nP (m_var 1)) (nomark _))))))
theorem ok_l_cell_at (T : Tx K mg ca) : FnOk P w K mg base (L2.CX P w) 1 T.l_cell_at.f T.l_cell_at.fd (["_law_script", "_law_k"] : List Str) (spF K ca F_l_cell_at) := by
  refine def_ok T.l_cell_at.F sc_l_cell_at h_l_cell_at fun cdv A outer s H E hr => ?_
  have nd := sc_l_cell_at.nd
  exact (ms_cons (ms_if (mt_cmp op_lt (os_cmp _) (m_var 1) (m_callB call_len cs_len T.n_len (by decide +kernel) (ma_cons (m_var 0) ma_nil)) (nomark _))
  (ms_one (ms_ret (m_ix ix_lt os_ix (m_var 0) (m_var 1) (fun _ _ => rfl))))
  ms_nil)
  (ms_cons (ms_if (mt_cmp (op_eqD hr.units) os_eq (m_var 0) (m_lst ma_nil) (nomark _))
  (ms_one (ms_ret m_int))
  ms_nil)
  (ms_cons (ms_set 2 nd (m_ix ix_lt os_ix (m_var 0) (m_op op_mod os_mod (m_var 1) (m_callB call_len cs_len T.n_len (by decide +kernel) (ma_cons (m_var 0) ma_nil))) (fun _ _ => rfl)))
  (ms_cons (ms_for (passes_of rfl) rfl (mi_range1 T.n_range (m_callB (call_min2 rfl) cs_min2 T.n_min (by decide +kernel) (ma_cons (m_op op_fdiv os_fdiv (m_var 1) (m_callB call_len cs_len T.n_len (by decide +kernel) (ma_cons (m_var 0) ma_nil))) (ma_cons m_int ma_nil)))) (mg_name 3 nd)
  (ms_one (ms_set 2 nd (m_op op_fdiv os_fdiv (m_var 2) m_int))))
  (ms_one (ms_ret (m_op op_add4 os_add (m_op op_add4 os_add (m_op op_mul os_mul (m_ix ix_lt os_ix (m_var 0) (m_op op_mod os_mod (m_var 1) (m_callB call_len cs_len T.n_len (by decide +kernel) (ma_cons (m_var 0) ma_nil))) (fun _ _ => rfl)) m_int) (m_var 1)) (m_op op_mul os_mul (m_var 2) m_int))))))))
theorem ok_l_common (T : Tx K mg ca) : FnOk P w K mg base (L2.CX P w) 1 T.l_common.f T.l_common.fd (["_law_one", "_law_other"] : List Str) (spF K ca F_l_common) := by
  refine def_ok T.l_common.F sc_l_common h_l_common fun cdv A outer s H E hr => ?_
  have nd := sc_l_common.nd
  exact (ms_cons (ms_par 0 1 rfl nd (m_callB (call_max2 rfl) cs_max2 T.n_max (by decide +kernel) (ma_cons (m_var 0) (ma_cons (m_op op_sub os_sub m_int (m_var 0)) ma_nil))) (m_callB (call_max2 rfl) cs_max2 T.n_max (by decide +kernel) (ma_cons (m_var 1) (ma_cons (m_op op_sub os_sub m_int (m_var 1)) ma_nil))))
  (ms_cons (ms_while (passes_of rfl) (mt_cmp op_gt (os_cmp _) (m_var 1) m_int (nomark _))
  (ms_one (ms_par 0 1 rfl nd (m_var 1) (m_op op_mod os_mod (m_var 0) (m_var 1)))))
  (ms_one (ms_ret (m_var 0)))))
theorem ok_l_which (T : Tx K mg ca) : FnE P w K mg base ca 1 T.l_which.f T.l_which.fd (["_law_e"] : List Str) F_l_which := by
  refine def_okE T.l_which.F sc_l_which h_l_which fun cdv A outer s H E a oe c hc hr hz hf => ?_
  have hp := List.mem_singleton.mpr (rfl : (a, oe) = (a, oe))
  have nd := sc_l_which.nd
  exact (ms_cons (ms_set 1 nd (m_lstM (ma_cons (m_isE (T.xf.cls c hc) hp hz hf (T.xf.one c 0 hc (by decide)) T.n_isinstance T.InvalidFraction.g (m_var 0)) (ma_cons (m_isE (T.xf.cls c hc) hp hz hf (T.xf.one c 1 hc (by decide)) T.n_isinstance T.InvalidWord.g (m_var 0)) (ma_cons (m_isE (T.xf.cls c hc) hp hz hf (T.xf.one c 2 hc (by decide)) T.n_isinstance T.InvalidExpansion.g (m_var 0)) ma_nil)))))
  (ms_cons (ms_expr (m_extend (m_var 1) (m_lst (ma_cons (m_isE (T.xf.cls c hc) hp hz hf (T.xf.one c 3 hc (by decide)) T.n_isinstance T.InvalidNumber.g (m_var 0)) (ma_cons (m_isE (T.xf.cls c hc) hp hz hf (T.xf.one c 4 hc (by decide)) T.n_isinstance T.InvalidMatrix.g (m_var 0)) (ma_cons (m_isE (T.xf.cls c hc) hp hz hf (T.xf.one c 5 hc (by decide)) T.n_isinstance T.NotNeighbours.g (m_var 0)) ma_nil))))))
  (ms_cons (ms_expr (m_extend (m_var 1) (m_lst (ma_cons (m_isE (T.xf.cls c hc) hp hz hf (T.xf.one c 6 hc (by decide)) T.n_isinstance T.NoParents.g (m_var 0)) (ma_cons (m_isE (T.xf.cls c hc) hp hz hf (T.xf.one c 7 hc (by decide)) T.n_isinstance T.NotAbove.g (m_var 0)) (ma_cons (m_isE (T.xf.cls c hc) hp hz hf (T.xf.one c 8 hc (by decide)) T.n_isinstance T.IsTop.g (m_var 0)) (ma_cons (m_isE (T.xf.cls c hc) hp hz hf (T.xf.one c 9 hc (by decide)) T.n_isinstance T.Equal.g (m_var 0)) ma_nil)))))))
  (ms_cons (ms_expr (m_extend (m_var 1) (m_lst (ma_cons (m_isE (T.xf.cls c hc) hp hz hf (T.xf.one c 10 hc (by decide)) T.n_isinstance T.TooLarge.g (m_var 0)) (ma_cons (m_isE (T.xf.cls c hc) hp hz hf (T.xf.one c 11 hc (by decide)) T.n_isinstance T.NothingToUndo.g (m_var 0)) (ma_cons (m_isE (T.xf.cls c hc) hp hz hf (T.xf.one c 12 hc (by decide)) T.n_isinstance T.ParseError.g (m_var 0)) ma_nil))))))
  (ms_cons (ms_if (PW.pt (mw_or (mt_cmp (op_neD hr.units) os_ne (m_countB (m_var 1) m_bl) m_int (nomark _)) (mw_or1 (mt_not (mt_val (m_isV (T.xf.cls c hc) hp hz hf (T.xf.val c hc) T.n_isinstance T.n_ValueError (m_var 0)))))))
  (ms_one (ms_ret (m_tup (ma_cons m_str (ma_cons (m_un un_neg us_neg m_int) ma_nil)))))
  ms_nil)
  (ms_one (ms_ret (m_tup (ma_cons m_str (ma_cons (m_indexB (m_var 1) m_bl) ma_nil))))))))))
theorem ok_l_turn (T : Tx K mg ca) : FnOk P w K mg base (L2.CX P w) 1 T.l_turn.f T.l_turn.fd (["_law_one", "_law_other"] : List Str) (spF K ca F_l_turn) := by
  refine def_ok T.l_turn.F sc_l_turn h_l_turn fun cdv A outer s H E hr => ?_
  have nd := sc_l_turn.nd
  exact (ms_one (ms_ret (m_op op_sub os_sub (m_op op_mul os_mul (m_ix ix_lt os_ix (m_var 0) m_int (fun _ _ => rfl)) (m_ix ix_lt os_ix (m_var 1) m_int (fun _ _ => rfl))) (m_op op_mul os_mul (m_ix ix_lt os_ix (m_var 0) m_int (fun _ _ => rfl)) (m_ix ix_lt os_ix (m_var 1) m_int (fun _ _ => rfl))))))
theorem ok_p_is_reduced (T : Tx K mg ca) : FnOk P w K mg base (L2.CX P w) 2 T.p_is_reduced.f T.p_is_reduced.fd (["value", "limit"] : List Str) (spF K ca F_p_is_reduced) := by
  refine def_ok T.p_is_reduced.F sc_p_is_reduced h_p_is_reduced fun cdv A outer s H E hr => ?_
  have nd := sc_p_is_reduced.nd
  exact (ms_cons (ms_if (PW.pt (mw_or (mt_not (mt_val (m_isi "tuple" T.n_isinstance T.n_tuple (m_var 0)))) (mw_or1 (mt_cmp (op_neD hr.units) os_ne (m_callB call_len cs_len T.n_len (by decide +kernel) (ma_cons (m_var 0) ma_nil)) m_int (nomark _)))))
  (ms_one (ms_ret m_bl))
  ms_nil)
  (ms_cons (ms_if (PW.pt (mw_or (mt_not (mt_val (m_call (ok_p_is_integer T) (hr.mono (by decide)) T.p_is_integer.g T.p_is_integer.F.kp T.p_is_integer.b (takes_of rfl rfl rfl rfl) (ma_cons (m_ix ix_lt os_ix (m_var 0) m_int (fun _ _ => rfl)) (ma_cons (m_op op_sub os_sub m_int (m_var 1)) (ma_cons (m_var 1) ma_nil)))))) (mw_or1 (mt_not (mt_val (m_call (ok_p_is_integer T) (hr.mono (by decide)) T.p_is_integer.g T.p_is_integer.F.kp T.p_is_integer.b (takes_of rfl rfl rfl rfl) (ma_cons (m_ix ix_lt os_ix (m_var 0) m_int (fun _ _ => rfl)) (ma_cons m_int (ma_cons (m_var 1) ma_nil)))))))))
  (ms_one (ms_ret m_bl))
  ms_nil)
  (ms_one (ms_ret (m_and (m_cmp (op_eqD hr.units) os_eq (m_call (ok_p_common_divisor T) (hr.mono (by decide)) T.p_common_divisor.g T.p_common_divisor.F.kp T.p_common_divisor.b (takes_of rfl rfl rfl rfl) (ma_cons (m_ix ix_lt os_ix (m_var 0) m_int (fun _ _ => rfl)) (ma_cons (m_ix ix_lt os_ix (m_var 0) m_int (fun _ _ => rfl)) ma_nil))) m_int (nomark _)) (m_one (m_or (m_cmp op_gt (os_cmp _) (m_ix ix_lt os_ix (m_var 0) m_int (fun _ _ => rfl)) m_int (nomark _)) (m_one (m_cmp (op_eqD hr.units) os_eq (m_ix ix_lt os_ix (m_var 0) m_int (fun _ _ => rfl)) m_int (nomark _))))))))))
theorem ok_p_beside (T : Tx K mg ca) : FnOk P w K mg base (L2.CX P w) 2 T.p_beside.f T.p_beside.fd (["one", "other"] : List Str) (spF K ca F_p_beside) := by
  refine def_ok T.p_beside.F sc_p_beside h_p_beside fun cdv A outer s H E hr => ?_
  have nd := sc_p_beside.nd
  exact (ms_one (ms_ret (m_cmp op_in_seq os_inT (m_call (ok_p_cross T) (hr.mono (by decide)) T.p_cross.g T.p_cross.F.kp T.p_cross.b (takes_of rfl rfl rfl rfl) (ma_cons (m_var 0) (ma_cons (m_var 1) ma_nil))) (m_tup (ma_cons m_int (ma_cons (m_un un_neg us_neg m_int) ma_nil))) (by with_unfolding_all rfl))))
theorem ok_l_mixed (T : Tx K mg ca) : FnOk P w K mg base (L2.CX P w) 2 T.l_mixed.f T.l_mixed.fd (["_law_script", "_law_k", "_law_many"] : List Str) (spF K ca F_l_mixed) := by
  refine def_ok T.l_mixed.F sc_l_mixed h_l_mixed fun cdv A outer s H E hr => ?_
  have nd := sc_l_mixed.nd
  exact (ms_cons (ms_set 3 nd (m_op op_mod os_mod (m_op op_add4 os_add (m_op op_add4 os_add (m_op op_mul os_mul (m_call (ok_l_cell_at T) (hr.mono (by decide)) T.l_cell_at.g T.l_cell_at.F.kp T.l_cell_at.b (takes_of rfl rfl rfl rfl) (ma_cons (m_var 0) (ma_cons (m_var 1) ma_nil))) m_int) (m_op op_mul os_mul m_int (m_var 1))) m_int) m_int))
  (ms_one (ms_ret (m_op op_mod os_mod (m_op op_mod os_mod (m_op op_mod os_mod (m_op op_pow os_pow (m_var 3) m_int) m_int) m_int) (m_var 2)))))
theorem ok_l_lowest_terms (T : Tx K mg ca) : FnOk P w K mg base (L2.CX P w) 2 T.l_lowest_terms.f T.l_lowest_terms.fd (["_law_p", "_law_q"] : List Str) (spF K ca F_l_lowest_terms) := by
  refine def_ok T.l_lowest_terms.F sc_l_lowest_terms h_l_lowest_terms fun cdv A outer s H E hr => ?_
  have nd := sc_l_lowest_terms.nd
  exact (ms_cons (ms_set 2 nd (m_call (ok_l_common T) (hr.mono (by decide)) T.l_common.g T.l_common.F.kp T.l_common.b (takes_of rfl rfl rfl rfl) (ma_cons (m_var 0) (ma_cons (m_var 1) ma_nil))))
  (ms_one (ms_ret (m_tup (ma_cons (m_op op_fdiv os_fdiv (m_var 0) (m_var 2)) (ma_cons (m_op op_fdiv os_fdiv (m_var 1) (m_var 2)) ma_nil))))))
theorem ok_l_near_each (T : Tx K mg ca) : FnOk P w K mg base (L2.CX P w) 2 T.l_near_each.f T.l_near_each.fd (["_law_one", "_law_other"] : List Str) (spF K ca F_l_near_each) := by
  refine def_ok T.l_near_each.F sc_l_near_each h_l_near_each fun cdv A outer s H E hr => ?_
  have nd := sc_l_near_each.nd
  exact (ms_one (ms_ret (m_cmp op_in_seq os_inT (m_call (ok_l_turn T) (hr.mono (by decide)) T.l_turn.g T.l_turn.F.kp T.l_turn.b (takes_of rfl rfl rfl rfl) (ma_cons (m_var 0) (ma_cons (m_var 1) ma_nil))) (m_tup (ma_cons m_int (ma_cons (m_un un_neg us_neg m_int) ma_nil))) (by with_unfolding_all rfl))))
theorem ok_l_fall (T : Tx K mg ca) : FnOk P w K mg base (L2.CX P w) 2 T.l_fall.f T.l_fall.fd (["_law_low", "_law_high"] : List Str) (spF K ca F_l_fall) := by
  refine def_ok T.l_fall.F sc_l_fall h_l_fall fun cdv A outer s H E hr => ?_
  have nd := sc_l_fall.nd
  exact (ms_one (ms_ret (m_cmp op_lt (os_cmp _) (m_call (ok_l_turn T) (hr.mono (by decide)) T.l_turn.g T.l_turn.F.kp T.l_turn.b (takes_of rfl rfl rfl rfl) (ma_cons (m_var 0) (ma_cons (m_var 1) ma_nil))) m_int (nomark _))))
theorem ok_l_back (T : Tx K mg ca) : FnOk P w K mg base (L2.CX P w) 2 T.l_back.f T.l_back.fd (["_law_w"] : List Str) (spF K ca F_l_back) := by
  refine def_ok T.l_back.F sc_l_back h_l_back fun cdv A outer s H E hr => ?_
  have nd := sc_l_back.nd
  exact (ms_one (ms_try 1 T.FractionError T.xf.exm (ok_l_which T) rfl (hr.mono (by decide)) T.l_which.g T.l_which.F.kp T.l_which.b (takes_of rfl rfl rfl rfl) nd (fun W1 pn1 xe1 tk1 ow1 =>
  (ms_one (ms_ret (m_inv0 13 T.Walker.cl T.m_undo.m (ok_m_undo T) (hr.mono (by decide)) T.m_undo.b tk1 (m_var 0)))))))
theorem ok_p_is_fraction (T : Tx K mg ca) : FnOk P w K mg base (L2.CX P w) 3 T.p_is_fraction.f T.p_is_fraction.fd (["value"] : List Str) (spF K ca F_p_is_fraction) := by
  refine def_ok T.p_is_fraction.F sc_p_is_fraction h_p_is_fraction fun cdv A outer s H E hr => ?_
  have nd := sc_p_is_fraction.nd
  exact (ms_one (ms_ret (m_call (ok_p_is_reduced T) (hr.mono (by decide)) T.p_is_reduced.g T.p_is_reduced.F.kp T.p_is_reduced.b (takes_of rfl rfl rfl rfl) (ma_cons (m_var 0) (ma_cons (m_gl T.LARGEST) ma_nil)))))
theorem ok_l_draw (T : Tx K mg ca) : FnOk P w K mg base (L2.CX P w) 3 T.l_draw.f T.l_draw.fd (["_law_script", "_law_town", "_law_many"] : List Str) (spF K ca F_l_draw) := by
  refine def_ok T.l_draw.F sc_l_draw h_l_draw fun cdv A outer s H E hr => ?_
  have nd := sc_l_draw.nd
  exact (ms_cons (ms_expr (m_append (m_var 1) m_int))
  (ms_one (ms_ret (m_call (ok_l_mixed T) (hr.mono (by decide)) T.l_mixed.g T.l_mixed.F.kp T.l_mixed.b (takes_of rfl rfl rfl rfl) (ma_cons (m_var 0) (ma_cons (m_callB call_len cs_len T.n_len (by decide +kernel) (ma_cons (m_var 1) ma_nil)) (ma_cons (m_var 2) ma_nil)))))))
theorem ok_l_elders (T : Tx K mg ca) : FnOk P w K mg base (L2.CX P w) 3 T.l_elders.f T.l_elders.fd (["_law_point"] : List Str) (spF K ca F_l_elders) := by
  refine def_ok T.l_elders.F sc_l_elders h_l_elders fun cdv A outer s H E hr => ?_
  have nd := sc_l_elders.nd
  exact (ms_cons (ms_set 1 nd (m_lstM ma_nil))
  (ms_cons (ms_for (passes_of rfl) rfl (mi_range2 T.n_range (ma_cons m_int (ma_cons (m_ix ix_lt os_ix (m_var 0) m_int (fun _ _ => rfl)) ma_nil))) (mg_name 2 nd)
  (ms_one (ms_for (passes_of rfl) rfl (mi_tup (m_tup (ma_cons (m_op op_fdiv os_fdiv (m_op op_mul os_mul (m_ix ix_lt os_ix (m_var 0) m_int (fun _ _ => rfl)) (m_var 2)) (m_ix ix_lt os_ix (m_var 0) m_int (fun _ _ => rfl))) (ma_cons (m_op op_add4 os_add (m_op op_fdiv os_fdiv (m_op op_mul os_mul (m_ix ix_lt os_ix (m_var 0) m_int (fun _ _ => rfl)) (m_var 2)) (m_ix ix_lt os_ix (m_var 0) m_int (fun _ _ => rfl))) m_int) ma_nil)))) (mg_name 3 nd)
  (ms_one (ms_if (mt_val (m_call (ok_l_near_each T) (hr.mono (by decide)) T.l_near_each.g T.l_near_each.F.kp T.l_near_each.b (takes_of rfl rfl rfl rfl) (ma_cons (m_var 0) (ma_cons (m_tup (ma_cons (m_var 3) (ma_cons (m_var 2) ma_nil))) ma_nil))))
  (ms_one (ms_expr (m_append (m_var 1) (m_tup (ma_cons (m_var 3) (ma_cons (m_var 2) ma_nil))))))
  ms_nil)))))
  (ms_frz 1 (ms_one (ms_ret (m_ite (mt_val (m_call (ok_l_fall T) (hr.mono (by decide)) T.l_fall.g T.l_fall.F.kp T.l_fall.b (takes_of rfl rfl rfl rfl) (ma_cons (m_ix ix_lt os_ix (m_var 1) m_int (fun _ _ => rfl)) (ma_cons (m_ix ix_lt os_ix (m_var 1) m_int (fun _ _ => rfl)) ma_nil)))) (m_callTy call_tuple_of cs_tuple T.n_tuple (by decide +kernel) (ma_cons (m_var 1) ma_nil)) (m_tup (ma_cons (m_ix ix_lt os_ix (m_var 1) m_int (fun _ _ => rfl)) (ma_cons (m_ix ix_lt os_ix (m_var 1) m_int (fun _ _ => rfl)) ma_nil)))))))))
theorem ok_p_check_fraction (T : Tx K mg ca) : FnOk P w K mg base (L2.CX P w) 4 T.p_check_fraction.f T.p_check_fraction.fd (["fraction"] : List Str) (spF K ca F_p_check_fraction) := by
  refine def_ok T.p_check_fraction.F sc_p_check_fraction h_p_check_fraction fun cdv A outer s H E hr => ?_
  have nd := sc_p_check_fraction.nd
  exact (ms_one (ms_if (mt_not (mt_val (m_call (ok_p_is_fraction T) (hr.mono (by decide)) T.p_is_fraction.g T.p_is_fraction.F.kp T.p_is_fraction.b (takes_of rfl rfl rfl rfl) (ma_cons (m_var 0) ma_nil))))
  (ms_one (ms_raise 0 rfl (takes_of rfl rfl rfl rfl) T.InvalidFraction.x T.InvalidFraction.g T.InvalidFraction.k (T.InvalidFraction.r rfl)))
  ms_nil))
theorem ok_l_some_fraction (T : Tx K mg ca) : FnOk P w K mg base (L2.CX P w) 4 T.l_some_fraction.f T.l_some_fraction.fd (["_law_script", "_law_town", "_law_most"] : List Str) (spF K ca F_l_some_fraction) := by
  refine def_ok T.l_some_fraction.F sc_l_some_fraction h_l_some_fraction fun cdv A outer s H E hr => ?_
  have nd := sc_l_some_fraction.nd
  exact (ms_cons (ms_if (mt_cmp (op_eqD hr.units) os_eq (m_call (ok_l_draw T) (hr.mono (by decide)) T.l_draw.g T.l_draw.F.kp T.l_draw.b (takes_of rfl rfl rfl rfl) (ma_cons (m_var 0) (ma_cons (m_var 1) (ma_cons m_int ma_nil)))) m_int (nomark _))
  (ms_one (ms_ret (m_tup (ma_cons m_int (ma_cons m_int ma_nil)))))
  ms_nil)
  (ms_cons (ms_set 3 nd (m_op op_add4 os_add m_int (m_call (ok_l_draw T) (hr.mono (by decide)) T.l_draw.g T.l_draw.F.kp T.l_draw.b (takes_of rfl rfl rfl rfl) (ma_cons (m_var 0) (ma_cons (m_var 1) (ma_cons (m_var 2) ma_nil))))))
  (ms_one (ms_ret (m_call (ok_l_lowest_terms T) (hr.mono (by decide)) T.l_lowest_terms.g T.l_lowest_terms.F.kp T.l_lowest_terms.b (takes_of rfl rfl rfl rfl) (ma_cons (m_op op_sub os_sub (m_call (ok_l_draw T) (hr.mono (by decide)) T.l_draw.g T.l_draw.F.kp T.l_draw.b (takes_of rfl rfl rfl rfl) (ma_cons (m_var 0) (ma_cons (m_var 1) (ma_cons (m_op op_add4 os_add (m_op op_mul os_mul m_int (m_var 3)) m_int) ma_nil)))) (m_op op_mul os_mul m_int (m_var 3))) (ma_cons (m_var 3) ma_nil)))))))
theorem ok_l_pick (T : Tx K mg ca) : FnOk P w K mg base (L2.CX P w) 4 T.l_pick.f T.l_pick.fd (["_law_script", "_law_town", "_law_some"] : List Str) (spF K ca F_l_pick) := by
  refine def_ok T.l_pick.F sc_l_pick h_l_pick fun cdv A outer s H E hr => ?_
  have nd := sc_l_pick.nd
  exact (ms_one (ms_ret (m_ix ix_lt os_ix (m_var 2) (m_call (ok_l_draw T) (hr.mono (by decide)) T.l_draw.g T.l_draw.F.kp T.l_draw.b (takes_of rfl rfl rfl rfl) (ma_cons (m_var 0) (ma_cons (m_var 1) (ma_cons (m_callB call_len cs_len T.n_len (by decide +kernel) (ma_cons (m_var 2) ma_nil)) ma_nil)))) (fun _ _ => rfl))))
theorem ok_m_init (T : Tx K mg ca) : FnOk P w K mg base (L2.CX P w) 5 T.m_init.f T.m_init.fd (["self", "fraction"] : List Str) (spF K ca F_m_init) := by
  refine def_ok T.m_init.F sc_m_init h_m_init fun cdv A outer s H E hr => ?_
  have nd := sc_m_init.nd
  exact (ms_cons (ms_expr (m_call (ok_p_check_fraction T) (hr.mono (by decide)) T.p_check_fraction.g T.p_check_fraction.F.kp T.p_check_fraction.b (takes_of rfl rfl rfl rfl) (ma_cons (m_var 1) ma_nil)))
  (ms_cons (ms_fld 13 T.Walker.cl T.Walker.nP (m_var 0) (m_lstM (ma_cons (m_var 1) ma_nil)))
  (ms_one (ms_fld 13 T.Walker.cl T.Walker.nK (m_var 0) m_int))))
theorem ok_m_move (T : Tx K mg ca) : FnOk P w K mg base (L2.CX P w) 5 T.m_move.f T.m_move.fd (["self", "fraction"] : List Str) (spF K ca F_m_move) := by
  refine def_ok T.m_move.F sc_m_move h_m_move fun cdv A outer s H E hr => ?_
  have nd := sc_m_move.nd
  exact (ms_cons (ms_expr (m_call (ok_p_check_fraction T) (hr.mono (by decide)) T.p_check_fraction.g T.p_check_fraction.F.kp T.p_check_fraction.b (takes_of rfl rfl rfl rfl) (ma_cons (m_var 1) ma_nil)))
  (ms_cons (ms_if (mt_not (mt_val (m_call (ok_p_beside T) (hr.mono (by decide)) T.p_beside.g T.p_beside.F.kp T.p_beside.b (takes_of rfl rfl rfl rfl) (ma_cons (m_ix ix_lt os_ix (m_fld 13 T.Walker.cl T.Walker.nP (m_var 0)) (m_un un_neg us_neg m_int) (fun _ _ => rfl)) (ma_cons (m_var 1) ma_nil)))))
  (ms_one (ms_raise 5 rfl (takes_of rfl rfl rfl rfl) T.NotNeighbours.x T.NotNeighbours.g T.NotNeighbours.k (T.NotNeighbours.r rfl)))
  ms_nil)
  (ms_cons (ms_expr (m_append (m_fld 13 T.Walker.cl T.Walker.nP (m_var 0)) (m_var 1)))
  (ms_one (ms_ret (m_ix ix_lt os_ix (m_var 1) m_int (fun _ _ => rfl)))))))
theorem ok_l_strolled (T : Tx K mg ca) : FnOk P w K mg base (L2.CX P w) 6 T.l_strolled.f T.l_strolled.fd (["_law_script", "_law_town", "_law_walker", "_law_begun"] : List Str) (spF K ca F_l_strolled) := by
  refine def_ok T.l_strolled.F sc_l_strolled h_l_strolled fun cdv A outer s H E hr => ?_
  have nd := sc_l_strolled.nd
  exact (ms_cons (ms_set 4 nd (m_listM T.n_list (ma_cons (m_var 3) ma_nil)))
  (ms_cons (ms_for (passes_of rfl) rfl (mi_range1 T.n_range (m_op op_add4 os_add m_int (m_call (ok_l_draw T) (hr.mono (by decide)) T.l_draw.g T.l_draw.F.kp T.l_draw.b (takes_of rfl rfl rfl rfl) (ma_cons (m_var 0) (ma_cons (m_var 1) (ma_cons m_int ma_nil)))))) (mg_name 5 nd)
  (ms_cons (ms_set 6 nd (m_ix ix_lt os_ix (m_var 4) (m_un un_neg us_neg m_int) (fun _ _ => rfl)))
  (ms_cons (ms_set 7 nd (m_ite (mt_cmp (op_eqD hr.units) os_eq (m_ix ix_lt os_ix (m_var 6) m_int (fun _ _ => rfl)) m_int (nomark _)) (m_lstM (ma_cons (m_tup (ma_cons m_int (ma_cons m_int ma_nil))) ma_nil)) (m_lstM ma_nil)))
  (ms_cons (ms_if (mt_cmp op_gt (os_cmp _) (m_ix ix_lt os_ix (m_var 6) m_int (fun _ _ => rfl)) m_int (nomark _))
  (ms_one (ms_set 7 nd (m_listM T.n_list (ma_cons (m_call (ok_l_elders T) (hr.mono (by decide)) T.l_elders.g T.l_elders.F.kp T.l_elders.b (takes_of rfl rfl rfl rfl) (ma_cons (m_var 6) ma_nil)) ma_nil))))
  ms_nil)
  (ms_cons (ms_if (mt_cmp op_lt (os_cmp _) (m_ix ix_lt os_ix (m_var 6) m_int (fun _ _ => rfl)) m_int (nomark _))
  (ms_cons (ms_set 8 nd (m_call (ok_l_draw T) (hr.mono (by decide)) T.l_draw.g T.l_draw.F.kp T.l_draw.b (takes_of rfl rfl rfl rfl) (ma_cons (m_var 0) (ma_cons (m_var 1) (ma_cons m_int ma_nil)))))
  (ms_cons (ms_set 9 nd (m_ite (mt_cmp (op_neD hr.units) os_ne (m_var 7) (m_lst ma_nil) (nomark _)) (m_ix ix_lt os_ix (m_var 7) m_int (fun _ _ => rfl)) (m_tup (ma_cons (m_op op_sub os_sub (m_call (ok_l_draw T) (hr.mono (by decide)) T.l_draw.g T.l_draw.F.kp T.l_draw.b (takes_of rfl rfl rfl rfl) (ma_cons (m_var 0) (ma_cons (m_var 1) (ma_cons m_int ma_nil)))) m_int) (ma_cons m_int ma_nil)))))
  (ms_one (ms_expr (m_append (m_var 7) (m_tup (ma_cons (m_op op_add4 os_add (m_ix ix_lt os_ix (m_var 9) m_int (fun _ _ => rfl)) (m_op op_mul os_mul (m_var 8) (m_ix ix_lt os_ix (m_var 6) m_int (fun _ _ => rfl)))) (ma_cons (m_op op_add4 os_add (m_ix ix_lt os_ix (m_var 9) m_int (fun _ _ => rfl)) (m_op op_mul os_mul (m_var 8) (m_ix ix_lt os_ix (m_var 6) m_int (fun _ _ => rfl)))) ma_nil))))))))
  ms_nil)
  (ms_cons (ms_set 10 nd (m_call (ok_l_pick T) (hr.mono (by decide)) T.l_pick.g T.l_pick.F.kp T.l_pick.b (takes_of rfl rfl rfl rfl) (ma_cons (m_var 0) (ma_cons (m_var 1) (ma_cons (m_var 7) ma_nil)))))
  (ms_cons (ms_if (mt_cmp (op_neD hr.units) os_ne (m_inv 13 T.Walker.cl T.m_move.m (ok_m_move T) (hr.mono (by decide)) T.m_move.b (takes_of rfl rfl rfl rfl) (m_var 2) (ma_cons (m_var 10) ma_nil)) (m_ix ix_lt os_ix (m_var 10) m_int (fun _ _ => rfl)) (nomark _))
  (ms_one (ms_ret m_non))
  ms_nil)
  (ms_one (ms_expr (m_append (m_var 4) (m_var 10)))))))))))
  (ms_one (ms_ret (m_var 4)))))
theorem ok_m_duplicate (T : Tx K mg ca) : FnOk P w K mg base (L2.CX P w) 7 T.m_duplicate.f T.m_duplicate.fd (["self"] : List Str) (spF K ca F_m_duplicate) := by
  refine def_ok T.m_duplicate.F sc_m_duplicate h_m_duplicate fun cdv A outer s H E hr => ?_
  have nd := sc_m_duplicate.nd
  exact (ms_cons (ms_set 1 nd (m_new 13 (T.Walker.Mk T.m_init) (ok_m_init T) (hr.mono (by decide)) T.Walker.g T.m_init.b (takes_of rfl rfl rfl rfl) (ma_cons (m_ix ix_lt os_ix (m_fld 13 T.Walker.cl T.Walker.nP (m_var 0)) m_int (fun _ _ => rfl)) ma_nil)))
  (ms_cons (ms_fld 13 T.Walker.cl T.Walker.nP (m_var 1) (m_listM T.n_list (ma_cons (m_fld 13 T.Walker.cl T.Walker.nP (m_var 0)) ma_nil)))
  (ms_cons (ms_fld 13 T.Walker.cl T.Walker.nK (m_var 1) (m_callB call_len cs_len T.n_len (by decide +kernel) (ma_cons (m_fld 13 T.Walker.cl T.Walker.nP (m_var 0)) ma_nil)))
  (ms_one (ms_ret (m_var 1))))))
theorem ok_law (T : Tx K mg ca) : FnOk P w K mg base (L2.CX P w) 8 T.law.f T.law.fd (["_law_script"] : List Str) (spF K ca F_law) := by
  refine def_ok T.law.F sc_law h_law fun cdv A outer s H E hr => ?_
  have nd := sc_law.nd
  exact (ms_cons (ms_set 1 nd (m_lstM ma_nil))
  (ms_cons (ms_set 2 nd (m_call (ok_l_some_fraction T) (hr.mono (by decide)) T.l_some_fraction.g T.l_some_fraction.F.kp T.l_some_fraction.b (takes_of rfl rfl rfl rfl) (ma_cons (m_var 0) (ma_cons (m_var 1) (ma_cons m_int ma_nil)))))
  (ms_cons (ms_set 3 nd (m_new 13 (T.Walker.Mk T.m_init) (ok_m_init T) (hr.mono (by decide)) T.Walker.g T.m_init.b (takes_of rfl rfl rfl rfl) (ma_cons (m_var 2) ma_nil)))
  (ms_cons (ms_set 4 nd (m_call (ok_l_strolled T) (hr.mono (by decide)) T.l_strolled.g T.l_strolled.F.kp T.l_strolled.b (takes_of rfl rfl rfl rfl) (ma_cons (m_var 0) (ma_cons (m_var 1) (ma_cons (m_var 3) (ma_cons (m_lst (ma_cons (m_var 2) ma_nil)) ma_nil))))))
  (ms_cons (ms_set 5 nd (m_inv0 13 T.Walker.cl T.m_duplicate.m (ok_m_duplicate T) (hr.mono (by decide)) T.m_duplicate.b (takes_of rfl rfl rfl rfl) (m_var 3)))
  (ms_cons (ms_if (PW.pt (mw_or (mt_cmp op_isN os_isN (m_var 4) m_non (nomark _)) (mw_or (mt_not (mt_eqI 13 T.m_eq.m (ok_m_eq T) (hr.mono (by decide)) T.m_eq.b (m_var 5) (m_var 3))) (mw_or (mt_cmp (op_neD hr.units) os_ne (m_inv0 13 T.Walker.cl T.m_path.m (ok_m_path T) (hr.mono (by decide)) T.m_path.b (takes_of rfl rfl rfl rfl) (m_var 5)) (m_var 4) (nomark _)) (mw_or1 (mt_cmp (op_neD hr.units) os_ne (m_call (ok_l_back T) (hr.mono (by decide)) T.l_back.g T.l_back.F.kp T.l_back.b (takes_of rfl rfl rfl rfl) (ma_cons (m_var 5) ma_nil)) (m_tup (ma_cons m_str (ma_cons m_int ma_nil))) (nomark _)))))))
  (ms_one (ms_ret m_bl))
  ms_nil)
  (ms_cons (ms_set 6 nd (m_call (ok_l_strolled T) (hr.mono (by decide)) T.l_strolled.g T.l_strolled.F.kp T.l_strolled.b (takes_of rfl rfl rfl rfl) (ma_cons (m_var 0) (ma_cons (m_var 1) (ma_cons (m_var 5) (ma_cons (m_var 4) ma_nil))))))
  (ms_cons (ms_if (PW.pt (mw_or (mt_cmp op_isN os_isN (m_var 6) m_non (nomark _)) (mw_or (mt_cmp (op_neD hr.units) os_ne (m_inv0 13 T.Walker.cl T.m_path.m (ok_m_path T) (hr.mono (by decide)) T.m_path.b (takes_of rfl rfl rfl rfl) (m_var 5)) (m_var 6) (nomark _)) (mw_or1 (mt_cmp (op_neD hr.units) os_ne (m_inv0 13 T.Walker.cl T.m_path.m (ok_m_path T) (hr.mono (by decide)) T.m_path.b (takes_of rfl rfl rfl rfl) (m_var 3)) (m_var 4) (nomark _))))))
  (ms_one (ms_ret m_bl))
  ms_nil)
  (ms_cons (ms_for (passes_of rfl) rfl (mi_list (m_rev (m_slice (m_var 6) (mo_some (m_op op_sub os_sub (m_callB call_len cs_len T.n_len (by decide +kernel) (ma_cons (m_var 4) ma_nil)) m_int)) (mo_some (m_un un_neg us_neg m_int))))) (mg_name 7 nd)
  (ms_one (ms_if (mt_cmp (op_neD hr.units) os_ne (m_call (ok_l_back T) (hr.mono (by decide)) T.l_back.g T.l_back.F.kp T.l_back.b (takes_of rfl rfl rfl rfl) (ma_cons (m_var 5) ma_nil)) (m_var 7) (nomark _))
  (ms_one (ms_ret m_bl))
  ms_nil)))
  (ms_cons (ms_if (PW.pt (mw_or (mt_cmp (op_neD hr.units) os_ne (m_call (ok_l_back T) (hr.mono (by decide)) T.l_back.g T.l_back.F.kp T.l_back.b (takes_of rfl rfl rfl rfl) (ma_cons (m_var 5) ma_nil)) (m_tup (ma_cons m_str (ma_cons m_int ma_nil))) (nomark _)) (mw_or1 (mt_cmp (op_neD hr.units) os_ne (m_inv0 13 T.Walker.cl T.m_path.m (ok_m_path T) (hr.mono (by decide)) T.m_path.b (takes_of rfl rfl rfl rfl) (m_var 5)) (m_var 4) (nomark _)))))
  (ms_one (ms_ret m_bl))
  ms_nil)
  (ms_cons (ms_for (passes_of rfl) rfl (mi_list (m_rev (m_slice (m_var 4) mo_none (mo_some (m_un un_neg us_neg m_int))))) (mg_name 7 nd)
  (ms_one (ms_if (PW.pt (mw_or (mt_cmp (op_neD hr.units) os_ne (m_call (ok_l_back T) (hr.mono (by decide)) T.l_back.g T.l_back.F.kp T.l_back.b (takes_of rfl rfl rfl rfl) (ma_cons (m_var 3) ma_nil)) (m_var 7) (nomark _)) (mw_or1 (mt_cmp (op_neD hr.units) os_ne (m_inv0 13 T.Walker.cl T.m_place.m (ok_m_place T) (hr.mono (by decide)) T.m_place.b (takes_of rfl rfl rfl rfl) (m_var 3)) (m_var 7) (nomark _)))))
  (ms_one (ms_ret m_bl))
  ms_nil)))
  (ms_one (ms_ret (m_and (m_cmp (op_eqD hr.units) os_eq (m_call (ok_l_back T) (hr.mono (by decide)) T.l_back.g T.l_back.F.kp T.l_back.b (takes_of rfl rfl rfl rfl) (ma_cons (m_var 3) ma_nil)) (m_tup (ma_cons m_str (ma_cons m_int ma_nil))) (nomark _)) (m_and (m_cmp (op_eqD hr.units) os_eq (m_inv0 13 T.Walker.cl T.m_path.m (ok_m_path T) (hr.mono (by decide)) T.m_path.b (takes_of rfl rfl rfl rfl) (m_var 3)) (m_lst (ma_cons (m_var 2) ma_nil)) (nomark _)) (m_one (m_cmp (op_eqD hr.units) os_eq (m_inv0 13 T.Walker.cl T.m_path.m (ok_m_path T) (hr.mono (by decide)) T.m_path.b (takes_of rfl rfl rfl rfl) (m_var 5)) (m_var 4) (nomark _))))))))))))))))))
end
theorem all_mk {l : PySem.W.OpenLaw} {w : World} {K : PySem.W.Frag} {h : Heap} {mg : Str → Option Value} {fa : Addr} (X : K.In h) (G : h.Ns mainGlobals mg) (hfa : mg "law" = some (.ref fa))
    {C13 : Addr}
    {f0 : Addr} {od0 an0 : Option Addr} {sl0 : Array (Option Value)} {oc0 kV0 dc0 pm0 cd0 ct0 : Value}
    {f1 : Addr} {od1 an1 : Option Addr} {sl1 : Array (Option Value)} {oc1 kV1 dc1 pm1 cd1 ct1 : Value}
    {f2 : Addr} {od2 an2 : Option Addr} {sl2 : Array (Option Value)} {oc2 kV2 dc2 pm2 cd2 ct2 : Value}
    {f3 : Addr} {od3 an3 : Option Addr} {sl3 : Array (Option Value)} {oc3 kV3 dc3 pm3 cd3 ct3 : Value}
    {f4 : Addr} {od4 an4 : Option Addr} {sl4 : Array (Option Value)} {oc4 kV4 dc4 pm4 cd4 ct4 : Value}
    {f5 : Addr} {od5 an5 : Option Addr} {sl5 : Array (Option Value)} {oc5 kV5 dc5 pm5 cd5 ct5 : Value}
    {f6 : Addr} {od6 an6 : Option Addr} {sl6 : Array (Option Value)} {oc6 kV6 dc6 pm6 cd6 ct6 : Value}
    {f7 : Addr} {od7 an7 : Option Addr} {sl7 : Array (Option Value)} {oc7 kV7 dc7 pm7 cd7 ct7 : Value}
    {f8 : Addr} {od8 an8 : Option Addr} {sl8 : Array (Option Value)} {oc8 kV8 dc8 pm8 cd8 ct8 : Value}
    {f9 : Addr} {od9 an9 : Option Addr} {sl9 : Array (Option Value)} {oc9 kV9 dc9 pm9 cd9 ct9 : Value}
    {f10 : Addr} {od10 an10 : Option Addr} {sl10 : Array (Option Value)} {oc10 kV10 dc10 pm10 cd10 ct10 : Value}
    {f11 : Addr} {od11 an11 : Option Addr} {sl11 : Array (Option Value)} {oc11 kV11 dc11 pm11 cd11 ct11 : Value}
    {f12 : Addr} {od12 an12 : Option Addr} {sl12 : Array (Option Value)} {oc12 kV12 dc12 pm12 cd12 ct12 : Value}
    {f13 : Addr} {od13 an13 : Option Addr} {sl13 : Array (Option Value)} {oc13 kV13 dc13 pm13 cd13 ct13 : Value}
    {f14 : Addr} {od14 an14 : Option Addr} {sl14 : Array (Option Value)} {oc14 kV14 dc14 pm14 cd14 ct14 : Value}
    {f15 : Addr} {od15 an15 : Option Addr} {sl15 : Array (Option Value)} {oc15 kV15 dc15 pm15 cd15 ct15 : Value}
    {f16 : Addr} {od16 an16 : Option Addr} {sl16 : Array (Option Value)} {oc16 kV16 dc16 pm16 cd16 ct16 : Value}
    {f17 : Addr} {od17 an17 : Option Addr} {sl17 : Array (Option Value)} {oc17 kV17 dc17 pm17 cd17 ct17 : Value}
    {f18 : Addr} {od18 an18 : Option Addr} {sl18 : Array (Option Value)} {oc18 kV18 dc18 pm18 cd18 ct18 : Value}
    {f19 : Addr} {od19 an19 : Option Addr} {sl19 : Array (Option Value)} {oc19 kV19 dc19 pm19 cd19 ct19 : Value}
    {f20 : Addr} {od20 an20 : Option Addr} {sl20 : Array (Option Value)} {oc20 kV20 dc20 pm20 cd20 ct20 : Value}
    {f21 : Addr} {od21 an21 : Option Addr} {sl21 : Array (Option Value)} {oc21 kV21 dc21 pm21 cd21 ct21 : Value}
    {f22 : Addr} {od22 an22 : Option Addr} {sl22 : Array (Option Value)} {oc22 kV22 dc22 pm22 cd22 ct22 : Value}
    {f23 : Addr} {od23 an23 : Option Addr} {sl23 : Array (Option Value)} {oc23 kV23 dc23 pm23 cd23 ct23 : Value}
    {f24 : Addr} {od24 an24 : Option Addr} {sl24 : Array (Option Value)} {oc24 kV24 dc24 pm24 cd24 ct24 : Value}
    {f25 : Addr} {od25 an25 : Option Addr} {sl25 : Array (Option Value)} {oc25 kV25 dc25 pm25 cd25 ct25 : Value}
    {f26 : Addr} {od26 an26 : Option Addr} {sl26 : Array (Option Value)} {oc26 kV26 dc26 pm26 cd26 ct26 : Value}
    {f27 : Addr} {od27 an27 : Option Addr} {sl27 : Array (Option Value)} {oc27 kV27 dc27 pm27 cd27 ct27 : Value}
    {f28 : Addr} {od28 an28 : Option Addr} {sl28 : Array (Option Value)} {oc28 kV28 dc28 pm28 cd28 ct28 : Value}
    {C0 : Addr}
    {C1 : Addr}
    {C2 : Addr}
    {C3 : Addr}
    {C4 : Addr}
    {C5 : Addr}
    {C6 : Addr}
    {C7 : Addr}
    {C8 : Addr}
    {C9 : Addr}
    {C10 : Addr}
    {C11 : Addr}
    {C12 : Addr}
    {C14 : Addr}
    {gt0 : Tok}
    (aW : PySem.W.nsIn K mainGlobals "Walker" = some (some (.ref C13)))
    (pgW : PySem.W.plainGet K C13 Str.empty = true)
    (hdW : PySem.W.hasDictIn K C13 = true)
    (poW : PySem.W.plainOver K C13 = true)
    (saW : PySem.W.findIn K (.ref C13) "__setattr__" = some (some (.builtin "object.__setattr__")))
    (mkW : PySem.W.makesIn K C13 = true)
    (kcW : PySem.W.keepIn K (.ref C13) = true)
    (nPW : PySem.W.findIn K (.ref C13) "points" = some none)
    (nKW : PySem.W.findIn K (.ref C13) "kept" = some none)
    (haW : PySem.W.findIn K (.ref C13) "__class__" = some (some (.builtin "object.__class__")))
    (hnW : PySem.W.specialIn K (.builtin "object.__class__") "__get__" = some (some (.builtin "getset_descriptor.__get__")))
    (htW : PySem.W.takesIn K (.builtin "object.__class__") = some true)
    (hmW : PySem.W.mroIn K C13 (.type "object") = some true)
    (meW : PySem.W.kitOne K (.ref C13) (.ref C13) = some true)
    (a0 : PySem.W.nsIn K mainGlobals "is_integer" = some (some (.ref f0)))
    (l0 : K.lookup f0 = some ⟨oc0, od0, .func (PySem.W.fnOf "is_integer" "is_integer" (defArgs (topS 18)) (defBody (topS 18)) (defScope (topS 18)) .none kV0 dc0 pm0 an0 cd0 ct0), sl0⟩)
    (c0 : PySem.W.codeIn K cd0 "is_integer" = true)
    (k0 : PySem.W.keepIn K (.ref f0) = true)
    (a1 : PySem.W.nsIn K mainGlobals "common_divisor" = some (some (.ref f1)))
    (l1 : K.lookup f1 = some ⟨oc1, od1, .func (PySem.W.fnOf "common_divisor" "common_divisor" (defArgs (topS 19)) (defBody (topS 19)) (defScope (topS 19)) .none kV1 dc1 pm1 an1 cd1 ct1), sl1⟩)
    (c1 : PySem.W.codeIn K cd1 "common_divisor" = true)
    (k1 : PySem.W.keepIn K (.ref f1) = true)
    (a2 : PySem.W.nsIn K mainGlobals "cross" = some (some (.ref f2)))
    (l2 : K.lookup f2 = some ⟨oc2, od2, .func (PySem.W.fnOf "cross" "cross" (defArgs (topS 23)) (defBody (topS 23)) (defScope (topS 23)) .none kV2 dc2 pm2 an2 cd2 ct2), sl2⟩)
    (c2 : PySem.W.codeIn K cd2 "cross" = true)
    (k2 : PySem.W.keepIn K (.ref f2) = true)
    (a3 : PySem.W.findIn K (.ref C13) "place" = some (some (.ref f3)))
    (i3 : PySem.W.isFn K (.ref f3) = true)
    (l3 : K.lookup f3 = some ⟨oc3, od3, .func (PySem.W.fnOf "place" "Walker.place" (defArgs (inClass (topS 28) 3)) (defBody (inClass (topS 28) 3)) (defScope (inClass (topS 28) 3)) .none kV3 dc3 pm3 an3 cd3 ct3), sl3⟩)
    (c3 : PySem.W.codeIn K cd3 "Walker.place" = true)
    (k3 : PySem.W.keepIn K (.ref f3) = true)
    (a4 : PySem.W.findIn K (.ref C13) "path" = some (some (.ref f4)))
    (i4 : PySem.W.isFn K (.ref f4) = true)
    (l4 : K.lookup f4 = some ⟨oc4, od4, .func (PySem.W.fnOf "path" "Walker.path" (defArgs (inClass (topS 28) 4)) (defBody (inClass (topS 28) 4)) (defScope (inClass (topS 28) 4)) .none kV4 dc4 pm4 an4 cd4 ct4), sl4⟩)
    (c4 : PySem.W.codeIn K cd4 "Walker.path" = true)
    (k4 : PySem.W.keepIn K (.ref f4) = true)
    (a5 : PySem.W.findIn K (.ref C13) "undo" = some (some (.ref f5)))
    (i5 : PySem.W.isFn K (.ref f5) = true)
    (l5 : K.lookup f5 = some ⟨oc5, od5, .func (PySem.W.fnOf "undo" "Walker.undo" (defArgs (inClass (topS 28) 6)) (defBody (inClass (topS 28) 6)) (defScope (inClass (topS 28) 6)) .none kV5 dc5 pm5 an5 cd5 ct5), sl5⟩)
    (c5 : PySem.W.codeIn K cd5 "Walker.undo" = true)
    (k5 : PySem.W.keepIn K (.ref f5) = true)
    (a6 : PySem.W.findIn K (.ref C13) "__eq__" = some (some (.ref f6)))
    (i6 : PySem.W.isFn K (.ref f6) = true)
    (l6 : K.lookup f6 = some ⟨oc6, od6, .func (PySem.W.fnOf "__eq__" "Walker.__eq__" (defArgs (inClass (topS 28) 8)) (defBody (inClass (topS 28) 8)) (defScope (inClass (topS 28) 8)) .none kV6 dc6 pm6 an6 cd6 ct6), sl6⟩)
    (c6 : PySem.W.codeIn K cd6 "Walker.__eq__" = true)
    (k6 : PySem.W.keepIn K (.ref f6) = true)
    (a7 : PySem.W.nsIn K mainGlobals "_law_cell_at" = some (some (.ref f7)))
    (l7 : K.lookup f7 = some ⟨oc7, od7, .func (PySem.W.fnOf "_law_cell_at" "_law_cell_at" (defArgs (topS 30)) (defBody (topS 30)) (defScope (topS 30)) .none kV7 dc7 pm7 an7 cd7 ct7), sl7⟩)
    (c7 : PySem.W.codeIn K cd7 "_law_cell_at" = true)
    (k7 : PySem.W.keepIn K (.ref f7) = true)
    (a8 : PySem.W.nsIn K mainGlobals "_law_common" = some (some (.ref f8)))
    (l8 : K.lookup f8 = some ⟨oc8, od8, .func (PySem.W.fnOf "_law_common" "_law_common" (defArgs (topS 33)) (defBody (topS 33)) (defScope (topS 33)) .none kV8 dc8 pm8 an8 cd8 ct8), sl8⟩)
    (c8 : PySem.W.codeIn K cd8 "_law_common" = true)
    (k8 : PySem.W.keepIn K (.ref f8) = true)
    (a9 : PySem.W.nsIn K mainGlobals "_law_which" = some (some (.ref f9)))
    (l9 : K.lookup f9 = some ⟨oc9, od9, .func (PySem.W.fnOf "_law_which" "_law_which" (defArgs (topS 36)) (defBody (topS 36)) (defScope (topS 36)) .none kV9 dc9 pm9 an9 cd9 ct9), sl9⟩)
    (c9 : PySem.W.codeIn K cd9 "_law_which" = true)
    (k9 : PySem.W.keepIn K (.ref f9) = true)
    (a10 : PySem.W.nsIn K mainGlobals "_law_turn" = some (some (.ref f10)))
    (l10 : K.lookup f10 = some ⟨oc10, od10, .func (PySem.W.fnOf "_law_turn" "_law_turn" (defArgs (topS 38)) (defBody (topS 38)) (defScope (topS 38)) .none kV10 dc10 pm10 an10 cd10 ct10), sl10⟩)
    (c10 : PySem.W.codeIn K cd10 "_law_turn" = true)
    (k10 : PySem.W.keepIn K (.ref f10) = true)
    (a11 : PySem.W.nsIn K mainGlobals "is_reduced" = some (some (.ref f11)))
    (l11 : K.lookup f11 = some ⟨oc11, od11, .func (PySem.W.fnOf "is_reduced" "is_reduced" (defArgs (topS 20)) (defBody (topS 20)) (defScope (topS 20)) .none kV11 dc11 pm11 an11 cd11 ct11), sl11⟩)
    (c11 : PySem.W.codeIn K cd11 "is_reduced" = true)
    (k11 : PySem.W.keepIn K (.ref f11) = true)
    (a12 : PySem.W.nsIn K mainGlobals "beside" = some (some (.ref f12)))
    (l12 : K.lookup f12 = some ⟨oc12, od12, .func (PySem.W.fnOf "beside" "beside" (defArgs (topS 24)) (defBody (topS 24)) (defScope (topS 24)) .none kV12 dc12 pm12 an12 cd12 ct12), sl12⟩)
    (c12 : PySem.W.codeIn K cd12 "beside" = true)
    (k12 : PySem.W.keepIn K (.ref f12) = true)
    (a13 : PySem.W.nsIn K mainGlobals "_law_mixed" = some (some (.ref f13)))
    (l13 : K.lookup f13 = some ⟨oc13, od13, .func (PySem.W.fnOf "_law_mixed" "_law_mixed" (defArgs (topS 31)) (defBody (topS 31)) (defScope (topS 31)) .none kV13 dc13 pm13 an13 cd13 ct13), sl13⟩)
    (c13 : PySem.W.codeIn K cd13 "_law_mixed" = true)
    (k13 : PySem.W.keepIn K (.ref f13) = true)
    (a14 : PySem.W.nsIn K mainGlobals "_law_lowest_terms" = some (some (.ref f14)))
    (l14 : K.lookup f14 = some ⟨oc14, od14, .func (PySem.W.fnOf "_law_lowest_terms" "_law_lowest_terms" (defArgs (topS 34)) (defBody (topS 34)) (defScope (topS 34)) .none kV14 dc14 pm14 an14 cd14 ct14), sl14⟩)
    (c14 : PySem.W.codeIn K cd14 "_law_lowest_terms" = true)
    (k14 : PySem.W.keepIn K (.ref f14) = true)
    (a15 : PySem.W.nsIn K mainGlobals "_law_near_each" = some (some (.ref f15)))
    (l15 : K.lookup f15 = some ⟨oc15, od15, .func (PySem.W.fnOf "_law_near_each" "_law_near_each" (defArgs (topS 39)) (defBody (topS 39)) (defScope (topS 39)) .none kV15 dc15 pm15 an15 cd15 ct15), sl15⟩)
    (c15 : PySem.W.codeIn K cd15 "_law_near_each" = true)
    (k15 : PySem.W.keepIn K (.ref f15) = true)
    (a16 : PySem.W.nsIn K mainGlobals "_law_fall" = some (some (.ref f16)))
    (l16 : K.lookup f16 = some ⟨oc16, od16, .func (PySem.W.fnOf "_law_fall" "_law_fall" (defArgs (topS 40)) (defBody (topS 40)) (defScope (topS 40)) .none kV16 dc16 pm16 an16 cd16 ct16), sl16⟩)
    (c16 : PySem.W.codeIn K cd16 "_law_fall" = true)
    (k16 : PySem.W.keepIn K (.ref f16) = true)
    (a17 : PySem.W.nsIn K mainGlobals "_law_back" = some (some (.ref f17)))
    (l17 : K.lookup f17 = some ⟨oc17, od17, .func (PySem.W.fnOf "_law_back" "_law_back" (defArgs (topS 43)) (defBody (topS 43)) (defScope (topS 43)) .none kV17 dc17 pm17 an17 cd17 ct17), sl17⟩)
    (c17 : PySem.W.codeIn K cd17 "_law_back" = true)
    (k17 : PySem.W.keepIn K (.ref f17) = true)
    (a18 : PySem.W.nsIn K mainGlobals "is_fraction" = some (some (.ref f18)))
    (l18 : K.lookup f18 = some ⟨oc18, od18, .func (PySem.W.fnOf "is_fraction" "is_fraction" (defArgs (topS 21)) (defBody (topS 21)) (defScope (topS 21)) .none kV18 dc18 pm18 an18 cd18 ct18), sl18⟩)
    (c18 : PySem.W.codeIn K cd18 "is_fraction" = true)
    (k18 : PySem.W.keepIn K (.ref f18) = true)
    (a19 : PySem.W.nsIn K mainGlobals "_law_draw" = some (some (.ref f19)))
    (l19 : K.lookup f19 = some ⟨oc19, od19, .func (PySem.W.fnOf "_law_draw" "_law_draw" (defArgs (topS 32)) (defBody (topS 32)) (defScope (topS 32)) .none kV19 dc19 pm19 an19 cd19 ct19), sl19⟩)
    (c19 : PySem.W.codeIn K cd19 "_law_draw" = true)
    (k19 : PySem.W.keepIn K (.ref f19) = true)
    (a20 : PySem.W.nsIn K mainGlobals "_law_elders" = some (some (.ref f20)))
    (l20 : K.lookup f20 = some ⟨oc20, od20, .func (PySem.W.fnOf "_law_elders" "_law_elders" (defArgs (topS 41)) (defBody (topS 41)) (defScope (topS 41)) .none kV20 dc20 pm20 an20 cd20 ct20), sl20⟩)
    (c20 : PySem.W.codeIn K cd20 "_law_elders" = true)
    (k20 : PySem.W.keepIn K (.ref f20) = true)
    (a21 : PySem.W.nsIn K mainGlobals "check_fraction" = some (some (.ref f21)))
    (l21 : K.lookup f21 = some ⟨oc21, od21, .func (PySem.W.fnOf "check_fraction" "check_fraction" (defArgs (topS 22)) (defBody (topS 22)) (defScope (topS 22)) .none kV21 dc21 pm21 an21 cd21 ct21), sl21⟩)
    (c21 : PySem.W.codeIn K cd21 "check_fraction" = true)
    (k21 : PySem.W.keepIn K (.ref f21) = true)
    (a22 : PySem.W.nsIn K mainGlobals "_law_some_fraction" = some (some (.ref f22)))
    (l22 : K.lookup f22 = some ⟨oc22, od22, .func (PySem.W.fnOf "_law_some_fraction" "_law_some_fraction" (defArgs (topS 35)) (defBody (topS 35)) (defScope (topS 35)) .none kV22 dc22 pm22 an22 cd22 ct22), sl22⟩)
    (c22 : PySem.W.codeIn K cd22 "_law_some_fraction" = true)
    (k22 : PySem.W.keepIn K (.ref f22) = true)
    (a23 : PySem.W.nsIn K mainGlobals "_law_pick" = some (some (.ref f23)))
    (l23 : K.lookup f23 = some ⟨oc23, od23, .func (PySem.W.fnOf "_law_pick" "_law_pick" (defArgs (topS 37)) (defBody (topS 37)) (defScope (topS 37)) .none kV23 dc23 pm23 an23 cd23 ct23), sl23⟩)
    (c23 : PySem.W.codeIn K cd23 "_law_pick" = true)
    (k23 : PySem.W.keepIn K (.ref f23) = true)
    (a24 : PySem.W.findIn K (.ref C13) "__init__" = some (some (.ref f24)))
    (i24 : PySem.W.isFn K (.ref f24) = true)
    (l24 : K.lookup f24 = some ⟨oc24, od24, .func (PySem.W.fnOf "__init__" "Walker.__init__" (defArgs (inClass (topS 28) 0)) (defBody (inClass (topS 28) 0)) (defScope (inClass (topS 28) 0)) .none kV24 dc24 pm24 an24 cd24 ct24), sl24⟩)
    (c24 : PySem.W.codeIn K cd24 "Walker.__init__" = true)
    (k24 : PySem.W.keepIn K (.ref f24) = true)
    (a25 : PySem.W.findIn K (.ref C13) "move" = some (some (.ref f25)))
    (i25 : PySem.W.isFn K (.ref f25) = true)
    (l25 : K.lookup f25 = some ⟨oc25, od25, .func (PySem.W.fnOf "move" "Walker.move" (defArgs (inClass (topS 28) 1)) (defBody (inClass (topS 28) 1)) (defScope (inClass (topS 28) 1)) .none kV25 dc25 pm25 an25 cd25 ct25), sl25⟩)
    (c25 : PySem.W.codeIn K cd25 "Walker.move" = true)
    (k25 : PySem.W.keepIn K (.ref f25) = true)
    (a26 : PySem.W.nsIn K mainGlobals "_law_strolled" = some (some (.ref f26)))
    (l26 : K.lookup f26 = some ⟨oc26, od26, .func (PySem.W.fnOf "_law_strolled" "_law_strolled" (defArgs (topS 42)) (defBody (topS 42)) (defScope (topS 42)) .none kV26 dc26 pm26 an26 cd26 ct26), sl26⟩)
    (c26 : PySem.W.codeIn K cd26 "_law_strolled" = true)
    (k26 : PySem.W.keepIn K (.ref f26) = true)
    (a27 : PySem.W.findIn K (.ref C13) "duplicate" = some (some (.ref f27)))
    (i27 : PySem.W.isFn K (.ref f27) = true)
    (l27 : K.lookup f27 = some ⟨oc27, od27, .func (PySem.W.fnOf "duplicate" "Walker.duplicate" (defArgs (inClass (topS 28) 7)) (defBody (inClass (topS 28) 7)) (defScope (inClass (topS 28) 7)) .none kV27 dc27 pm27 an27 cd27 ct27), sl27⟩)
    (c27 : PySem.W.codeIn K cd27 "Walker.duplicate" = true)
    (k27 : PySem.W.keepIn K (.ref f27) = true)
    (a28 : PySem.W.nsIn K mainGlobals "law" = some (some (.ref f28)))
    (l28 : K.lookup f28 = some ⟨oc28, od28, .func (PySem.W.fnOf "law" "law" (defArgs (topS 44)) (defBody (topS 44)) (defScope (topS 44)) .none kV28 dc28 pm28 an28 cd28 ct28), sl28⟩)
    (c28 : PySem.W.codeIn K cd28 "law" = true)
    (k28 : PySem.W.keepIn K (.ref f28) = true)
    (ea0 : PySem.W.nsIn K mainGlobals "InvalidFraction" = some (some (.ref C0)))
    (ex0 : PySem.W.excIn K C0 [.type "ValueError", .type "Exception", .type "BaseException", .type "object"] "ValueError.__new__" = true)
    (ek0 : PySem.W.keepIn K (.ref C0) = true)
    (es0 : PySem.W.subIn K (.ref C0) (.type "BaseException") = some true)
    (et0 : PySem.W.typeIn K (.ref C0) = some (.type "type"))
    (ea1 : PySem.W.nsIn K mainGlobals "InvalidWord" = some (some (.ref C1)))
    (ex1 : PySem.W.excIn K C1 [.type "ValueError", .type "Exception", .type "BaseException", .type "object"] "ValueError.__new__" = true)
    (ek1 : PySem.W.keepIn K (.ref C1) = true)
    (es1 : PySem.W.subIn K (.ref C1) (.type "BaseException") = some true)
    (et1 : PySem.W.typeIn K (.ref C1) = some (.type "type"))
    (ea2 : PySem.W.nsIn K mainGlobals "InvalidExpansion" = some (some (.ref C2)))
    (ex2 : PySem.W.excIn K C2 [.type "ValueError", .type "Exception", .type "BaseException", .type "object"] "ValueError.__new__" = true)
    (ek2 : PySem.W.keepIn K (.ref C2) = true)
    (es2 : PySem.W.subIn K (.ref C2) (.type "BaseException") = some true)
    (et2 : PySem.W.typeIn K (.ref C2) = some (.type "type"))
    (ea3 : PySem.W.nsIn K mainGlobals "InvalidNumber" = some (some (.ref C3)))
    (ex3 : PySem.W.excIn K C3 [.type "ValueError", .type "Exception", .type "BaseException", .type "object"] "ValueError.__new__" = true)
    (ek3 : PySem.W.keepIn K (.ref C3) = true)
    (es3 : PySem.W.subIn K (.ref C3) (.type "BaseException") = some true)
    (et3 : PySem.W.typeIn K (.ref C3) = some (.type "type"))
    (ea4 : PySem.W.nsIn K mainGlobals "InvalidMatrix" = some (some (.ref C4)))
    (ex4 : PySem.W.excIn K C4 [.type "ValueError", .type "Exception", .type "BaseException", .type "object"] "ValueError.__new__" = true)
    (ek4 : PySem.W.keepIn K (.ref C4) = true)
    (es4 : PySem.W.subIn K (.ref C4) (.type "BaseException") = some true)
    (et4 : PySem.W.typeIn K (.ref C4) = some (.type "type"))
    (ea5 : PySem.W.nsIn K mainGlobals "NotNeighbours" = some (some (.ref C5)))
    (ex5 : PySem.W.excIn K C5 [.type "ValueError", .type "Exception", .type "BaseException", .type "object"] "ValueError.__new__" = true)
    (ek5 : PySem.W.keepIn K (.ref C5) = true)
    (es5 : PySem.W.subIn K (.ref C5) (.type "BaseException") = some true)
    (et5 : PySem.W.typeIn K (.ref C5) = some (.type "type"))
    (ea6 : PySem.W.nsIn K mainGlobals "NoParents" = some (some (.ref C6)))
    (ex6 : PySem.W.excIn K C6 [.type "ValueError", .type "Exception", .type "BaseException", .type "object"] "ValueError.__new__" = true)
    (ek6 : PySem.W.keepIn K (.ref C6) = true)
    (es6 : PySem.W.subIn K (.ref C6) (.type "BaseException") = some true)
    (et6 : PySem.W.typeIn K (.ref C6) = some (.type "type"))
    (ea7 : PySem.W.nsIn K mainGlobals "NotAbove" = some (some (.ref C7)))
    (ex7 : PySem.W.excIn K C7 [.type "ValueError", .type "Exception", .type "BaseException", .type "object"] "ValueError.__new__" = true)
    (ek7 : PySem.W.keepIn K (.ref C7) = true)
    (es7 : PySem.W.subIn K (.ref C7) (.type "BaseException") = some true)
    (et7 : PySem.W.typeIn K (.ref C7) = some (.type "type"))
    (ea8 : PySem.W.nsIn K mainGlobals "IsTop" = some (some (.ref C8)))
    (ex8 : PySem.W.excIn K C8 [.type "ValueError", .type "Exception", .type "BaseException", .type "object"] "ValueError.__new__" = true)
    (ek8 : PySem.W.keepIn K (.ref C8) = true)
    (es8 : PySem.W.subIn K (.ref C8) (.type "BaseException") = some true)
    (et8 : PySem.W.typeIn K (.ref C8) = some (.type "type"))
    (ea9 : PySem.W.nsIn K mainGlobals "Equal" = some (some (.ref C9)))
    (ex9 : PySem.W.excIn K C9 [.type "ValueError", .type "Exception", .type "BaseException", .type "object"] "ValueError.__new__" = true)
    (ek9 : PySem.W.keepIn K (.ref C9) = true)
    (es9 : PySem.W.subIn K (.ref C9) (.type "BaseException") = some true)
    (et9 : PySem.W.typeIn K (.ref C9) = some (.type "type"))
    (ea10 : PySem.W.nsIn K mainGlobals "TooLarge" = some (some (.ref C10)))
    (ex10 : PySem.W.excIn K C10 [.type "ValueError", .type "Exception", .type "BaseException", .type "object"] "ValueError.__new__" = true)
    (ek10 : PySem.W.keepIn K (.ref C10) = true)
    (es10 : PySem.W.subIn K (.ref C10) (.type "BaseException") = some true)
    (et10 : PySem.W.typeIn K (.ref C10) = some (.type "type"))
    (ea11 : PySem.W.nsIn K mainGlobals "NothingToUndo" = some (some (.ref C11)))
    (ex11 : PySem.W.excIn K C11 [.type "ValueError", .type "Exception", .type "BaseException", .type "object"] "ValueError.__new__" = true)
    (ek11 : PySem.W.keepIn K (.ref C11) = true)
    (es11 : PySem.W.subIn K (.ref C11) (.type "BaseException") = some true)
    (et11 : PySem.W.typeIn K (.ref C11) = some (.type "type"))
    (ea12 : PySem.W.nsIn K mainGlobals "ParseError" = some (some (.ref C12)))
    (ex12 : PySem.W.excIn K C12 [.type "ValueError", .type "Exception", .type "BaseException", .type "object"] "ValueError.__new__" = true)
    (ek12 : PySem.W.keepIn K (.ref C12) = true)
    (es12 : PySem.W.subIn K (.ref C12) (.type "BaseException") = some true)
    (et12 : PySem.W.typeIn K (.ref C12) = some (.type "type"))
    (ea14 : PySem.W.nsIn K mainGlobals "FractionError" = some (some (.ref C14)))
    (xf : exBool K [C0, C1, C2, C3, C4, C5, C6, C7, C8, C9, C10, C11, C12, C13, C14] = true)
    (vc0 : PySem.W.nsIn K mainGlobals "LARGEST" = some (some (.int 9999 gt0)))
    (z_ValueError : PySem.W.nsIn K mainGlobals "ValueError" = some none)
    (z_bool : PySem.W.nsIn K mainGlobals "bool" = some none)
    (z_int : PySem.W.nsIn K mainGlobals "int" = some none)
    (z_isinstance : PySem.W.nsIn K mainGlobals "isinstance" = some none)
    (z_len : PySem.W.nsIn K mainGlobals "len" = some none)
    (z_list : PySem.W.nsIn K mainGlobals "list" = some none)
    (z_max : PySem.W.nsIn K mainGlobals "max" = some none)
    (z_min : PySem.W.nsIn K mainGlobals "min" = some none)
    (z_range : PySem.W.nsIn K mainGlobals "range" = some none)
    (z_tuple : PySem.W.nsIn K mainGlobals "tuple" = some none)
    : ∃ fd : FuncData, (∀ (s : Shared) (v : Value), BindsTo s fd ⟨[v], []⟩ [("_law_script", v)]) ∧ ∀ base : Heap, K.In base → base.Ns mainGlobals mg → FnOk l.prog w K mg base (L2.CX l.prog w) 8 fa fd ["_law_script"] (spLaw K) := by
  have e := hfa.symm.trans (PySem.W.mg_of X G a28)
  cases e
  let ca : Nat → Addr := fun n => ([C0, C1, C2, C3, C4, C5, C6, C7, C8, C9, C10, C11, C12, C13, C14] : List Addr).getD n 0
  let T : Tx K mg ca := {
    p_is_integer := ⟨f0, _, fun_mk (st := topS 18) l0 c0 k0, PySem.W.mg_of X G a0, (fun_mk (st := topS 18) l0 c0 k0).binds (ps := (["value", "low", "high"] : List Str)) fun _ _ _ _ _ _ us hl => match us, hl with | [_, _, _], _ => rfl⟩
    p_common_divisor := ⟨f1, _, fun_mk (st := topS 19) l1 c1 k1, PySem.W.mg_of X G a1, (fun_mk (st := topS 19) l1 c1 k1).binds (ps := (["one", "other"] : List Str)) fun _ _ _ _ _ _ us hl => match us, hl with | [_, _], _ => rfl⟩
    p_cross := ⟨f2, _, fun_mk (st := topS 23) l2 c2 k2, PySem.W.mg_of X G a2, (fun_mk (st := topS 23) l2 c2 k2).binds (ps := (["one", "other"] : List Str)) fun _ _ _ _ _ _ us hl => match us, hl with | [_, _], _ => rfl⟩
    m_place := ⟨f3, _, fun_mk (st := inClass (topS 28) 3) l3 c3 k3, ⟨a3, i3, k3⟩, (fun_mk (st := inClass (topS 28) 3) l3 c3 k3).binds (ps := (["self"] : List Str)) fun _ _ _ _ _ _ us hl => match us, hl with | [_], _ => rfl⟩
    m_path := ⟨f4, _, fun_mk (st := inClass (topS 28) 4) l4 c4 k4, ⟨a4, i4, k4⟩, (fun_mk (st := inClass (topS 28) 4) l4 c4 k4).binds (ps := (["self"] : List Str)) fun _ _ _ _ _ _ us hl => match us, hl with | [_], _ => rfl⟩
    m_undo := ⟨f5, _, fun_mk (st := inClass (topS 28) 6) l5 c5 k5, ⟨a5, i5, k5⟩, (fun_mk (st := inClass (topS 28) 6) l5 c5 k5).binds (ps := (["self"] : List Str)) fun _ _ _ _ _ _ us hl => match us, hl with | [_], _ => rfl⟩
    m_eq := ⟨f6, _, fun_mk (st := inClass (topS 28) 8) l6 c6 k6, ⟨a6, i6, k6⟩, (fun_mk (st := inClass (topS 28) 8) l6 c6 k6).binds (ps := (["self", "other"] : List Str)) fun _ _ _ _ _ _ us hl => match us, hl with | [_, _], _ => rfl⟩
    l_cell_at := ⟨f7, _, fun_mk (st := topS 30) l7 c7 k7, PySem.W.mg_of X G a7, (fun_mk (st := topS 30) l7 c7 k7).binds (ps := (["_law_script", "_law_k"] : List Str)) fun _ _ _ _ _ _ us hl => match us, hl with | [_, _], _ => rfl⟩
    l_common := ⟨f8, _, fun_mk (st := topS 33) l8 c8 k8, PySem.W.mg_of X G a8, (fun_mk (st := topS 33) l8 c8 k8).binds (ps := (["_law_one", "_law_other"] : List Str)) fun _ _ _ _ _ _ us hl => match us, hl with | [_, _], _ => rfl⟩
    l_which := ⟨f9, _, fun_mk (st := topS 36) l9 c9 k9, PySem.W.mg_of X G a9, (fun_mk (st := topS 36) l9 c9 k9).binds (ps := (["_law_e"] : List Str)) fun _ _ _ _ _ _ us hl => match us, hl with | [_], _ => rfl⟩
    l_turn := ⟨f10, _, fun_mk (st := topS 38) l10 c10 k10, PySem.W.mg_of X G a10, (fun_mk (st := topS 38) l10 c10 k10).binds (ps := (["_law_one", "_law_other"] : List Str)) fun _ _ _ _ _ _ us hl => match us, hl with | [_, _], _ => rfl⟩
    p_is_reduced := ⟨f11, _, fun_mk (st := topS 20) l11 c11 k11, PySem.W.mg_of X G a11, (fun_mk (st := topS 20) l11 c11 k11).binds (ps := (["value", "limit"] : List Str)) fun _ _ _ _ _ _ us hl => match us, hl with | [_, _], _ => rfl⟩
    p_beside := ⟨f12, _, fun_mk (st := topS 24) l12 c12 k12, PySem.W.mg_of X G a12, (fun_mk (st := topS 24) l12 c12 k12).binds (ps := (["one", "other"] : List Str)) fun _ _ _ _ _ _ us hl => match us, hl with | [_, _], _ => rfl⟩
    l_mixed := ⟨f13, _, fun_mk (st := topS 31) l13 c13 k13, PySem.W.mg_of X G a13, (fun_mk (st := topS 31) l13 c13 k13).binds (ps := (["_law_script", "_law_k", "_law_many"] : List Str)) fun _ _ _ _ _ _ us hl => match us, hl with | [_, _, _], _ => rfl⟩
    l_lowest_terms := ⟨f14, _, fun_mk (st := topS 34) l14 c14 k14, PySem.W.mg_of X G a14, (fun_mk (st := topS 34) l14 c14 k14).binds (ps := (["_law_p", "_law_q"] : List Str)) fun _ _ _ _ _ _ us hl => match us, hl with | [_, _], _ => rfl⟩
    l_near_each := ⟨f15, _, fun_mk (st := topS 39) l15 c15 k15, PySem.W.mg_of X G a15, (fun_mk (st := topS 39) l15 c15 k15).binds (ps := (["_law_one", "_law_other"] : List Str)) fun _ _ _ _ _ _ us hl => match us, hl with | [_, _], _ => rfl⟩
    l_fall := ⟨f16, _, fun_mk (st := topS 40) l16 c16 k16, PySem.W.mg_of X G a16, (fun_mk (st := topS 40) l16 c16 k16).binds (ps := (["_law_low", "_law_high"] : List Str)) fun _ _ _ _ _ _ us hl => match us, hl with | [_, _], _ => rfl⟩
    l_back := ⟨f17, _, fun_mk (st := topS 43) l17 c17 k17, PySem.W.mg_of X G a17, (fun_mk (st := topS 43) l17 c17 k17).binds (ps := (["_law_w"] : List Str)) fun _ _ _ _ _ _ us hl => match us, hl with | [_], _ => rfl⟩
    p_is_fraction := ⟨f18, _, fun_mk (st := topS 21) l18 c18 k18, PySem.W.mg_of X G a18, (fun_mk (st := topS 21) l18 c18 k18).binds (ps := (["value"] : List Str)) fun _ _ _ _ _ _ us hl => match us, hl with | [_], _ => rfl⟩
    l_draw := ⟨f19, _, fun_mk (st := topS 32) l19 c19 k19, PySem.W.mg_of X G a19, (fun_mk (st := topS 32) l19 c19 k19).binds (ps := (["_law_script", "_law_town", "_law_many"] : List Str)) fun _ _ _ _ _ _ us hl => match us, hl with | [_, _, _], _ => rfl⟩
    l_elders := ⟨f20, _, fun_mk (st := topS 41) l20 c20 k20, PySem.W.mg_of X G a20, (fun_mk (st := topS 41) l20 c20 k20).binds (ps := (["_law_point"] : List Str)) fun _ _ _ _ _ _ us hl => match us, hl with | [_], _ => rfl⟩
    p_check_fraction := ⟨f21, _, fun_mk (st := topS 22) l21 c21 k21, PySem.W.mg_of X G a21, (fun_mk (st := topS 22) l21 c21 k21).binds (ps := (["fraction"] : List Str)) fun _ _ _ _ _ _ us hl => match us, hl with | [_], _ => rfl⟩
    l_some_fraction := ⟨f22, _, fun_mk (st := topS 35) l22 c22 k22, PySem.W.mg_of X G a22, (fun_mk (st := topS 35) l22 c22 k22).binds (ps := (["_law_script", "_law_town", "_law_most"] : List Str)) fun _ _ _ _ _ _ us hl => match us, hl with | [_, _, _], _ => rfl⟩
    l_pick := ⟨f23, _, fun_mk (st := topS 37) l23 c23 k23, PySem.W.mg_of X G a23, (fun_mk (st := topS 37) l23 c23 k23).binds (ps := (["_law_script", "_law_town", "_law_some"] : List Str)) fun _ _ _ _ _ _ us hl => match us, hl with | [_, _, _], _ => rfl⟩
    m_init := ⟨f24, _, fun_mk (st := inClass (topS 28) 0) l24 c24 k24, ⟨a24, i24, k24⟩, (fun_mk (st := inClass (topS 28) 0) l24 c24 k24).binds (ps := (["self", "fraction"] : List Str)) fun _ _ _ _ _ _ us hl => match us, hl with | [_, _], _ => rfl⟩
    m_move := ⟨f25, _, fun_mk (st := inClass (topS 28) 1) l25 c25 k25, ⟨a25, i25, k25⟩, (fun_mk (st := inClass (topS 28) 1) l25 c25 k25).binds (ps := (["self", "fraction"] : List Str)) fun _ _ _ _ _ _ us hl => match us, hl with | [_, _], _ => rfl⟩
    l_strolled := ⟨f26, _, fun_mk (st := topS 42) l26 c26 k26, PySem.W.mg_of X G a26, (fun_mk (st := topS 42) l26 c26 k26).binds (ps := (["_law_script", "_law_town", "_law_walker", "_law_begun"] : List Str)) fun _ _ _ _ _ _ us hl => match us, hl with | [_, _, _, _], _ => rfl⟩
    m_duplicate := ⟨f27, _, fun_mk (st := inClass (topS 28) 7) l27 c27 k27, ⟨a27, i27, k27⟩, (fun_mk (st := inClass (topS 28) 7) l27 c27 k27).binds (ps := (["self"] : List Str)) fun _ _ _ _ _ _ us hl => match us, hl with | [_], _ => rfl⟩
    law := ⟨fa, _, fun_mk (st := topS 44) l28 c28 k28, PySem.W.mg_of X G a28, (fun_mk (st := topS 44) l28 c28 k28).binds (ps := (["_law_script"] : List Str)) fun _ _ _ _ _ _ us hl => match us, hl with | [_], _ => rfl⟩
    InvalidFraction := ⟨PySem.W.mg_of X G ea0, ex0, ek0, es0, et0⟩
    InvalidWord := ⟨PySem.W.mg_of X G ea1, ex1, ek1, es1, et1⟩
    InvalidExpansion := ⟨PySem.W.mg_of X G ea2, ex2, ek2, es2, et2⟩
    InvalidNumber := ⟨PySem.W.mg_of X G ea3, ex3, ek3, es3, et3⟩
    InvalidMatrix := ⟨PySem.W.mg_of X G ea4, ex4, ek4, es4, et4⟩
    NotNeighbours := ⟨PySem.W.mg_of X G ea5, ex5, ek5, es5, et5⟩
    NoParents := ⟨PySem.W.mg_of X G ea6, ex6, ek6, es6, et6⟩
    NotAbove := ⟨PySem.W.mg_of X G ea7, ex7, ek7, es7, et7⟩
    IsTop := ⟨PySem.W.mg_of X G ea8, ex8, ek8, es8, et8⟩
    Equal := ⟨PySem.W.mg_of X G ea9, ex9, ek9, es9, et9⟩
    TooLarge := ⟨PySem.W.mg_of X G ea10, ex10, ek10, es10, et10⟩
    NothingToUndo := ⟨PySem.W.mg_of X G ea11, ex11, ek11, es11, et11⟩
    ParseError := ⟨PySem.W.mg_of X G ea12, ex12, ek12, es12, et12⟩
    LARGEST := gl_int (PySem.W.mg_of X G vc0)
    n_ValueError := PySem.W.mg_none_of X G z_ValueError
    n_bool := PySem.W.mg_none_of X G z_bool
    n_int := PySem.W.mg_none_of X G z_int
    n_isinstance := PySem.W.mg_none_of X G z_isinstance
    n_len := PySem.W.mg_none_of X G z_len
    n_list := PySem.W.mg_none_of X G z_list
    n_max := PySem.W.mg_none_of X G z_max
    n_min := PySem.W.mg_none_of X G z_min
    n_range := PySem.W.mg_none_of X G z_range
    n_tuple := PySem.W.mg_none_of X G z_tuple
    Walker := ⟨PySem.W.mg_of X G aW, ⟨pgW, hdW, poW, saW⟩, mkW, kcW, nPW, nKW⟩
    Walker_is := ⟨⟨pgW, hdW, poW, saW⟩, haW, hnW, htW, hmW, meW⟩
    FractionError := PySem.W.mg_of X G ea14
    xf := exF_of xf
  }
  exact ⟨PySem.W.fnOf "law" "law" (defArgs (topS 44)) (defBody (topS 44)) (defScope (topS 44)) .none kV28 dc28 pm28 an28 cd28 ct28, fun s v => .of_eq rfl, fun base _ _ => law_ok (ok_law T) law_true⟩
end DL
open PySem PySem.W PyProof.Rows
set_option maxRecDepth 100000 in
set_option maxHeartbeats 0 in
theorem PySem.Challenge.cw_fracgraph_k17_whole_walkers_undone_holds : PySem.Challenge.rw_fracgraph_k17_whole_walkers_undone.Holds := by
  w_on; o_law; k_head; (case hw => w_witness2)
  k_fill
  refine L2.walk_of (l := PySem.Challenge.rw_fracgraph_k17_whole_walkers_undone) (n := 63) (k := 8) (x := "_law_script") (CX := fun w => L2.CX (PySem.Challenge.rw_fracgraph_k17_whole_walkers_undone).prog w) (sp := fun w => DL.spLaw _) rfl (by decide) rfl ⟨rfl, by decide, by decide⟩ (fun w h Y => PySem.W.kIn_of Y) ?F (fun _ _ a ns hl _ hS => ⟨a, ns, rfl, hS, hl, fun _ => rfl⟩) (fun _ _ _ _ _ h => DL.law_cx h)
  case F =>
    intro w mg fa h KX G hmg
    refine' DL.all_mk KX G hmg ?aW ?pgW ?hdW ?poW ?saW ?mkW ?kcW ?nPW ?nKW ?haW ?hnW ?htW ?hmW ?meW ?a0 ?l0 ?c0 ?k0 ?a1 ?l1 ?c1 ?k1 ?a2 ?l2 ?c2 ?k2 ?a3 ?i3 ?l3 ?c3 ?k3 ?a4 ?i4 ?l4 ?c4 ?k4 ?a5 ?i5 ?l5 ?c5 ?k5 ?a6 ?i6 ?l6 ?c6 ?k6 ?a7 ?l7 ?c7 ?k7 ?a8 ?l8 ?c8 ?k8 ?a9 ?l9 ?c9 ?k9 ?a10 ?l10 ?c10 ?k10 ?a11 ?l11 ?c11 ?k11 ?a12 ?l12 ?c12 ?k12 ?a13 ?l13 ?c13 ?k13 ?a14 ?l14 ?c14 ?k14 ?a15 ?l15 ?c15 ?k15 ?a16 ?l16 ?c16 ?k16 ?a17 ?l17 ?c17 ?k17 ?a18 ?l18 ?c18 ?k18 ?a19 ?l19 ?c19 ?k19 ?a20 ?l20 ?c20 ?k20 ?a21 ?l21 ?c21 ?k21 ?a22 ?l22 ?c22 ?k22 ?a23 ?l23 ?c23 ?k23 ?a24 ?i24 ?l24 ?c24 ?k24 ?a25 ?i25 ?l25 ?c25 ?k25 ?a26 ?l26 ?c26 ?k26 ?a27 ?i27 ?l27 ?c27 ?k27 ?a28 ?l28 ?c28 ?k28 ?ea0 ?ex0 ?ek0 ?es0 ?et0 ?ea1 ?ex1 ?ek1 ?es1 ?et1 ?ea2 ?ex2 ?ek2 ?es2 ?et2 ?ea3 ?ex3 ?ek3 ?es3 ?et3 ?ea4 ?ex4 ?ek4 ?es4 ?et4 ?ea5 ?ex5 ?ek5 ?es5 ?et5 ?ea6 ?ex6 ?ek6 ?es6 ?et6 ?ea7 ?ex7 ?ek7 ?es7 ?et7 ?ea8 ?ex8 ?ek8 ?es8 ?et8 ?ea9 ?ex9 ?ek9 ?es9 ?et9 ?ea10 ?ex10 ?ek10 ?es10 ?et10 ?ea11 ?ex11 ?ek11 ?es11 ?et11 ?ea12 ?ex12 ?ek12 ?es12 ?et12 ?ea14 ?xf ?vc0 ?z_ValueError ?z_bool ?z_int ?z_isinstance ?z_len ?z_list ?z_max ?z_min ?z_range ?z_tuple
    (case aW => k_is)
    (case pgW => k_is)
    (case hdW => k_is)
    (case poW => k_is)
    (case saW => k_is)
    (case mkW => k_is)
    (case kcW => k_is)
    (case nPW => k_is)
    (case nKW => k_is)
    (case haW => k_is)
    (case hnW => k_is)
    (case htW => k_is)
    (case hmW => k_is)
    (case meW => kernel_rfl)
    (case a0 => k_is)
    (case l0 => k_is)
    (case c0 => k_is)
    (case k0 => k_is)
    (case a1 => k_is)
    (case l1 => k_is)
    (case c1 => k_is)
    (case k1 => k_is)
    (case a2 => k_is)
    (case l2 => k_is)
    (case c2 => k_is)
    (case k2 => k_is)
    (case a3 => k_is)
    (case i3 => k_is)
    (case l3 => k_is)
    (case c3 => k_is)
    (case k3 => k_is)
    (case a4 => k_is)
    (case i4 => k_is)
    (case l4 => k_is)
    (case c4 => k_is)
    (case k4 => k_is)
    (case a5 => k_is)
    (case i5 => k_is)
    (case l5 => k_is)
    (case c5 => k_is)
    (case k5 => k_is)
    (case a6 => k_is)
    (case i6 => k_is)
    (case l6 => k_is)
    (case c6 => k_is)
    (case k6 => k_is)
    (case a7 => k_is)
    (case l7 => k_is)
    (case c7 => k_is)
    (case k7 => k_is)
    (case a8 => k_is)
    (case l8 => k_is)
    (case c8 => k_is)
    (case k8 => k_is)
    (case a9 => k_is)
    (case l9 => k_is)
    (case c9 => k_is)
    (case k9 => k_is)
    (case a10 => k_is)
    (case l10 => k_is)
    (case c10 => k_is)
    (case k10 => k_is)
    (case a11 => k_is)
    (case l11 => k_is)
    (case c11 => k_is)
    (case k11 => k_is)
    (case a12 => k_is)
    (case l12 => k_is)
    (case c12 => k_is)
    (case k12 => k_is)
    (case a13 => k_is)
    (case l13 => k_is)
    (case c13 => k_is)
    (case k13 => k_is)
    (case a14 => k_is)
    (case l14 => k_is)
    (case c14 => k_is)
    (case k14 => k_is)
    (case a15 => k_is)
    (case l15 => k_is)
    (case c15 => k_is)
    (case k15 => k_is)
    (case a16 => k_is)
    (case l16 => k_is)
    (case c16 => k_is)
    (case k16 => k_is)
    (case a17 => k_is)
    (case l17 => k_is)
    (case c17 => k_is)
    (case k17 => k_is)
    (case a18 => k_is)
    (case l18 => k_is)
    (case c18 => k_is)
    (case k18 => k_is)
    (case a19 => k_is)
    (case l19 => k_is)
    (case c19 => k_is)
    (case k19 => k_is)
    (case a20 => k_is)
    (case l20 => k_is)
    (case c20 => k_is)
    (case k20 => k_is)
    (case a21 => k_is)
    (case l21 => k_is)
    (case c21 => k_is)
    (case k21 => k_is)
    (case a22 => k_is)
    (case l22 => k_is)
    (case c22 => k_is)
    (case k22 => k_is)
    (case a23 => k_is)
    (case l23 => k_is)
    (case c23 => k_is)
    (case k23 => k_is)
    (case a24 => k_is)
    (case i24 => k_is)
    (case l24 => k_is)
    (case c24 => k_is)
    (case k24 => k_is)
    (case a25 => k_is)
    (case i25 => k_is)
    (case l25 => k_is)
    (case c25 => k_is)
    (case k25 => k_is)
    (case a26 => k_is)
    (case l26 => k_is)
    (case c26 => k_is)
    (case k26 => k_is)
    (case a27 => k_is)
    (case i27 => k_is)
    (case l27 => k_is)
    (case c27 => k_is)
    (case k27 => k_is)
    (case a28 => k_is)
    (case l28 => k_is)
    (case c28 => k_is)
    (case k28 => k_is)
    (case ea0 => k_is)
    (case ex0 => k_exc)
    (case ek0 => k_is)
    (case es0 => k_is)
    (case et0 => k_is)
    (case ea1 => k_is)
    (case ex1 => k_exc)
    (case ek1 => k_is)
    (case es1 => k_is)
    (case et1 => k_is)
    (case ea2 => k_is)
    (case ex2 => k_exc)
    (case ek2 => k_is)
    (case es2 => k_is)
    (case et2 => k_is)
    (case ea3 => k_is)
    (case ex3 => k_exc)
    (case ek3 => k_is)
    (case es3 => k_is)
    (case et3 => k_is)
    (case ea4 => k_is)
    (case ex4 => k_exc)
    (case ek4 => k_is)
    (case es4 => k_is)
    (case et4 => k_is)
    (case ea5 => k_is)
    (case ex5 => k_exc)
    (case ek5 => k_is)
    (case es5 => k_is)
    (case et5 => k_is)
    (case ea6 => k_is)
    (case ex6 => k_exc)
    (case ek6 => k_is)
    (case es6 => k_is)
    (case et6 => k_is)
    (case ea7 => k_is)
    (case ex7 => k_exc)
    (case ek7 => k_is)
    (case es7 => k_is)
    (case et7 => k_is)
    (case ea8 => k_is)
    (case ex8 => k_exc)
    (case ek8 => k_is)
    (case es8 => k_is)
    (case et8 => k_is)
    (case ea9 => k_is)
    (case ex9 => k_exc)
    (case ek9 => k_is)
    (case es9 => k_is)
    (case et9 => k_is)
    (case ea10 => k_is)
    (case ex10 => k_exc)
    (case ek10 => k_is)
    (case es10 => k_is)
    (case et10 => k_is)
    (case ea11 => k_is)
    (case ex11 => k_exc)
    (case ek11 => k_is)
    (case es11 => k_is)
    (case et11 => k_is)
    (case ea12 => k_is)
    (case ex12 => k_exc)
    (case ek12 => k_is)
    (case es12 => k_is)
    (case et12 => k_is)
    (case ea14 => k_is)
    (case xf => kernel_rfl)
    (case vc0 => k_is)
    (case z_ValueError => k_is)
    (case z_bool => k_is)
    (case z_int => k_is)
    (case z_isinstance => k_is)
    (case z_len => k_is)
    (case z_list => k_is)
    (case z_max => k_is)
    (case z_min => k_is)
    (case z_range => k_is)
    (case z_tuple => k_is)
