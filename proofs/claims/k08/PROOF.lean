import PyProof.Rows.All
import Wide.All
import OpenK.AllK
import Wide.FinOn
import PySem.Challenge.RW_bondyears_k08_whole_days_together
import HandS.ForMost
import HandS.ForExc
import HandS.Walk
import HandS.Flow
import HandS.TupAny
import HandS.Deep
import HandS.IsInst
import HandS.Style
import HandS.RaiseMore
import HandS.SortInts
import HandS.Zip
import HandS.ExcIs
import HandS.ExcField
import HandS.ExcValue
import HandS.ExcInit
import KE.KExcIs
import HandS.Ends
import HandS.Head0
import HandS.Head1
import HandS.Head2
import HandS.HeadEnd
import HandS.HeadHook1
import HandS.HeadHook2
import HandS.Small
import HandS.Words
import PyProof.EqAt
import PyProof.ListMulRoad
import KE.GoesMore
import PyProof.EnumMake
import HandS.SortRule
import KE.SortData
import PyProof.ReprLen
import PyProof.P3Eq
import OpenK.KPick
import OpenK.KUnr
set_option Elab.async false
set_option linter.all false
set_option maxRecDepth 100000
set_option maxHeartbeats 0
/-! Vl1: data, ownership trees, what a state stands for, what a step may change. -/
namespace Vl
open PySem PySem.Spec PyProof.Rows L2

abbrev Gx := PySem.W.Frag × (Str → Option Value)

/-- pure data -/
inductive D where
  | non | bl (b : Bool) | int (i : Int) | str (x : Str)
  | tup (xs : List D) | lst (xs : List D)
  | dic (kvs : List (Key × D)) | dit (kvs : List (List Key × D))
  | exc (c : Str) (fs : List (Str × D))

instance : Inhabited D := ⟨.non⟩

/-- the fields of an exception's own dict -/
def XdOf (Z : Hp) (dd : Option Addr) (fs : List (Str × V)) : Prop :=
  match dd with
  | none => fs = []
  | some d => Z d = some (.xd fs)

mutual
/-- the value v stands for d, by what is frozen in Z -/
inductive DR (G : Gx) (Z : Hp) : V → D → Prop
  | non : DR G Z .non .non
  | bl (b : Bool) : DR G Z (.bl b) (.bl b)
  | int (i : Int) : DR G Z (.int i) (.int i)
  | str (x : Str) : DR G Z (.str x) (.str x)
  | lst {a : Addr} {xs : List V} {ds : List D} : Rd Z a (.lst xs) → DRs G Z xs ds → DR G Z (.ref a) (.lst ds)
  | tup {a : Addr} {xs : List V} {ds : List D} : SqT G.1 Z a xs → DRs G Z xs ds → DR G Z (.ref a) (.tup ds)
  | dic {a : Addr} {kvs : List (Key × V)} {dks : List (Key × D)} : Rd Z a (.dK kvs) → kvs.map (·.1) = dks.map (·.1) → DRs G Z (kvs.map (·.2)) (dks.map (·.2)) → DR G Z (.ref a) (.dic dks)
  | dit {a : Addr} {kvs : List (List Key × V)} {dks : List (List Key × D)} : Rd Z a (.dT kvs) → kvs.map (·.1) = dks.map (·.1) → DRs G Z (kvs.map (·.2)) (dks.map (·.2)) → DR G Z (.ref a) (.dit dks)
  | exc {a C : Addr} {c : Str} {dd : Option Addr} {φ : Heap → Prop} {fsV : List (Str × V)} {fs : List (Str × D)} : Z a = some (.ext φ) →
      (∀ h, φ h → ∃ (oe : Obj) (vs : Array Value), h.get? a = some oe ∧ Zc (.ref C) dd oe ∧ oe.data = .fields vs) → G.2 c = some (.ref C) → XdOf Z dd fsV →
      fsV.map (·.1) = fs.map (·.1) → DRs G Z (fsV.map (·.2)) (fs.map (·.2)) → DR G Z (.ref a) (.exc c fs)
inductive DRs (G : Gx) (Z : Hp) : List V → List D → Prop
  | nil : DRs G Z [] []
  | cons {v : V} {vs : List V} {d : D} {ds : List D} : DR G Z v d → DRs G Z vs ds → DRs G Z (v :: vs) (d :: ds)
end

theorem same_seqT {K : PySem.W.Frag} {H H' : Hp} {a : Addr} {xs : List V} (e : Same H H') (h : SqT K H a xs) : SqT K H' a xs := by
  rcases h with (h | ⟨o, h⟩) | h
  · exact .inl (.inl (e _ _ h))
  · exact .inl (.inr ⟨o, e _ _ h⟩)
  · exact .inr h
theorem same_rd {H H' : Hp} {a : Addr} {u : HO} (e : Same H H') (h : Rd H a u) : Rd H' a u := by
  rcases h with h | ⟨o, h⟩
  · exact .inl (e _ _ h)
  · exact .inr ⟨o, e _ _ h⟩
theorem same_xd {H H' : Hp} {dd : Option Addr} {fs : List (Str × V)} (e : Same H H') (h : XdOf H dd fs) : XdOf H' dd fs := by
  cases dd with
  | none => exact h
  | some d => exact e _ _ h

mutual
theorem DR.mono {G : Gx} {Z Z' : Hp} (s : Same Z Z') : ∀ {v : V} {d : D}, DR G Z v d → DR G Z' v d
  | _, _, .non => .non
  | _, _, .bl b => .bl b
  | _, _, .int i => .int i
  | _, _, .str x => .str x
  | _, _, .lst h r => .lst (same_rd s h) (DRs.mono s r)
  | _, _, .tup h r => .tup (same_seqT s h) (DRs.mono s r)
  | _, _, .dic h k r => .dic (same_rd s h) k (DRs.mono s r)
  | _, _, .dit h k r => .dit (same_rd s h) k (DRs.mono s r)
  | _, _, .exc h p g x k r => .exc (s _ _ h) p g (same_xd s x) k (DRs.mono s r)
theorem DRs.mono {G : Gx} {Z Z' : Hp} (s : Same Z Z') : ∀ {vs : List V} {ds : List D}, DRs G Z vs ds → DRs G Z' vs ds
  | _, _, .nil => .nil
  | _, _, .cons h r => .cons (DR.mono s h) (DRs.mono s r)
end

theorem DRs.length {G : Gx} {Z : Hp} : ∀ {vs : List V} {ds : List D}, DRs G Z vs ds → vs.length = ds.length
  | _, _, .nil => rfl
  | _, _, .cons _ r => by simp [DRs.length r]
theorem DRs.get {G : Gx} {Z : Hp} : ∀ {vs : List V} {ds : List D} {i : Nat} {v : V}, DRs G Z vs ds → vs[i]? = some v → ∃ d, ds[i]? = some d ∧ DR G Z v d
  | _, _, 0, _, .cons h r, e => by simp at e; subst e; exact ⟨_, rfl, h⟩
  | _, _, i + 1, _, .cons h r, e => by simpa using DRs.get (i := i) r (by simpa using e)
theorem DRs.get' {G : Gx} {Z : Hp} : ∀ {vs : List V} {ds : List D} {i : Nat} {d : D}, DRs G Z vs ds → ds[i]? = some d → ∃ v, vs[i]? = some v ∧ DR G Z v d
  | _, _, 0, _, .cons h r, e => by simp at e; subst e; exact ⟨_, rfl, h⟩
  | _, _, i + 1, _, .cons h r, e => by simpa using DRs.get' (i := i) r (by simpa using e)
theorem DRs.append {G : Gx} {Z : Hp} : ∀ {vs ws : List V} {ds es : List D}, DRs G Z vs ds → DRs G Z ws es → DRs G Z (vs ++ ws) (ds ++ es)
  | _, _, _, _, .nil, s => s
  | _, _, _, _, .cons h r, s => .cons h (DRs.append r s)
theorem DRs.of_get {G : Gx} {Z : Hp} : ∀ {vs : List V} {ds : List D}, vs.length = ds.length → (∀ (i : Nat) v d, vs[i]? = some v → ds[i]? = some d → DR G Z v d) → DRs G Z vs ds
  | [], [], _, _ => .nil
  | v :: vs, d :: ds, hl, h => .cons (h 0 v d rfl rfl) (DRs.of_get (by simpa using hl) fun i v' d' e1 e2 => h (i + 1) v' d' (by simpa using e1) (by simpa using e2))

/-! ### ownership trees -/
inductive T where
  | fro (d : D) | lst (ts : List T) | dic (kvs : List (Key × T)) | dit (kvs : List (List Key × T))

instance : Inhabited T := ⟨.fro .non⟩

mutual
def T.er : T → D
  | .fro d => d
  | .lst ts => .lst (T.erL ts)
  | .dic kvs => .dic (T.erK kvs)
  | .dit kvs => .dit (T.erKT kvs)
def T.erL : List T → List D
  | [] => []
  | t :: ts => t.er :: T.erL ts
def T.erK : List (Key × T) → List (Key × D)
  | [] => []
  | (k, t) :: r => (k, t.er) :: T.erK r
def T.erKT : List (List Key × T) → List (List Key × D)
  | [] => []
  | (k, t) :: r => (k, t.er) :: T.erKT r
end
theorem T.erL_map : ∀ ts : List T, T.erL ts = ts.map T.er
  | [] => by rw [T.erL]; rfl
  | t :: ts => by rw [T.erL, T.erL_map ts]; rfl
theorem T.erK_map : ∀ ts : List (Key × T), T.erK ts = ts.map fun p => (p.1, p.2.er)
  | [] => by rw [T.erK]; rfl
  | (k, t) :: ts => by rw [T.erK, T.erK_map ts]; rfl
theorem T.erKT_map : ∀ ts : List (List Key × T), T.erKT ts = ts.map fun p => (p.1, p.2.er)
  | [] => by rw [T.erKT]; rfl
  | (k, t) :: ts => by rw [T.erKT, T.erKT_map ts]; rfl
theorem T.erK_keys (ts : List (Key × T)) : (T.erK ts).map (·.1) = ts.map (·.1) := by
  rw [T.erK_map, List.map_map]; rfl
theorem T.erK_vals (ts : List (Key × T)) : (T.erK ts).map (·.2) = T.erL (ts.map (·.2)) := by
  rw [T.erK_map, T.erL_map, List.map_map, List.map_map]; rfl
theorem T.erKT_keys (ts : List (List Key × T)) : (T.erKT ts).map (·.1) = ts.map (·.1) := by
  rw [T.erKT_map, List.map_map]; rfl
theorem T.erKT_vals (ts : List (List Key × T)) : (T.erKT ts).map (·.2) = T.erL (ts.map (·.2)) := by
  rw [T.erKT_map, T.erL_map, List.map_map, List.map_map]; rfl
theorem T.erL_fro : ∀ ds : List D, T.erL (ds.map T.fro) = ds
  | [] => by rw [List.map_nil, T.erL]
  | d :: ds => by rw [List.map_cons, T.erL, T.erL_fro ds, T.er]

mutual
inductive RT (G : Gx) (Z H : Hp) : V → T → List Addr → Prop
  | fro {v : V} {d : D} : DR G Z v d → RT G Z H v (.fro d) []
  | lst {a : Addr} {vs : List V} {ts : List T} {f : List Addr} : H a = some (.lst vs) → RTs G Z H vs ts f → RT G Z H (.ref a) (.lst ts) (a :: f)
  | dic {a : Addr} {kvs : List (Key × V)} {tks : List (Key × T)} {f : List Addr} : H a = some (.dK kvs) → kvs.map (·.1) = tks.map (·.1) → RTs G Z H (kvs.map (·.2)) (tks.map (·.2)) f → RT G Z H (.ref a) (.dic tks) (a :: f)
  | dit {a : Addr} {kvs : List (List Key × V)} {tks : List (List Key × T)} {f : List Addr} : H a = some (.dT kvs) → kvs.map (·.1) = tks.map (·.1) → RTs G Z H (kvs.map (·.2)) (tks.map (·.2)) f → RT G Z H (.ref a) (.dit tks) (a :: f)
inductive RTs (G : Gx) (Z H : Hp) : List V → List T → List Addr → Prop
  | nil : RTs G Z H [] [] []
  | cons {v : V} {vs : List V} {t : T} {ts : List T} {f g : List Addr} : RT G Z H v t f → RTs G Z H vs ts g → RTs G Z H (v :: vs) (t :: ts) (f ++ g)
end

/-- the frozen heap, widened by the footprint f as it stands in H -/
def frz (Z H : Hp) (f : List Addr) : Hp := fun a => if a ∈ f then H a else Z a

mutual
theorem RT.er {G : Gx} {Z H : Hp} (s : Same Z H) : ∀ {v : V} {t : T} {f : List Addr}, RT G Z H v t f → DR G H v t.er
  | _, _, _, .fro h => by rw [T.er]; exact h.mono s
  | _, _, _, .lst h r => by rw [T.er]; exact .lst (.inl h) (RTs.er s r)
  | _, _, _, .dic h k r => by rw [T.er]; exact .dic (.inl h) (by rw [T.erK_keys]; exact k) (by rw [T.erK_vals]; exact RTs.er s r)
  | _, _, _, .dit h k r => by rw [T.er]; exact .dit (.inl h) (by rw [T.erKT_keys]; exact k) (by rw [T.erKT_vals]; exact RTs.er s r)
theorem RTs.er {G : Gx} {Z H : Hp} (s : Same Z H) : ∀ {vs : List V} {ts : List T} {f : List Addr}, RTs G Z H vs ts f → DRs G H vs (T.erL ts)
  | _, _, _, .nil => by rw [T.erL]; exact .nil
  | _, _, _, .cons h r => by rw [T.erL]; exact .cons (RT.er s h) (RTs.er s r)
end
mutual
theorem RT.keep {G : Gx} {Z Z' H H' : Hp} (s : Same Z Z') : ∀ {v : V} {t : T} {f : List Addr}, RT G Z H v t f → (∀ a ∈ f, H' a = H a) → RT G Z' H' v t f
  | _, _, _, .fro h, _ => .fro (h.mono s)
  | _, _, _, .lst h r, k => .lst ((k _ List.mem_cons_self).trans h) (RTs.keep s r fun a ha => k a (List.mem_cons_of_mem _ ha))
  | _, _, _, .dic h e r, k => .dic ((k _ List.mem_cons_self).trans h) e (RTs.keep s r fun a ha => k a (List.mem_cons_of_mem _ ha))
  | _, _, _, .dit h e r, k => .dit ((k _ List.mem_cons_self).trans h) e (RTs.keep s r fun a ha => k a (List.mem_cons_of_mem _ ha))
theorem RTs.keep {G : Gx} {Z Z' H H' : Hp} (s : Same Z Z') : ∀ {vs : List V} {ts : List T} {f : List Addr}, RTs G Z H vs ts f → (∀ a ∈ f, H' a = H a) → RTs G Z' H' vs ts f
  | _, _, _, .nil, _ => .nil
  | _, _, _, .cons h r, k => .cons (RT.keep s h fun a ha => k a (List.mem_append_left _ ha)) (RTs.keep s r fun a ha => k a (List.mem_append_right _ ha))
end
mutual
theorem RT.there {G : Gx} {Z H : Hp} : ∀ {v : V} {t : T} {f : List Addr}, RT G Z H v t f → ∀ a ∈ f, ∃ o, H a = some o
  | _, _, _, .fro _, a, ha => nomatch ha
  | _, _, _, .lst h r, a, ha => by
    rcases List.mem_cons.mp ha with rfl | ha
    · exact ⟨_, h⟩
    · exact RTs.there r a ha
  | _, _, _, .dic h _ r, a, ha => by
    rcases List.mem_cons.mp ha with rfl | ha
    · exact ⟨_, h⟩
    · exact RTs.there r a ha
  | _, _, _, .dit h _ r, a, ha => by
    rcases List.mem_cons.mp ha with rfl | ha
    · exact ⟨_, h⟩
    · exact RTs.there r a ha
theorem RTs.there {G : Gx} {Z H : Hp} : ∀ {vs : List V} {ts : List T} {f : List Addr}, RTs G Z H vs ts f → ∀ a ∈ f, ∃ o, H a = some o
  | _, _, _, .nil, a, ha => nomatch ha
  | _, _, _, .cons h r, a, ha => by
    rcases List.mem_append.mp ha with ha | ha
    · exact RT.there h a ha
    · exact RTs.there r a ha
end
theorem frz_same {Z H : Hp} {f : List Addr} (s : Same Z H) : Same Z (frz Z H f) := fun a o e => by
  unfold frz
  split
  · exact s a o e
  · exact e
theorem frz_sub {Z H : Hp} {f : List Addr} (s : Same Z H) : Same (frz Z H f) H := fun a o e => by
  unfold frz at e
  split at e
  · exact e
  · exact s a o e
mutual
theorem RT.freeze {G : Gx} {Z H Y : Hp} (sy : Same Z Y) : ∀ {v : V} {t : T} {f : List Addr}, RT G Z H v t f → (∀ a ∈ f, Y a = H a) → DR G Y v t.er
  | _, _, _, .fro h, _ => by rw [T.er]; exact h.mono sy
  | _, _, _, .lst h r, k => by rw [T.er]; exact .lst (.inl ((k _ List.mem_cons_self).trans h)) (RTs.freeze sy r fun a ha => k a (List.mem_cons_of_mem _ ha))
  | _, _, _, .dic h e r, k => by rw [T.er]; exact .dic (.inl ((k _ List.mem_cons_self).trans h)) (by rw [T.erK_keys]; exact e) (by rw [T.erK_vals]; exact RTs.freeze sy r fun a ha => k a (List.mem_cons_of_mem _ ha))
  | _, _, _, .dit h e r, k => by rw [T.er]; exact .dit (.inl ((k _ List.mem_cons_self).trans h)) (by rw [T.erKT_keys]; exact e) (by rw [T.erKT_vals]; exact RTs.freeze sy r fun a ha => k a (List.mem_cons_of_mem _ ha))
theorem RTs.freeze {G : Gx} {Z H Y : Hp} (sy : Same Z Y) : ∀ {vs : List V} {ts : List T} {f : List Addr}, RTs G Z H vs ts f → (∀ a ∈ f, Y a = H a) → DRs G Y vs (T.erL ts)
  | _, _, _, .nil, _ => by rw [T.erL]; exact .nil
  | _, _, _, .cons h r, k => by rw [T.erL]; exact .cons (RT.freeze sy h fun a ha => k a (List.mem_append_left _ ha)) (RTs.freeze sy r fun a ha => k a (List.mem_append_right _ ha))
end
theorem RTs.of_DRs {G : Gx} {Z H : Hp} : ∀ {vs : List V} {ds : List D}, DRs G Z vs ds → RTs G Z H vs (ds.map T.fro) []
  | _, _, .nil => .nil
  | _, _, .cons h r => RTs.cons (f := []) (g := []) (.fro h) (RTs.of_DRs r)
theorem RTs.length {G : Gx} {Z H : Hp} : ∀ {vs : List V} {ts : List T} {f : List Addr}, RTs G Z H vs ts f → vs.length = ts.length
  | _, _, _, .nil => rfl
  | _, _, _, .cons _ r => by simp [RTs.length r]

/-! ### slots -/
abbrev Env := List (Option T)
inductive RSl (G : Gx) (Z H : Hp) : L2.St → Env → List Addr → Prop
  | nil : RSl G Z H [] [] []
  | no {o : Option V} {σ : L2.St} {ρ : Env} {f : List Addr} : RSl G Z H σ ρ f → RSl G Z H (o :: σ) (none :: ρ) f
  | so {v : V} {σ : L2.St} {t : T} {ρ : Env} {f g : List Addr} : RT G Z H v t f → RSl G Z H σ ρ g → RSl G Z H (some v :: σ) (some t :: ρ) (f ++ g)
theorem RSl.keep {G : Gx} {Z Z' H H' : Hp} {σ : L2.St} {ρ : Env} {f : List Addr} (r : RSl G Z H σ ρ f) (s : Same Z Z') (k : ∀ a ∈ f, H' a = H a) : RSl G Z' H' σ ρ f := by
  induction r with
  | nil => exact .nil
  | no r ih => exact .no (ih k)
  | so h r ih => exact .so (h.keep s fun a ha => k a (List.mem_append_left _ ha)) (ih fun a ha => k a (List.mem_append_right _ ha))
theorem RSl.there {G : Gx} {Z H : Hp} {σ : L2.St} {ρ : Env} {f : List Addr} (r : RSl G Z H σ ρ f) : ∀ a ∈ f, ∃ o, H a = some o := by
  induction r with
  | nil => intro a ha; cases ha
  | no r ih => exact ih
  | so h r ih =>
    intro a ha
    rcases List.mem_append.mp ha with ha | ha
    · exact h.there a ha
    · exact ih a ha
theorem RSl.length {G : Gx} {Z H : Hp} {σ : L2.St} {ρ : Env} {f : List Addr} (r : RSl G Z H σ ρ f) : σ.length = ρ.length := by
  induction r with
  | nil => rfl
  | no r ih => simp [ih]
  | so h r ih => simp [ih]
/-- a slot taken out, and something put back in its place -/
theorem RSl.at {G : Gx} {Z H : Hp} {σ : L2.St} {ρ : Env} {fp : List Addr} (r : RSl G Z H σ ρ fp) : ∀ {i : Nat} {t : T}, ρ[i]? = some (some t) →
    ∃ v l f g, σ[i]? = some (some v) ∧ RT G Z H v t f ∧ fp = l ++ (f ++ g) ∧
      (∀ Z' H', Same Z Z' → (∀ a ∈ l ++ g, H' a = H a) → (RSl G Z' H' (σ.set i none) (ρ.set i none) (l ++ g)) ∧ ∀ v' t' f', RT G Z' H' v' t' f' → RSl G Z' H' (σ.set i (some v')) (ρ.set i (some t')) (l ++ (f' ++ g))) := by
  induction r with
  | nil => intro i t e; simp at e
  | @no o σ ρ f r ih =>
    intro i t e
    cases i with
    | zero => simp at e
    | succ i =>
      obtain ⟨v, l, f, g, h1, h2, h3, h4⟩ := ih (i := i) (t := t) (by simpa using e)
      refine ⟨v, l, f, g, by simpa using h1, h2, h3, fun Z' H' s k => ⟨?_, fun v' t' f' rt => ?_⟩⟩
      · simpa using RSl.no (o := o) (h4 Z' H' s k).1
      · simpa using RSl.no (o := o) ((h4 Z' H' s k).2 v' t' f' rt)
  | @so v0 σ t0 ρ f0 g0 h r ih =>
    intro i t e
    cases i with
    | zero =>
      simp at e
      subst e
      refine ⟨v0, [], f0, g0, by simp, h, by simp, fun Z' H' s k => ⟨?_, fun v' t' f' rt => ?_⟩⟩
      · simpa using RSl.no (o := Option.none) (r.keep s fun a ha => k a (by simpa using ha))
      · simpa using RSl.so rt (r.keep s fun a ha => k a (by simpa using ha))
    | succ i =>
      obtain ⟨v, l, f, g, h1, h2, h3, h4⟩ := ih (i := i) (t := t) (by simpa using e)
      refine ⟨v, f0 ++ l, f, g, by simpa using h1, h2, by rw [h3]; simp, fun Z' H' s k => ?_⟩
      have k2 : ∀ a ∈ l ++ g, H' a = H a := fun a ha => k a (by rw [List.append_assoc]; exact List.mem_append_right _ ha)
      have h0 : RT G Z' H' v0 t0 f0 := h.keep s fun a ha => k a (by rw [List.append_assoc]; exact List.mem_append_left _ ha)
      refine ⟨?_, fun v' t' f' rt => ?_⟩
      · have z := RSl.so h0 (h4 Z' H' s k2).1
        rw [List.append_assoc]
        simpa using z
      · have z := RSl.so h0 ((h4 Z' H' s k2).2 v' t' f' rt)
        rw [List.append_assoc]
        simpa using z
/-- something put into a place of which nothing is told -/
theorem RSl.put {G : Gx} {Z H : Hp} {σ : L2.St} {ρ : Env} {g : List Addr} (r : RSl G Z H σ ρ g) : ∀ {i : Nat}, ρ[i]? = some none → ∃ l k, g = l ++ k ∧ ∀ v' t' f', RT G Z H v' t' f' → RSl G Z H (σ.set i (some v')) (ρ.set i (some t')) (l ++ (f' ++ k)) := by
  induction r with
  | nil => intro i e; simp at e
  | @no o σ ρ f r ih =>
    intro i e
    cases i with
    | zero => exact ⟨[], f, rfl, fun v' t' f' rt => by simpa using RSl.so rt r⟩
    | succ i =>
      obtain ⟨l, k, h1, h2⟩ := ih (i := i) (by simpa using e)
      exact ⟨l, k, h1, fun v' t' f' rt => by simpa using RSl.no (o := o) (h2 v' t' f' rt)⟩
  | @so v0 σ t0 ρ f0 g0 h r ih =>
    intro i e
    cases i with
    | zero => simp at e
    | succ i =>
      obtain ⟨l, k, h1, h2⟩ := ih (i := i) (by simpa using e)
      exact ⟨f0 ++ l, k, by rw [h1]; simp, fun v' t' f' rt => by
        have z := RSl.so h (h2 v' t' f' rt)
        rw [List.append_assoc]
        simpa using z⟩

/-- a state and what it stands for -/
structure SOk (G : Gx) (Z H : Hp) (σ : L2.St) (ρ : Env) (fp : List Addr) : Prop where
  sub : Same Z H
  sl : RSl G Z H σ ρ fp
  nd : fp.Nodup
  fr : ∀ a ∈ fp, Z a = none
/-- what a step may change -/
structure Stp (Z H : Hp) (fp : List Addr) (Z' H' : Hp) (fp' : List Addr) : Prop where
  zle : Same Z Z'
  frame : ∀ a o, H a = some o → a ∉ fp → H' a = some o
  zfr : ∀ a o, Z' a = some o → Z a = none → H a = none ∨ a ∈ fp
  ffr : ∀ a ∈ fp', H a = none ∨ a ∈ fp
theorem Stp.refl {Z H : Hp} {fp : List Addr} : Stp Z H fp Z H fp := ⟨Same.refl _, fun _ _ h _ => h, fun a o h1 h2 => absurd h1 (by rw [h2]; exact fun z => nomatch z), fun _ h => .inr h⟩
theorem Stp.trans {Z H Z1 H1 Z2 H2 : Hp} {fp fp1 fp2 : List Addr} (a : Stp Z H fp Z1 H1 fp1) (b : Stp Z1 H1 fp1 Z2 H2 fp2) : Stp Z H fp Z2 H2 fp2 := by
  have key : ∀ x, H1 x = none → H x = none ∨ x ∈ fp := fun x e => by
    cases q : H x with
    | none => exact .inl rfl
    | some o =>
      by_cases hx : x ∈ fp
      · exact .inr hx
      · have := a.frame x o q hx
        rw [e] at this; cases this
  refine ⟨a.zle.trans b.zle, fun x o e hx => b.frame x o (a.frame x o e hx) fun h1 => ?_, fun x o e n => ?_, fun x hx => ?_⟩
  · rcases a.ffr x h1 with z | z
    · rw [z] at e; cases e
    · exact hx z
  · cases q : Z1 x with
    | some o' => exact a.zfr x o' q n
    | none =>
      rcases b.zfr x o e q with z | z
      · exact key x z
      · exact a.ffr x z
  · rcases b.ffr x hx with z | z
    · exact key x z
    · exact a.ffr x z
theorem Stp.less {Z H Z1 H1 : Hp} {fp fp1 fp2 : List Addr} (a : Stp Z H fp Z1 H1 fp1) (h : ∀ x ∈ fp2, x ∈ fp1) : Stp Z H fp Z1 H1 fp2 :=
  ⟨a.zle, a.frame, a.zfr, fun x hx => a.ffr x (h x hx)⟩
/-- a step of the rest: what stands in f besides is framed -/
theorem Stp.more {Z H Z1 H1 : Hp} {fp fp1 f : List Addr} (a : Stp Z H fp Z1 H1 fp1) : Stp Z H (f ++ fp) Z1 H1 (f ++ fp1) :=
  ⟨a.zle, fun x o e hx => a.frame x o e fun z => hx (List.mem_append_right _ z), fun x o e n => (a.zfr x o e n).imp id fun z => List.mem_append_right _ z, fun x hx => by
    rcases List.mem_append.mp hx with z | z
    · exact .inr (List.mem_append_left _ z)
    · exact (a.ffr x z).imp id fun z => List.mem_append_right _ z⟩

section
variable {G : Gx} {Z H Z' H' : Hp} {σ : L2.St} {ρ : Env} {fp : List Addr} {v : V} {t : T}
/-- a temporary in front -/
theorem SOk.tmp (s : SOk G Z H (some v :: σ) (some t :: ρ) fp) : ∃ f g, fp = f ++ g ∧ RT G Z H v t f ∧ SOk G Z H σ ρ g ∧ (∀ a ∈ f, a ∉ g) ∧ f.Nodup := by
  obtain ⟨sub, sl, nd, fr⟩ := s
  cases sl with
  | @so _ _ _ _ f g h r =>
    have nd' := List.nodup_append.mp nd
    exact ⟨f, g, rfl, h, ⟨sub, r, nd'.2.1, fun a ha => fr a (List.mem_append_right _ ha)⟩, fun a ha hb => nd'.2.2 a ha a hb rfl, nd'.1⟩
theorem SOk.drop {o : Option V} {x : Option T} (s : SOk G Z H (o :: σ) (x :: ρ) fp) : ∃ g, SOk G Z H σ ρ g ∧ ∀ a ∈ g, a ∈ fp := by
  cases x with
  | none =>
    obtain ⟨sub, sl, nd, fr⟩ := s
    cases sl with
    | no r => exact ⟨fp, ⟨sub, r, nd, fr⟩, fun _ h => h⟩
  | some t =>
    have : ∃ v, o = some v := by cases s.sl; exact ⟨_, rfl⟩
    obtain ⟨v, rfl⟩ := this
    obtain ⟨f, g, rfl, _, q, _⟩ := s.tmp
    exact ⟨g, q, fun a ha => List.mem_append_right _ ha⟩
theorem SOk.push {f : List Addr} (s : SOk G Z H σ ρ fp) (h : RT G Z H v t f) (nd : f.Nodup) (dj : ∀ a ∈ f, a ∉ fp) (fr : ∀ a ∈ f, Z a = none) : SOk G Z H (some v :: σ) (some t :: ρ) (f ++ fp) :=
  ⟨s.sub, .so h s.sl, List.nodup_append.mpr ⟨nd, s.nd, fun a ha b hb e => dj a ha (e ▸ hb)⟩, fun a ha => (List.mem_append.mp ha).elim (fr a) (s.fr a)⟩
theorem SOk.pushD {d : D} (s : SOk G Z H σ ρ fp) (h : DR G Z v d) : SOk G Z H (some v :: σ) (some (.fro d) :: ρ) fp :=
  s.push (f := []) (.fro h) List.nodup_nil (fun _ h => nomatch h) (fun _ h => nomatch h)
theorem SOk.pushN {o : Option V} (s : SOk G Z H σ ρ fp) : SOk G Z H (o :: σ) (none :: ρ) fp := ⟨s.sub, .no s.sl, s.nd, s.fr⟩
theorem SOk.peek (s : SOk G Z H σ ρ fp) {i : Nat} (e : ρ[i]? = some (some t)) : ∃ v, σ[i]? = some (some v) ∧ DR G H v t.er := by
  obtain ⟨v, l, f, g, h1, h2, _⟩ := s.sl.at e
  exact ⟨v, h1, h2.er s.sub⟩
/-- the frame: the temporary in front stays while the rest goes on -/
theorem SOk.frame {σ2 : L2.St} {ρ2 : Env} {f g g2 : List Addr} (h : RT G Z H v t f) (s : SOk G Z H σ ρ g) (dj : ∀ a ∈ f, a ∉ g) (nd : f.Nodup) (fr : ∀ a ∈ f, Z a = none) (st : Stp Z H g Z' H' g2) (s2 : SOk G Z' H' σ2 ρ2 g2) :
    SOk G Z' H' (some v :: σ2) (some t :: ρ2) (f ++ g2) := by
  have th := h.there
  refine s2.push (h.keep st.zle fun a ha => ?_) nd (fun a ha hb => ?_) fun a ha => ?_
  · obtain ⟨o, e⟩ := th a ha
    rw [e, st.frame a o e (dj a ha)]
  · obtain ⟨o, e⟩ := th a ha
    rcases st.ffr a hb with z | z
    · rw [z] at e; cases e
    · exact dj a ha z
  · cases q : Z' a with
    | none => rfl
    | some o =>
      obtain ⟨o', e⟩ := th a ha
      rcases st.zfr a o q (fr a ha) with z | z
      · rw [z] at e; cases e
      · exact absurd z (dj a ha)
/-- all that stands in f may be frozen -/
theorem Stp.frzd {f : List Addr} (s : Same Z H) (hf : ∀ a ∈ f, a ∈ fp) {g : List Addr} (hg : ∀ a ∈ g, a ∈ fp) : Stp Z H fp (frz Z H f) H g :=
  ⟨frz_same s, fun _ _ e _ => e, fun a o e n => (by
    unfold frz at e
    split at e
    · rename_i h; exact .inr (hf a h)
    · rw [n] at e; cases e), fun a ha => .inr (hg a ha)⟩
/-- the temporary in front is frozen -/
theorem SOk.frzTmp (s : SOk G Z H (some v :: σ) (some t :: ρ) fp) : ∃ Z1 g, Stp Z H fp Z1 H g ∧ DR G Z1 v t.er ∧ SOk G Z1 H (some v :: σ) (some (.fro t.er) :: ρ) g ∧ SOk G Z1 H σ ρ g := by
  obtain ⟨f, g, rfl, h, q, dj, nd⟩ := s.tmp
  have r1 : RSl G (frz Z H f) H σ ρ g := q.sl.keep (frz_same s.sub) fun _ _ => rfl
  have dr : DR G (frz Z H f) v t.er := h.freeze (frz_same s.sub) fun a ha => by unfold frz; rw [if_pos ha]
  have s1 : SOk G (frz Z H f) H σ ρ g := ⟨frz_sub s.sub, r1, q.nd, fun a ha => by
      unfold frz
      rw [if_neg fun z => dj a z ha]
      exact q.fr a ha⟩
  exact ⟨frz Z H f, g, Stp.frzd s.sub (fun a ha => List.mem_append_left _ ha) (fun a ha => List.mem_append_right _ ha), dr, s1.pushD dr, s1⟩
/-- a slot is frozen -/
theorem SOk.frzAt (s : SOk G Z H σ ρ fp) {i : Nat} (e : ρ[i]? = some (some t)) : ∃ v Z1 g, σ[i]? = some (some v) ∧ Stp Z H fp Z1 H g ∧ DR G Z1 v t.er ∧ SOk G Z1 H σ (ρ.set i (some (.fro t.er))) g := by
  obtain ⟨v, l, f, g, h1, h2, rfl, h4⟩ := s.sl.at e
  have dr : DR G (frz Z H f) v t.er := h2.freeze (frz_same s.sub) fun a ha => by unfold frz; rw [if_pos ha]
  have nd := List.nodup_append.mp s.nd
  have nd2 := List.nodup_append.mp nd.2.1
  have r := ((h4 (frz Z H f) H (frz_same s.sub) fun _ _ => rfl).2 v _ [] (.fro dr))
  have es : σ.set i (some v) = σ := by
    refine List.ext_getElem? fun j => ?_
    by_cases hj : i = j
    · subst hj
      have hl : i < σ.length := (List.getElem?_eq_some_iff.mp h1).1
      rw [List.getElem?_set_self hl, h1]
    · rw [List.getElem?_set_ne hj]
  rw [es] at r
  refine ⟨v, frz Z H f, l ++ ([] ++ g), h1, Stp.frzd s.sub (fun a ha => List.mem_append_right _ (List.mem_append_left _ ha)) (fun a ha => ?_), dr, frz_sub s.sub, r, ?_, fun a ha => ?_⟩
  · simp at ha
    simp
    rcases ha with z | z
    · exact .inl z
    · exact .inr (.inr z)
  · simp
    exact List.nodup_append.mpr ⟨nd.1, nd2.2.1, fun a ha b hb => nd.2.2 a ha b (List.mem_append_right _ hb)⟩
  · simp at ha
    have hn : a ∉ f := fun z => by
      rcases ha with y | y
      · exact nd.2.2 a y a (List.mem_append_left _ z) rfl
      · exact nd2.2.2 a z a y rfl
    unfold frz
    rw [if_neg hn]
    exact s.fr a (by simp; rcases ha with y | y; exact .inl y; exact .inr (.inr y))
end
end Vl

/-! Vl2: the judgements of expressions. -/
namespace Vl
open PySem PySem.Spec PyProof.Rows L2

abbrev gx (X : Cx) : Gx := (X.K, X.mg)
structure Exn where
  c : Str
  fs : List (Str × D)
abbrev Out (α : Type) := Option (Except Exn α × Env)

def ExR (G : Gx) (Z : Hp) (cls : Value) (dd : Option Addr) (x : Exn) : Prop :=
  ∃ (C : Addr) (fsV : List (Str × V)), cls = .ref C ∧ G.2 x.c = some (.ref C) ∧ XdOf Z dd fsV ∧ fsV.map (·.1) = x.fs.map (·.1) ∧ DRs G Z (fsV.map (·.2)) (x.fs.map (·.2))

/-- what an expression gives: a temporary, or a slot's own object -/
inductive AV where
  | tmp (t : T) | loc (i : Nat)
@[reducible] def AV.sl : AV → Option T
  | .tmp t => some t
  | .loc _ => none
def AV.at (σ : L2.St) (v : V) : AV → Prop
  | .tmp _ => True
  | .loc i => σ[i]? = some (some v)
def AV.get (ρ : Env) : AV → Option T
  | .tmp t => some t
  | .loc i => match ρ[i]? with
    | some (some t) => some t
    | _ => none

section
variable (G : Gx) (W : WX) (Z H : Hp) (σ : L2.St) (fp : List Addr)
def EPost (x : Exn) (ρ : Env) : Prop := ∀ cls dd Z' H' fp', Stp Z H fp Z' H' fp' → SOk G Z' H' σ ρ fp' → ExR G Z' cls dd x → W cls dd σ H'
/-- what is wanted of an outcome -/
def Post {α : Type} (K : α → Env → Prop) : Out α → Prop
  | none => False
  | some (.ok a, ρ) => K a ρ
  | some (.error x, ρ) => EPost G W Z H σ fp x ρ
def KE (Q : VK) (av : AV) (ρ : Env) : Prop := ∀ v Z' H' fp', Stp Z H fp Z' H' fp' → SOk G Z' H' (some v :: σ) (av.sl :: ρ) fp' → av.at σ v → Q v H'
end

def obind {α β : Type} (o : Out α) (k : α → Env → Out β) : Out β :=
  match o with
  | none => none
  | some (.ok a, ρ) => k a ρ
  | some (.error x, ρ) => some (.error x, ρ)

section
variable {G : Gx} {W : WX} {Z H Z1 H1 : Hp} {σ : L2.St} {fp fp1 : List Addr} {α β : Type}
theorem EPost.step {x : Exn} {ρ : Env} (h : EPost G W Z H σ fp x ρ) (s : Stp Z H fp Z1 H1 fp1) : EPost G W Z1 H1 σ fp1 x ρ :=
  fun cls dd Z' H' fp' s' o e => h cls dd Z' H' fp' (s.trans s') o e
theorem Post.mono {K K' : α → Env → Prop} {o : Out α} (h : Post G W Z H σ fp K o) (k : ∀ a ρ, K a ρ → K' a ρ) : Post G W Z H σ fp K' o := by
  rcases o with _ | ⟨_ | a, ρ⟩
  · exact h
  · exact h
  · exact k a ρ h
theorem Post.step {K K' : α → Env → Prop} {o : Out α} (h : Post G W Z H σ fp K o) (s : Stp Z H fp Z1 H1 fp1) (k : ∀ a ρ, K a ρ → K' a ρ) : Post G W Z1 H1 σ fp1 K' o := by
  rcases o with _ | ⟨_ | a, ρ⟩
  · exact h
  · exact EPost.step h s
  · exact k a ρ h
theorem Post.monoE {K K' : α → Env → Prop} {o : Out α} (h : Post G W Z H σ fp K o) (k : ∀ a ρ, o = some (.ok a, ρ) → K a ρ → K' a ρ) : Post G W Z H σ fp K' o := by
  rcases o with _ | ⟨_ | a, ρ⟩
  · exact h
  · exact h
  · exact k a ρ rfl h
theorem Post.bind {K : β → Env → Prop} {o : Out α} {k : α → Env → Out β} (h : Post G W Z H σ fp K (obind o k)) : Post G W Z H σ fp (fun a ρ => Post G W Z H σ fp K (k a ρ)) o := by
  rcases o with _ | ⟨_ | a, ρ⟩
  · exact h
  · exact h
  · exact h
end

/-- an expression: HandS's rule, and a function of what the slots stand for -/
structure VE (X : Cx) (W : WX) (e : Expr) (t : TE) (m : Env → Out AV) : Prop where
  pe : PE X e t
  sm : ∀ Z H σ ρ fp Q, SOk (gx X) Z H σ ρ fp → Post (gx X) W Z H σ fp (KE (gx X) Z H σ fp Q) (m ρ) → t σ H Q
/-- a test -/
structure VT (X : Cx) (W : WX) (e : Expr) (t : TT) (m : Env → Out Bool) : Prop where
  pt : PT X e t
  sm : ∀ Z H σ ρ fp Q, SOk (gx X) Z H σ ρ fp → Post (gx X) W Z H σ fp (fun b ρ' => ∀ Z' H' fp', Stp Z H fp Z' H' fp' → SOk (gx X) Z' H' σ ρ' fp' → Q b H') (m ρ) → t σ H Q
/-- arguments -/
def avAt (σ : L2.St) : List V → List AV → Prop
  | [], [] => True
  | v :: vs, a :: as => a.at σ v ∧ avAt σ vs as
  | _, _ => False
structure VA (X : Cx) (W : WX) (es : List Expr) (t : TA) (m : Env → Out (List AV)) : Prop where
  pa : PA X es t
  len : ∀ ρ avs ρ', m ρ = some (.ok avs, ρ') → avs.length = es.length
  sm : ∀ Z H σ ρ fp Q, SOk (gx X) Z H σ ρ fp → Post (gx X) W Z H σ fp (fun avs ρ' => ∀ vs Z' H' fp', Stp Z H fp Z' H' fp' → SOk (gx X) Z' H' (vs.map some ++ σ) (avs.map AV.sl ++ ρ') fp' → avAt σ vs avs → Q vs H') (m ρ) → t σ H Q

section
variable {G : Gx} {Z H Z' H' : Hp} {σ : L2.St} {ρ : Env} {fp : List Addr} {v : V}
theorem SOk.split {av : AV} (s : SOk G Z H (some v :: σ) (av.sl :: ρ) fp) : ∃ f g, fp = f ++ g ∧ SOk G Z H σ ρ g ∧
    ∀ Z' H' σ2 ρ2 g2, Stp Z H g Z' H' g2 → SOk G Z' H' σ2 ρ2 g2 → SOk G Z' H' (some v :: σ2) (av.sl :: ρ2) (f ++ g2) ∧ Stp Z H fp Z' H' (f ++ g2) := by
  cases av with
  | tmp t =>
    have fr := s.fr
    obtain ⟨f, g, rfl, h, q, dj, nd⟩ := s.tmp
    exact ⟨f, g, rfl, q, fun Z' H' σ2 ρ2 g2 st s2 => ⟨SOk.frame h q dj nd (fun a ha => fr a (List.mem_append_left _ ha)) st s2, st.more⟩⟩
  | loc i =>
    refine ⟨[], fp, rfl, ?_, fun Z' H' σ2 ρ2 g2 st s2 => ⟨s2.pushN, st⟩⟩
    obtain ⟨sub, sl, nd, fr⟩ := s
    cases sl with
    | no r => exact ⟨sub, r, nd, fr⟩
/-- what an operand stands for -/
theorem SOk.avPeek {τ : L2.St} {π : Env} {av : AV} {t : T} {σ' : L2.St} {ρ' : Env} {n : Nat} (s : SOk G Z H σ' ρ' fp) (hn : σ'[n]? = some (some v)) (hm : ρ'[n]? = some av.sl) (ha : av.at σ v) (e : av.get ρ = some t)
    (hs : ∀ (i : Nat) (t : T), ρ[i]? = some (some t) → ∃ j : Nat, ρ'[j]? = some (some t) ∧ σ'[j]? = σ[i]?) : DR G H v t.er := by
  cases av with
  | tmp t' =>
    cases e
    obtain ⟨v', h1, h2⟩ := s.peek hm
    rw [hn] at h1; cases h1
    exact h2
  | loc i =>
    have e' : ρ[i]? = some (some t) := by
      simp only [AV.get] at e
      cases q : ρ[i]? with
      | none => rw [q] at e; cases e
      | some x =>
        cases x with
        | none => rw [q] at e; cases e
        | some t' => rw [q] at e; cases e; rfl
    obtain ⟨j, h1, h2⟩ := hs i t e'
    obtain ⟨v', h3, h4⟩ := s.peek h1
    have ha' : σ[i]? = some (some v) := ha
    rw [h2, ha'] at h3; cases h3
    exact h4
end

/-- flat data -/
@[reducible] def flat : D → Bool
  | .non => true
  | .bl _ => true
  | .int _ => true
  | .str _ => true
  | _ => false
@[reducible] def fv : D → V
  | .non => .non
  | .bl b => .bl b
  | .int i => .int i
  | .str x => .str x
  | _ => .non
theorem DR.of_flat {G : Gx} {Z : Hp} {d : D} (h : flat d = true) : DR G Z (fv d) d := by
  cases d <;> first | exact .non | exact .bl _ | exact .int _ | exact .str _ | exact absurd h (by simp [flat])

section
variable {X : Cx} {W : WX}
/-- a flat outcome, nothing else changed -/
theorem KE.fl1 {G : Gx} {Z H Z' H' : Hp} {σ : L2.St} {ρ : Env} {fp fp' : List Addr} {Q : VK} {z : D} (h : KE G Z H σ fp Q (.tmp (.fro z)) ρ) (hz : flat z = true) (st : Stp Z H fp Z' H' fp') (s : SOk G Z' H' σ ρ fp') : Q (fv z) H' :=
  h (fv z) Z' H' fp' st (s.pushD (DR.of_flat hz)) trivial

/-! ### constants and names -/
def mC (d : D) : Env → Out AV := fun ρ => some (.ok (.tmp (.fro d)), ρ)
theorem ve_const {e : Expr} {d : D} (h : PE X e (tC (fv d))) (hf : flat d = true := by rfl) : VE X W e (tC (fv d)) (mC d) :=
  ⟨h, fun Z H σ ρ fp Q s h => KE.fl1 h hf Stp.refl s⟩
theorem ve_int {i : Int} {j pos} : VE X W (.Constant (.int i) j pos) (tC (.int i)) (mC (.int i)) := ve_const (d := .int i) pe_int
theorem ve_bl {b : Bool} {j pos} : VE X W (.Constant (.bool b) j pos) (tC (.bl b)) (mC (.bl b)) := ve_const (d := .bl b) pe_bl
theorem ve_non {j pos} : VE X W (.Constant .none j pos) (tC .non) (mC .non) := ve_const (d := .non) pe_non
theorem ve_str {x : Str} {j pos} : VE X W (.Constant (.str x) j pos) (tC (.str x)) (mC (.str x)) := ve_const (d := .str x) pe_str
def mV (i : Nat) : Env → Out AV := fun ρ => match ρ[i]? with
  | some (some (.fro d)) => some (.ok (.tmp (.fro d)), ρ)
  | some (some _) => some (.ok (.loc i), ρ)
  | _ => none
theorem ve_var {e : Expr} {i : Nat} (h : PE X e (tVar i)) : VE X W e (tVar i) (mV i) := by
  refine ⟨h, fun Z H σ ρ fp Q s h => ?_⟩
  unfold mV at h
  split at h
  · rename_i d e
    obtain ⟨v, l, f, g, q1, q2, _, _⟩ := s.sl.at e
    have q2' : DR (gx X) Z v d := by cases q2; assumption
    exact ⟨v, q1, h v Z H fp Stp.refl (s.pushD q2') trivial⟩
  · rename_i t _ e
    obtain ⟨v, h1, _⟩ := s.peek e
    exact ⟨v, h1, h v Z H fp Stp.refl s.pushN h1⟩
  · exact h.elim
/-- a module's constant: what it stands for holds in every heap -/
theorem ve_glob {e : Expr} {v : V} {d : D} (h : PE X e (tC v)) (hd : ∀ Z, DR (gx X) Z v d) : VE X W e (tC v) (mC d) :=
  ⟨h, fun Z H σ ρ fp Q s h => h v Z H fp Stp.refl (s.pushD (hd Z)) trivial⟩

/-! ### two operands -/
theorem sm2 {a b : Expr} {ta tb : TE} {ma mb : Env → Out AV} (ha : VE X W a ta ma) (hb : VE X W b tb mb) {Z H : Hp} {σ : L2.St} {ρ : Env} {fp : List Addr} {R : V → V → Hp → Prop} (s : SOk (gx X) Z H σ ρ fp)
    (h : Post (gx X) W Z H σ fp (fun p ρ2 => ∀ v w Z' H' fp', Stp Z H fp Z' H' fp' → SOk (gx X) Z' H' (some v :: some w :: σ) (p.1.sl :: p.2.sl :: ρ2) fp' → p.1.at σ v → p.2.at σ w → R v w H')
      (obind (ma ρ) fun av ρ1 => obind (mb ρ1) fun bv ρ2 => some (.ok (av, bv), ρ2))) : ta σ H fun v H1 => tb σ H1 fun w H2 => R v w H2 := by
  refine ha.sm Z H σ ρ fp _ s (h.bind.mono fun av ρ1 h1 => ?_)
  intro v Z1 H1 fp1 st1 s1 at1
  obtain ⟨f, g, rfl, s0, fr⟩ := s1.split
  refine hb.sm Z1 H1 σ ρ1 g _ s0 ((h1.bind.step (st1.less fun x hx => List.mem_append_right _ hx)) fun bv ρ2 h2 => ?_)
  intro w Z2 H2 g2 st2 s2 at2
  obtain ⟨q1, q2⟩ := fr Z2 H2 _ _ g2 st2 s2
  exact h2 v w Z2 H2 _ (st1.trans q2) q1 at1 at2
/-- an operator by values, with a flat outcome -/
structure FOp (X : Cx) (f : Value → Value → Sem Value) (r : R2) (g : D → D → Option D) : Prop where
  op : OpR X f r
  sm : ∀ H x y d e z Q, DR (gx X) H x d → DR (gx X) H y e → g d e = some z → Q (fv z) H → r x y H Q
  fl : ∀ d e z, g d e = some z → flat z = true
def m2 (g : D → D → Option D) (ma mb : Env → Out AV) : Env → Out AV := fun ρ => obind (ma ρ) fun av ρ1 => obind (mb ρ1) fun bv ρ2 =>
  match av.get ρ2, bv.get ρ2 with
  | some t, some u => match g t.er u.er with
    | some z => some (.ok (.tmp (.fro z)), ρ2)
    | none => none
  | _, _ => none
theorem obind_assoc {α β γ : Type} (o : Out α) (k : α → Env → Out β) (l : β → Env → Out γ) : obind (obind o k) l = obind o fun a ρ => obind (k a ρ) l := by
  rcases o with _ | ⟨_ | a, ρ⟩ <;> rfl
theorem m2_eq (g : D → D → Option D) (ma mb : Env → Out AV) (ρ : Env) : m2 g ma mb ρ = obind (obind (ma ρ) fun av ρ1 => obind (mb ρ1) fun bv ρ2 => some (.ok (av, bv), ρ2)) fun p ρ2 =>
    match p.1.get ρ2, p.2.get ρ2 with
    | some t, some u => match g t.er u.er with
      | some z => some (.ok (.tmp (.fro z)), ρ2)
      | none => none
    | _, _ => none := by
  unfold m2
  rw [obind_assoc]
  congr 1
  funext av ρ1
  rw [obind_assoc]
  rfl
/-- both operands peeked -/
theorem SOk.peek2 {G : Gx} {Z H : Hp} {σ : L2.St} {ρ : Env} {fp : List Addr} {v w : V} {av bv : AV} {t u : T} (s : SOk G Z H (some v :: some w :: σ) (av.sl :: bv.sl :: ρ) fp) (h1 : av.at σ v) (h2 : bv.at σ w) (e1 : av.get ρ = some t) (e2 : bv.get ρ = some u) :
    DR G H v t.er ∧ DR G H w u.er ∧ ∃ g, SOk G Z H σ ρ g ∧ ∀ a ∈ g, a ∈ fp := by
  have hs : ∀ (i : Nat) (t : T), ρ[i]? = some (some t) → ∃ j : Nat, (av.sl :: bv.sl :: ρ)[j]? = some (some t) ∧ (some v :: some w :: σ)[j]? = σ[i]? := fun i t e => ⟨i + 2, by simpa using e, by simp⟩
  refine ⟨s.avPeek (τ := σ) (π := ρ) (n := 0) rfl rfl h1 e1 hs, s.avPeek (τ := σ) (π := ρ) (n := 1) rfl rfl h2 e2 hs, ?_⟩
  obtain ⟨g, s1, k1⟩ := s.drop
  obtain ⟨g2, s2, k2⟩ := s1.drop
  exact ⟨g2, s2, fun a ha => k1 a (k2 a ha)⟩
theorem FOp.two {a b : Expr} {ta tb : TE} {ma mb : Env → Out AV} {f : Value → Value → Sem Value} {r : R2} {g : D → D → Option D} (F : FOp X f r g) (ha : VE X W a ta ma) (hb : VE X W b tb mb)
    {Z H : Hp} {σ : L2.St} {ρ : Env} {fp : List Addr} {Q : VK} (s : SOk (gx X) Z H σ ρ fp) (h : Post (gx X) W Z H σ fp (fun av ρ' => ∀ z, av = .tmp (.fro z) → flat z = true → ∀ Z' H' fp', Stp Z H fp Z' H' fp' → SOk (gx X) Z' H' σ ρ' fp' → Q (fv z) H') (m2 g ma mb ρ)) : tOp r ta tb σ H Q := by
  rw [m2_eq] at h
  refine sm2 ha hb s (h.bind.mono fun p ρ2 h2 => ?_)
  intro v w Z' H' fp' st s' at1 at2
  obtain ⟨av, bv⟩ := p
  dsimp only at h2 s' at1 at2
  split at h2
  · rename_i t u e1 e2
    split at h2
    · rename_i z ez
      obtain ⟨d1, d2, g', s2, k⟩ := s'.peek2 at1 at2 e1 e2
      exact F.sm H' v w _ _ z Q d1 d2 ez (h2 z rfl (F.fl _ _ _ ez) Z' H' g' (st.less k) s2)
    · exact h2.elim
  · exact h2.elim
theorem ve_op {op : Operator} {a b : Expr} {ta tb : TE} {ma mb : Env → Out AV} {r : R2} {g : D → D → Option D} {pos : Pos} (F : FOp X (binaryOp op) r g) (ha : VE X W a ta ma) (hb : VE X W b tb mb) : VE X W (.BinOp a op b pos) (tOp r ta tb) (m2 g ma mb) :=
  ⟨pe_op F.op ha.pe hb.pe, fun Z H σ ρ fp Q s h => F.two ha hb s (h.mono fun av ρ' k z e fz Z' H' fp' st s' => KE.fl1 (e ▸ k) fz st s')⟩
theorem ve_cmp {op : CmpOp} {a b : Expr} {ta tb : TE} {ma mb : Env → Out AV} {r : R2} {g : D → D → Option D} {pos : Pos} (F : FOp X (compareOp op) r g) (ha : VE X W a ta ma) (hb : VE X W b tb mb) (hm : behindInMarks op b = false := by first | exact nomark _ | rfl) :
    VE X W (.Compare a [op] [b] pos) (tOp r ta tb) (m2 g ma mb) :=
  ⟨pe_cmpR F.op ha.pe hb.pe hm, fun Z H σ ρ fp Q s h => F.two ha hb s (h.mono fun av ρ' k z e fz Z' H' fp' st s' => KE.fl1 (e ▸ k) fz st s')⟩
/-- an outcome's truth, where it is a bool -/
def mB (m : Env → Out AV) : Env → Out Bool := fun ρ => obind (m ρ) fun av ρ' => match av with
  | .tmp (.fro (.bl b)) => some (.ok b, ρ')
  | _ => none
theorem vt_cmp {op : CmpOp} {a b : Expr} {ta tb : TE} {ma mb : Env → Out AV} {r : R2} {g : D → D → Option D} {pos : Pos} (F : FOp X (compareOp op) r g) (ha : VE X W a ta ma) (hb : VE X W b tb mb) (hm : behindInMarks op b = false := by first | exact nomark _ | rfl) :
    VT X W (.Compare a [op] [b] pos) (tTest (tOp r ta tb)) (mB (m2 g ma mb)) :=
  ⟨pt_cmpR F.op ha.pe hb.pe hm, fun Z H σ ρ fp Q s h => F.two ha hb s (h.bind.mono fun av ρ' k z e fz Z' H' fp' st s' => by
    subst e
    cases z <;> first | exact k.elim | skip
    exact ⟨_, rfl, k Z' H' fp' st s'⟩)⟩

/-! ### one operand -/
theorem SOk.peek1 {G : Gx} {Z H : Hp} {σ : L2.St} {ρ : Env} {fp : List Addr} {v : V} {av : AV} {t : T} (s : SOk G Z H (some v :: σ) (av.sl :: ρ) fp) (h1 : av.at σ v) (e1 : av.get ρ = some t) :
    DR G H v t.er ∧ ∃ g, SOk G Z H σ ρ g ∧ ∀ a ∈ g, a ∈ fp := by
  have hs : ∀ (i : Nat) (t : T), ρ[i]? = some (some t) → ∃ j : Nat, (av.sl :: ρ)[j]? = some (some t) ∧ (some v :: σ)[j]? = σ[i]? := fun i t e => ⟨i + 1, by simpa using e, by simp⟩
  exact ⟨s.avPeek (τ := σ) (π := ρ) (n := 0) rfl rfl h1 e1 hs, s.drop⟩
def m1 (g : D → Option D) (ma : Env → Out AV) : Env → Out AV := fun ρ => obind (ma ρ) fun av ρ1 =>
  match av.get ρ1 with
  | some t => match g t.er with
    | some z => some (.ok (.tmp (.fro z)), ρ1)
    | none => none
  | _ => none
theorem flat1 {a : Expr} {ta : TE} {ma : Env → Out AV} {g : D → Option D} (ha : VE X W a ta ma) (fl : ∀ d z, g d = some z → flat z = true) {R : V → Hp → VK → Prop}
    (sm : ∀ H x d z Q, DR (gx X) H x d → g d = some z → Q (fv z) H → R x H Q)
    {Z H : Hp} {σ : L2.St} {ρ : Env} {fp : List Addr} {Q : VK} (s : SOk (gx X) Z H σ ρ fp) (h : Post (gx X) W Z H σ fp (fun av ρ' => ∀ z, av = .tmp (.fro z) → flat z = true → ∀ Z' H' fp', Stp Z H fp Z' H' fp' → SOk (gx X) Z' H' σ ρ' fp' → Q (fv z) H') (m1 g ma ρ)) : ta σ H fun x H1 => R x H1 Q := by
  refine ha.sm Z H σ ρ fp _ s (h.bind.mono fun av ρ1 h1 => ?_)
  intro v Z1 H1 fp1 st1 s1 at1
  split at h1
  · rename_i t e1
    split at h1
    · rename_i z ez
      obtain ⟨d1, g', s2, k⟩ := s1.peek1 at1 e1
      exact sm H1 v _ z Q d1 ez (h1 z rfl (fl _ _ ez) Z1 H1 g' (st1.less k) s2)
    · exact h1.elim
  · exact h1.elim
theorem KE.ofFlat {G : Gx} {Z H : Hp} {σ : L2.St} {fp : List Addr} {Q : VK} {o : Out AV} (h : Post G W Z H σ fp (KE G Z H σ fp Q) o) :
    Post G W Z H σ fp (fun av ρ' => ∀ z, av = .tmp (.fro z) → flat z = true → ∀ Z' H' fp', Stp Z H fp Z' H' fp' → SOk G Z' H' σ ρ' fp' → Q (fv z) H') o :=
  h.mono fun av ρ' k z e fz Z' H' fp' st s' => KE.fl1 (e ▸ k) fz st s'
def gNeg : D → Option D
  | .int i => some (.int (-i))
  | _ => none
theorem ve_neg {a : Expr} {ta : TE} {ma : Env → Out AV} {pos : Pos} (ha : VE X W a ta ma) : VE X W (.UnaryOp .USub a pos) (tUn (rU fun i => .int (-i)) ta) (m1 gNeg ma) :=
  ⟨pe_un un_neg ha.pe, fun Z H σ ρ fp Q s h => flat1 (R := fun x H1 Q => rU (fun i => .int (-i)) x H1 Q) ha (fun d z e => by cases d <;> simp [gNeg] at e; subst e; rfl) (fun H x d z Q dr e q => by
    cases d <;> simp [gNeg] at e
    subst e
    cases dr
    exact ⟨_, rfl, q⟩) s (KE.ofFlat h)⟩

/-! ### truth -/
def truD : D → Option Bool
  | .non => some false
  | .bl b => some b
  | .int i => some (i != 0)
  | .str x => if x.length ≤ sizeLine then some (x.length != 0) else none
  | .lst xs => some (!xs.isEmpty)
  | .tup xs => some (!xs.isEmpty)
  | _ => none
theorem isEmpty_DRs {G : Gx} {Z : Hp} {vs : List V} {ds : List D} (r : DRs G Z vs ds) : vs.isEmpty = ds.isEmpty := by
  cases r <;> rfl
theorem truV_of {G : Gx} {H : Hp} {v : V} {d : D} {k : Bool} (h : DR G H v d) (e : truD d = some k) : TruV G.1 v H k := by
  cases h with
  | non => exact (Option.some.inj e).symm
  | bl b => exact (Option.some.inj e).symm
  | int i => exact (Option.some.inj e).symm
  | str x =>
    unfold truD at e
    split at e <;> simp_all
    rename_i q
    cases q
    obtain ⟨e1, e2⟩ := e
    refine ⟨e1, ?_⟩
    rw [← e2]
    cases hx : x.length with
    | zero => rfl
    | succ n => simp <;> omega
  | lst h r =>
    have z := Option.some.inj e
    exact .inl ⟨_, .inl h, by rw [isEmpty_DRs r]; exact z.symm⟩
  | tup h r =>
    have z := Option.some.inj e
    exact .inr (.inl ⟨_, h, by rw [isEmpty_DRs r]; exact z.symm⟩)
  | dic => exact nomatch e
  | dit => exact nomatch e
  | exc => exact nomatch e
end
end Vl

/-! Vl3: tests, and, or, not, if-expressions, arguments, displays, calls. -/
namespace Vl
open PySem PySem.Spec PyProof.Rows L2
section
variable {X : Cx} {W : WX}

/-! ### tests -/
def mT (m : Env → Out AV) : Env → Out Bool := fun ρ => obind (m ρ) fun av ρ' => match av.get ρ' with
  | some t => match truD t.er with
    | some b => some (.ok b, ρ')
    | none => none
  | none => none
theorem vt_truth {a : Expr} {ta : TE} {ma : Env → Out AV} (ha : VE X W a ta ma) (he : ∀ whole, isTrue a X.env whole = (do let v ← whole; standAt a.pos; holding [v] (truthy v)) := by intro _; rfl) :
    VT X W a (fun σ H Q => ta σ H fun x H1 => ∃ k, TruV X.K x H1 k ∧ Q k H1) (mT ma) :=
  ⟨pt_truth ha.pe he, fun Z H σ ρ fp Q s h => by
    refine ha.sm Z H σ ρ fp _ s (h.bind.mono fun av ρ1 h1 => ?_)
    intro v Z1 H1 fp1 st1 s1 at1
    split at h1
    · rename_i t e1
      split at h1
      · rename_i b eb
        obtain ⟨d1, g', s2, k⟩ := s1.peek1 at1 e1
        exact ⟨b, truV_of d1 eb, h1 Z1 H1 g' (st1.less k) s2⟩
      · exact h1.elim
    · exact h1.elim⟩
/-- and, or within a test -/
structure VW (X : Cx) (W : WX) (e : Expr) (t : TT) (m : Env → Out Bool) : Prop where
  pw : PW X e t
  sm : ∀ Z H σ ρ fp Q, SOk (gx X) Z H σ ρ fp → Post (gx X) W Z H σ fp (fun b ρ' => ∀ Z' H' fp', Stp Z H fp Z' H' fp' → SOk (gx X) Z' H' σ ρ' fp' → Q b H') (m ρ) → t σ H Q
theorem VW.vt {e : Expr} {t : TT} {m : Env → Out Bool} (h : VW X W e t m) : VT X W e t m := ⟨h.pw.pt, h.sm⟩
theorem vw_and1 {a : Expr} {t : TT} {m : Env → Out Bool} {pos : Pos} (h : VT X W a t m) : VW X W (.BoolOp .And [a] pos) t m := ⟨pw_and1 h.pt, h.sm⟩
theorem vw_or1 {a : Expr} {t : TT} {m : Env → Out Bool} {pos : Pos} (h : VT X W a t m) : VW X W (.BoolOp .Or [a] pos) t m := ⟨pw_or1 h.pt, h.sm⟩
def mAndT (m n : Env → Out Bool) : Env → Out Bool := fun ρ => obind (m ρ) fun b ρ1 => if b then n ρ1 else some (.ok false, ρ1)
def mOrT (m n : Env → Out Bool) : Env → Out Bool := fun ρ => obind (m ρ) fun b ρ1 => if b then some (.ok true, ρ1) else n ρ1
theorem vw_and {a b : Expr} {rest : List Expr} {t u : TT} {m n : Env → Out Bool} {pos : Pos} (ha : VT X W a t m) (hb : VW X W (.BoolOp .And (b :: rest) pos) u n) : VW X W (.BoolOp .And (a :: b :: rest) pos) (tAnd t u) (mAndT m n) :=
  ⟨pw_and ha.pt hb.pw, fun Z H σ ρ fp Q s h => by
    refine ha.sm Z H σ ρ fp _ s (h.bind.mono fun b ρ1 h1 => ?_)
    intro Z1 H1 fp1 st1 s1
    cases b with
    | true => exact hb.sm Z1 H1 σ ρ1 fp1 Q s1 (Post.step h1 st1 fun b ρ2 k Z' H' fp' st s' => k Z' H' fp' (st1.trans st) s')
    | false => exact h1 Z1 H1 fp1 st1 s1⟩
theorem vw_or {a b : Expr} {rest : List Expr} {t u : TT} {m n : Env → Out Bool} {pos : Pos} (ha : VT X W a t m) (hb : VW X W (.BoolOp .Or (b :: rest) pos) u n) : VW X W (.BoolOp .Or (a :: b :: rest) pos) (tOr t u) (mOrT m n) :=
  ⟨pw_or ha.pt hb.pw, fun Z H σ ρ fp Q s h => by
    refine ha.sm Z H σ ρ fp _ s (h.bind.mono fun b ρ1 h1 => ?_)
    intro Z1 H1 fp1 st1 s1
    cases b with
    | false => exact hb.sm Z1 H1 σ ρ1 fp1 Q s1 (Post.step h1 st1 fun b ρ2 k Z' H' fp' st s' => k Z' H' fp' (st1.trans st) s')
    | true => exact h1 Z1 H1 fp1 st1 s1⟩
def mNotT (m : Env → Out Bool) : Env → Out Bool := fun ρ => obind (m ρ) fun b ρ1 => some (.ok (!b), ρ1)
theorem vt_not {a : Expr} {t : TT} {m : Env → Out Bool} {pos : Pos} (ha : VT X W a t m) : VT X W (.UnaryOp .Not a pos) (tNot t) (mNotT m) :=
  ⟨pt_not ha.pt, fun Z H σ ρ fp Q s h => ha.sm Z H σ ρ fp _ s (h.bind.mono fun b ρ1 h1 => h1)⟩

/-! ### and, or, not as values -/
theorem ve_one {op : BoolOp} {a : Expr} {t : TE} {m : Env → Out AV} {pos : Pos} (h : VE X W a t m) : VE X W (.BoolOp op [a] pos) t m := ⟨pe_one h.pe, h.sm⟩
def mAnd (m n : Env → Out AV) : Env → Out AV := fun ρ => obind (m ρ) fun av ρ1 => match av.get ρ1 with
  | some t => match truD t.er with
    | some true => n ρ1
    | some false => some (.ok av, ρ1)
    | none => none
  | none => none
def mOr (m n : Env → Out AV) : Env → Out AV := fun ρ => obind (m ρ) fun av ρ1 => match av.get ρ1 with
  | some t => match truD t.er with
    | some true => some (.ok av, ρ1)
    | some false => n ρ1
    | none => none
  | none => none
theorem KE.step {G : Gx} {Z H Z1 H1 : Hp} {σ : L2.St} {fp fp1 : List Addr} {Q : VK} {av : AV} {ρ : Env} (k : KE G Z H σ fp Q av ρ) (st : Stp Z H fp Z1 H1 fp1) : KE G Z1 H1 σ fp1 Q av ρ :=
  fun v Z' H' fp' st' s' a => k v Z' H' fp' (st.trans st') s' a
theorem ve_and {a b : Expr} {rest : List Expr} {ta tb : TE} {ma mb : Env → Out AV} {pos : Pos} (ha : VE X W a ta ma) (hb : VE X W (.BoolOp .And (b :: rest) pos) tb mb) : VE X W (.BoolOp .And (a :: b :: rest) pos) (tAndT X.K ta tb) (mAnd ma mb) :=
  ⟨pe_andT ha.pe hb.pe, fun Z H σ ρ fp Q s h => by
    refine ha.sm Z H σ ρ fp _ s (h.bind.mono fun av ρ1 h1 => ?_)
    intro v Z1 H1 fp1 st1 s1 at1
    split at h1
    · rename_i t e1
      obtain ⟨d1, g', s2, k⟩ := s1.peek1 at1 e1
      split at h1
      · rename_i eb
        refine ⟨true, truV_of d1 eb, ?_⟩
        rw [if_pos rfl]
        exact hb.sm Z1 H1 σ ρ1 g' Q s2 (Post.step h1 (st1.less k) fun b ρ2 k' => KE.step k' (st1.less k))
      · rename_i eb
        refine ⟨false, truV_of d1 eb, ?_⟩
        rw [if_neg (by decide)]
        exact h1 v Z1 H1 fp1 st1 s1 at1
      · exact h1.elim
    · exact h1.elim⟩
theorem ve_or {a b : Expr} {rest : List Expr} {ta tb : TE} {ma mb : Env → Out AV} {pos : Pos} (ha : VE X W a ta ma) (hb : VE X W (.BoolOp .Or (b :: rest) pos) tb mb) : VE X W (.BoolOp .Or (a :: b :: rest) pos) (tOrT X.K ta tb) (mOr ma mb) :=
  ⟨pe_orT ha.pe hb.pe, fun Z H σ ρ fp Q s h => by
    refine ha.sm Z H σ ρ fp _ s (h.bind.mono fun av ρ1 h1 => ?_)
    intro v Z1 H1 fp1 st1 s1 at1
    split at h1
    · rename_i t e1
      obtain ⟨d1, g', s2, k⟩ := s1.peek1 at1 e1
      split at h1
      · rename_i eb
        refine ⟨true, truV_of d1 eb, ?_⟩
        rw [if_pos rfl]
        exact h1 v Z1 H1 fp1 st1 s1 at1
      · rename_i eb
        refine ⟨false, truV_of d1 eb, ?_⟩
        rw [if_neg (by decide)]
        exact hb.sm Z1 H1 σ ρ1 g' Q s2 (Post.step h1 (st1.less k) fun b ρ2 k' => KE.step k' (st1.less k))
      · exact h1.elim
    · exact h1.elim⟩
def gNot (d : D) : Option D := (truD d).map fun b => .bl (!b)
theorem ve_not {a : Expr} {ta : TE} {ma : Env → Out AV} {pos : Pos} (ha : VE X W a ta ma) : VE X W (.UnaryOp .Not a pos) (tNotT X.K ta) (m1 gNot ma) :=
  ⟨pe_notT ha.pe, fun Z H σ ρ fp Q s h => flat1 (R := fun x H1 Q => ∃ k, TruV X.K x H1 k ∧ Q (.bl (!k)) H1) ha (fun d z e => by
      unfold gNot at e
      cases q : truD d <;> rw [q] at e <;> simp at e
      subst e; rfl) (fun H x d z Q dr e q => by
      unfold gNot at e
      cases q' : truD d <;> rw [q'] at e <;> simp at e
      subst e
      exact ⟨_, truV_of dr q', q⟩) s (KE.ofFlat h)⟩
def mIf (c : Env → Out Bool) (m n : Env → Out AV) : Env → Out AV := fun ρ => obind (c ρ) fun b ρ1 => if b then m ρ1 else n ρ1
theorem ve_if {c a b : Expr} {tc : TT} {ta tb : TE} {mc : Env → Out Bool} {ma mb : Env → Out AV} {pos : Pos} (hc : VT X W c tc mc) (ha : VE X W a ta ma) (hb : VE X W b tb mb) : VE X W (.IfExp c a b pos) (tIf tc ta tb) (mIf mc ma mb) :=
  ⟨pe_ifExp hc.pt ha.pe hb.pe, fun Z H σ ρ fp Q s h => by
    refine hc.sm Z H σ ρ fp _ s (h.bind.mono fun b ρ1 h1 => ?_)
    intro Z1 H1 fp1 st1 s1
    cases b with
    | true =>
      rw [if_pos rfl]
      exact ha.sm Z1 H1 σ ρ1 fp1 Q s1 (Post.step h1 st1 fun b ρ2 k => KE.step k st1)
    | false =>
      rw [if_neg (by decide)]
      exact hb.sm Z1 H1 σ ρ1 fp1 Q s1 (Post.step h1 st1 fun b ρ2 k => KE.step k st1)⟩

/-! ### a chain of two comparisons -/
def chTail (g g' : D → D → Option D) (mc : Env → Out AV) (av bv : AV) (ρ2 : Env) : Out AV :=
  match av.get ρ2, bv.get ρ2 with
  | some t, some u => match g t.er u.er with
    | some (.bl true) => match bv with
      | .tmp (.fro e) => if flat e = true then obind (mc ρ2) fun cv ρ3 => match cv.get ρ3 with
          | some w => match g' e w.er with
            | some (.bl b) => some (.ok (.tmp (.fro (.bl b))), ρ3)
            | _ => none
          | none => none
        else none
      | _ => none
    | some (.bl false) => some (.ok (.tmp (.fro (.bl false))), ρ2)
    | _ => none
  | _, _ => none
def mCh (g g' : D → D → Option D) (ma mb mc : Env → Out AV) : Env → Out AV := fun ρ => obind (ma ρ) fun av ρ1 => obind (mb ρ1) fun bv ρ2 => chTail g g' mc av bv ρ2
theorem chain_sm {a b c : Expr} {ta tb tc : TE} {ma mb mc : Env → Out AV} {f f' : Value → Value → Sem Value} {r r' : R2} {g g' : D → D → Option D} (F : FOp X f r g) (F' : FOp X f' r' g') (ha : VE X W a ta ma) (hb : VE X W b tb mb) (hc : VE X W c tc mc)
    {Z H : Hp} {σ : L2.St} {ρ : Env} {fp : List Addr} {Q : VK} (s : SOk (gx X) Z H σ ρ fp) (h : Post (gx X) W Z H σ fp (fun av ρ' => ∀ z, av = .tmp (.fro (.bl z)) → ∀ Z' H' fp', Stp Z H fp Z' H' fp' → SOk (gx X) Z' H' σ ρ' fp' → Q (.bl z) H') (mCh g g' ma mb mc ρ)) :
    tChain r r' ta tb tc σ H Q := by
  have h' : Post (gx X) W Z H σ fp (fun av ρ' => ∀ z, av = .tmp (.fro (.bl z)) → ∀ Z' H' fp', Stp Z H fp Z' H' fp' → SOk (gx X) Z' H' σ ρ' fp' → Q (.bl z) H') (obind (obind (ma ρ) fun av ρ1 => obind (mb ρ1) fun bv ρ2 => some (.ok (av, bv), ρ2)) fun p ρ2 => chTail g g' mc p.1 p.2 ρ2) := by
    rw [obind_assoc]
    have e2 : (fun av ρ1 => obind (obind (mb ρ1) fun bv ρ2 => some (Except.ok (av, bv), ρ2)) fun p ρ2 => chTail g g' mc p.1 p.2 ρ2) = fun av ρ1 => obind (mb ρ1) fun bv ρ2 => chTail g g' mc av bv ρ2 := by
      funext av ρ1
      rw [obind_assoc]
      rfl
    rw [e2]
    exact h
  refine sm2 ha hb s (h'.bind.mono fun p ρ2 h2 => ?_)
  intro v w Z' H' fp' st s' at1 at2
  obtain ⟨av, bv⟩ := p
  dsimp only at h2 s' at1 at2
  unfold chTail at h2
  split at h2
  · rename_i t u e1 e2
    obtain ⟨d1, d2, g2, s2, k⟩ := s'.peek2 at1 at2 e1 e2
    split at h2
    · rename_i ez
      split at h2
      · rename_i e
        split at h2
        · rename_i fe
          refine F.sm H' v w _ _ (.bl true) _ d1 d2 ez ⟨true, rfl, ?_⟩
          rw [if_pos rfl]
          refine hc.sm Z' H' σ ρ2 g2 _ s2 ((h2.bind.step (st.less k)) fun cv ρ3 h3 => ?_)
          intro x Z3 H3 fp3 st3 s3 at3
          split at h3
          · rename_i y ey
            split at h3
            · rename_i b eb
              obtain ⟨d3, g3, s4, k3⟩ := s3.peek1 at3 ey
              cases e2
              have ew : w = fv e := by
                have d2' : DR (gx X) H' w e := by simpa [T.er] using d2
                cases d2' <;> first | rfl | exact absurd fe (by simp [flat])
              subst ew
              exact F'.sm H3 _ x _ _ (.bl b) _ (DR.of_flat fe) d3 eb (h3 b rfl Z3 H3 g3 (((st.less k).trans st3).less k3) s4)
            · exact h3.elim
          · exact h3.elim
        · exact h2.elim
      · exact h2.elim
    · rename_i ez
      refine F.sm H' v w _ _ (.bl false) _ d1 d2 ez ⟨false, rfl, ?_⟩
      rw [if_neg (by decide)]
      exact h2 false rfl Z' H' g2 (st.less k) s2
    · exact h2.elim
  · exact h2.elim
theorem ve_chain {op op' : CmpOp} {a b c : Expr} {ta tb tc : TE} {ma mb mc : Env → Out AV} {r r' : R2} {g g' : D → D → Option D} {pos : Pos} (F : FOp X (compareOp op) r g) (F' : FOp X (compareOp op') r' g') (ha : VE X W a ta ma) (hb : VE X W b tb mb) (hc : VE X W c tc mc)
    (hm : lastMarks [op, op'] [b, c] = false := by with_unfolding_all rfl) : VE X W (.Compare a [op, op'] [b, c] pos) (tChain r r' ta tb tc) (mCh g g' ma mb mc) :=
  ⟨pe_chain F.op F'.op ha.pe hb.pe hc.pe hm, fun Z H σ ρ fp Q s h => chain_sm F F' ha hb hc s (h.mono fun av ρ' k z e Z' H' fp' st s' => KE.fl1 (z := .bl z) (e ▸ k) rfl st s')⟩
theorem vt_chain {op op' : CmpOp} {a b c : Expr} {ta tb tc : TE} {ma mb mc : Env → Out AV} {r r' : R2} {g g' : D → D → Option D} {pos : Pos} (F : FOp X (compareOp op) r g) (F' : FOp X (compareOp op') r' g') (ha : VE X W a ta ma) (hb : VE X W b tb mb) (hc : VE X W c tc mc)
    (hm : lastMarks [op, op'] [b, c] = false := by with_unfolding_all rfl) : VT X W (.Compare a [op, op'] [b, c] pos) (tTest (tChain r r' ta tb tc)) (mB (mCh g g' ma mb mc)) :=
  ⟨pt_chain F.op F'.op ha.pe hb.pe hc.pe hm, fun Z H σ ρ fp Q s h => chain_sm F F' ha hb hc s (h.bind.mono fun av ρ' k z e Z' H' fp' st s' => by
    subst e
    exact ⟨_, rfl, k Z' H' fp' st s'⟩)⟩
end
end Vl

/-! Vl4: arguments, displays, contracts and calls of defs. -/
namespace Vl
open PySem PySem.Spec PyProof.Rows L2

/-! ### arguments -/
section
variable {X : Cx} {W : WX}
theorem va_nil : VA X W [] tNil (fun ρ => some (.ok [], ρ)) :=
  ⟨pa_nil, fun ρ avs ρ' e => (by cases e; rfl), fun Z H σ ρ fp Q s h => h [] Z H fp Stp.refl s trivial⟩
def mCons (m : Env → Out AV) (n : Env → Out (List AV)) : Env → Out (List AV) := fun ρ => obind (m ρ) fun av ρ1 => obind (n ρ1) fun avs ρ2 => some (.ok (av :: avs), ρ2)
theorem va_cons {e : Expr} {es : List Expr} {te : TE} {tr : TA} {m : Env → Out AV} {n : Env → Out (List AV)} (he : VE X W e te m) (hr : VA X W es tr n) (hs : starEach (e :: es) X.env = (false, eval e X.env) :: starEach es X.env := by rfl) :
    VA X W (e :: es) (tCons te tr) (mCons m n) :=
  ⟨pa_cons he.pe hr.pa hs, fun ρ avs ρ' e => (by
    unfold mCons at e
    rcases h1 : m ρ with _ | ⟨_ | av, ρ1⟩ <;> rw [h1] at e
    · cases e
    · cases e
    · simp only [obind] at e
      rcases h2 : n ρ1 with _ | ⟨_ | as, ρ2⟩ <;> rw [h2] at e
      · cases e
      · cases e
      · cases e
        simp [hr.len _ _ _ h2]), fun Z H σ ρ fp Q s h => by
    refine he.sm Z H σ ρ fp _ s (h.bind.mono fun av ρ1 h1 => ?_)
    intro v Z1 H1 fp1 st1 s1 at1
    obtain ⟨f, g, rfl, s0, fr⟩ := s1.split
    refine hr.sm Z1 H1 σ ρ1 g _ s0 ((h1.bind.step (st1.less fun x hx => List.mem_append_right _ hx)) fun avs ρ2 h2 => ?_)
    intro vs Z2 H2 g2 st2 s2 at2
    obtain ⟨q1, q2⟩ := fr Z2 H2 _ _ g2 st2 s2
    exact h2 (v :: vs) Z2 H2 _ (st1.trans q2) q1 ⟨at1, at2⟩⟩
end

/-- slots' own objects that are handed on are frozen -/
def nrm : List AV → Env → Option (List T × Env)
  | [], ρ => some ([], ρ)
  | .tmp t :: as, ρ => match nrm as ρ with
    | some (ts, ρ') => some (t :: ts, ρ')
    | none => none
  | .loc i :: as, ρ => match ρ[i]? with
    | some (some t) => match nrm as (ρ.set i (some (.fro t.er))) with
      | some (ts, ρ') => some (.fro t.er :: ts, ρ')
      | none => none
    | _ => none
theorem avAt_len {σ : L2.St} : ∀ {vs : List V} {avs : List AV}, avAt σ vs avs → vs.length = avs.length
  | [], [], _ => rfl
  | [], _ :: _, h => h.elim
  | _ :: _, [], h => h.elim
  | v :: vs, a :: as, h => by simp [avAt_len h.2]
section
variable {G : Gx} {Z H Z' H' : Hp} {σ : L2.St} {ρ : Env} {fp : List Addr} {v : V}
theorem RSl.toFro {o : Option V} {f : List Addr} {d : D} (r : RSl G Z H (some v :: σ) (none :: ρ) f) (h : DR G Z v d) : RSl G Z H (some v :: σ) (some (.fro d) :: ρ) f := by
  cases r with
  | no r => exact RSl.so (f := []) (.fro h) r
theorem nrm_ok : ∀ {avs : List AV} {vs : List V} {Z : Hp} {ρ ρ' : Env} {fp : List Addr} {ts : List T}, SOk G Z H (vs.map some ++ σ) (avs.map AV.sl ++ ρ) fp → avAt σ vs avs → nrm avs ρ = some (ts, ρ') →
    ts.length = avs.length ∧ ∃ Z1 g, Stp Z H fp Z1 H g ∧ SOk G Z1 H (vs.map some ++ σ) (ts.map some ++ ρ') g := by
  intro avs
  induction avs with
  | nil =>
    intro vs Z ρ ρ' fp ts s a e
    cases vs with
    | nil =>
      cases e
      exact ⟨rfl, Z, fp, Stp.refl, s⟩
    | cons => exact a.elim
  | cons av as ih =>
    intro vs Z ρ ρ' fp ts s a e
    cases vs with
    | nil => exact a.elim
    | cons v vs =>
      obtain ⟨a1, a2⟩ := a
      cases av with
      | tmp t =>
        unfold nrm at e
        split at e
        · rename_i ts' ρ1 e1
          cases e
          obtain ⟨f, g, rfl, s0, fr⟩ := SOk.split (av := .tmp t) s
          obtain ⟨hl, Z1, g1, st, s1⟩ := ih s0 a2 e1
          obtain ⟨q1, q2⟩ := fr Z1 H _ _ g1 st s1
          exact ⟨by simp [hl], Z1, _, q2, q1⟩
        · cases e
      | loc i =>
        unfold nrm at e
        split at e
        · rename_i t et
          split at e
          · rename_i ts' ρ1 e1
            cases e
            -- the slot is frozen
            have hl := avAt_len a2
            have ei : (AV.sl (.loc i) :: (as.map AV.sl ++ ρ))[as.length + 1 + i]? = some (some t) := by
              rw [show as.length + 1 + i = (as.length + i) + 1 by omega, List.getElem?_cons_succ, List.getElem?_append_right (by simp)]
              simpa using et
            obtain ⟨w, Z1, g, hw, st, dr, s1⟩ := SOk.frzAt s ei
            have hv : w = v := by
              have h1 : (some v :: (vs.map some ++ σ))[as.length + 1 + i]? = some (some w) := hw
              rw [show as.length + 1 + i = (as.length + i) + 1 by omega, List.getElem?_cons_succ, List.getElem?_append_right (by simp [hl])] at h1
              have a1' : σ[i]? = some (some v) := a1
              simp [hl] at h1
              rw [a1'] at h1
              cases h1; rfl
            subst hv
            have es : (AV.sl (.loc i) :: (as.map AV.sl ++ ρ)).set (as.length + 1 + i) (some (.fro t.er)) = AV.sl (.loc i) :: (as.map AV.sl ++ ρ.set i (some (.fro t.er))) := by
              rw [show as.length + 1 + i = (as.length + i) + 1 by omega, List.set_cons_succ, List.set_append_right _ _ (by simp)]
              simp
            have s1' : SOk G Z1 H (some w :: (vs.map some ++ σ)) (AV.sl (.loc i) :: (as.map AV.sl ++ ρ.set i (some (.fro t.er)))) g := by rw [← es]; exact s1
            obtain ⟨f, g', rfl, s0, fr⟩ := SOk.split (av := .loc i) s1'
            obtain ⟨hl2, Z2, g2, st2, s2⟩ := ih s0 a2 e1
            obtain ⟨q1, q2⟩ := fr Z2 H _ _ g2 st2 s2
            refine ⟨by simp [hl2], Z2, _, st.trans q2, ⟨q1.sub, ?_, q1.nd, q1.fr⟩⟩
            exact RSl.toFro (o := none) q1.sl (dr.mono q2.zle)
          · cases e
        · cases e
/-- all temporaries frozen -/
theorem SOk.frzAll : ∀ {ts : List T} {vs : List V} {Z : Hp} {fp : List Addr}, vs.length = ts.length → SOk G Z H (vs.map some ++ σ) (ts.map some ++ ρ) fp → ∃ Z1 g, Stp Z H fp Z1 H g ∧ DRs G Z1 vs (T.erL ts) ∧ SOk G Z1 H σ ρ g := by
  intro ts
  induction ts with
  | nil =>
    intro vs Z fp hl s
    cases vs with
    | nil => exact ⟨Z, fp, Stp.refl, by rw [T.erL]; exact .nil, s⟩
    | cons => simp at hl
  | cons t ts ih =>
    intro vs Z fp hl s
    cases vs with
    | nil => simp at hl
    | cons v vs =>
      obtain ⟨Z1, g, st, dr, s1, s2⟩ := SOk.frzTmp s
      obtain ⟨Z2, g2, st2, drs, s3⟩ := ih (by simpa using hl) s2
      exact ⟨Z2, g2, st.trans st2, by rw [T.erL]; exact .cons (dr.mono st2.zle) drs, s3⟩
/-- temporaries as a row of trees -/
theorem RSl.row : ∀ {ts : List T} {vs : List V} {fp : List Addr}, vs.length = ts.length → RSl G Z H (vs.map some ++ σ) (ts.map some ++ ρ) fp → ∃ f g, fp = f ++ g ∧ RTs G Z H vs ts f ∧ RSl G Z H σ ρ g := by
  intro ts
  induction ts with
  | nil =>
    intro vs fp hl s
    cases vs with
    | nil => exact ⟨[], fp, rfl, .nil, s⟩
    | cons => simp at hl
  | cons t ts ih =>
    intro vs fp hl s
    cases vs with
    | nil => simp at hl
    | cons v vs =>
      cases s with
      | @so _ _ _ _ f g h r =>
        obtain ⟨f2, g2, rfl, r1, r2⟩ := ih (by simpa using hl) r
        exact ⟨f ++ f2, g2, by simp, .cons h r1, r2⟩
theorem upd_fresh {p : Addr} {o : HO} (hp : H p = none) : ∀ a u, H a = some u → upd H p o a = some u := fun a u e => by
  rw [upd_ne (ne_of_none e hp)]
  exact e
theorem same_upd {Z H : Hp} {p : Addr} {o : HO} (s : Same Z H) (hp : H p = none) : Same Z (upd H p o) := fun a u e => upd_fresh hp a u (s a u e)
/-- a new list of temporaries -/
theorem SOk.mkLst {ts : List T} {vs : List V} {p : Addr} (hl : vs.length = ts.length) (s : SOk G Z H (vs.map some ++ σ) (ts.map some ++ ρ) fp) (hp : H p = none) :
    SOk G Z (upd H p (.lst vs)) (some (.ref p) :: σ) (some (.lst ts) :: ρ) (p :: fp) ∧ Stp Z H fp Z (upd H p (.lst vs)) (p :: fp) := by
  obtain ⟨f, g, rfl, r1, r2⟩ := RSl.row hl s.sl
  have np : ∀ a ∈ f ++ g, a ≠ p := fun a ha z => by
    obtain ⟨o, e⟩ := s.sl.there a ha
    rw [z, hp] at e; cases e
  have zp : Z p = none := by
    cases q : Z p with
    | none => rfl
    | some o => have := s.sub p o q; rw [hp] at this; cases this
  refine ⟨⟨same_upd s.sub hp, ?_, List.nodup_cons.mpr ⟨fun z => np p z rfl, s.nd⟩, fun a ha => ?_⟩, ⟨Same.refl _, fun a o e _ => upd_fresh hp a o e, fun a o e n => (by rw [n] at e; cases e), fun a ha => ?_⟩⟩
  · have := RSl.so (G := G) (Z := Z) (H := upd H p (.lst vs)) (v := .ref p) (t := .lst ts) (RT.lst upd_same (r1.keep (Same.refl _) fun a ha => upd_ne (np a (List.mem_append_left _ ha)))) (r2.keep (Same.refl _) fun a ha => upd_ne (np a (List.mem_append_right _ ha)))
    simpa using this
  · rcases List.mem_cons.mp ha with rfl | ha
    · exact zp
    · exact s.fr a ha
  · rcases List.mem_cons.mp ha with rfl | ha
    · exact .inl hp
    · exact .inr ha
/-- a new tuple -/
theorem SOk.mkTup {ds : List D} {vs : List V} {p : Addr} (s : SOk G Z H σ ρ fp) (hd : DRs G Z vs ds) (hp : H p = none) :
    SOk G (upd Z p (.tup vs)) (upd H p (.tup vs)) (some (.ref p) :: σ) (some (.fro (.tup ds)) :: ρ) fp ∧ Stp Z H fp (upd Z p (.tup vs)) (upd H p (.tup vs)) fp := by
  have np : ∀ a ∈ fp, a ≠ p := fun a ha z => by
    obtain ⟨o, e⟩ := s.sl.there a ha
    rw [z, hp] at e; cases e
  have zp : Z p = none := by
    cases q : Z p with
    | none => rfl
    | some o => have := s.sub p o q; rw [hp] at this; cases this
  have zz : Same Z (upd Z p (.tup vs)) := fun a o e => by rw [upd_ne (ne_of_none e zp)]; exact e
  have s1 : SOk G (upd Z p (.tup vs)) (upd H p (.tup vs)) σ ρ fp := ⟨fun a o e => by
      by_cases h : a = p
      · subst h; rw [upd_same] at e ⊢; exact e
      · rw [upd_ne h] at e ⊢; exact s.sub a o e, s.sl.keep zz fun a ha => upd_ne (np a ha), s.nd, fun a ha => by rw [upd_ne (np a ha)]; exact s.fr a ha⟩
  refine ⟨s1.pushD (.tup (SqT.of upd_same) (hd.mono zz)), ⟨zz, fun a o e _ => upd_fresh hp a o e, fun a o e n => ?_, fun a ha => .inr ha⟩⟩
  by_cases h : a = p
  · subst h; exact .inl hp
  · rw [upd_ne h, n] at e; cases e
end
section
variable {X : Cx} {W : WX} {es : List Expr} {ta : TA} {ma : Env → Out (List AV)} {pos : Pos}
def mLst (ma : Env → Out (List AV)) : Env → Out AV := fun ρ => obind (ma ρ) fun avs ρ1 => match nrm avs ρ1 with
  | some (ts, ρ2) => if ts.length ≤ 1000000 then some (.ok (.tmp (.lst ts)), ρ2) else none
  | none => none
def mTup (ma : Env → Out (List AV)) : Env → Out AV := fun ρ => obind (ma ρ) fun avs ρ1 => match nrm avs ρ1 with
  | some (ts, ρ2) => if ts.length ≤ 1000000 then some (.ok (.tmp (.fro (.tup (T.erL ts)))), ρ2) else none
  | none => none
theorem line_ge {n : Nat} (h : n ≤ 1000000) : n ≤ sizeLine := by rw [sizeLine_eq]; omega
theorem ve_lst (h : VA X W es ta ma) : VE X W (.List es pos) (tLst ta) (mLst ma) :=
  ⟨pe_lst h.pa, fun Z H σ ρ fp Q s h1 => by
    refine h.sm Z H σ ρ fp _ s (h1.bind.mono fun avs ρ1 h2 => ?_)
    intro vs Z1 H1 fp1 st1 s1 at1
    have hl := avAt_len at1
    split at h2
    · rename_i ts ρ2 e2
      split at h2
      · rename_i hz
        obtain ⟨hl2, Z2, g, st2, s2⟩ := nrm_ok s1 at1 e2
        have hvt : vs.length = ts.length := by rw [hl, hl2]
        refine ⟨line_ge (by rw [hvt]; exact hz), fun p hp => ?_⟩
        obtain ⟨q1, q2⟩ := s2.mkLst hvt hp
        exact h2 _ _ _ _ (st1.trans (st2.trans q2)) q1 trivial
      · exact h2.elim
    · exact h2.elim⟩
theorem ve_tup {k : Nat} (h : VA X W es ta ma) : VE X W (.Tuple es k pos) (tTup ta) (mTup ma) :=
  ⟨pe_tup h.pa, fun Z H σ ρ fp Q s h1 => by
    refine h.sm Z H σ ρ fp _ s (h1.bind.mono fun avs ρ1 h2 => ?_)
    intro vs Z1 H1 fp1 st1 s1 at1
    have hl := avAt_len at1
    split at h2
    · rename_i ts ρ2 e2
      split at h2
      · rename_i hz
        obtain ⟨hl2, Z2, g, st2, s2⟩ := nrm_ok s1 at1 e2
        have hvt : vs.length = ts.length := by rw [hl, hl2]
        refine ⟨line_ge (by rw [hvt]; exact hz), fun p hp => ?_⟩
        obtain ⟨Z3, g3, st3, drs, s3⟩ := SOk.frzAll hvt s2
        obtain ⟨q1, q2⟩ := s3.mkTup drs hp
        exact h2 _ _ _ _ (st1.trans (st2.trans (st3.trans q2))) q1 trivial
      · exact h2.elim
    · exact h2.elim⟩
end

/-! ### contracts -/
/-- what a def does: the trees of its arguments to an outcome, and the trees of the arguments behind it (the first one may be changed) -/
abbrev FSem := List T → Option (Except Exn T × List T)
/-- all but the first are frozen (io), or all -/
def froAll : List T → Bool
  | [] => true
  | .fro _ :: ts => froAll ts
  | _ => false
def ioOk (io : Bool) (ts : List T) : Bool := if io then froAll ts.tail else froAll ts
def FPost (G : Gx) (Z H : Hp) (vs : List V) (fp : List Addr) (io : Bool) (ts : List T) (Q : VK) (E : XK) : Option (Except Exn T × List T) → Prop
  | none => False
  | some (.ok t, ts') => ∀ v H' Z' fp', Stp Z H fp Z' H' fp' → SOk G Z' H' (some v :: vs.map some) (some t :: (if io then ts' else ts).map some) fp' → Q v H'
  | some (.error x, ts') => ∀ cls dd H' Z' fp', Stp Z H fp Z' H' fp' → SOk G Z' H' (vs.map some) ((if io then ts' else ts).map some) fp' → ExR G Z' cls dd x → E cls dd H'
def spV (G : Gx) (n : Nat) (io : Bool) (F : FSem) : Sp := fun vs H Q E => vs.length = n ∧ ∃ (ts : List T) (Z : Hp) (fp : List Addr), ts.length = n ∧ SOk G Z H (vs.map some) (ts.map some) fp ∧ ioOk io ts = true ∧ FPost G Z H vs fp io ts Q E (F ts)

mutual
/-- data within which nothing can be changed -/
def hard : D → Bool
  | .non => true
  | .bl _ => true
  | .int _ => true
  | .str _ => true
  | .tup ds => hardL ds
  | _ => false
def hardL : List D → Bool
  | [] => true
  | d :: ds => hard d && hardL ds
end
def tupL : HO → Bool
  | .tup _ => true
  | .frz _ (.tup _) => true
  | _ => false
theorem sqT_hard {K : PySem.W.Frag} {Z Z' : Hp} (k : ∀ a o, Z a = some o → tupL o = true → Z' a = some o) {a : Addr} {xs : List V} (h : SqT K Z a xs) : SqT K Z' a xs := by
  rcases h with (h | ⟨o, h⟩) | h
  · exact .inl (.inl (k _ _ h rfl))
  · exact .inl (.inr ⟨o, k _ _ h rfl⟩)
  · exact .inr h
mutual
theorem DR.hard {G : Gx} {Z Z' : Hp} (k : ∀ a o, Z a = some o → tupL o = true → Z' a = some o) : ∀ {v : V} {d : D}, DR G Z v d → Vl.hard d = true → DR G Z' v d
  | _, _, .non, _ => .non
  | _, _, .bl b, _ => .bl b
  | _, _, .int i, _ => .int i
  | _, _, .str x, _ => .str x
  | _, _, .lst h r, e => by rw [Vl.hard] at e <;> first | cases e | exact fun _ q => nomatch q
  | _, _, .tup h r, e => by rw [Vl.hard] at e; exact .tup (sqT_hard k h) (DRs.hard k r e)
  | _, _, .dic h q r, e => by rw [Vl.hard] at e <;> first | cases e | exact fun _ q => nomatch q
  | _, _, .dit h q r, e => by rw [Vl.hard] at e <;> first | cases e | exact fun _ q => nomatch q
  | _, _, .exc h p g x q r, e => by rw [Vl.hard] at e <;> first | cases e | exact fun _ q => nomatch q
theorem DRs.hard {G : Gx} {Z Z' : Hp} (k : ∀ a o, Z a = some o → tupL o = true → Z' a = some o) : ∀ {vs : List V} {ds : List D}, DRs G Z vs ds → Vl.hardL ds = true → DRs G Z' vs ds
  | _, _, .nil, _ => .nil
  | _, _, .cons h r, e => by
    rw [Vl.hardL, Bool.and_eq_true] at e
    exact .cons (DR.hard k h e.1) (DRs.hard k r e.2)
end
mutual
theorem RT.thereL {G : Gx} {Z H : Hp} : ∀ {v : V} {t : T} {f : List Addr}, RT G Z H v t f → ∀ a ∈ f, ∃ o, H a = some o ∧ tupL o = false
  | _, _, _, .fro _, a, ha => nomatch ha
  | _, _, _, .lst h r, a, ha => by
    rcases List.mem_cons.mp ha with rfl | ha
    · exact ⟨_, h, rfl⟩
    · exact RTs.thereL r a ha
  | _, _, _, .dic h _ r, a, ha => by
    rcases List.mem_cons.mp ha with rfl | ha
    · exact ⟨_, h, rfl⟩
    · exact RTs.thereL r a ha
  | _, _, _, .dit h _ r, a, ha => by
    rcases List.mem_cons.mp ha with rfl | ha
    · exact ⟨_, h, rfl⟩
    · exact RTs.thereL r a ha
theorem RTs.thereL {G : Gx} {Z H : Hp} : ∀ {vs : List V} {ts : List T} {f : List Addr}, RTs G Z H vs ts f → ∀ a ∈ f, ∃ o, H a = some o ∧ tupL o = false
  | _, _, _, .nil, a, ha => nomatch ha
  | _, _, _, .cons h r, a, ha => by
    rcases List.mem_append.mp ha with ha | ha
    · exact RT.thereL h a ha
    · exact RTs.thereL r a ha
end
theorem RSl.thereL {G : Gx} {Z H : Hp} {σ : L2.St} {ρ : Env} {f : List Addr} (r : RSl G Z H σ ρ f) : ∀ a ∈ f, ∃ o, H a = some o ∧ tupL o = false := by
  induction r with
  | nil => intro a ha; cases ha
  | no r ih => exact ih
  | so h r ih =>
    intro a ha
    rcases List.mem_append.mp ha with ha | ha
    · exact h.thereL a ha
    · exact ih a ha
mutual
/-- a tree that shares nothing that may change with what stands elsewhere -/
def T.noRef : T → Bool
  | .fro d => hard d
  | .lst ts => T.noRefL ts
  | .dic kvs => false
  | .dit kvs => false
def T.noRefL : List T → Bool
  | [] => true
  | t :: ts => T.noRef t && T.noRefL ts
end
mutual
theorem RT.indep {G : Gx} {Z Z' H H' : Hp} (z : ∀ a o, Z a = some o → tupL o = true → Z' a = some o) : ∀ {v : V} {t : T} {f : List Addr}, RT G Z H v t f → T.noRef t = true → (∀ a ∈ f, H' a = H a) → RT G Z' H' v t f
  | _, _, _, .fro h, e, _ => by
    rw [T.noRef] at e
    exact .fro (h.hard z e)
  | _, _, _, .lst h r, e, k => by
    rw [T.noRef] at e
    exact .lst ((k _ List.mem_cons_self).trans h) (RTs.indep z r e fun a ha => k a (List.mem_cons_of_mem _ ha))
  | _, _, _, .dic h e r, q, k => by rw [T.noRef] at q; cases q
  | _, _, _, .dit h e r, q, k => by rw [T.noRef] at q; cases q
theorem RTs.indep {G : Gx} {Z Z' H H' : Hp} (z : ∀ a o, Z a = some o → tupL o = true → Z' a = some o) : ∀ {vs : List V} {ts : List T} {f : List Addr}, RTs G Z H vs ts f → T.noRefL ts = true → (∀ a ∈ f, H' a = H a) → RTs G Z' H' vs ts f
  | _, _, _, .nil, _, _ => .nil
  | _, _, _, .cons h r, e, k => by
    rw [T.noRefL, Bool.and_eq_true] at e
    exact .cons (RT.indep z h e.1 fun a ha => k a (List.mem_append_left _ ha)) (RTs.indep z r e.2 fun a ha => k a (List.mem_append_right _ ha))
end
def exFlat : List (Str × D) → Bool
  | [] => true
  | (_, d) :: r => flat d && exFlat r
end Vl

/-! VlG: defs' contracts where it is known that no repr is under way (guards). -/
namespace Vl
open PySem PySem.Spec PyProof.Rows L2

/-- as L2.FnOk, asked only where no repr is under way -/
structure FnG (P : Program) (w : World) (K : PySem.W.Frag) (mg : Str → Option Value) (base : Heap) (k : Nat) (f : Addr) (fd : FuncData) (ps : List Str) (sp : Sp) : Prop where
  len : ∀ vs H Q E, sp vs H Q E → vs.length = ps.length
  run : ∀ (A : Around) (outer : List PySem.Env) (s : Shared) (H : Hp) (args : Args) (us : List Value) (vs : List V) (Q : VK) (E : XK),
    A.guards = some [] → Room k A → Env0 P w K mg base A outer s H → BindsTo s fd args (ps.zip us) → Vals vs us → sp vs H Q E →
    codeAny (model P w) A (.call (.ref f) args) (CR (L2.CX P w) outer P w H s Q E) s
theorem FnG.mono {P : Program} {w : World} {K : PySem.W.Frag} {mg : Str → Option Value} {base : Heap} {j k : Nat} {f : Addr} {fd : FuncData} {ps : List Str} {sp : Sp} (F : FnG P w K mg base j f fd ps sp) (h : j ≤ k) : FnG P w K mg base k f fd ps sp :=
  ⟨F.len, fun A outer s H args us vs Q E hg hr => F.run A outer s H args us vs Q E hg (hr.mono h)⟩
theorem FnG.imp {P : Program} {w : World} {K : PySem.W.Frag} {mg : Str → Option Value} {base : Heap} {k : Nat} {f : Addr} {fd : FuncData} {ps : List Str} {sp sp' : Sp} (F : FnG P w K mg base k f fd ps sp)
    (h : ∀ vs H Q E, sp' vs H Q E → sp vs H Q E) : FnG P w K mg base k f fd ps sp' :=
  ⟨fun vs H Q E q => F.len vs H Q E (h vs H Q E q), fun A outer s H args us vs Q E hg hr he hb hv hs => F.run A outer s H args us vs Q E hg hr he hb hv (h vs H Q E hs)⟩
section
variable {X : Cx} {k : Nat} {f : Addr} {fd : FuncData} {ps : List Str} {sp : Sp} {E : L2.St → XK} {x : Str} {p pos : Pos} {e : Expr} {es : List Expr} {t : TA}
theorem runG {pins : List (Addr × Obj)} {σ : L2.St} {H : Hp} {s : Shared} {Q : VK} {us : List Value} {vs : List V} (F : FnG X.prog X.w X.K X.mg X.base k f fd ps sp) (hg : X.A.guards = some []) (hr : Room k X.A) (hb : Binds X.K fd ps []) (hx : PassesAt (L2.CX X.prog X.w) X σ (E σ))
    (I : Inv X pins σ H s) (rv : Vals vs us) (h : sp vs H Q (E σ)) : wpAny (model X.prog X.w) X.A (call (.ref f) us) (EP X pins σ Q) X.xe s := by
  have hlen : us.length = ps.length := by rw [← rv.length]; exact F.len _ _ _ _ h
  have bnd := hb s us I.kIn (by simpa using hlen)
  rw [List.append_nil] at bnd
  have body := F.run X.A X.stack s H ⟨us, []⟩ us vs Q (E σ) hg hr I.env0 bnd rv h
  refine wpAny_call (codeAny_mono body fun res s' hq => ?_)
  match res, hq with
  | .error er, hq => exact hx pins H s er s' I hq
  | .ok (.ret u), hq => exact I.after hq
  | .ok .next, hq => exact False.elim hq
  | .ok .brk, hq => exact False.elim hq
  | .ok .cont, hq => exact False.elim hq
theorem pe_callG (F : FnG X.prog X.w X.K X.mg X.base k f fd ps sp) (hgd : X.A.guards = some []) (hr : Room k X.A) (hg : Gl X x) (hm : X.mg x = some (.ref f)) (hk : PySem.W.keepIn X.K (.ref f) = true) (hb : Binds X.K fd ps []) (hx : ∀ σ, PassesAt (L2.CX X.prog X.w) X σ (E σ))
    (ha : PA X (e :: es) t) (hdb : (x == ("__debug__" : Str)) = false := by decide) (he : starEach (e :: es) X.env = (false, eval e X.env) :: starEach es X.env := by rfl) (hpl : (backTo pos (starEach es X.env)).any (·.1) = false := by rfl) :
    PE X (.Call (.Name x p) (e :: es) [] pos) (tCallS sp E t) :=
  ⟨fun pins s σ H Q I h => wpAny_Call_Name_kw (ld_glob I hg hm
    (PySem.W.callWith_K (h₀ := X.base) I.ok.mod.kin hk (thn (ha.run pos pins s σ H _ I h) fun us s1 ⟨vs, H1, I1, rv, q⟩ => ⟨I1.kIn, runG F hgd hr hb (hx σ) I1 rv q⟩) he hpl) hdb)⟩
theorem pe_callG0 (F : FnG X.prog X.w X.K X.mg X.base k f fd ps sp) (hgd : X.A.guards = some []) (hr : Room k X.A) (hg : Gl X x) (hm : X.mg x = some (.ref f)) (hk : PySem.W.keepIn X.K (.ref f) = true) (hb : Binds X.K fd ps []) (hx : ∀ σ, PassesAt (L2.CX X.prog X.w) X σ (E σ))
    (hdb : (x == ("__debug__" : Str)) = false := by decide) : PE X (.Call (.Name x p) [] [] pos) (tCallS sp E tNil) := by
  refine ⟨fun pins s σ H Q I h => wpAny_Call_Name_kw (ld_glob I hg hm ?_ hdb)⟩
  exact PySem.W.callWith_K0 I.kIn hk (runG (us := []) F hgd hr hb (hx σ) I .nil h)
end
/-- a def's body keeps its promise -/
theorem fnG_of {P : Program} {w : World} {K : PySem.W.Frag} {mg : Str → Option Value} {base : Heap} {k : Nat} {f : Addr} {name qual : Str} {params : Arguments} {body : List Stmt} {scope : Scope} {dV kV doc pm cdv ct oc : Value} {an od : Option Addr}
    {osl : Array (Option Value)} {N ps : List Str} {sp : Sp} (lk : K.lookup f = some ⟨oc, od, .func (PySem.W.fnOf name qual params body scope dV kV doc pm an cdv ct), osl⟩) (hcd : PySem.W.codeIn K cdv qual = true) (S : FnScope N ps scope)
    (len : ∀ vs H Q E, sp vs H Q E → vs.length = ps.length)
    (hbody : ∀ (A : Around) (outer : List PySem.Env) (s : Shared) (H : Hp) (vs : List V) (Q : VK) (E : XK), A.guards = some [] → Room k (A.deeper (envOfC qual scope s.heap.objs.size f cdv)) → sp vs H Q E →
      ∃ t, PSs (cxOf (L2.CX P w) P w K mg base N qual scope f cdv A outer s H E) body t ∧ t { nx := fun _ H' => Q .non H', rt := Q } (start N vs) H) :
    FnG P w K mg base (k + 1) f (PySem.W.fnOf name qual params body scope dV kV doc pm an cdv ct) ps sp := by
  refine ⟨len, fun A outer s H args us vs Q E hgd hr env0 bnd rv hsp => ?_⟩
  have hlen := len vs H Q E hsp
  have stays : ∀ b o, base.get? b = some o → s.heap.get? b = some o := fun b o e => (env0.bs b o e).1
  have kin : K.In s.heap := env0.mod.kin.keeps stays
  have nolim : s.heap.NoLimit := env0.mod.nolimit.keeps stays
  have kinds : ∀ y ∈ ps.zip us, scope.names.lookup y.1 = some .local ∨ (scope.names.lookup y.1 = some .cell ∧ ((cellsFrom (s.heap.objs.size + 1) scope.names []).lookup y.1).isSome = true) := by
    rintro ⟨n, v⟩ hy
    have par := S.par n (List.of_mem_zip hy).1
    exact par.imp id fun q => ⟨q, PySem.W.cellsFrom_some _ _ _ (.inl q)⟩
  refine codeAny_call_function hr.depth (kin _ _ lk) rfl S.co S.gen rfl (PySem.W.codeRec_of kin hcd) (bnd _ _ _ _ ?_)
  refine wpAny_newFunctionEnv_cells S.kind kinds fun env1 henv s1 inC => ?_
  subst henv
  refine ⟨nolim.keeps inC.toInCall.keep, codeAny_func ?_⟩
  obtain ⟨t, ht, hq⟩ := hbody A outer s H vs Q E hgd (hr.deeper _) hsp
  have I0 := inv_start (CX := L2.CX P w) (mg := mg) (base := base) (E := E) S hr.hd env0 hlen rv inC
  refine wpAny_mono (ht.run [] s1 (start N vs) H _ I0 hq) (fun fl s' hs => ?_) fun _ _ z => z
  match fl, hs with
  | .ret u, ⟨v, _, H', J, ru, q⟩ => exact ⟨v, H', J.os, J.bare, J.base, J.hok, ru, q⟩
  | .next, ⟨_, H', J, q⟩ => exact ⟨V.non, H', J.os, J.bare, J.base, J.hok, rfl, q⟩
  | .brk, ⟨_, _, _, q⟩ => exact False.elim q
  | .cont, ⟨_, _, _, q⟩ => exact False.elim q
end Vl

/-! Vl5: calls of defs by their contracts; statements; a def's contract by its body. -/
namespace Vl
open PySem PySem.Spec PyProof.Rows L2

/-- a def of the text that keeps its contract -/
structure DefOk (P : Program) (w : World) (K : PySem.W.Frag) (mg : Str → Option Value) (base : Heap) (x : Str) (k n : Nat) (io : Bool) (F : FSem) : Prop where
  ex : ∃ (f : Addr) (fd : FuncData) (ps : List Str), mg x = some (.ref f) ∧ PySem.W.keepIn K (.ref f) = true ∧ Binds K fd ps [] ∧ FnG P w K mg base k f fd ps (spV (K, mg) n io F)
theorem DefOk.mono {P : Program} {w : World} {K : PySem.W.Frag} {mg : Str → Option Value} {base : Heap} {x : Str} {k k' n : Nat} {io : Bool} {F : FSem} (D : DefOk P w K mg base x k n io F) (h : k ≤ k') : DefOk P w K mg base x k' n io F := by
  obtain ⟨f, fd, ps, h1, h2, h3, h4⟩ := D.ex
  exact ⟨f, fd, ps, h1, h2, h3, h4.mono h⟩
theorem DefOk.eqF {P : Program} {w : World} {K : PySem.W.Frag} {mg : Str → Option Value} {base : Heap} {x : Str} {k n : Nat} {io : Bool} {F F' : FSem} (D : DefOk P w K mg base x k n io F) (h : ∀ ts, ts.length = n → F ts = F' ts) : DefOk P w K mg base x k n io F' := by
  obtain ⟨f, fd, ps, h1, h2, h3, h4⟩ := D.ex
  refine ⟨f, fd, ps, h1, h2, h3, h4.imp fun vs H Q E z => ?_⟩
  obtain ⟨hl, ts, Z, fp, h5, h6, h7, h8⟩ := z
  exact ⟨hl, ts, Z, fp, h5, h6, h7, by rw [h ts h5]; exact h8⟩

def peekAll (ρ : Env) : List AV → Option (List D)
  | [] => some []
  | av :: as => match av.get ρ, peekAll ρ as with
    | some t, some ds => some (t.er :: ds)
    | _, _ => none
section
variable {G : Gx} {Z H : Hp} {σ : L2.St} {ρ : Env} {fp : List Addr}
theorem get_set {ρ : Env} {i : Nat} {t : T} (e : ρ[i]? = some (some t)) (av : AV) : (av.get (ρ.set i (some (.fro t.er)))).map T.er = (av.get ρ).map T.er := by
  cases av with
  | tmp t => rfl
  | loc j =>
    simp only [AV.get]
    by_cases h : i = j
    · subst h
      have hl : i < ρ.length := (List.getElem?_eq_some_iff.mp e).1
      rw [List.getElem?_set_self hl, e]
      simp [T.er]
    · rw [List.getElem?_set_ne h]
theorem peekAll_set {ρ : Env} {i : Nat} {t : T} (e : ρ[i]? = some (some t)) : ∀ as : List AV, peekAll (ρ.set i (some (.fro t.er))) as = peekAll ρ as
  | [] => rfl
  | av :: as => by
    have h := get_set e av
    unfold peekAll
    rw [peekAll_set e as]
    cases h1 : av.get (ρ.set i (some (.fro t.er))) <;> cases h2 : av.get ρ <;> rw [h1, h2] at h <;> simp at h ⊢
    cases peekAll ρ as <;> simp [h]
theorem nrm_peek : ∀ {as : List AV} {ρ ρ' : Env} {ts : List T}, nrm as ρ = some (ts, ρ') → peekAll ρ as = some (T.erL ts)
  | [], ρ, ρ', ts, e => by cases e; rw [T.erL]; rfl
  | .tmp t :: as, ρ, ρ', ts, e => by
    unfold nrm at e
    split at e
    · rename_i ts' ρ1 e1
      cases e
      unfold peekAll
      rw [nrm_peek e1, T.erL]
      rfl
    · cases e
  | .loc i :: as, ρ, ρ', ts, e => by
    unfold nrm at e
    split at e
    · rename_i t et
      split at e
      · rename_i ts' ρ1 e1
        cases e
        have h := nrm_peek e1
        rw [peekAll_set et] at h
        unfold peekAll
        rw [h, T.erL, T.er]
        simp [AV.get, et]
      · cases e
    · cases e
theorem SOk.peekAt (s : SOk G Z H σ ρ fp) {vs0 : List V} {avs0 : List AV} (hl0 : vs0.length = avs0.length) : ∀ {as : List AV} {vs : List V} {ρ0 : Env} {σ0 : L2.St} {ds : List D}, σ = vs0.map some ++ (vs.map some ++ σ0) → ρ = avs0.map AV.sl ++ (as.map AV.sl ++ ρ0) → avAt σ0 vs as → peekAll ρ0 as = some ds → DRs G H vs ds
  := by
  intro as
  induction as generalizing vs0 avs0 with
  | nil =>
    intro vs ρ0 σ0 ds e1 e2 a p
    cases vs with
    | nil => cases p; exact .nil
    | cons => exact a.elim
  | cons av as ih =>
    intro vs ρ0 σ0 ds e1 e2 a p
    cases vs with
    | nil => exact a.elim
    | cons v vs =>
      unfold peekAll at p
      split at p
      · rename_i t ds' h1 h2
        cases p
        have hl := avAt_len a.2
        refine .cons ?_ (ih (vs0 := vs0 ++ [v]) (avs0 := avs0 ++ [av]) (by simp [hl0]) (by rw [e1]; simp) (by rw [e2]; simp) a.2 h2)
        refine s.avPeek (τ := σ0) (π := ρ0) (n := vs0.length) (by rw [e1]; simp) (by rw [e2, hl0]; simp) a.1 h1 fun i t' e => ⟨vs0.length + (as.length + 1 + i), ?_, ?_⟩
        · rw [e2, hl0, List.getElem?_append_right (by simp)]
          rw [show (avs0.length + (as.length + 1 + i) - (List.map AV.sl avs0).length) = as.length + i + 1 by simp; omega]
          rw [List.map_cons, List.cons_append, List.getElem?_cons_succ, List.getElem?_append_right (by simp)]
          simpa using e
        · rw [e1, List.getElem?_append_right (by simp)]
          rw [show (vs0.length + (as.length + 1 + i) - (List.map some vs0).length) = as.length + i + 1 by simp; omega]
          rw [List.map_cons, List.cons_append, List.getElem?_cons_succ, List.getElem?_append_right (by simp [hl])]
          simp [hl]
      · cases p
theorem SOk.dropAll : ∀ {as : List AV} {vs : List V} {fp : List Addr}, vs.length = as.length → SOk G Z H (vs.map some ++ σ) (as.map AV.sl ++ ρ) fp → ∃ g, SOk G Z H σ ρ g ∧ ∀ a ∈ g, a ∈ fp := by
  intro as
  induction as with
  | nil =>
    intro vs fp hl s
    cases vs with
    | nil => exact ⟨fp, s, fun _ h => h⟩
    | cons => simp at hl
  | cons a as ih =>
    intro vs fp hl s
    cases vs with
    | nil => simp at hl
    | cons v vs =>
      obtain ⟨g, s1, k1⟩ := SOk.drop s
      obtain ⟨g2, s2, k2⟩ := ih (by simpa using hl) s1
      exact ⟨g2, s2, fun x hx => k1 x (k2 x hx)⟩
theorem RSl.ofDRs : ∀ {vs : List V} {ds : List D}, DRs G Z vs ds → RSl G Z H (vs.map some) ((ds.map T.fro).map some) []
  | _, _, .nil => .nil
  | _, _, .cons h r => RSl.so (f := []) (g := []) (.fro h) (RSl.ofDRs r)
theorem froAll_map : ∀ ds : List D, froAll (ds.map T.fro) = true
  | [] => rfl
  | d :: ds => by simpa [froAll] using froAll_map ds
end

section
variable {X : Cx} {W : WX} {e : Expr} {es : List Expr} {ta : TA} {ma : Env → Out (List AV)} {pos p : Pos} {x : Str} {k n : Nat} {F : FSem}
/-- a call that changes none of its arguments -/
def mCall (F : FSem) (ma : Env → Out (List AV)) : Env → Out AV := fun ρ => obind (ma ρ) fun avs ρ1 => match peekAll ρ1 avs with
  | none => none
  | some ds => match F (ds.map .fro) with
    | none => none
    | some (.ok t, _) => if t.noRef = true then some (.ok (.tmp t), ρ1) else match nrm avs ρ1 with
      | some (_, ρ2) => some (.ok (.tmp t), ρ2)
      | none => none
    | some (.error x, _) => match nrm avs ρ1 with
      | some (_, ρ2) => some (.error x, ρ2)
      | none => none
/-- the callee's side of a call whose arguments are all frozen in Y -/
theorem call_frozen {G : Gx} {Y H : Hp} {vs : List V} {ds : List D} {n : Nat} {F : FSem} {Q : VK} {E : XK} (hs : Same Y H) (hd : DRs G Y vs ds) (hn : ds.length = n) (h : FPost G Y H vs [] false (ds.map .fro) Q E (F (ds.map .fro))) : spV G n false F vs H Q E :=
  ⟨by rw [hd.length, hn], ds.map .fro, Y, [], by simp [hn], ⟨hs, RSl.ofDRs hd, List.nodup_nil, fun _ h => nomatch h⟩, froAll_map ds, h⟩
theorem Stp.ofCallee {Z H Y Z' H' : Hp} {fp ft : List Addr} (hz : Same Z H) (st : Stp Y H [] Z' H' ft) : Stp Z H fp Z H' (ft ++ fp) :=
  ⟨Same.refl _, fun a o e _ => st.frame a o e (fun z => nomatch z), fun a o e n => (by rw [n] at e; cases e), fun a ha => (List.mem_append.mp ha).elim (fun z => (st.ffr a z).imp id fun y => nomatch y) .inr⟩
theorem call_sm {σ : L2.St} {ρ1 : Env} {Z1 H1 Z H : Hp} {fp fp1 : List Addr} {avs : List AV} {vs : List V} {Q : VK} {E : XK} (st1 : Stp Z H fp Z1 H1 fp1) (hlen : avs.length = n)
    (s1 : SOk (gx X) Z1 H1 (vs.map some ++ σ) (avs.map AV.sl ++ ρ1) fp1) (at1 : avAt σ vs avs) (hE : ∀ cls dd H', W cls dd σ H' → E cls dd H')
    (h2 : Post (gx X) W Z H σ fp (KE (gx X) Z H σ fp Q) (match peekAll ρ1 avs with
  | none => none
  | some ds => match F (ds.map .fro) with
    | none => none
    | some (.ok t, _) => if t.noRef = true then some (.ok (.tmp t), ρ1) else match nrm avs ρ1 with
      | some (_, ρ2) => some (.ok (.tmp t), ρ2)
      | none => none
    | some (.error x, _) => match nrm avs ρ1 with
      | some (_, ρ2) => some (.error x, ρ2)
      | none => none)) : spV (gx X) n false F vs H1 Q E := by
  have hl := avAt_len at1
  split at h2
  · exact h2.elim
  · rename_i ds eds
    have dr : DRs (gx X) H1 vs ds := s1.peekAt (vs0 := []) (avs0 := []) rfl rfl rfl at1 eds
    have hds : ds.length = n := by rw [← dr.length, hl, hlen]
    split at h2
    · exact h2.elim
    · rename_i t ts' eF
      split at h2
      · rename_i nr
        have sY : SOk (gx X) Z1 (frz Z1 H1 fp1) (vs.map some ++ σ) (avs.map AV.sl ++ ρ1) fp1 := ⟨frz_same s1.sub, s1.sl.keep (Same.refl _) (fun a ha => by unfold frz; rw [if_pos ha]), s1.nd, s1.fr⟩
        have drY : DRs (gx X) (frz Z1 H1 fp1) vs ds := sY.peekAt (vs0 := []) (avs0 := []) rfl rfl rfl at1 eds
        refine call_frozen (frz_sub s1.sub) drY hds ?_
        rw [eF]
        intro v H' Z' fp' st s'
        obtain ⟨g, s2, k2⟩ := SOk.dropAll hl s1
        have fr' := s'.fr
        have sub' := s'.sub
        obtain ⟨ft, fr0, rfl, hrt, _, _, ndt⟩ := SOk.tmp s'
        have ff : ∀ a ∈ ft, H1 a = none := fun a ha => (st.ffr a (List.mem_append_left _ ha)).elim id fun z => nomatch z
        have z1' : Same Z1 Z' := (frz_same s1.sub).trans st.zle
        obtain ⟨Z2, hZ2⟩ : ∃ Z2 : Hp, ∀ a, (∃ o, Z' a = some o ∧ tupL o = true ∧ Z2 a = some o) ∨ ((∀ o, Z' a = some o → tupL o = false) ∧ Z2 a = Z1 a) := by
          refine ⟨fun a => match Z' a with | some o => if tupL o = true then some o else Z1 a | none => Z1 a, fun a => ?_⟩
          cases q : Z' a with
          | none => exact .inr ⟨fun o e => (by cases e), (by simp only [q])⟩
          | some o =>
            cases q2 : tupL o with
            | true => exact .inl ⟨o, rfl, q2, (by simp only [q, q2, if_true])⟩
            | false => exact .inr ⟨fun o' e => (by cases e; exact q2), (by simp only [q, q2]; rfl)⟩
        have z12 : Same Z1 Z2 := fun a o e => by
          rcases hZ2 a with ⟨o', e1, _, e2⟩ | ⟨_, e2⟩
          · rw [z1' a o e] at e1; cases e1; exact e2
          · rw [e2]; exact e
        have z2H : Same Z2 H' := fun a o e => by
          rcases hZ2 a with ⟨o', e1, _, e2⟩ | ⟨_, e2⟩
          · rw [e2] at e; cases e; exact sub' a _ e1
          · rw [e2] at e; exact sub' a o (z1' a o e)
        have keepT : ∀ a o, Z' a = some o → tupL o = true → Z2 a = some o := fun a o e t => by
          rcases hZ2 a with ⟨o', e1, _, e2⟩ | ⟨e1, _⟩
          · rw [e] at e1; cases e1; exact e2
          · rw [e1 o e] at t; cases t
        have sOld : SOk (gx X) Z2 H' σ ρ1 g := ⟨z2H, s2.sl.keep z12 fun a ha => by
            obtain ⟨o, e⟩ := s2.sl.there a ha
            rw [e, st.frame a o e (fun z => nomatch z)], s2.nd, fun a ha => by
            obtain ⟨o, e, nt⟩ := s2.sl.thereL a ha
            rcases hZ2 a with ⟨o', e1, t, e2⟩ | ⟨_, e2⟩
            · have := sub' a o' e1
              rw [st.frame a o e (fun z => nomatch z)] at this
              cases this; rw [nt] at t; cases t
            · rw [e2]; exact s2.fr a ha⟩
        have n1 : ∀ a ∈ ft, Z1 a = none := fun a ha => by
            cases q : Z1 a with
            | none => rfl
            | some o => have := s1.sub a o q; rw [ff a ha] at this; cases this
        have sNew := sOld.push (hrt.indep (Z' := Z2) (H' := H') keepT nr fun _ _ => rfl) ndt (fun a ha hb => by
            obtain ⟨o, e⟩ := s2.sl.there a hb
            rw [ff a ha] at e; cases e) (fun a ha => by
            rcases hZ2 a with ⟨o', e1, t, e2⟩ | ⟨_, e2⟩
            · rw [fr' a (List.mem_append_left _ ha)] at e1; cases e1
            · rw [e2]; exact n1 a ha)
        have stN : Stp Z1 H1 fp1 Z2 H' (ft ++ g) := ⟨z12, fun a o e _ => st.frame a o e (fun z => nomatch z), fun a o e n => (by
            rcases hZ2 a with ⟨o', e1, t, e2⟩ | ⟨_, e2⟩
            · cases q : frz Z1 H1 fp1 a with
              | none => exact (st.zfr a o' e1 q).elim .inl fun z => nomatch z
              | some o'' =>
                unfold frz at q
                split at q
                · rename_i hm; exact .inr hm
                · rw [n] at q; cases q
            · rw [e2, n] at e; cases e), fun a ha => (List.mem_append.mp ha).elim (fun z => .inl (ff a z)) fun z => .inr (k2 a z)⟩
        exact h2 v Z2 H' _ (st1.trans stN) sNew trivial
      · split at h2
        · rename_i ts2 ρ2 en
          obtain ⟨hl2, Z2, g2, st2, s2⟩ := nrm_ok s1 at1 en
          have hvt : vs.length = ts2.length := by rw [hl, hl2]
          obtain ⟨Z3, g3, st3, drs, s3⟩ := SOk.frzAll hvt s2
          have e2 := nrm_peek en
          rw [eds] at e2
          cases e2
          refine call_frozen s3.sub drs (by rw [← drs.length, hl, hlen]) ?_
          rw [eF]
          intro v H' Z' fp' st s'
          have fr' := s'.fr
          have sub' := s'.sub
          obtain ⟨ft, fr0, rfl, hrt, _, _, ndt⟩ := SOk.tmp s'
          have ff : ∀ a ∈ ft, H1 a = none := fun a ha => (st.ffr a (List.mem_append_left _ ha)).elim id fun z => nomatch z
          have zf : ∀ a o, Z' a = some o → Z3 a = none → H1 a = none := fun a o e n => (st.zfr a o e n).elim id fun z => nomatch z
          have sOld : SOk (gx X) Z' H' σ ρ2 g3 := ⟨sub', s3.sl.keep st.zle fun a ha => by
              obtain ⟨o, e⟩ := s3.sl.there a ha
              rw [e, st.frame a o e (fun z => nomatch z)], s3.nd, fun a ha => by
              obtain ⟨o, e⟩ := s3.sl.there a ha
              cases q : Z' a with
              | none => rfl
              | some o' => have := zf a o' q (s3.fr a ha); rw [this] at e; cases e⟩
          have sNew := sOld.push hrt ndt (fun a ha hb => by
              obtain ⟨o, e⟩ := s3.sl.there a hb
              rw [ff a ha] at e; cases e) (fun a ha => fr' a (List.mem_append_left _ ha))
          have stN : Stp Z3 H1 g3 Z' H' (ft ++ g3) := ⟨st.zle, fun a o e _ => st.frame a o e (fun z => nomatch z), fun a o e n => .inl (zf a o e n), fun a ha => (List.mem_append.mp ha).elim (fun z => .inl (ff a z)) .inr⟩
          exact h2 v Z' H' _ (st1.trans (st2.trans (st3.trans stN))) sNew trivial
        · exact h2.elim
    · rename_i xx ts' eF
      split at h2
      · rename_i ts2 ρ2 en
        obtain ⟨hl2, Z2, g2, st2, s2⟩ := nrm_ok s1 at1 en
        have hvt : vs.length = ts2.length := by rw [hl, hl2]
        obtain ⟨Z3, g3, st3, drs, s3⟩ := SOk.frzAll hvt s2
        have e2 := nrm_peek en
        rw [eds] at e2
        cases e2
        refine call_frozen s3.sub drs (by rw [← drs.length, hl, hlen]) ?_
        rw [eF]
        intro cls dd H' Z' fp' st s' ex
        apply hE
        have zf : ∀ a o, Z' a = some o → Z3 a = none → H1 a = none := fun a o e n => (st.zfr a o e n).elim id fun z => nomatch z
        have sOld : SOk (gx X) Z' H' σ ρ2 g3 := ⟨s'.sub, s3.sl.keep st.zle fun a ha => by
            obtain ⟨o, e⟩ := s3.sl.there a ha
            rw [e, st.frame a o e (fun z => nomatch z)], s3.nd, fun a ha => by
            obtain ⟨o, e⟩ := s3.sl.there a ha
            cases q : Z' a with
            | none => rfl
            | some o' => have := zf a o' q (s3.fr a ha); rw [this] at e; cases e⟩
        have stN : Stp Z3 H1 g3 Z' H' g3 := ⟨st.zle, fun a o e _ => st.frame a o e (fun z => nomatch z), fun a o e n => .inl (zf a o e n), fun a ha => .inr ha⟩
        exact h2 cls dd Z' H' g3 (st1.trans (st2.trans (st3.trans stN))) sOld ex
      · exact h2.elim
theorem ve_call {es' : List Expr} {F : FSem} {k k' : Nat} (D : DefOk X.prog X.w X.K X.mg X.base x k n false F) (hgd : X.A.guards = some []) (hr : Room k' X.A) (hk : k ≤ k') (tk : Takes X W) (hg : Gl X x) (ha : VA X W (e :: es') ta ma) (hn : (e :: es').length = n := by rfl)
    (hdb : (x == ("__debug__" : Str)) = false := by decide) (he : starEach (e :: es') X.env = (false, eval e X.env) :: starEach es' X.env := by rfl) (hpl : (backTo pos (starEach es' X.env)).any (·.1) = false := by rfl) :
    VE X W (.Call (.Name x p) (e :: es') [] pos) (tCallS (spV (gx X) n false F) (WE W) ta) (mCall F ma) := by
  obtain ⟨f, fd, ps, h1, h2, h3, h4⟩ := D.ex
  refine ⟨pe_callG h4 hgd (hr.mono hk) hg h1 h2 h3 (fun σ => passAt tk σ) ha.pa hdb he hpl, fun Z H σ ρ fp Q s h => ?_⟩
  refine ha.sm Z H σ ρ fp _ s (h.bind.monoE fun avs ρ1 e1 h5 => ?_)
  intro vs Z1 H1 fp1 st1 s1 at1
  exact call_sm st1 (by rw [ha.len _ _ _ e1, hn]) s1 at1 (fun _ _ _ z => z) h5
/-- a call without arguments -/
def mCall0 (F : FSem) : Env → Out AV := fun ρ => match F [] with
  | some (.ok t, _) => some (.ok (.tmp t), ρ)
  | some (.error x, _) => some (.error x, ρ)
  | none => none
theorem ve_call0 {F : FSem} {k k' : Nat} (D : DefOk X.prog X.w X.K X.mg X.base x k 0 false F) (hgd : X.A.guards = some []) (hr : Room k' X.A) (hk : k ≤ k') (tk : Takes X W) (hg : Gl X x)
    (hdb : (x == ("__debug__" : Str)) = false := by decide) : VE X W (.Call (.Name x p) [] [] pos) (tCallS (spV (gx X) 0 false F) (WE W) tNil) (mCall0 F) := by
  obtain ⟨f, fd, ps, h1, h2, h3, h4⟩ := D.ex
  refine ⟨pe_callG0 h4 hgd (hr.mono hk) hg h1 h2 h3 (fun σ => passAt tk σ) hdb, fun Z H σ ρ fp Q s h => ?_⟩
  unfold mCall0 at h
  refine call_frozen (Y := Z) (ds := []) s.sub .nil rfl ?_
  show FPost _ _ _ _ _ _ _ _ _ (F [])
  have keep : ∀ {Z' H' : Hp} {fp' : List Addr}, Stp Z H [] Z' H' fp' → Same Z' H' → SOk (gx X) Z' H' σ ρ fp := fun {Z' H' fp'} st sub' => ⟨sub', s.sl.keep st.zle fun a ha => by
      obtain ⟨o, e⟩ := s.sl.there a ha
      rw [e, st.frame a o e (fun z => nomatch z)], s.nd, fun a ha => by
      obtain ⟨o, e⟩ := s.sl.there a ha
      cases q : Z' a with
      | none => rfl
      | some o' =>
        have z : H a = none := (st.zfr a o' q (s.fr a ha)).elim id fun z => nomatch z
        rw [z] at e; cases e⟩
  have wide : ∀ {Z' H' : Hp} {fp' : List Addr}, Stp Z H [] Z' H' fp' → Stp Z H fp Z' H' fp := fun {Z' H' fp'} st => ⟨st.zle, fun a o e _ => st.frame a o e (fun z => nomatch z), fun a o e n => (st.zfr a o e n).imp id (fun z => nomatch z), fun a ha => .inr ha⟩
  split at h
  · rename_i t ts' eF
    rw [eF]
    intro v H' Z' fp' st s'
    have fr' := s'.fr
    have sub' := s'.sub
    obtain ⟨ft, fr0, rfl, hrt, _, _, ndt⟩ := SOk.tmp s'
    have ff : ∀ a ∈ ft, H a = none := fun a ha => (st.ffr a (List.mem_append_left _ ha)).elim id fun z => nomatch z
    have sNew := (keep st sub').push hrt ndt (fun a ha hb => by
        obtain ⟨o, e⟩ := s.sl.there a hb
        rw [ff a ha] at e; cases e) (fun a ha => fr' a (List.mem_append_left _ ha))
    have w0 := wide st
    exact h v Z' H' _ ⟨w0.zle, w0.frame, w0.zfr, fun a ha => (List.mem_append.mp ha).elim (fun z => .inl (ff a z)) .inr⟩ sNew trivial
  · rename_i xx ts' eF
    rw [eF]
    intro cls dd H' Z' fp' st s' ex
    exact h cls dd Z' H' fp (wide st) (keep st s'.sub) ex
  · exact h.elim

/-! ### a call that may change its first argument -/
def ioTail (F : FSem) (a0 : AV) (ts : List T) (ρ2 : Env) : Out AV :=
  match a0 with
  | .tmp t0 => match F (t0 :: (T.erL ts).map .fro) with
    | some (.ok t, _ :: _) => some (.ok (.tmp t), ρ2)
    | some (.error x, _ :: _) => some (.error x, ρ2)
    | _ => none
  | .loc i => match ρ2[i]? with
    | some (some t0) => match F (t0 :: (T.erL ts).map .fro) with
      | some (.ok t, t1 :: _) => some (.ok (.tmp t), ρ2.set i (some t1))
      | some (.error x, t1 :: _) => some (.error x, ρ2.set i (some t1))
      | _ => none
    | _ => none
def mCallIo (F : FSem) (ma : Env → Out (List AV)) : Env → Out AV := fun ρ => obind (ma ρ) fun avs ρ1 => match avs with
  | a0 :: rest => match nrm rest ρ1 with
    | some (ts, ρ2) => ioTail F a0 ts ρ2
    | none => none
  | [] => none
end
section
variable {G : Gx} {Z H Z' H' : Hp} {σ : L2.St} {ρ : Env} {fp f l k f' : List Addr} {v : V} {t t' : T}
theorem nd_swap {f l k : List Addr} (h : (f ++ (l ++ k)).Nodup) : (l ++ (f ++ k)).Nodup := by
  have p : List.Perm (f ++ (l ++ k)) (l ++ (f ++ k)) := by
    rw [← List.append_assoc, ← List.append_assoc]
    exact List.Perm.append_right k List.perm_append_comm
  exact p.nodup_iff.mp h
/-- behind a callee that held the tree of slot i: all is put together again -/
theorem SOk.back {i : Nat} {fr : List Addr} (s : SOk G Z H σ ρ (l ++ (f ++ k)))
    (put : ∀ Z' H', Same Z Z' → (∀ a ∈ l ++ k, H' a = H a) → RSl G Z' H' (σ.set i none) (ρ.set i none) (l ++ k) ∧ ∀ v' t' f', RT G Z' H' v' t' f' → RSl G Z' H' (σ.set i (some v')) (ρ.set i (some t')) (l ++ (f' ++ k)))
    (st : Stp Z H f Z' H' fr) (sub' : Same Z' H') (frz' : ∀ a ∈ fr, Z' a = none) (ndr : fr.Nodup) (h0 : RT G Z' H' v t' f') (hin : ∀ a ∈ f', a ∈ fr) (nf : f'.Nodup) :
    SOk G Z' H' (σ.set i (some v)) (ρ.set i (some t')) (l ++ (f' ++ k)) ∧ Stp Z H (l ++ (f ++ k)) Z' H' (l ++ (f' ++ k)) ∧ ∀ a ∈ l ++ k, a ∉ fr := by
  have nd := List.nodup_append.mp s.nd
  have nd2 := List.nodup_append.mp nd.2.1
  have nf0 : ∀ a ∈ l ++ k, a ∉ f := fun a ha hf => by
    rcases List.mem_append.mp ha with z | z
    · exact nd.2.2 a z a (List.mem_append_left _ hf) rfl
    · exact nd2.2.2 a hf a z rfl
  have mem : ∀ a ∈ l ++ k, a ∈ l ++ (f ++ k) := fun a ha => by
    rcases List.mem_append.mp ha with z | z
    · exact List.mem_append_left _ z
    · exact List.mem_append_right _ (List.mem_append_right _ z)
  have kp : ∀ a ∈ l ++ k, H' a = H a := fun a ha => by
    obtain ⟨o, e⟩ := s.sl.there a (mem a ha)
    rw [e, st.frame a o e (nf0 a ha)]
  have dj : ∀ a ∈ l ++ k, a ∉ fr := fun a ha hr => by
    rcases st.ffr a hr with z | z
    · obtain ⟨o, e⟩ := s.sl.there a (mem a ha)
      rw [z] at e; cases e
    · exact nf0 a ha z
  have zk : ∀ a ∈ l ++ k, Z' a = none := fun a ha => by
    cases q : Z' a with
    | none => rfl
    | some o =>
      rcases st.zfr a o q (s.fr a (mem a ha)) with z | z
      · obtain ⟨o', e⟩ := s.sl.there a (mem a ha)
        rw [z] at e; cases e
      · exact absurd z (nf0 a ha)
  refine ⟨⟨sub', (put Z' H' st.zle kp).2 _ _ _ h0, ?_, fun a ha => ?_⟩, ⟨st.zle, fun a o e hn => st.frame a o e fun z => hn (by simp [z]), fun a o e n => (st.zfr a o e n).imp id fun z => by simp [z], fun a ha => ?_⟩, dj⟩
  · refine nd_swap (List.nodup_append.mpr ⟨nf, List.nodup_append.mpr ⟨nd.1, nd2.2.1, fun a ha b hb => nd.2.2 a ha b (List.mem_append_right _ hb)⟩, fun a ha b hb e => ?_⟩)
    subst e
    exact dj a hb (hin a ha)
  · simp only [List.mem_append] at ha
    rcases ha with z | z | z
    · exact zk a (List.mem_append_left _ z)
    · exact frz' a (hin a z)
    · exact zk a (List.mem_append_right _ z)
  · simp only [List.mem_append] at ha
    rcases ha with z | z | z
    · exact .inr (by simp [z])
    · exact (st.ffr a (hin a z)).imp id fun y => by simp [y]
    · exact .inr (by simp [z])
end
section
variable {X : Cx} {W : WX} {e : Expr} {ta : TA} {ma : Env → Out (List AV)} {pos p : Pos} {x : Str} {k n : Nat} {F : FSem}
theorem set_same {σ : L2.St} {i : Nat} {v : V} (h : σ[i]? = some (some v)) : σ.set i (some v) = σ := by
  refine List.ext_getElem? fun j => ?_
  by_cases hj : i = j
  · subst hj
    have hl : i < σ.length := (List.getElem?_eq_some_iff.mp h).1
    rw [List.getElem?_set_self hl, h]
  · rw [List.getElem?_set_ne hj]
/-- the callee's promise at a slot's tree -/
theorem io_slot {G : Gx} {Z H : Hp} {σ : L2.St} {ρ : Env} {fp : List Addr} {i : Nat} {v0 : V} {t0 : T} {vs : List V} {ds : List D} {Q : VK} {E : XK} (s : SOk G Z H σ ρ fp) (hv : σ[i]? = some (some v0)) (ht : ρ[i]? = some (some t0)) (hd : DRs G Z vs ds) (hn : ds.length + 1 = n)
    (hok : ∀ t t1 tl, F (t0 :: ds.map .fro) = some (.ok t, t1 :: tl) → ∀ v H' Z' fp', Stp Z H fp Z' H' fp' → SOk G Z' H' (some v :: σ) (some t :: ρ.set i (some t1)) fp' → Q v H')
    (hex : ∀ x t1 tl, F (t0 :: ds.map .fro) = some (.error x, t1 :: tl) → ∀ cls dd H' Z' fp', Stp Z H fp Z' H' fp' → SOk G Z' H' σ (ρ.set i (some t1)) fp' → ExR G Z' cls dd x → E cls dd H')
    (hF : ∃ r t1 tl, F (t0 :: ds.map .fro) = some (r, t1 :: tl)) : spV G n true F (v0 :: vs) H Q E := by
  obtain ⟨v, l, f0, k0, hv', rt0, rfl, put⟩ := s.sl.at ht
  rw [hv] at hv'; cases hv'
  have nd := List.nodup_append.mp s.nd
  have nd2 := List.nodup_append.mp nd.2.1
  refine ⟨by simp [hd.length, hn], t0 :: ds.map .fro, Z, f0, by simp [hn], ⟨s.sub, ?_, nd2.1, fun a ha => s.fr a (by simp [ha])⟩, ?_, ?_⟩
  · have := RSl.so (G := G) (Z := Z) (H := H) rt0 (RSl.ofDRs (H := H) hd)
    rw [List.append_nil] at this
    exact this
  · show froAll _ = true
    exact froAll_map ds
  · obtain ⟨r, t1, tl, eF⟩ := hF
    rw [eF]
    cases r with
    | ok t =>
      intro v H' Z' fp' st s'
      have fr' := s'.fr
      have sub' := s'.sub
      have nd' := s'.nd
      obtain ⟨ft, fr1, rfl, hrt, s1, djt, ndt⟩ := SOk.tmp s'
      obtain ⟨f1, fr2, rfl, rt1, s2, dj1, nd1⟩ := SOk.tmp (σ := vs.map some) (ρ := tl.map some) (v := v0) (t := t1) s1
      obtain ⟨b1, b2, b3⟩ := SOk.back s put st sub' fr' nd' rt1 (fun a ha => by simp [ha]) nd1
      rw [set_same hv] at b1
      refine hok t t1 tl eF v H' Z' _ ⟨b2.zle, b2.frame, b2.zfr, fun a ha => ?_⟩ (b1.push hrt ndt (fun a ha hb => ?_) fun a ha => fr' a (List.mem_append_left _ ha))
      · rcases List.mem_append.mp ha with z | z
        · exact (st.ffr a (List.mem_append_left _ z)).imp id fun y => by simp [y]
        · exact b2.ffr a z
      · simp only [List.mem_append] at hb
        rcases hb with z | z | z
        · exact b3 a (List.mem_append_left _ z) (List.mem_append_left _ ha)
        · exact djt a ha (List.mem_append_left _ z)
        · exact b3 a (List.mem_append_right _ z) (List.mem_append_left _ ha)
    | error x =>
      intro cls dd H' Z' fp' st s' ex
      have fr' := s'.fr
      have sub' := s'.sub
      have nd' := s'.nd
      obtain ⟨f1, fr2, rfl, rt1, s2, dj1, nd1⟩ := SOk.tmp (σ := vs.map some) (ρ := tl.map some) (v := v0) (t := t1) s'
      obtain ⟨b1, b2, b3⟩ := SOk.back s put st sub' fr' nd' rt1 (fun a ha => by simp [ha]) nd1
      rw [set_same hv] at b1
      exact hex x t1 tl eF cls dd H' Z' _ b2 b1 ex
theorem ve_callIo {es' : List Expr} {F : FSem} {k k' : Nat} (D : DefOk X.prog X.w X.K X.mg X.base x k n true F) (hgd : X.A.guards = some []) (hr : Room k' X.A) (hk : k ≤ k') (tk : Takes X W) (hg : Gl X x) (ha : VA X W (e :: es') ta ma) (hn : (e :: es').length = n := by rfl)
    (hdb : (x == ("__debug__" : Str)) = false := by decide) (he : starEach (e :: es') X.env = (false, eval e X.env) :: starEach es' X.env := by rfl) (hpl : (backTo pos (starEach es' X.env)).any (·.1) = false := by rfl) :
    VE X W (.Call (.Name x p) (e :: es') [] pos) (tCallS (spV (gx X) n true F) (WE W) ta) (mCallIo F ma) := by
  obtain ⟨f, fd, ps, h1, h2, h3, h4⟩ := D.ex
  refine ⟨pe_callG h4 hgd (hr.mono hk) hg h1 h2 h3 (fun σ => passAt tk σ) ha.pa hdb he hpl, fun Z H σ ρ fp Q s h => ?_⟩
  refine ha.sm Z H σ ρ fp _ s (h.bind.monoE fun avs ρ1 e1 h5 => ?_)
  intro vs Z1 H1 fp1 st1 s1 at1
  have hlen : avs.length = n := by rw [ha.len _ _ _ e1, hn]
  cases avs with
  | nil => exact h5.elim
  | cons a0 rest =>
    cases vs with
    | nil => exact at1.elim
    | cons v0 vs =>
      obtain ⟨at0, atr⟩ := at1
      obtain ⟨fa, g, rfl, s0, fr⟩ := SOk.split (av := a0) s1
      have h6 : Post (gx X) W Z H σ fp (KE (gx X) Z H σ fp Q) (match nrm rest ρ1 with
        | some (ts, ρ2) => ioTail F a0 ts ρ2
        | none => none) := h5
      split at h6
      · rename_i ts ρ2 en
        obtain ⟨hl2, Z2, g2, st2, s2⟩ := nrm_ok s0 atr en
        have hvt : vs.length = ts.length := by rw [avAt_len atr, hl2]
        obtain ⟨Z3, g3, st3, drs, s3⟩ := SOk.frzAll hvt s2
        obtain ⟨c1, c2⟩ := fr Z3 H1 σ ρ2 g3 (st2.trans st3) s3
        have hds : (T.erL ts).length + 1 = n := by
          rw [← drs.length, avAt_len atr]
          simpa using hlen
        cases a0 with
        | tmp t0 =>
          have stA := st1.trans c2
          have h7 : Post (gx X) W Z H σ fp (KE (gx X) Z H σ fp Q) (match F (t0 :: (T.erL ts).map .fro) with
            | some (.ok t, _ :: _) => some (.ok (.tmp t), ρ2)
            | some (.error x, _ :: _) => some (.error x, ρ2)
            | _ => none) := h6
          cases eF : F (t0 :: (T.erL ts).map .fro) with
          | none => rw [eF] at h7; exact h7.elim
          | some q =>
            obtain ⟨r, tl0⟩ := q
            rw [eF] at h7
            cases tl0 with
            | nil => cases r <;> exact h7.elim
            | cons t1 tl =>
              refine io_slot (i := 0) (σ := some v0 :: σ) (ρ := some t0 :: ρ2) c1 rfl rfl drs hds (fun t t1' tl' e2 v H' Z' fp' st s' => ?_) (fun xx t1' tl' e2 cls dd H' Z' fp' st s' ex => ?_) ⟨r, t1, tl, eF⟩
              · rw [eF] at e2
                cases e2
                have s'' : SOk (gx X) Z' H' (some v :: some v0 :: σ) (some t :: some t1 :: ρ2) fp' := s'
                have fr' := s''.fr
                obtain ⟨ft, fr1, rfl, hrt, q1, djt, ndt⟩ := SOk.tmp s''
                obtain ⟨g4, q2, k2⟩ := SOk.drop q1
                exact h7 v Z' H' (ft ++ g4) (stA.trans (st.less fun a ha => by
                  rcases List.mem_append.mp ha with z | z
                  · exact List.mem_append_left _ z
                  · exact List.mem_append_right _ (k2 a z))) (q2.push hrt ndt (fun a ha hb => djt a ha (k2 a hb)) fun a ha => fr' a (List.mem_append_left _ ha)) trivial
              · rw [eF] at e2
                cases e2
                obtain ⟨g4, q2, k2⟩ := SOk.drop (σ := σ) (ρ := ρ2) (o := some v0) (x := some t1) s'
                exact h7 cls dd Z' H' g4 (stA.trans (st.less k2)) q2 ex
        | loc i =>
          have stA : Stp Z H fp Z3 H1 g3 := st1.trans (c2.less fun a ha => List.mem_append_right _ ha)
          have h7 : Post (gx X) W Z H σ fp (KE (gx X) Z H σ fp Q) (match ρ2[i]? with
            | some (some t0) => match F (t0 :: (T.erL ts).map .fro) with
              | some (.ok t, t1 :: _) => some (.ok (.tmp t), ρ2.set i (some t1))
              | some (.error x, t1 :: _) => some (.error x, ρ2.set i (some t1))
              | _ => none
            | _ => none) := h6
          split at h7
          · rename_i t0 et
            refine io_slot (i := i) s3 at0 et drs hds (fun t t1' tl' e2 v H' Z' fp' st s' => ?_) (fun xx t1' tl' e2 cls dd H' Z' fp' st s' ex => ?_) ?_
            · rw [e2] at h7
              exact h7 v Z' H' fp' (stA.trans st) s' trivial
            · rw [e2] at h7
              exact h7 cls dd Z' H' fp' (stA.trans st) s' ex
            · split at h7
              · rename_i t t1 tl e2; exact ⟨_, _, _, e2⟩
              · rename_i xx t1 tl e2; exact ⟨_, _, _, e2⟩
              · exact h7.elim
          · exact h7.elim
      · exact h6.elim
end
end Vl

/-! Vl6: statements; a def's contract by its body. -/
namespace Vl
open PySem PySem.Spec PyProof.Rows L2

inductive Fl where
  | nx | bk | ct | rt (t : T)
def Pin (P : List Nat) (σ σ' : L2.St) : Prop := ∀ i ∈ P, σ'[i]? = σ[i]?
theorem Pin.refl {P : List Nat} {σ : L2.St} : Pin P σ σ := fun _ _ => rfl
theorem Pin.trans {P : List Nat} {σ σ1 σ2 : L2.St} (a : Pin P σ σ1) (b : Pin P σ1 σ2) : Pin P σ σ2 := fun i h => (b i h).trans (a i h)
section
variable (G : Gx) (W : WX) (P : List Nat) (Z H : Hp) (σ : L2.St) (fp : List Addr)
/-- what is wanted of a statement's outcome -/
def PostS (D : Ends) : Out Fl → Prop
  | none => False
  | some (.ok .nx, ρ) => ∀ σ' Z' H' fp', Stp Z H fp Z' H' fp' → SOk G Z' H' σ' ρ fp' → Pin P σ σ' → D.nx σ' H'
  | some (.ok .bk, ρ) => ∀ σ' Z' H' fp', Stp Z H fp Z' H' fp' → SOk G Z' H' σ' ρ fp' → Pin P σ σ' → D.bk σ' H'
  | some (.ok .ct, ρ) => ∀ σ' Z' H' fp', Stp Z H fp Z' H' fp' → SOk G Z' H' σ' ρ fp' → Pin P σ σ' → D.ct σ' H'
  | some (.ok (.rt t), ρ) => ∀ v σ' Z' H' fp', Stp Z H fp Z' H' fp' → SOk G Z' H' (some v :: σ') (some t :: ρ) fp' → Pin P σ σ' → D.rt v H'
  | some (.error x, ρ) => ∀ cls dd σ' Z' H' fp', Stp Z H fp Z' H' fp' → SOk G Z' H' σ' ρ fp' → Pin P σ σ' → ExR G Z' cls dd x → W cls dd σ' H'
end
section
variable {G : Gx} {W : WX} {P : List Nat} {Z H Z1 H1 : Hp} {σ σ1 : L2.St} {fp fp1 : List Addr}
theorem PostS.step {D : Ends} {o : Out Fl} (h : PostS G W P Z H σ fp D o) (s : Stp Z H fp Z1 H1 fp1) (p : Pin P σ σ1) : PostS G W P Z1 H1 σ1 fp1 D o := by
  rcases o with _ | ⟨_ | fl, ρ⟩
  · exact h
  · exact fun cls dd σ' Z' H' fp' st so pn ex => h cls dd σ' Z' H' fp' (s.trans st) so (p.trans pn) ex
  · cases fl with
    | nx => exact fun σ' Z' H' fp' st so pn => h σ' Z' H' fp' (s.trans st) so (p.trans pn)
    | bk => exact fun σ' Z' H' fp' st so pn => h σ' Z' H' fp' (s.trans st) so (p.trans pn)
    | ct => exact fun σ' Z' H' fp' st so pn => h σ' Z' H' fp' (s.trans st) so (p.trans pn)
    | rt t => exact fun v σ' Z' H' fp' st so pn => h v σ' Z' H' fp' (s.trans st) so (p.trans pn)
end
structure VS (X : Cx) (W : WX) (P : List Nat) (st : Stmt) (t : TS) (m : Env → Out Fl) : Prop where
  ps : PS X st t
  sm : ∀ Z H σ ρ fp D, SOk (gx X) Z H σ ρ fp → PostS (gx X) W P Z H σ fp D (m ρ) → t D σ H
structure VSs (X : Cx) (W : WX) (P : List Nat) (st : List Stmt) (t : TS) (m : Env → Out Fl) : Prop where
  ps : PSs X st t
  sm : ∀ Z H σ ρ fp D, SOk (gx X) Z H σ ρ fp → PostS (gx X) W P Z H σ fp D (m ρ) → t D σ H
/-- from an expression's outcome to a statement's -/
def sbind {α : Type} (o : Out α) (k : α → Env → Out Fl) : Out Fl :=
  match o with
  | none => none
  | some (.ok a, ρ) => k a ρ
  | some (.error x, ρ) => some (.error x, ρ)
theorem PostS.bind {α : Type} {G : Gx} {W : WX} {P : List Nat} {Z H : Hp} {σ : L2.St} {fp : List Addr} {D : Ends} {o : Out α} {k : α → Env → Out Fl} (h : PostS G W P Z H σ fp D (sbind o k)) : Post G W Z H σ fp (fun a ρ => PostS G W P Z H σ fp D (k a ρ)) o := by
  rcases o with _ | ⟨_ | a, ρ⟩
  · exact h
  · exact fun cls dd Z' H' fp' st so ex => h cls dd σ Z' H' fp' st so Pin.refl ex
  · exact h
section
variable {X : Cx} {W : WX} {P : List Nat} {pos : Pos}
def mSkip : Env → Out Fl := fun ρ => some (.ok .nx, ρ)
theorem vss_nil : VSs X W P [] tNext mSkip := ⟨pss_nil, fun Z H σ ρ fp D s h => h σ Z H fp Stp.refl s Pin.refl⟩
theorem vss_one {st : Stmt} {t : TS} {m : Env → Out Fl} (h : VS X W P st t m) : VSs X W P [st] t m := ⟨pss_one h.ps, h.sm⟩
def mSeq (m n : Env → Out Fl) : Env → Out Fl := fun ρ => match m ρ with
  | some (.ok .nx, ρ1) => n ρ1
  | o => o
theorem vss_cons {st : Stmt} {rest : List Stmt} {t u : TS} {m n : Env → Out Fl} (h1 : VS X W P st t m) (h2 : VSs X W P rest u n) : VSs X W P (st :: rest) (tSeq t u) (mSeq m n) :=
  ⟨pss_cons h1.ps h2.ps, fun Z H σ ρ fp D s h => by
    refine h1.sm Z H σ ρ fp _ s ?_
    unfold mSeq at h
    rcases e : m ρ with _ | ⟨_ | fl, ρ1⟩ <;> rw [e] at h
    · exact h
    · exact h
    · cases fl with
      | nx => exact fun σ' Z' H' fp' st so pn => h2.sm Z' H' σ' ρ1 fp' D so (h.step st pn)
      | bk => exact h
      | ct => exact h
      | rt t => exact h⟩
theorem vs_pass : VS X W P (.Pass pos) tNext mSkip := ⟨ps_pass, fun Z H σ ρ fp D s h => h σ Z H fp Stp.refl s Pin.refl⟩
theorem vs_doc {x j pos'} : VS X W P (.Expr (.Constant (.str x) j pos) pos') tNext mSkip := ⟨ps_doc, fun Z H σ ρ fp D s h => h σ Z H fp Stp.refl s Pin.refl⟩
def mBreak : Env → Out Fl := fun ρ => some (.ok .bk, ρ)
def mCont : Env → Out Fl := fun ρ => some (.ok .ct, ρ)
theorem vs_break : VS X W P (.Break pos) tBreak mBreak := ⟨ps_break, fun Z H σ ρ fp D s h => h σ Z H fp Stp.refl s Pin.refl⟩
theorem vs_cont : VS X W P (.Continue pos) tCont mCont := ⟨ps_continue, fun Z H σ ρ fp D s h => h σ Z H fp Stp.refl s Pin.refl⟩
def mIfS (c : Env → Out Bool) (m n : Env → Out Fl) : Env → Out Fl := fun ρ => sbind (c ρ) fun b ρ1 => if b = true then m ρ1 else n ρ1
theorem vs_if {c : Expr} {a b : List Stmt} {tc : TT} {t u : TS} {mc : Env → Out Bool} {m n : Env → Out Fl} (hc : VT X W c tc mc) (ha : VSs X W P a t m) (hb : VSs X W P b u n) : VS X W P (.If c a b pos) (tIfS tc t u) (mIfS mc m n) :=
  ⟨ps_if hc.pt ha.ps hb.ps, fun Z H σ ρ fp D s h => by
    refine hc.sm Z H σ ρ fp _ s (h.bind.mono fun b ρ1 h1 => ?_)
    intro Z1 H1 fp1 st1 s1
    cases b with
    | true =>
      rw [if_pos rfl]
      exact ha.sm Z1 H1 σ ρ1 fp1 D s1 (PostS.step h1 st1 Pin.refl)
    | false =>
      rw [if_neg (by decide)]
      exact hb.sm Z1 H1 σ ρ1 fp1 D s1 (PostS.step h1 st1 Pin.refl)⟩
def mExpr (m : Env → Out AV) : Env → Out Fl := fun ρ => sbind (m ρ) fun _ ρ1 => some (.ok .nx, ρ1)
theorem vs_expr {e : Expr} {te : TE} {m : Env → Out AV} (he : VE X W e te m) (hs : swapsWith e none pos.line X.env = pure false := by rfl) : VS X W P (.Expr e pos) (tDrop te) (mExpr m) :=
  ⟨ps_expr he.pe hs, fun Z H σ ρ fp D s h => he.sm Z H σ ρ fp _ s (h.bind.mono fun av ρ1 h1 v Z1 H1 fp1 st1 s1 at1 => by
    obtain ⟨g, s2, k⟩ := s1.drop
    exact h1 σ Z1 H1 g (st1.less k) s2 Pin.refl)⟩
end
section
variable {G : Gx} {Z H : Hp} {σ : L2.St} {ρ : Env} {fp : List Addr} {v : V} {t : T}
/-- a temporary stored into a slot -/
theorem SOk.assign (s : SOk G Z H (some v :: σ) (some t :: ρ) fp) (i : Nat) : ∃ g, SOk G Z H (σ.set i (some v)) (ρ.set i (some t)) g ∧ ∀ a ∈ g, a ∈ fp := by
  have fr := s.fr
  have nd := s.nd
  obtain ⟨f, g, rfl, h, q, dj, ndf⟩ := s.tmp
  have hl := q.sl.length
  cases e : ρ[i]? with
  | none =>
    have h1 : ρ.length ≤ i := List.getElem?_eq_none_iff.mp e
    rw [List.set_eq_of_length_le h1, List.set_eq_of_length_le (by omega)]
    exact ⟨g, q, fun a ha => List.mem_append_right _ ha⟩
  | some o =>
    cases o with
    | none =>
      obtain ⟨l, k, rfl, put⟩ := q.sl.put e
      exact ⟨l ++ (f ++ k), ⟨q.sub, put v t f h, nd_swap nd, fun a ha => fr a (by simp at ha ⊢; rcases ha with z | z | z <;> simp [z])⟩, fun a ha => by simp at ha ⊢; rcases ha with z | z | z <;> simp [z]⟩
    | some t0 =>
      obtain ⟨v0, l, f0, k, hv0, rt0, rfl, put⟩ := q.sl.at e
      refine ⟨l ++ (f ++ k), ⟨q.sub, (put Z H (Same.refl _) fun _ _ => rfl).2 v t f h, ?_, fun a ha => fr a (by simp at ha ⊢; rcases ha with z | z | z <;> simp [z])⟩, fun a ha => by simp at ha ⊢; rcases ha with z | z | z <;> simp [z]⟩
      refine nd_swap (nd.sublist (List.Sublist.append (List.Sublist.refl _) (List.Sublist.append (List.Sublist.refl _) (List.sublist_append_right f0 k))))
/-- a slot's tree moved out -/
theorem SOk.move (s : SOk G Z H σ ρ fp) {i : Nat} (e : ρ[i]? = some (some t)) : ∃ v g, σ[i]? = some (some v) ∧ SOk G Z H (some v :: σ) (some t :: ρ.set i none) g ∧ ∀ a ∈ g, a ∈ fp := by
  obtain ⟨v0, l, f0, k, hv0, rt0, rfl, put⟩ := s.sl.at e
  have r := (put Z H (Same.refl _) fun _ _ => rfl).1
  have nd := s.nd
  have nd' : (f0 ++ (l ++ k)).Nodup := nd_swap nd
  have r2 : RSl G Z H σ (ρ.set i none) (l ++ k) := by
    -- nothing is told of the slot, whatever it holds
    have key : ∀ {σ : L2.St} {ρ : Env} {f : List Addr} {i : Nat}, RSl G Z H (σ.set i none) (ρ.set i none) f → σ.length = ρ.length → RSl G Z H σ (ρ.set i none) f := by
      intro σ
      induction σ with
      | nil =>
        intro ρ f i r hl
        cases ρ with
        | nil => simpa using r
        | cons => simp at hl
      | cons o σ ih =>
        intro ρ f i r hl
        cases ρ with
        | nil => simp at hl
        | cons x ρ =>
          cases i with
          | zero =>
            simp only [List.set_cons_zero] at r ⊢
            cases r with
            | no r => exact .no r
          | succ i =>
            simp only [List.set_cons_succ] at r ⊢
            cases r with
            | no r => exact .no (ih r (by simpa using hl))
            | so h r => exact .so h (ih r (by simpa using hl))
    exact key r s.sl.length
  have fr2 : ∀ a ∈ f0 ++ (l ++ k), Z a = none := fun a ha => s.fr a (by simp at ha ⊢; rcases ha with z | z | z <;> simp [z])
  exact ⟨v0, f0 ++ (l ++ k), hv0, ⟨s.sub, .so rt0 r2, nd', fr2⟩, fun a ha => by simp at ha ⊢; rcases ha with z | z | z <;> simp [z]⟩
end
section
variable {X : Cx} {W : WX} {P : List Nat} {pos : Pos}
/-- a temporary; a slot's own object is frozen -/
def fz (av : AV) (ρ : Env) : Option (T × Env) :=
  match av with
  | .tmp t => some (t, ρ)
  | .loc i => match ρ[i]? with
    | some (some t) => some (.fro t.er, ρ.set i (some (.fro t.er)))
    | _ => none
theorem fz_ok {G : Gx} {Z H : Hp} {σ : L2.St} {ρ ρ' : Env} {fp : List Addr} {v : V} {av : AV} {t : T} (s : SOk G Z H (some v :: σ) (av.sl :: ρ) fp) (a : av.at σ v) (e : fz av ρ = some (t, ρ')) : ∃ Z1 g, Stp Z H fp Z1 H g ∧ SOk G Z1 H (some v :: σ) (some t :: ρ') g := by
  have key : ∃ ts ρ2, nrm [av] ρ = some (ts, ρ2) ∧ ts = [t] ∧ ρ2 = ρ' := by
    cases av with
    | tmp t' => cases e; exact ⟨_, _, rfl, rfl, rfl⟩
    | loc i =>
      unfold fz at e
      dsimp only at e
      split at e
      · rename_i t' et
        cases e
        refine ⟨_, _, ?_, rfl, rfl⟩
        simp [nrm, et]
      · cases e
  obtain ⟨ts, ρ2, h1, rfl, rfl⟩ := key
  obtain ⟨_, Z1, g, st, s1⟩ := nrm_ok (vs := [v]) (avs := [av]) s ⟨a, trivial⟩ h1
  exact ⟨Z1, g, st, s1⟩
def mSet (i : Nat) (m : Env → Out AV) : Env → Out Fl := fun ρ => sbind (m ρ) fun av ρ1 => match fz av ρ1 with
  | some (t, ρ2) => some (.ok .nx, ρ2.set i (some t))
  | none => none
theorem pin_set {σ : L2.St} {i : Nat} {o : Option V} (hp : i ∉ P) : Pin P σ (σ.set i o) := fun j hj => List.getElem?_set_ne fun e => hp (by rw [e]; exact hj)
theorem vs_set {i : Nat} {x : Str} {e : Expr} {te : TE} {m : Env → Out AV} {pos' : Pos} (hN : X.N.Nodup) (hi : X.N[i]? = some x) (hx : Loc X.env.scope x) (hp : i ∉ P) (he : VE X W e te m) (hs : swapsWith e (some (.Name x pos')) pos.line X.env = pure false := by rfl) (hf : X.fn x = true ∨ X.env.scope.names.lookup x = some .local := by first | exact .inl rfl | exact .inr rfl | assumption) :
    VS X W P (.Assign [.Name x pos'] e pos) (tAsg te (gName i)) (mSet i m) :=
  ⟨ps_set hN hi hx he.pe hs hf, fun Z H σ ρ fp D s h => he.sm Z H σ ρ fp _ s (h.bind.mono fun av ρ1 h1 v Z1 H1 fp1 st1 s1 at1 => by
    split at h1
    · rename_i t ρ2 ef
      obtain ⟨Z2, g, st2, s2⟩ := fz_ok s1 at1 ef
      obtain ⟨g3, s3, k3⟩ := s2.assign i
      exact h1 _ Z2 H1 g3 (st1.trans (st2.less k3)) s3 (pin_set hp)
    · exact h1.elim)⟩
def mRet (P : List Nat) (m : Env → Out AV) : Env → Out Fl := fun ρ => sbind (m ρ) fun av ρ1 => match av with
  | .tmp t => some (.ok (.rt t), ρ1)
  | .loc i => if i ∈ P then none else match ρ1[i]? with
    | some (some t) => some (.ok (.rt t), ρ1.set i none)
    | _ => none
theorem vs_ret {e : Expr} {te : TE} {m : Env → Out AV} (he : VE X W e te m) : VS X W P (.Return (some e) pos) (tRet te) (mRet P m) :=
  ⟨ps_ret he.pe, fun Z H σ ρ fp D s h => he.sm Z H σ ρ fp _ s (h.bind.mono fun av ρ1 h1 v Z1 H1 fp1 st1 s1 at1 => by
    cases av with
    | tmp t => exact h1 v σ Z1 H1 fp1 st1 s1 Pin.refl
    | loc i =>
      dsimp only at h1
      split at h1
      · exact h1.elim
      · split at h1
        · rename_i t et
          obtain ⟨g, s2, k2⟩ := s1.drop
          obtain ⟨v', g3, hv, s3, k3⟩ := s2.move et
          have hv' : σ[i]? = some (some v) := at1
          rw [hv'] at hv; cases hv
          exact h1 v σ Z1 H1 g3 (st1.less fun a ha => k2 a (k3 a ha)) s3 Pin.refl
        · exact h1.elim)⟩
theorem vs_retN : VS X W P (.Return none pos) tRetN (fun ρ => some (.ok (.rt (.fro .non)), ρ)) :=
  ⟨ps_retN, fun Z H σ ρ fp D s h => h .non σ Z H fp Stp.refl (s.pushD .non) Pin.refl⟩
/-- raise X('..'), X without own __init__ -/
def mRaise (c : Str) : Env → Out Fl := fun ρ => some (.error ⟨c, []⟩, ρ)
theorem vs_raise {e : Expr} {C : Addr} {c : Str} (hc : X.calm = true) (tk : Takes X W) (gC : X.mg c = some (.ref C)) (he : PMk X e (fun _ H Q => Q (.ref C) none H)) : VS X W P (.Raise (some e) none pos) (fun _ σ H => W (.ref C) none σ H) (mRaise c) :=
  ⟨ps_raise hc tk he, fun Z H σ ρ fp D s h => h (.ref C) none σ Z H fp Stp.refl s Pin.refl ⟨C, [], rfl, gC, rfl, rfl, .nil⟩⟩
end

/-! ### a def -/
def runF (io : Bool) (n : Nat) (m : Env → Out Fl) : FSem := fun ts =>
  match m (ts.map some ++ List.replicate (n - ts.length) none) with
  | some (.ok .nx, ρ) => if io then match ρ[0]? with
      | some (some t1) => some (.ok (.fro .non), t1 :: ts.tail)
      | _ => none
    else some (.ok (.fro .non), ts)
  | some (.ok (.rt t), ρ) => if io then match ρ[0]? with
      | some (some t1) => some (.ok t, t1 :: ts.tail)
      | _ => none
    else some (.ok t, ts)
  | some (.error x, ρ) => if io then match ρ[0]? with
      | some (some t1) => some (.error x, t1 :: ts.tail)
      | _ => none
    else some (.error x, ts)
  | _ => none
/-- the place where a body runs -/
structure Cxt (X : Cx) (W : WX) (k : Nat) : Prop where
  gd : X.A.guards = some []
  hr : Room k X.A
  tk : Takes X W
  po : PassesOwn (model X.prog X.w) X.A X.env X.xe
  cm : X.calm = true
  hs : X.stack = X.env :: X.outer
  hf : X.env.frame = some X.env.locals
theorem RSl.nones {G : Gx} {Z H : Hp} : ∀ n : Nat, RSl G Z H (List.replicate n none) (List.replicate n none) []
  | 0 => .nil
  | n + 1 => by rw [List.replicate_succ, List.replicate_succ]; exact .no (RSl.nones n)
theorem RSl.app {G : Gx} {Z H : Hp} {σ τ : L2.St} {ρ π : Env} {f : List Addr} (r : RSl G Z H σ ρ f) (q : RSl G Z H τ π []) : RSl G Z H (σ ++ τ) (ρ ++ π) f := by
  induction r with
  | nil => exact q
  | no r ih => exact .no ih
  | so h r ih => exact .so h ih
theorem froAll_DRs {G : Gx} {Z H : Hp} : ∀ {ts : List T} {vs : List V} {f : List Addr}, froAll ts = true → RSl G Z H (vs.map some) (ts.map some) f → ∃ ds, ts = ds.map T.fro ∧ DRs G Z vs ds ∧ f = []
  | [], [], _, _, r => by cases r; exact ⟨[], rfl, .nil, rfl⟩
  | [], _ :: _, _, _, r => nomatch r
  | _ :: _, [], _, _, r => nomatch r
  | .fro d :: ts, v :: vs, _, e, r => by
    cases r with
    | so h r =>
      cases h with
      | fro h =>
        obtain ⟨ds, e1, e2, e3⟩ := froAll_DRs (by simpa [froAll] using e) r
        exact ⟨d :: ds, by simp [e1], .cons h e2, by simp [e3]⟩
  | .lst _ :: _, _ :: _, _, e, _ => by simp [froAll] at e
  | .dic _ :: _, _ :: _, _, e, _ => by simp [froAll] at e
  | .dit _ :: _, _ :: _, _, e, _ => by simp [froAll] at e
/-- the arguments' trees behind the body -/
theorem io_back {G : Gx} {Z H Z' H' : Hp} {vs : List V} {ts : List T} {fp fp' : List Addr} {σ' : L2.St} {ρ' : Env} {t1 : T} (s : SOk G Z H (vs.map some) (ts.map some) fp) (hf : froAll ts.tail = true) (hz : Same Z Z') (s' : SOk G Z' H' σ' ρ' fp') (h0 : ρ'[0]? = some (some t1)) (hp : ∀ v, vs[0]? = some v → σ'[0]? = some (some v)) (hne : ts ≠ []) :
    ∃ g, SOk G Z' H' (vs.map some) ((t1 :: ts.tail).map some) g ∧ ∀ a ∈ g, a ∈ fp' := by
  cases ts with
  | nil => exact absurd rfl hne
  | cons t0 tl =>
    cases vs with
    | nil => exact nomatch s.sl
    | cons v0 vs =>
      obtain ⟨f, g, rfl, h, q, _, _⟩ := SOk.tmp s
      obtain ⟨ds, e1, e2, e3⟩ := froAll_DRs (ts := tl) hf q.sl
      obtain ⟨v, l, f1, k1, hv, rt1, rfl, _⟩ := s'.sl.at h0
      rw [hp v0 rfl] at hv; cases hv
      have nd := List.nodup_append.mp s'.nd
      have nd2 := List.nodup_append.mp nd.2.1
      refine ⟨f1, ⟨s'.sub, ?_, nd2.1, fun a ha => s'.fr a (by simp [ha])⟩, fun a ha => by simp [ha]⟩
      have r := RSl.so rt1 (RSl.ofDRs (H := H') (e2.mono hz))
      rw [List.append_nil, ← e1] at r
      exact r
section
variable {Pg : Program} {w : World} {K : PySem.W.Frag} {mg : Str → Option Value} {base : Heap}
theorem def_ok {x qual : Str} {st : Stmt} {f : Addr} {fd : FuncData} {N ps : List Str} {k : Nat} {io : Bool} {P : List Nat} {m : Env → Out Fl} {F : FSem} (Fn : Fun K x qual st f fd) (gf : mg x = some (.ref f)) (hb : Binds K fd ps []) (S : FnScope N ps (defScope st))
    (body : ∀ (cdv : Value) (A : Around) (outer : List PySem.Env) (s : Shared) (H : Hp) (E : XK), Cxt (cxOf (L2.CX Pg w) Pg w K mg base N qual (defScope st) f cdv A outer s H E) (fun cls d _ H => E cls d H) k →
      ∃ t, VSs (cxOf (L2.CX Pg w) Pg w K mg base N qual (defScope st) f cdv A outer s H E) (fun cls d _ H => E cls d H) P (defBody st) t m)
    (hF : ∀ ts, ts.length = ps.length → F ts = runF io N.length m ts) (hP : io = true → 0 ∈ P ∧ ps ≠ []) : DefOk Pg w K mg base x (k + 1) ps.length io F := by
  have kp := Fn.kp
  obtain ⟨oc, od, kV, doc, pm, an, cdv, ct, osl, rfl, lk, hcd⟩ := Fn.ex
  refine ⟨f, _, ps, gf, kp, hb, fnG_of lk hcd S (fun vs H Q E h => h.1) fun A outer s H vs Q E hgd hr h => ?_⟩
  obtain ⟨hlv, ts, Z, fp, hlt, s0, hio, hpost⟩ := h
  have cx : Cxt (cxOf (L2.CX Pg w) Pg w K mg base N qual (defScope st) f cdv A outer s H E) (fun cls d _ H => E cls d H) k := ⟨hgd, hr, takes_of rfl rfl rfl rfl, passes_of rfl, rfl, rfl, rfl⟩
  obtain ⟨t, ht⟩ := body cdv A outer s H E cx
  refine ⟨t, ht.ps, ?_⟩
  have hNl : N.length - vs.length = N.length - ts.length := by rw [hlv, hlt]
  have s1 : SOk (K, mg) Z H (start N vs) (ts.map some ++ List.replicate (N.length - ts.length) none) fp := ⟨s0.sub, by
    show RSl _ _ _ (vs.map some ++ List.replicate (N.length - vs.length) none) _ _
    rw [hNl]
    exact s0.sl.app (RSl.nones _), s0.nd, s0.fr⟩
  have pin0 : ∀ {σ' : L2.St}, io = true → Pin P (start N vs) σ' → ∀ v, vs[0]? = some v → σ'[0]? = some (some v) := fun {σ'} hi pn v hv => by
    rw [pn 0 (hP hi).1]
    show (vs.map some ++ _)[0]? = _
    rw [List.getElem?_append_left (by
      rw [List.length_map]
      exact (List.getElem?_eq_some_iff.mp hv).1), List.getElem?_map, hv]
    rfl
  have hne : io = true → ts ≠ [] := fun hi e => (hP hi).2 (by
    rw [e] at hlt
    exact List.eq_nil_of_length_eq_zero hlt.symm)
  have hfr : ∀ {Z' H' : Hp}, Same Z Z' → (io = false → ∃ g : List Addr, g = [] ∧ RSl (K, mg) Z' H' (vs.map some) (ts.map some) g) := fun {Z' H'} hz hi => by
    subst hi
    obtain ⟨ds, e1, e2, e3⟩ := froAll_DRs hio s0.sl
    refine ⟨[], rfl, ?_⟩
    rw [e1]
    exact RSl.ofDRs (e2.mono hz)
  rw [hF ts hlt] at hpost
  refine ht.sm Z H _ _ fp _ s1 ?_
  unfold runF at hpost
  rcases e : m (ts.map some ++ List.replicate (N.length - ts.length) none) with _ | ⟨xx | fl, ρ'⟩ <;> rw [e] at hpost
  · exact hpost.elim
  · intro cls dd σ' Z' H' fp' stp so pn ex
    cases io with
    | true =>
      simp only [if_true] at hpost
      split at hpost
      · rename_i t1 e1
        obtain ⟨g, q1, q2⟩ := io_back s0 hio stp.zle so e1 (pin0 rfl pn) (hne rfl)
        exact hpost cls dd H' Z' g (stp.less q2) q1 ex
      · exact hpost.elim
    | false =>
      obtain ⟨g, rfl, r⟩ := hfr (H' := H') stp.zle rfl
      exact hpost cls dd H' Z' [] (stp.less fun _ h => nomatch h) ⟨so.sub, r, List.nodup_nil, fun _ h => nomatch h⟩ ex
  · cases fl with
    | bk => exact hpost.elim
    | ct => exact hpost.elim
    | nx =>
      intro σ' Z' H' fp' stp so pn
      cases io with
      | true =>
        simp only [if_true] at hpost
        split at hpost
        · rename_i t1 e1
          obtain ⟨g, q1, q2⟩ := io_back s0 hio stp.zle so e1 (pin0 rfl pn) (hne rfl)
          exact hpost .non H' Z' g (stp.less q2) (q1.pushD .non)
        · exact hpost.elim
      | false =>
        obtain ⟨g, rfl, r⟩ := hfr (H' := H') stp.zle rfl
        have q : SOk (K, mg) Z' H' (vs.map some) (ts.map some) [] := ⟨so.sub, r, List.nodup_nil, fun _ h => nomatch h⟩
        exact hpost .non H' Z' [] (stp.less fun _ h => nomatch h) (q.pushD .non)
    | rt t =>
      intro v σ' Z' H' fp' stp so pn
      have fr' := so.fr
      obtain ⟨ft, g0, rfl, hrt, so2, dj, ndt⟩ := SOk.tmp so
      cases io with
      | true =>
        simp only [if_true] at hpost
        split at hpost
        · rename_i t1 e1
          obtain ⟨g, q1, q2⟩ := io_back s0 hio stp.zle so2 e1 (pin0 rfl pn) (hne rfl)
          exact hpost v H' Z' (ft ++ g) (stp.less fun a ha => (List.mem_append.mp ha).elim (fun z => List.mem_append_left _ z) fun z => List.mem_append_right _ (q2 a z)) (q1.push hrt ndt (fun a ha hb => dj a ha (q2 a hb)) fun a ha => fr' a (List.mem_append_left _ ha))
        · exact hpost.elim
      | false =>
        obtain ⟨g, rfl, r⟩ := hfr (H' := H') stp.zle rfl
        have q : SOk (K, mg) Z' H' (vs.map some) (ts.map some) [] := ⟨so.sub, r, List.nodup_nil, fun _ h => nomatch h⟩
        exact hpost v H' Z' (ft ++ []) (stp.less fun a ha => by simp at ha; exact List.mem_append_left _ ha) (q.push hrt ndt (fun a ha hb => nomatch hb) fun a ha => fr' a (List.mem_append_left _ ha))
end
end Vl

/-! Vl7: operators. -/
namespace Vl
open PySem PySem.Spec PyProof.Rows L2

/-! ### data without dicts and exceptions, as the library has it -/
mutual
def D.py : D → Option PyData
  | .non => some .none
  | .bl b => some (.bool b)
  | .int i => some (.int i)
  | .str x => some (.str x)
  | .lst xs => (D.pyL xs).map .list
  | .tup xs => (D.pyL xs).map .tuple
  | .dic _ => none
  | .dit _ => none
  | .exc _ _ => none
def D.pyL : List D → Option (List PyData)
  | [] => some []
  | d :: ds => match d.py, D.pyL ds with
    | some p, some ps => some (p :: ps)
    | _, _ => none
end
mutual
theorem DR.dp {G : Gx} {H : Hp} : ∀ {v : V} {d : D} {p : PyData}, DR G H v d → d.py = some p → Dp G.1 H v p
  | _, _, _, .non, e => by rw [D.py] at e; cases e; exact .non
  | _, _, _, .bl b, e => by rw [D.py] at e; cases e; exact .bl b
  | _, _, _, .int i, e => by rw [D.py] at e; cases e; exact .int i
  | _, _, _, .str x, e => by rw [D.py] at e; cases e; exact .str x
  | _, _, _, .lst h r, e => by
    rw [D.py] at e
    obtain ⟨ps, e1, rfl⟩ := Option.map_eq_some_iff.mp e
    exact .lst (.inl h) (DRs.dp r e1)
  | _, _, _, .tup h r, e => by
    rw [D.py] at e
    obtain ⟨ps, e1, rfl⟩ := Option.map_eq_some_iff.mp e
    exact .tup h (DRs.dp r e1)
  | _, _, _, .dic _ _ _, e => by simp [D.py] at e
  | _, _, _, .dit _ _ _, e => by simp [D.py] at e
  | _, _, _, .exc _ _ _ _ _ _, e => by simp [D.py] at e
theorem DRs.dp {G : Gx} {H : Hp} : ∀ {vs : List V} {ds : List D} {ps : List PyData}, DRs G H vs ds → D.pyL ds = some ps → DpAll G.1 H vs ps
  | _, _, _, .nil, e => by rw [D.pyL] at e; cases e; exact .nil
  | _, _, _, .cons h r, e => by
    rw [D.pyL] at e
    split at e
    · rename_i p ps e1 e2
      cases e
      exact .cons (DR.dp h e1) (DRs.dp r e2)
    · cases e
end

section
variable {X : Cx} {W : WX}
/-! ### flat operators -/
def gI (f : Int → Int → D) : D → D → Option D
  | .int i, .int j => some (f i j)
  | _, _ => none
theorem fo_I {f : Value → Value → Sem Value} {f' : Int → Int → D} (op : OpR X f (rI0 fun i j => fv (f' i j))) (fl : ∀ i j, flat (f' i j) = true) : FOp X f (rI0 fun i j => fv (f' i j)) (gI f') :=
  ⟨op, fun H x y d e z Q h1 h2 hg q => (by
    unfold gI at hg
    split at hg
    · cases hg; cases h1; cases h2
      exact ⟨_, _, rfl, rfl, q⟩
    · cases hg), fun d e z hg => by
    unfold gI at hg
    split at hg
    · cases hg; exact fl _ _
    · cases hg⟩
def gIC (C : Int → Int → Bool) (f : Int → Int → D) : D → D → Option D
  | .int i, .int j => if C i j = true then some (f i j) else none
  | _, _ => none
theorem fo_IC {f : Value → Value → Sem Value} {C : Int → Int → Prop} {Cb : Int → Int → Bool} {f' : Int → Int → D} (op : OpR X f (rI C fun i j => fv (f' i j))) (hC : ∀ i j, Cb i j = true → C i j) (fl : ∀ i j, flat (f' i j) = true) : FOp X f (rI C fun i j => fv (f' i j)) (gIC Cb f') :=
  ⟨op, fun H x y d e z Q h1 h2 hg q => (by
    unfold gIC at hg
    split at hg
    · split at hg
      · rename_i hc
        cases hg
        cases h1
        cases h2
        exact ⟨_, _, rfl, rfl, hC _ _ hc, q⟩
      · cases hg
    · cases hg), fun d e z hg => by
    unfold gIC at hg
    split at hg
    · split at hg
      · cases hg; exact fl _ _
      · cases hg
    · cases hg⟩
theorem fo_sub : FOp X (binaryOp .Sub) (rI0 fun i j => .int (i - j)) (gI fun i j => .int (i - j)) := fo_I (f' := fun i j => .int (i - j)) op_sub fun _ _ => rfl
def cMod (_ j : Int) : Bool := decide (0 < j)
theorem fo_mod : FOp X (binaryOp .Mod) (rI (fun _ j => 0 < j) fun i j => .int (i % j)) (gIC cMod fun i j => .int (i % j)) := fo_IC (f' := fun i j => .int (i % j)) op_mod (fun i j h => by simpa [cMod] using h) fun _ _ => rfl
def cDiv (_ j : Int) : Bool := decide (0 < j ∧ j < 1073741824)
theorem fo_fdiv : FOp X (binaryOp .FloorDiv) (rI CDiv fun i j => .int (i / j)) (gIC cDiv fun i j => .int (i / j)) := fo_IC (f' := fun i j => .int (i / j)) op_fdiv (fun i j h => by simpa [cDiv, CDiv] using h) fun _ _ => rfl
def cPow (i j : Int) : Bool := decide (0 ≤ j ∧ j ≤ 1000000 ∧ i.natAbs < 2 ^ 64)
theorem fo_pow : FOp X (binaryOp .Pow) (rI CPow fun i j => .int (i ^ j.toNat)) (gIC cPow fun i j => .int (i ^ j.toNat)) := fo_IC (f' := fun i j => .int (i ^ j.toNat)) op_pow (fun i j h => by simpa [cPow, CPow] using h) fun _ _ => rfl

/-! ### comparisons -/
def eqD : D → D → Option Bool
  | .str a, .str b => some (decide (a = b))
  | d, e => match d.py, e.py with
    | some p, some q => if SeqAt.shaped p && SeqAt.shaped q then some (PyData.eqv p q) else none
    | _, _ => none
def gEq (d e : D) : Option D := (eqD d e).map .bl
def gNe (d e : D) : Option D := (eqD d e).map fun b => .bl (!b)
def rEqV (K : PySem.W.Frag) : R2 := fun x y H Q => rEq x y H Q ∨ rEqD K x y H Q
def rNeV (K : PySem.W.Frag) : R2 := fun x y H Q => rNe x y H Q ∨ rNeD K x y H Q
theorem eqD_of {G : Gx} {H : Hp} {x y : V} {d e : D} {b : Bool} (h1 : DR G H x d) (h2 : DR G H y e) (h : eqD d e = some b) : (scal x y = true ∧ decide (x = y) = b) ∨ ∃ p q, Dp G.1 H x p ∧ Dp G.1 H y q ∧ SeqAt.shaped p = true ∧ SeqAt.shaped q = true ∧ PyData.eqv p q = b := by
  unfold eqD at h
  split at h
  · cases h; cases h1; cases h2
    refine .inl ⟨rfl, ?_⟩
    simp
  · split at h
    · rename_i p q e1 e2
      split at h
      · rename_i hs
        rw [Bool.and_eq_true] at hs
        cases h
        exact .inr ⟨p, q, h1.dp e1, h2.dp e2, hs.1, hs.2, rfl⟩
      · cases h
    · cases h
theorem fo_eq {k : Nat} (hr : Room k X.A) : FOp X (compareOp .Eq) (rEqV X.K) gEq :=
  ⟨op_eq.or (op_eqD hr.units), fun H x y d e z Q h1 h2 hg q => (by
    obtain ⟨b, hb, rfl⟩ := Option.map_eq_some_iff.mp hg
    rcases eqD_of h1 h2 hb with ⟨a1, rfl⟩ | ⟨p, q', a1, a2, a3, a4, rfl⟩
    · exact .inl ⟨a1, q⟩
    · exact .inr ⟨p, q', a1, a2, a3, a4, q⟩), fun d e z hg => by
    obtain ⟨b, hb, rfl⟩ := Option.map_eq_some_iff.mp hg
    rfl⟩
theorem fo_ne {k : Nat} (hr : Room k X.A) : FOp X (compareOp .NotEq) (rNeV X.K) gNe :=
  ⟨op_ne.or (op_neD hr.units), fun H x y d e z Q h1 h2 hg q => (by
    obtain ⟨b, hb, rfl⟩ := Option.map_eq_some_iff.mp hg
    rcases eqD_of h1 h2 hb with ⟨a1, rfl⟩ | ⟨p, q', a1, a2, a3, a4, rfl⟩
    · exact .inl ⟨a1, q⟩
    · exact .inr ⟨p, q', a1, a2, a3, a4, q⟩), fun d e z hg => by
    obtain ⟨b, hb, rfl⟩ := Option.map_eq_some_iff.mp hg
    rfl⟩
/-- an order of ints, and of texts by their signs -/
def gOrd (f : Int → Int → Bool) (g : List Nat → List Nat → Bool) : D → D → Option D
  | .int i, .int j => some (.bl (f i j))
  | .str i, .str j => some (.bl (g i.cps.toList j.cps.toList))
  | _, _ => none
def rOrd (f : Int → Int → Bool) (g : List Nat → List Nat → Bool) : R2 := fun x y H Q => rI0 (fun i j => .bl (f i j)) x y H Q ∨ ∃ i j, x = .str i ∧ y = .str j ∧ Q (.bl (g i.cps.toList j.cps.toList)) H
theorem fo_ord {c : Value → Value → Sem Value} {f : Int → Int → Bool} {g : List Nat → List Nat → Bool} (h1 : OpR X c (rI0 fun i j => .bl (f i j))) (h2 : OpR X c (fun x y H Q => ∃ i j, x = .str i ∧ y = .str j ∧ Q (.bl (g i.cps.toList j.cps.toList)) H)) : FOp X c (rOrd f g) (gOrd f g) :=
  ⟨h1.or h2, fun H x y d e z Q h1 h2 hg q => (by
    unfold gOrd at hg
    split at hg
    · cases hg; cases h1; cases h2; exact .inl ⟨_, _, rfl, rfl, q⟩
    · cases hg; cases h1; cases h2; exact .inr ⟨_, _, rfl, rfl, q⟩
    · cases hg), fun d e z hg => by
    unfold gOrd at hg
    split at hg <;> cases hg <;> rfl⟩
theorem fo_lt : FOp X (compareOp .Lt) (rOrd (fun i j => decide (i < j)) fun a b => decide (a < b)) (gOrd (fun i j => decide (i < j)) fun a b => decide (a < b)) := fo_ord op_lt op_lt_str
theorem fo_le : FOp X (compareOp .LtE) (rOrd (fun i j => decide (i ≤ j)) fun a b => !decide (b < a)) (gOrd (fun i j => decide (i ≤ j)) fun a b => !decide (b < a)) := fo_ord op_le op_le_str
theorem fo_gt : FOp X (compareOp .Gt) (rOrd (fun i j => decide (j < i)) fun a b => decide (b < a)) (gOrd (fun i j => decide (j < i)) fun a b => decide (b < a)) := fo_ord op_gt op_gt_str
theorem fo_ge : FOp X (compareOp .GtE) (rOrd (fun i j => decide (j ≤ i)) fun a b => !decide (a < b)) (gOrd (fun i j => decide (j ≤ i)) fun a b => !decide (a < b)) := fo_ord op_ge op_ge_str
/-- is None -/
def isN : D → Bool
  | .non => true
  | _ => false
def gIsN (neg : Bool) : D → D → Option D
  | d, .non => some (.bl (if neg then !isN d else isN d))
  | _, _ => none
theorem isN_V {G : Gx} {H : Hp} {x : V} {d : D} (h : DR G H x d) : decide (x = .non) = isN d := by
  cases h <;> simp [isN]
theorem fo_is : FOp X (compareOp .Is) (fun x y H Q => y = .non ∧ Q (.bl (decide (x = .non))) H) (gIsN false) :=
  ⟨op_isN, fun H x y d e z Q h1 h2 hg q => (by
    unfold gIsN at hg
    split at hg
    · cases hg; cases h2; exact ⟨rfl, by rw [isN_V h1]; exact q⟩
    · cases hg), fun d e z hg => by
    unfold gIsN at hg
    split at hg <;> cases hg <;> rfl⟩
theorem fo_isnot : FOp X (compareOp .IsNot) (fun x y H Q => y = .non ∧ Q (.bl (!decide (x = .non))) H) (gIsN true) :=
  ⟨op_notN, fun H x y d e z Q h1 h2 hg q => (by
    unfold gIsN at hg
    split at hg
    · cases hg; cases h2; exact ⟨rfl, by rw [isN_V h1]; exact q⟩
    · cases hg), fun d e z hg => by
    unfold gIsN at hg
    split at hg <;> cases hg <;> rfl⟩
/-- is, is not, of truths -/
def gIsB (neg : Bool) : D → D → Option D
  | .bl a, .bl b => some (.bl (if neg then !decide (a = b) else decide (a = b)))
  | _, _ => none
/-- in, not in: a sign of a text, an item of a list or a tuple -/
def inStr (i j : Str) : Bool := match i.cps.toList with
  | [c] => decide (c ∈ j.cps.toList)
  | _ => !(Builtin.Str.occurrences j i 0 j.length 1).isEmpty
def inD (d : D) : D → Option Bool
  | .str j => match d with
    | .str i => some (inStr i j)
    | _ => none
  | .lst ds => match d.py, D.pyL ds with
    | some p, some ps => if SeqAt.shaped p && SeqAt.shaped (.list ps) then some (ps.any fun z => PyData.eqv z p) else none
    | _, _ => none
  | .tup ds => if flat d && ds.all flat then some (inV (fv d) (ds.map fv)) else none
  | _ => none
def gIn (neg : Bool) (d e : D) : Option D := (inD d e).map fun b => .bl (if neg then !b else b)
def rInV (K : PySem.W.Frag) : R2 := fun x y H Q => (∃ (c : Nat) (z : Str), x = .str ⟨#[c]⟩ ∧ y = .str z ∧ Q (.bl (decide (c ∈ z.cps.toList))) H) ∨ (∃ i j, x = .str i ∧ y = .str j ∧ Q (.bl (!(Builtin.Str.occurrences j i 0 j.length 1).isEmpty)) H) ∨ rInD K x y H Q ∨ rIn K false x y H Q
def rNotInV (K : PySem.W.Frag) : R2 := fun x y H Q => (∃ (c : Nat) (z : Str), x = .str ⟨#[c]⟩ ∧ y = .str z ∧ Q (.bl (!decide (c ∈ z.cps.toList))) H) ∨ (∃ i j, x = .str i ∧ y = .str j ∧ Q (.bl (!(!(Builtin.Str.occurrences j i 0 j.length 1).isEmpty))) H) ∨ rNotInD K x y H Q ∨ rIn K true x y H Q
theorem fv_flat {G : Gx} {H : Hp} {x : V} {d : D} (h : DR G H x d) (f : flat d = true) : x = fv d ∧ flatV x = true := by
  cases h <;> first | exact ⟨rfl, rfl⟩ | exact absurd f (by simp [flat])
theorem fvs_flat {G : Gx} {H : Hp} : ∀ {xs : List V} {ds : List D}, DRs G H xs ds → ds.all flat = true → xs = ds.map fv ∧ xs.all flatV = true
  | _, _, .nil, _ => ⟨rfl, rfl⟩
  | _, _, .cons h r, f => by
    simp only [List.all_cons, Bool.and_eq_true] at f
    obtain ⟨e1, e2⟩ := fv_flat h f.1
    obtain ⟨e3, e4⟩ := fvs_flat r f.2
    exact ⟨by rw [e1, e3]; rfl, by simp [e2, e4]⟩
theorem str_one {x : Str} {c : Nat} (h : x.cps.toList = [c]) : x = ⟨#[c]⟩ := by
  obtain ⟨⟨l⟩⟩ := x
  simp at h
  rw [h]
theorem inD_of {G : Gx} {H : Hp} {x y : V} {d e : D} {b : Bool} (h1 : DR G H x d) (h2 : DR G H y e) (h : inD d e = some b) {Q : VK} {nt : Bool → Bool} (q : Q (.bl (nt b)) H) :
    (∃ (c : Nat) (z : Str), x = .str ⟨#[c]⟩ ∧ y = .str z ∧ Q (.bl (nt (decide (c ∈ z.cps.toList)))) H) ∨ (∃ i j, x = .str i ∧ y = .str j ∧ Q (.bl (nt (!(Builtin.Str.occurrences j i 0 j.length 1).isEmpty))) H) ∨
      (∃ p ps, Dp G.1 H x p ∧ Dp G.1 H y (.list ps) ∧ SeqAt.shaped p = true ∧ SeqAt.shaped (.list ps) = true ∧ Q (.bl (nt (ps.any fun z => PyData.eqv z p))) H) ∨
      ∃ p xs, y = .ref p ∧ (SqL G.1 H p xs ∨ SqT G.1 H p xs) ∧ flatV x = true ∧ xs.all flatV = true ∧ Q (.bl (nt (inV x xs))) H := by
  unfold inD at h
  split at h
  · rename_i j
    split at h
    · rename_i i
      cases h
      cases h1
      cases h2
      unfold inStr at q
      split at q
      · rename_i c e
        exact .inl ⟨c, j, by rw [str_one e], rfl, q⟩
      · exact .inr (.inl ⟨i, j, rfl, rfl, q⟩)
    · cases h
  · rename_i ds
    split at h
    · rename_i p ps e1 e2
      split at h
      · rename_i hs
        rw [Bool.and_eq_true] at hs
        cases h
        exact .inr (.inr (.inl ⟨p, ps, h1.dp e1, h2.dp (by rw [D.py, e2]; rfl), hs.1, hs.2, q⟩))
      · cases h
    · cases h
  · rename_i ds
    split at h
    · rename_i hf
      rw [Bool.and_eq_true] at hf
      cases h
      cases h2 with
      | tup ha r =>
        obtain ⟨e1, e2⟩ := fv_flat h1 hf.1
        obtain ⟨e3, e4⟩ := fvs_flat r hf.2
        exact .inr (.inr (.inr ⟨_, _, rfl, .inr ha, e2, e4, by rw [e1, e3]; exact q⟩))
    · cases h
  · cases h
theorem room_65 {k : Nat} {A : Around} (r : Room k A) : A.units + 65 < cLine := by have := r.un; omega
theorem fo_in {k : Nat} (hr : Room k X.A) : FOp X (compareOp .In) (rInV X.K) (gIn false) :=
  ⟨op_in_sign.or (op_in_str.or ((op_inD (room_65 hr)).or op_in_seq)), fun H x y d e z Q h1 h2 hg q => (by
    obtain ⟨b, hb, rfl⟩ := Option.map_eq_some_iff.mp hg
    exact inD_of (nt := id) h1 h2 hb q), fun d e z hg => by
    obtain ⟨b, hb, rfl⟩ := Option.map_eq_some_iff.mp hg
    rfl⟩
theorem fo_notin {k : Nat} (hr : Room k X.A) : FOp X (compareOp .NotIn) (rNotInV X.K) (gIn true) :=
  ⟨op_notIn_sign.or (op_notIn_str.or ((op_notInD (room_65 hr)).or op_notIn_seq)), fun H x y d e z Q h1 h2 hg q => (by
    obtain ⟨b, hb, rfl⟩ := Option.map_eq_some_iff.mp hg
    exact inD_of (nt := not) h1 h2 hb q), fun d e z hg => by
    obtain ⟨b, hb, rfl⟩ := Option.map_eq_some_iff.mp hg
    rfl⟩

/-! ### + and *: flat, or a new row -/
/-- a new object's tree -/
def tr : D → T
  | .lst zs => .lst (zs.map .fro)
  | z => .fro z
/-- what holds of a new (or old) object for z -/
structure NewQ (G : Gx) (Z H : Hp) (z : D) (Q : VK) : Prop where
  old : (∀ zs, z ≠ .lst zs) → ∀ v, DR G Z v z → Q v H
  lst : ∀ zs, z = .lst zs → ∀ p vs, DRs G Z vs zs → H p = none → Q (.ref p) (upd H p (.lst vs))
  tup : ∀ zs, z = .tup zs → ∀ p vs, DRs G Z vs zs → H p = none → Q (.ref p) (upd H p (.tup vs))
theorem KE.new {G : Gx} {Z H Z' H' : Hp} {σ : L2.St} {ρ : Env} {fp fp' : List Addr} {Q : VK} {z : D} (h : KE G Z H σ fp Q (.tmp (tr z)) ρ) (st : Stp Z H fp Z' H' fp') (s : SOk G Z' H' σ ρ fp') : NewQ G Z' H' z Q := by
  refine ⟨fun hn v dr => ?_, fun zs e p vs drs hp => ?_, fun zs e p vs drs hp => ?_⟩
  · have e : tr z = .fro z := by
      unfold tr
      split
      · exact absurd rfl (hn _)
      · rfl
    rw [e] at h
    exact h v Z' H' fp' st (s.pushD dr) trivial
  · subst e
    have s1 : SOk G Z' H' (vs.map some ++ σ) ((zs.map T.fro).map some ++ ρ) fp' := by
      refine ⟨s.sub, ?_, s.nd, s.fr⟩
      have key : ∀ {vs : List V} {zs : List D}, DRs G Z' vs zs → RSl G Z' H' (vs.map some ++ σ) ((zs.map T.fro).map some ++ ρ) fp' := by
        intro vs
        induction vs with
        | nil => intro zs r; cases r; exact s.sl
        | cons v vs ih => intro zs r; cases r with | cons h r => exact RSl.so (f := []) (.fro h) (ih r)
      exact key drs
    obtain ⟨q1, q2⟩ := s1.mkLst (by rw [List.length_map, drs.length]) hp
    exact h _ _ _ _ (st.trans q2) q1 trivial
  · subst e
    obtain ⟨q1, q2⟩ := s.mkTup drs hp
    exact h _ _ _ _ (st.trans q2) q1 trivial
structure SOp (X : Cx) (f : Value → Value → Sem Value) (r : R2) (g : D → D → Option D) : Prop where
  op : OpR X f r
  sm : ∀ Z H x y d e z Q, Same Z H → DR (gx X) Z x d → DR (gx X) Z y e → g d e = some z → NewQ (gx X) Z H z Q → r x y H Q
def m2s (g : D → D → Option D) (ma mb : Env → Out AV) : Env → Out AV := fun ρ => obind (obind (ma ρ) fun av ρ1 => obind (mb ρ1) fun bv ρ2 => some (.ok (av, bv), ρ2)) fun p ρ2 =>
  match p.1.get ρ2, p.2.get ρ2 with
  | some t, some u => match g t.er u.er with
    | some z => if flat z = true then some (.ok (.tmp (.fro z)), ρ2) else match nrm [p.1, p.2] ρ2 with
      | some (_, ρ3) => some (.ok (.tmp (tr z)), ρ3)
      | none => none
    | none => none
  | _, _ => none
theorem ve_ops {op : Operator} {a b : Expr} {ta tb : TE} {ma mb : Env → Out AV} {r : R2} {g : D → D → Option D} {pos : Pos} (F : SOp X (binaryOp op) r g) (ha : VE X W a ta ma) (hb : VE X W b tb mb) : VE X W (.BinOp a op b pos) (tOp r ta tb) (m2s g ma mb) :=
  ⟨pe_op F.op ha.pe hb.pe, fun Z H σ ρ fp Q s h => by
    refine sm2 ha hb s (Post.mono (Post.bind h) fun p ρ2 h2 => ?_)
    intro v w Z' H' fp' st s' at1 at2
    obtain ⟨av, bv⟩ := p
    dsimp only at h2 s' at1 at2
    split at h2
    · rename_i t u e1 e2
      split at h2
      · rename_i z ez
        split at h2
        · rename_i fz
          obtain ⟨d1, d2, g', s2, k⟩ := s'.peek2 at1 at2 e1 e2
          refine F.sm H' H' v w _ _ z Q (Same.refl _) d1 d2 ez ⟨fun hn x dr => ?_, fun zs e => ?_, fun zs e => ?_⟩
          · have ex : x = fv z := by cases dr <;> first | rfl | exact absurd fz (by simp [flat])
            subst ex
            exact KE.fl1 h2 fz (st.less k) s2
          · subst e; exact absurd fz (by simp [flat])
          · subst e; exact absurd fz (by simp [flat])
        · split at h2
          · rename_i ts ρ3 en
            have hp := nrm_peek en
            obtain ⟨hl, Z1, g1, st1, s1⟩ := nrm_ok (vs := [v, w]) (avs := [av, bv]) s' ⟨at1, at2, trivial⟩ en
            obtain ⟨Z2, g2, st2, drs, s2⟩ := SOk.frzAll (ts := ts) (vs := [v, w]) (by simpa using hl.symm) s1
            have ep : T.erL ts = [t.er, u.er] := by
              have : peekAll ρ2 [av, bv] = some [t.er, u.er] := by simp [peekAll, e1, e2]
              rw [this] at hp
              exact (Option.some.inj hp).symm
            rw [ep] at drs
            cases drs with
            | cons d1 drs =>
              cases drs with
              | cons d2 drs => exact F.sm Z2 H' v w _ _ z Q s2.sub d1 d2 ez (KE.new h2 (st.trans (st1.trans st2)) s2)
          · exact h2.elim
      · exact h2.elim
    · exact h2.elim⟩
def gAdd : D → D → Option D
  | .int i, .int j => some (.int (i + j))
  | .str i, .str j => if i.length + j.length ≤ sizeLine then some (.str (i ++ j)) else none
  | .lst xs, .lst ys => if xs.length + ys.length ≤ 1000000 then some (.lst (xs ++ ys)) else none
  | .tup xs, .tup ys => if xs.length + ys.length ≤ 1000000 then some (.tup (xs ++ ys)) else none
  | _, _ => none
def rCatL : R2 := fun x y H Q => ∃ l b xs zs, x = .ref l ∧ y = .ref b ∧ Rd H l (.lst xs) ∧ Rd H b (.lst zs) ∧ xs.length + zs.length ≤ sizeLine ∧ ∀ p, H p = none → Q (.ref p) (upd H p (.lst (xs ++ zs)))
theorem rd_list {pins : List (Addr × Obj)} {σ : L2.St} {H : Hp} {s : Shared} {l : Addr} {xs : List V} (I : Inv X pins σ H s) (h : Rd H l (.lst xs)) : ∃ (its : List Value) (n : Nat), Vals xs its ∧ xs.length = its.length ∧ s.heap.get? l = some { cls := .type "list", data := .seq its.toArray n } := by
  obtain ⟨_, its, n, rv, e⟩ := h.ok I.hok
  exact ⟨its, n, rv, rv.length, e⟩
theorem op_catL : OpR X (binaryOp .Add) rCatL := by
  rintro pins s σ H x y v u Q I rx ry ⟨l, b, xs, zs, rfl, rfl, hl, hb, hz, q⟩
  cases rx
  cases ry
  obtain ⟨its, n, r1, n1, e1⟩ := rd_list I hl
  obtain ⟨its2, n2, r2, n3, e2⟩ := rd_list I hb
  refine PySem.P.add_list e1 e2 ?_ (by rw [List.size_toArray, List.size_toArray]; omega)
  rw [show its.toArray ++ its2.toArray = (its ++ its2).toArray by simp]
  exact ⟨.ref _, _, I.lnew (t' := s.toks) (r1.append r2) (by rw [List.length_append]; omega), rfl, q _ I.fresh⟩
theorem so_add : SOp X (binaryOp .Add) (fun x y H Q => rI0 (fun i j => .int (i + j)) x y H Q ∨ (∃ i j, x = .str i ∧ y = .str j ∧ i.length + j.length ≤ sizeLine ∧ Q (.str (i ++ j)) H) ∨ rCatL x y H Q ∨ rCatA X.K x y H Q) gAdd :=
  ⟨op_add.or (op_add_str.or (op_catL.or op_catA)), fun Z H x y d e z Q sz h1 h2 hg q => by
    unfold gAdd at hg
    split at hg
    · cases hg; cases h1; cases h2
      exact .inl ⟨_, _, rfl, rfl, q.old (fun _ => by simp) _ (.int _)⟩
    · split at hg
      · rename_i hz
        cases hg; cases h1; cases h2
        exact .inr (.inl ⟨_, _, rfl, rfl, hz, q.old (fun _ => by simp) _ (.str _)⟩)
      · cases hg
    · split at hg
      · rename_i hz
        cases hg
        cases h1 with
        | lst a1 r1 =>
          cases h2 with
          | lst a2 r2 => exact .inr (.inr (.inl ⟨_, _, _, _, rfl, rfl, same_rd sz a1, same_rd sz a2, line_ge (by rw [r1.length, r2.length]; exact hz), fun p hp => q.lst _ rfl p _ (r1.append r2) hp⟩))
      · cases hg
    · split at hg
      · rename_i hz
        cases hg
        cases h1 with
        | tup a1 r1 =>
          cases h2 with
          | tup a2 r2 =>
            refine .inr (.inr (.inr ⟨_, _, _, _, rfl, rfl, same_seqT sz a1, same_seqT sz a2, line_ge (by rw [r1.length, r2.length]; exact hz), fun e => ?_, fun _ e => ?_, fun _ _ p hp => q.tup _ rfl p _ (r1.append r2) hp⟩))
            · subst e
              cases r1
              exact q.old (fun _ => by simp) _ (by simpa using DR.tup a2 r2)
            · subst e
              cases r2
              exact q.old (fun _ => by simp) _ (by simpa using DR.tup a1 r1)
      · cases hg
    · cases hg⟩
/-- int * int, text * int -/
def cMul (i j : Int) : Bool := decide ((-(2 ^ 64) < i ∧ i < 2 ^ 64) ∨ (-(2 ^ 64) < j ∧ j < 2 ^ 64))
def gMul : D → D → Option D
  | .int i, .int j => if cMul i j = true then some (.int (i * j)) else none
  | .str x, .int n => if 0 ≤ n ∧ n ≤ 1000 ∧ x.length ≤ 1000 then some (.str (Txt.mul x n)) else none
  | _, _ => none
theorem mulOk_small {x : Str} {n : Int} (h : 0 ≤ n ∧ n ≤ 1000 ∧ x.length ≤ 1000) : MulOk x n := by
  obtain ⟨h1, h2, h3⟩ := h
  have hm : x.length * n.toNat ≤ 1000 * 1000 := Nat.mul_le_mul h3 (by omega)
  refine ⟨?_, fun hn _ => ?_, fun _ _ => ?_⟩
  · rw [Bool.or_eq_false_iff]
    exact ⟨decide_eq_false (by omega), decide_eq_false (by omega)⟩
  · have : (1 : Int) ≤ n := by omega
    have h4 : (1000 : Int) ≤ (2 ^ 63 - 1) / n := (Int.le_ediv_iff_mul_le (by omega)).mpr (by omega)
    omega
  · unfold Builtin.Str.tooLong
    have : (sizeLine : Nat) = 16777216 := sizeLine_eq
    first | (simp; omega) | (rw [decide_eq_false_iff_not]; omega)
theorem op_mul_str : OpR X (binaryOp .Mult) (fun x y H Q => ∃ i n, x = .str i ∧ y = .int n ∧ (0 ≤ n ∧ n ≤ 1000 ∧ i.length ≤ 1000) ∧ Q (.str (Txt.mul i n)) H) := by
  rintro pins s σ H x y v u Q I rx ry ⟨i, n, rfl, rfl, hz, q⟩
  obtain ⟨t, rfl⟩ := rx
  obtain ⟨t', rfl⟩ := ry
  exact SB.mul (mulOk_small hz) fun t2 k => ⟨.str _, H, I.tok _, ⟨_, rfl⟩, q⟩
theorem fo_mul : FOp X (binaryOp .Mult) (fun x y H Q => rI CMul (fun i j => .int (i * j)) x y H Q ∨ ∃ i n, x = .str i ∧ y = .int n ∧ (0 ≤ n ∧ n ≤ 1000 ∧ i.length ≤ 1000) ∧ Q (.str (Txt.mul i n)) H) gMul :=
  ⟨op_mul.or op_mul_str, fun H x y d e z Q h1 h2 hg q => (by
    unfold gMul at hg
    split at hg
    · split at hg
      · rename_i hc
        cases hg; cases h1; cases h2
        exact .inl ⟨_, _, rfl, rfl, by simpa [cMul, CMul] using hc, q⟩
      · cases hg
    · split at hg
      · rename_i hc
        cases hg; cases h1; cases h2
        exact .inr ⟨_, _, rfl, rfl, hc, q⟩
      · cases hg
    · cases hg), fun d e z hg => by
    unfold gMul at hg
    split at hg
    · split at hg <;> cases hg <;> rfl
    · split at hg <;> cases hg <;> rfl
    · cases hg⟩
end
end Vl

/-! Vl8: subscripts, slices, calls of built-ins, methods of built-in types. -/
namespace Vl
open PySem PySem.Spec PyProof.Rows L2

section
variable {G : Gx} {Z H : Hp} {σ : L2.St} {ρ : Env} {fp : List Addr} {v : V} {t : T}
/-- an operand's tree -/
theorem SOk.avTree {σ' : L2.St} {ρ' : Env} {n : Nat} {av : AV} (s : SOk G Z H σ' ρ' fp) (hn : σ'[n]? = some (some v)) (hm : ρ'[n]? = some av.sl) (ha : av.at σ v) (e : av.get ρ = some t)
    (hs : ∀ (i : Nat) (t : T), ρ[i]? = some (some t) → ∃ j : Nat, ρ'[j]? = some (some t) ∧ σ'[j]? = σ[i]?) : ∃ f, RT G Z H v t f := by
  cases av with
  | tmp t' =>
    cases e
    obtain ⟨v', l, f, g, h1, h2, _⟩ := s.sl.at hm
    rw [hn] at h1; cases h1
    exact ⟨f, h2⟩
  | loc i =>
    have e' : ρ[i]? = some (some t) := by
      simp only [AV.get] at e
      cases q : ρ[i]? with
      | none => rw [q] at e; cases e
      | some x =>
        cases x with
        | none => rw [q] at e; cases e
        | some t' => rw [q] at e; cases e; rfl
    obtain ⟨j, h1, h2⟩ := hs i t e'
    obtain ⟨v', l, f, g, h3, h4, _⟩ := s.sl.at h1
    have ha' : σ[i]? = some (some v) := ha
    rw [h2, ha'] at h3; cases h3
    exact ⟨f, h4⟩
end
/-- a row as it may be read: frozen, or an own list of frozen things -/
def view : T → Option D
  | .fro d => some d
  | .lst ts => if froAll ts then some (.lst (T.erL ts)) else none
  | _ => none
/-- what a row's items are, where the row may be one's own -/
inductive DV (G : Gx) (Z H : Hp) : V → D → Prop
  | fro {v : V} {d : D} : DR G Z v d → DV G Z H v d
  | own {a : Addr} {vs : List V} {ds : List D} : H a = some (.lst vs) → DRs G Z vs ds → DV G Z H (.ref a) (.lst ds)
theorem RTs.fro {G : Gx} {Z H : Hp} : ∀ {vs : List V} {ts : List T} {f : List Addr}, RTs G Z H vs ts f → froAll ts = true → DRs G Z vs (T.erL ts)
  | _, _, _, .nil, _ => by rw [T.erL]; exact .nil
  | _, _, _, .cons h r, e => by
    cases h with
    | fro h => rw [T.erL, T.er]; exact .cons h (RTs.fro r (by simpa [froAll] using e))
    | lst => simp [froAll] at e
    | dic => simp [froAll] at e
    | dit => simp [froAll] at e
theorem RT.view {G : Gx} {Z H : Hp} {v : V} {t : T} {f : List Addr} {d : D} (h : RT G Z H v t f) (e : view t = some d) : DV G Z H v d := by
  unfold Vl.view at e
  split at e
  · cases e
    cases h with
    | fro h => exact .fro h
  · split at e
    · rename_i hf
      cases e
      cases h with
      | lst ha r => exact .own ha (r.fro hf)
    · cases e
  · cases e
theorem DV.list {G : Gx} {Z H : Hp} {v : V} {ds : List D} (s : Same Z H) (h : DV G Z H v (.lst ds)) : ∃ a vs, v = .ref a ∧ Rd H a (.lst vs) ∧ DRs G Z vs ds := by
  cases h with
  | fro h => cases h with | lst ha r => exact ⟨_, _, rfl, same_rd s ha, r⟩
  | own ha r => exact ⟨_, _, rfl, .inl ha, r⟩
theorem DV.tup {G : Gx} {Z H : Hp} {v : V} {ds : List D} (h : DV G Z H v (.tup ds)) : ∃ a vs, v = .ref a ∧ SqT G.1 Z a vs ∧ DRs G Z vs ds := by
  cases h with
  | fro h => cases h with | tup ha r => exact ⟨_, _, rfl, ha, r⟩

section
variable {X : Cx} {W : WX} {pos : Pos}
/-! ### a subscript -/
def atD (ds : List D) (i : Int) : Option D := atI ds i
theorem atI_DRs {G : Gx} {Z : Hp} {vs : List V} {ds : List D} {i : Int} {d : D} (r : DRs G Z vs ds) (e : atI ds i = some d) : ∃ v, atI vs i = some v ∧ DR G Z v d := by
  unfold atI at e ⊢
  rw [r.length]
  cases q : ixN ds.length i with
  | none => rw [q] at e; cases e
  | some j =>
    rw [q] at e
    exact r.get' e
def gIx : D → D → Option D
  | .lst xs, .int i => atI xs i
  | .tup xs, .int i => atI xs i
  | .str z, .int i => if z.length ≤ sizeLine then (atI z.cps.toList i).map fun c => .str ⟨#[c]⟩ else none
  | _, _ => none
theorem ix_sm {G : Gx} {Z H : Hp} {x y : V} {d e z : D} {Q : VK} (s : Same Z H) (h1 : DV G Z H x d) (h2 : DR G H y e) (hg : gIx d e = some z) (q : ∀ v, DR G Z v z → Q v H) : rIx G.1 x y H Q := by
  unfold gIx at hg
  split at hg
  · obtain ⟨a, vs, rfl, ha, r⟩ := h1.list s
    cases h2
    obtain ⟨v, e1, e2⟩ := atI_DRs r hg
    exact .inl ⟨a, vs, _, v, rfl, rfl, .inl ha, e1, q v e2⟩
  · obtain ⟨a, vs, rfl, ha, r⟩ := h1.tup
    cases h2
    obtain ⟨v, e1, e2⟩ := atI_DRs r hg
    exact .inr (.inl ⟨a, vs, _, v, rfl, rfl, same_seqT s ha, e1, q v e2⟩)
  · split at hg
    · rename_i hz
      obtain ⟨c, e1, rfl⟩ := Option.map_eq_some_iff.mp hg
      cases h2
      cases h1 with
      | fro h1 =>
        cases h1
        exact .inr (.inr ⟨_, _, c, rfl, rfl, hz, e1, q _ (.str _)⟩)
    · cases hg
  · cases hg
/-- a row read: as it stands, or frozen -/
def vw (av : AV) (ρ : Env) : Option (D × Env) := match av.get ρ with
  | some t => match view t with
    | some d => some (d, ρ)
    | none => match fz av ρ with
      | some (t', ρ') => some (t.er, ρ')
      | none => none
  | none => none
def mIx (ma mb : Env → Out AV) : Env → Out AV := fun ρ => obind (obind (ma ρ) fun av ρ1 => obind (mb ρ1) fun bv ρ2 => some (.ok (av, bv), ρ2)) fun p ρ2 =>
  match p.2.get ρ2, vw p.1 ρ2 with
  | some u, some (d, ρ3) => match gIx d u.er with
    | some z => some (.ok (.tmp (.fro z)), ρ3)
    | none => none
  | _, _ => none
/-- the row (first in front), read -/
theorem vw_ok {G : Gx} {Z H : Hp} {σ : L2.St} {ρ ρ' : Env} {fp : List Addr} {v : V} {av : AV} {d : D} (s : SOk G Z H (some v :: σ) (av.sl :: ρ) fp) (a : av.at σ v) (e : vw av ρ = some (d, ρ')) :
    ∃ Z1 g, Stp Z H fp Z1 H g ∧ DV G Z1 H v d ∧ SOk G Z1 H σ ρ' g := by
  unfold vw at e
  split at e
  · rename_i t et
    split at e
    · rename_i d' ed
      cases e
      obtain ⟨f, h⟩ := SOk.avTree (n := 0) (ρ := ρ) (σ := σ) (ρ' := av.sl :: ρ) s rfl rfl a et fun i t q => ⟨i + 1, by simpa using q, by simp⟩
      obtain ⟨g, s2, k⟩ := s.drop
      exact ⟨Z, g, Stp.refl.less k, h.view ed, s2⟩
    · split at e
      · rename_i t' ρ2 ez
        cases e
        obtain ⟨Z1, g1, st1, s1⟩ := fz_ok s a ez
        obtain ⟨Z2, g2, st2, dr, _, s3⟩ := SOk.frzTmp s1
        have : t'.er = t.er := by
          cases av with
          | tmp t0 => cases et; cases ez; rfl
          | loc i =>
            unfold fz at ez
            dsimp only at ez
            split at ez
            · rename_i t0 e0
              cases ez
              simp only [AV.get, e0] at et
              cases et
              rw [T.er]
            · cases ez
        rw [this] at dr
        exact ⟨Z2, g2, st1.trans st2, .fro dr, s3⟩
      · cases e
  · cases e
theorem ve_ix {a b : Expr} {ta tb : TE} {ma mb : Env → Out AV} (ha : VE X W a ta ma) (hb : VE X W b tb mb) (hs : PlainIx b := by exact fun _ _ => rfl) : VE X W (.Subscript a b pos) (tOp (rIx X.K) ta tb) (mIx ma mb) :=
  ⟨pe_ix ix_seq ha.pe hb.pe hs, fun Z H σ ρ fp Q s h => by
    refine sm2 ha hb s (Post.mono (Post.bind h) fun p ρ2 h2 => ?_)
    intro v w Z' H' fp' st s' at1 at2
    obtain ⟨av, bv⟩ := p
    dsimp only at h2 s' at1 at2
    split at h2
    · rename_i u d ρ3 e2 ev
      split at h2
      · rename_i z ez
        have hs2 : ∀ (i : Nat) (t : T), ρ2[i]? = some (some t) → ∃ j : Nat, (av.sl :: bv.sl :: ρ2)[j]? = some (some t) ∧ (some v :: some w :: σ)[j]? = σ[i]? := fun i t e => ⟨i + 2, by simpa using e, by simp⟩
        have d2 : DR (gx X) H' w u.er := s'.avPeek (τ := σ) (π := ρ2) (n := 1) rfl rfl at2 e2 hs2
        -- the index is let go
        obtain ⟨f, g, rfl, s0, fr⟩ := SOk.split (av := av) s'
        obtain ⟨g2, s1, k1⟩ := s0.drop
        obtain ⟨q1, q2⟩ := fr Z' H' σ ρ2 g2 (Stp.refl.less k1) s1
        obtain ⟨Z1, g3, st3, dv, s3⟩ := vw_ok q1 at1 ev
        exact ix_sm s3.sub dv d2 ez fun x dr => h2 x Z1 H' g3 (st.trans (q2.trans st3)) (s3.pushD dr) trivial
      · exact h2.elim
    · exact h2.elim⟩

/-! ### a slice -/
structure VO (X : Cx) (W : WX) (e : Option Expr) (t : TO) (m : Env → Out (Option Int)) : Prop where
  po : PO X e t
  sm : ∀ Z H σ ρ fp (Q : Option Int → Hp → Prop), SOk (gx X) Z H σ ρ fp → Post (gx X) W Z H σ fp (fun o ρ' => ∀ Z' H' fp', Stp Z H fp Z' H' fp' → SOk (gx X) Z' H' σ ρ' fp' → Q o H') (m ρ) → t σ H Q
theorem vo_none : VO X W none tNoPart (fun ρ => some (.ok none, ρ)) := ⟨po_none, fun Z H σ ρ fp Q s h => h Z H fp Stp.refl s⟩
def mPart (m : Env → Out AV) : Env → Out (Option Int) := fun ρ => obind (m ρ) fun av ρ1 => match av.get ρ1 with
  | some (.fro (.int i)) => some (.ok (some i), ρ1)
  | _ => none
theorem vo_some {e : Expr} {te : TE} {m : Env → Out AV} (he : VE X W e te m) : VO X W (some e) (tPart te) (mPart m) :=
  ⟨po_some he.pe, fun Z H σ ρ fp Q s h => by
    refine he.sm Z H σ ρ fp _ s (h.bind.mono fun av ρ1 h1 => ?_)
    intro v Z1 H1 fp1 st1 s1 at1
    split at h1
    · rename_i i e1
      obtain ⟨d1, g', s2, k⟩ := s1.peek1 at1 e1
      rw [T.er] at d1
      cases d1
      exact ⟨i, rfl, h1 Z1 H1 g' (st1.less k) s2⟩
    · exact h1.elim⟩
def cutD (xs : List D) (lo hi : Option Int) : List D := (xs.drop (HT.sIx xs.length 0 lo)).take (HT.sIx xs.length xs.length hi - HT.sIx xs.length 0 lo)
theorem DRs.drop {G : Gx} {Z : Hp} : ∀ {vs : List V} {ds : List D} (n : Nat), DRs G Z vs ds → DRs G Z (vs.drop n) (ds.drop n)
  | _, _, 0, r => r
  | _, _, _ + 1, .nil => .nil
  | _, _, n + 1, .cons _ r => DRs.drop n r
theorem DRs.take {G : Gx} {Z : Hp} : ∀ {vs : List V} {ds : List D} (n : Nat), DRs G Z vs ds → DRs G Z (vs.take n) (ds.take n)
  | _, _, 0, _ => .nil
  | _, _, _ + 1, .nil => .nil
  | _, _, n + 1, .cons h r => .cons h (DRs.take n r)
theorem cut_DRs {G : Gx} {Z : Hp} {vs : List V} {ds : List D} (r : DRs G Z vs ds) (lo hi : Option Int) : DRs G Z (cutV vs lo hi) (cutD ds lo hi) := by
  unfold cutV cutD
  rw [r.length]
  exact (r.drop _).take _
def gSl (d : D) (lo hi : Option Int) : Option D := match d with
  | .lst xs => some (.lst (cutD xs lo hi))
  | .tup xs => some (.tup (cutD xs lo hi))
  | .str z => if z.length ≤ sizeLine then some (.str (cutS z lo hi)) else none
  | _ => none
def rSlV (K : PySem.W.Frag) : V → Option Int → Option Int → Hp → VK → Prop := fun x lo hi H Q => rSlL K x lo hi H Q ∨ (rSlA K x lo hi H Q ∨ rSlS x lo hi H Q)
theorem sl_sm {G : Gx} {Z H : Hp} {x : V} {d z : D} {lo hi : Option Int} {Q : VK} (s : Same Z H) (h1 : DV G Z H x d) (hg : gSl d lo hi = some z) (q : NewQ G Z H z Q) : rSlV G.1 x lo hi H Q := by
  unfold gSl at hg
  split at hg
  · cases hg
    obtain ⟨a, vs, rfl, ha, r⟩ := h1.list s
    exact .inl ⟨a, vs, rfl, .inl ha, fun p hp => q.lst _ rfl p _ (cut_DRs r lo hi) hp⟩
  · cases hg
    obtain ⟨a, vs, rfl, ha, r⟩ := h1.tup
    refine .inr (.inl ⟨a, vs, rfl, same_seqT s ha, fun hw => ?_, fun _ p hp => q.tup _ rfl p _ (cut_DRs r lo hi) hp⟩)
    refine q.old (fun _ => by simp) _ ?_
    rename_i xs
    have e : cutD xs lo hi = xs := by
      unfold cutD
      rw [r.length] at hw
      rw [hw.1, hw.2]
      simp
    rw [e]
    exact .tup ha r
  · split at hg
    · rename_i hz
      cases hg
      cases h1 with
      | fro h1 =>
        cases h1
        exact .inr (.inr ⟨_, rfl, hz, q.old (fun _ => by simp) _ (.str _)⟩)
    · cases hg
  · cases hg
def mSl (ma : Env → Out AV) (ml mh : Env → Out (Option Int)) : Env → Out AV := fun ρ => obind (ma ρ) fun av ρ1 => obind (ml ρ1) fun lo ρ2 => obind (mh ρ2) fun hi ρ3 => match vw av ρ3 with
  | some (d, ρ4) => match gSl d lo hi with
    | some z => some (.ok (.tmp (tr z)), ρ4)
    | none => none
  | none => none
theorem ve_sl {a : Expr} {lo hi : Option Expr} {ta : TE} {tl th : TO} {ma : Env → Out AV} {ml mh : Env → Out (Option Int)} {p2 : Pos} (ha : VE X W a ta ma) (hl : VO X W lo tl ml) (hh : VO X W hi th mh) :
    VE X W (.Subscript a (.Slice lo hi none p2) pos) (tSl (rSlV X.K) ta tl th) (mSl ma ml mh) :=
  ⟨pe_slice (sl_list.or (sl_tupA.or sl_str)) ha.pe hl.po hh.po, fun Z H σ ρ fp Q s h => by
    refine ha.sm Z H σ ρ fp _ s (h.bind.mono fun av ρ1 h1 => ?_)
    intro v Z1 H1 fp1 st1 s1 at1
    obtain ⟨f, g, rfl, s0, fr⟩ := s1.split
    refine hl.sm Z1 H1 σ ρ1 g _ s0 ((h1.bind.step (st1.less fun x hx => List.mem_append_right _ hx)) fun lo ρ2 h2 => ?_)
    intro Z2 H2 g2 st2 s2
    have st12 : Stp Z H fp Z2 H2 g2 := (st1.less fun x hx => List.mem_append_right _ hx).trans st2
    refine hh.sm Z2 H2 σ ρ2 g2 _ s2 ((h2.bind.step st12) fun hi ρ3 h3 => ?_)
    intro Z3 H3 g3 st3 s3
    obtain ⟨q1, q2⟩ := fr Z3 H3 σ ρ3 g3 (st2.trans st3) s3
    split at h3
    · rename_i d ρ4 ev
      split at h3
      · rename_i z ez
        obtain ⟨Z4, g4, st4, dv, s4⟩ := vw_ok q1 at1 ev
        exact sl_sm s4.sub dv ez (KE.new h3 (st1.trans (q2.trans st4)) s4)
      · exact h3.elim
    · exact h3.elim⟩

/-! ### calls of built-ins -/
/-- a built-in, with a flat outcome -/
structure FC (X : Cx) (f : Value) (r : List V → Hp → VK → Prop) (g : List D → Option D) : Prop where
  op : CallR X f r
  sm : ∀ H vs ds z Q, DRs (gx X) H vs ds → g ds = some z → Q (fv z) H → r vs H Q
  fl : ∀ ds z, g ds = some z → flat z = true
def mFC (g : List D → Option D) (ma : Env → Out (List AV)) : Env → Out AV := fun ρ => obind (ma ρ) fun avs ρ1 => match peekAll ρ1 avs with
  | some ds => match g ds with
    | some z => some (.ok (.tmp (.fro z)), ρ1)
    | none => none
  | none => none
variable {es : List Expr} {e : Expr} {ta : TA} {ma : Env → Out (List AV)} {x : Str} {p : Pos} {bid bT : String}
theorem fc_sm {f : Value} {r : List V → Hp → VK → Prop} {g : List D → Option D} (F : FC X f r g) (ha : VA X W es ta ma) {Z H : Hp} {σ : L2.St} {ρ : Env} {fp : List Addr} {Q : VK} (s : SOk (gx X) Z H σ ρ fp)
    (h : Post (gx X) W Z H σ fp (KE (gx X) Z H σ fp Q) (mFC g ma ρ)) : tCB r ta σ H Q := by
  refine ha.sm Z H σ ρ fp _ s (h.bind.mono fun avs ρ1 h1 => ?_)
  intro vs Z1 H1 fp1 st1 s1 at1
  split at h1
  · rename_i ds eds
    split at h1
    · rename_i z ez
      have dr : DRs (gx X) H1 vs ds := s1.peekAt (vs0 := []) (avs0 := []) rfl rfl rfl at1 eds
      obtain ⟨g', s2, k2⟩ := SOk.dropAll (avAt_len at1) s1
      exact F.sm H1 vs ds z Q dr ez (KE.fl1 h1 (F.fl _ _ ez) (st1.less k2) s2)
    · exact h1.elim
  · exact h1.elim
theorem ve_callB {r : List V → Hp → VK → Prop} {g : List D → Option D} (F : FC X (.builtin bid) r g) (hg : Gl X x) (hm : X.mg x = none) (hv : bootBuiltins x = some (.builtin bid)) (ha : VA X W (e :: es) ta ma) (hn : x ≠ "__name__" := by decide) (hdb : (x == ("__debug__" : Str)) = false := by decide)
    (he : starEach (e :: es) X.env = (false, eval e X.env) :: starEach es X.env := by rfl) (hpl : (backTo pos (starEach es X.env)).any (·.1) = false := by rfl) : VE X W (.Call (.Name x p) (e :: es) [] pos) (tCB r ta) (mFC g ma) :=
  ⟨pe_callB F.op hg hm hv ha.pa hn hdb he hpl, fun Z H σ ρ fp Q s h => fc_sm F ha s h⟩
theorem ve_callTy {r : List V → Hp → VK → Prop} {g : List D → Option D} (F : FC X (.type bT) r g) (hg : Gl X x) (hm : X.mg x = none) (hv : bootBuiltins x = some (.type bT)) (ha : VA X W (e :: es) ta ma) (hn : x ≠ "__name__" := by decide) (hdb : (x == ("__debug__" : Str)) = false := by decide)
    (he : starEach (e :: es) X.env = (false, eval e X.env) :: starEach es X.env := by rfl) (hpl : (backTo pos (starEach es X.env)).any (·.1) = false := by rfl) : VE X W (.Call (.Name x p) (e :: es) [] pos) (tCB r ta) (mFC g ma) :=
  ⟨pe_callTy F.op hg hm hv ha.pa hn hdb he hpl, fun Z H σ ρ fp Q s h => fc_sm F ha s h⟩
/-- a built-in that makes a new row -/
structure SC (X : Cx) (f : Value) (r : List V → Hp → VK → Prop) (g : List D → Option D) : Prop where
  op : CallR X f r
  sm : ∀ Z H vs ds z Q, Same Z H → DRs (gx X) Z vs ds → g ds = some z → NewQ (gx X) Z H z Q → r vs H Q
def mSC (g : List D → Option D) (ma : Env → Out (List AV)) : Env → Out AV := fun ρ => obind (ma ρ) fun avs ρ1 => match nrm avs ρ1 with
  | some (ts, ρ2) => match g (T.erL ts) with
    | some z => some (.ok (.tmp (tr z)), ρ2)
    | none => none
  | none => none
theorem sc_sm {f : Value} {r : List V → Hp → VK → Prop} {g : List D → Option D} (F : SC X f r g) (ha : VA X W es ta ma) {Z H : Hp} {σ : L2.St} {ρ : Env} {fp : List Addr} {Q : VK} (s : SOk (gx X) Z H σ ρ fp)
    (h : Post (gx X) W Z H σ fp (KE (gx X) Z H σ fp Q) (mSC g ma ρ)) : tCB r ta σ H Q := by
  refine ha.sm Z H σ ρ fp _ s (h.bind.mono fun avs ρ1 h1 => ?_)
  intro vs Z1 H1 fp1 st1 s1 at1
  split at h1
  · rename_i ts ρ2 en
    split at h1
    · rename_i z ez
      obtain ⟨hl, Z2, g2, st2, s2⟩ := nrm_ok s1 at1 en
      obtain ⟨Z3, g3, st3, drs, s3⟩ := SOk.frzAll (by rw [avAt_len at1, hl]) s2
      exact F.sm Z3 H1 vs _ z Q s3.sub drs ez (KE.new h1 (st1.trans (st2.trans st3)) s3)
    · exact h1.elim
  · exact h1.elim
theorem ve_newB {r : List V → Hp → VK → Prop} {g : List D → Option D} (F : SC X (.builtin bid) r g) (hg : Gl X x) (hm : X.mg x = none) (hv : bootBuiltins x = some (.builtin bid)) (ha : VA X W (e :: es) ta ma) (hn : x ≠ "__name__" := by decide) (hdb : (x == ("__debug__" : Str)) = false := by decide)
    (he : starEach (e :: es) X.env = (false, eval e X.env) :: starEach es X.env := by rfl) (hpl : (backTo pos (starEach es X.env)).any (·.1) = false := by rfl) : VE X W (.Call (.Name x p) (e :: es) [] pos) (tCB r ta) (mSC g ma) :=
  ⟨pe_callB F.op hg hm hv ha.pa hn hdb he hpl, fun Z H σ ρ fp Q s h => sc_sm F ha s h⟩
theorem ve_newTy {r : List V → Hp → VK → Prop} {g : List D → Option D} (F : SC X (.type bT) r g) (hg : Gl X x) (hm : X.mg x = none) (hv : bootBuiltins x = some (.type bT)) (ha : VA X W (e :: es) ta ma) (hn : x ≠ "__name__" := by decide) (hdb : (x == ("__debug__" : Str)) = false := by decide)
    (he : starEach (e :: es) X.env = (false, eval e X.env) :: starEach es X.env := by rfl) (hpl : (backTo pos (starEach es X.env)).any (·.1) = false := by rfl) : VE X W (.Call (.Name x p) (e :: es) [] pos) (tCB r ta) (mSC g ma) :=
  ⟨pe_callTy F.op hg hm hv ha.pa hn hdb he hpl, fun Z H σ ρ fp Q s h => sc_sm F ha s h⟩

/-! ### len, int, abs, max, min, all, any, sum, str, repr -/
def gLen : List D → Option D
  | [.lst xs] => some (.int xs.length)
  | [.tup xs] => some (.int xs.length)
  | [.str z] => if z.length ≤ sizeLine then some (.int z.length) else none
  | _ => none
theorem fc_len : FC X (.builtin "len") (fun xs H Q => (∃ p ys, xs = [.ref p] ∧ (SqL X.K H p ys ∨ SqT X.K H p ys) ∧ Q (.int ys.length) H) ∨ ∃ z, xs = [.str z] ∧ z.length ≤ sizeLine ∧ Q (.int z.length) H) gLen :=
  ⟨fun pins s σ H xs us Q I r h => h.elim (call_len_seq pins s σ H xs us Q I r) (call_len_str pins s σ H xs us Q I r), fun H vs ds z Q dr hg q => (by
    unfold gLen at hg
    split at hg
    · cases hg
      cases dr with | cons h r => cases r; cases h with | lst ha r => exact .inl ⟨_, _, rfl, .inl (.inl ha), by rw [r.length]; exact q⟩
    · cases hg
      cases dr with | cons h r => cases r; cases h with | tup ha r => exact .inl ⟨_, _, rfl, .inr ha, by rw [r.length]; exact q⟩
    · split at hg
      · rename_i hz
        cases hg
        cases dr with | cons h r => cases r; cases h; exact .inr ⟨_, rfl, hz, q⟩
      · cases hg
    · cases hg), fun ds z hg => by
    unfold gLen at hg
    split at hg
    · cases hg; rfl
    · cases hg; rfl
    · split at hg <;> cases hg <;> rfl
    · cases hg⟩
def gInt : List D → Option D
  | [.int i] => some (.int i)
  | [.bl b] => some (.int (if b then 1 else 0))
  | _ => none
theorem fc_int : FC X (.type "int") (fun xs H Q => (∃ i, xs = [.int i] ∧ Q (.int i) H) ∨ ∃ k, xs = [.bl k] ∧ Q (.int (if k then 1 else 0)) H) gInt :=
  ⟨call_int1, fun H vs ds z Q dr hg q => (by
    unfold gInt at hg
    split at hg
    · cases hg
      cases dr with | cons h r => cases r; cases h; exact .inl ⟨_, rfl, q⟩
    · cases hg
      cases dr with | cons h r => cases r; cases h; exact .inr ⟨_, rfl, q⟩
    · cases hg), fun ds z hg => by
    unfold gInt at hg
    split at hg <;> cases hg <;> rfl⟩
def gMax : List D → Option D
  | [.int i, .int j] => some (.int (if j > i then j else i))
  | _ => none
def gMin : List D → Option D
  | [.int i, .int j] => some (.int (if j < i then j else i))
  | _ => none
theorem fc_max (hc : X.calm = true) : FC X (.builtin "max") (fun xs H Q => ∃ i j, xs = [.int i, .int j] ∧ Q (.int (if j > i then j else i)) H) gMax :=
  ⟨call_max2 hc, fun H vs ds z Q dr hg q => (by
    unfold gMax at hg
    split at hg
    · cases hg
      cases dr with | cons h r => cases r with | cons h2 r => cases r; cases h; cases h2; exact ⟨_, _, rfl, q⟩
    · cases hg), fun ds z hg => by
    unfold gMax at hg
    split at hg <;> cases hg <;> rfl⟩
theorem fc_min (hc : X.calm = true) : FC X (.builtin "min") (fun xs H Q => ∃ i j, xs = [.int i, .int j] ∧ Q (.int (if j < i then j else i)) H) gMin :=
  ⟨call_min2 hc, fun H vs ds z Q dr hg q => (by
    unfold gMin at hg
    split at hg
    · cases hg
      cases dr with | cons h r => cases r with | cons h2 r => cases r; cases h; cases h2; exact ⟨_, _, rfl, q⟩
    · cases hg), fun ds z hg => by
    unfold gMin at hg
    split at hg <;> cases hg <;> rfl⟩
def gAbs : List D → Option D
  | [.int i] => some (.int (if i < 0 then -i else i))
  | _ => none
theorem fc_abs : FC X (.builtin "abs") (fun xs H Q => ∃ i, xs = [.int i] ∧ Q (.int (if i < 0 then -i else i)) H) gAbs :=
  ⟨call_abs, fun H vs ds z Q dr hg q => (by
    unfold gAbs at hg
    split at hg
    · cases hg
      cases dr with | cons h r => cases r; cases h; exact ⟨_, rfl, q⟩
    · cases hg), fun ds z hg => by
    unfold gAbs at hg
    split at hg <;> cases hg <;> rfl⟩
def blsOf : List D → Option (List Bool)
  | [] => some []
  | .bl b :: ds => (blsOf ds).map (b :: ·)
  | _ => none
theorem blsOf_V {G : Gx} {H : Hp} : ∀ {vs : List V} {ds : List D} {bs : List Bool}, DRs G H vs ds → blsOf ds = some bs → vs = bs.map V.bl
  | _, _, _, .nil, e => by cases e; rfl
  | _, _, _, .cons h r, e => by
    cases h <;> simp [blsOf] at e
    obtain ⟨bs, e1, rfl⟩ := e
    rw [blsOf_V r e1]
    rfl
def gAll : List D → Option D
  | [.lst ds] => (blsOf ds).map fun bs => .bl (bs.all id)
  | _ => none
def gAny : List D → Option D
  | [.lst ds] => (blsOf ds).map fun bs => .bl (bs.any id)
  | _ => none
theorem fc_all (hc : X.calm = true) : FC X (.builtin "all") (rAll X.K) gAll :=
  ⟨cr_all hc, fun H vs ds z Q dr hg q => (by
    unfold gAll at hg
    split at hg
    · obtain ⟨bs, e1, rfl⟩ := Option.map_eq_some_iff.mp hg
      cases dr with | cons h r => cases r; cases h with | lst ha r => exact ⟨_, bs, rfl, by rw [← blsOf_V r e1]; exact .inl ha, q⟩
    · cases hg), fun ds z hg => by
    unfold gAll at hg
    split at hg
    · obtain ⟨bs, e1, rfl⟩ := Option.map_eq_some_iff.mp hg
      rfl
    · cases hg⟩
theorem fc_any (hc : X.calm = true) : FC X (.builtin "any") (rAny X.K) gAny :=
  ⟨cr_any hc, fun H vs ds z Q dr hg q => (by
    unfold gAny at hg
    split at hg
    · obtain ⟨bs, e1, rfl⟩ := Option.map_eq_some_iff.mp hg
      cases dr with | cons h r => cases r; cases h with | lst ha r => exact ⟨_, bs, rfl, by rw [← blsOf_V r e1]; exact .inl ha, q⟩
    · cases hg), fun ds z hg => by
    unfold gAny at hg
    split at hg
    · obtain ⟨bs, e1, rfl⟩ := Option.map_eq_some_iff.mp hg
      rfl
    · cases hg⟩
def intsOf : List D → Option (List Int)
  | [] => some []
  | .int i :: ds => (intsOf ds).map (i :: ·)
  | _ => none
theorem intsOf_V {G : Gx} {H : Hp} : ∀ {vs : List V} {ds : List D} {bs : List Int}, DRs G H vs ds → intsOf ds = some bs → vs = bs.map V.int
  | _, _, _, .nil, e => by cases e; rfl
  | _, _, _, .cons h r, e => by
    cases h <;> simp [intsOf] at e
    obtain ⟨bs, e1, rfl⟩ := e
    rw [intsOf_V r e1]
    rfl
def strsOf : List D → Option (List Str)
  | [] => some []
  | .str x :: ds => (strsOf ds).map (x :: ·)
  | _ => none
theorem strsOf_V {G : Gx} {H : Hp} : ∀ {vs : List V} {ds : List D} {bs : List Str}, DRs G H vs ds → strsOf ds = some bs → vs = bs.map V.str
  | _, _, _, .nil, e => by cases e; rfl
  | _, _, _, .cons h r, e => by
    cases h <;> simp [strsOf] at e
    obtain ⟨bs, e1, rfl⟩ := e
    rw [strsOf_V r e1]
    rfl
def gSum : List D → Option D
  | [.lst ds] => (intsOf ds).map fun bs => .int bs.sum
  | _ => none
theorem fc_sum (hc : X.calm = true) : FC X (.builtin "sum") (rSum X.K) gSum :=
  ⟨cr_sum hc, fun H vs ds z Q dr hg q => (by
    unfold gSum at hg
    split at hg
    · obtain ⟨bs, e1, rfl⟩ := Option.map_eq_some_iff.mp hg
      cases dr with | cons h r => cases r; cases h with | lst ha r => exact ⟨_, bs, rfl, by rw [← intsOf_V r e1]; exact .inl ha, q⟩
    · cases hg), fun ds z hg => by
    unfold gSum at hg
    split at hg
    · obtain ⟨bs, e1, rfl⟩ := Option.map_eq_some_iff.mp hg
      rfl
    · cases hg⟩
def gStr : List D → Option D
  | [.int i] => if i.natAbs.log2 < 1920 then some (.str (toString i)) else none
  | [.str x] => some (.str x)
  | _ => none
theorem fc_str : FC X (.type "str") (fun xs H Q => (∃ i, xs = [.int i] ∧ i.natAbs.log2 < 1920 ∧ Q (.str (toString i)) H) ∨ ∃ a, xs = [.str a] ∧ Q (.str a) H) gStr :=
  ⟨fun pins s σ H xs us Q I r h => h.elim (call_str_int pins s σ H xs us Q I r) (SkE.call_str_str pins s σ H xs us Q I r), fun H vs ds z Q dr hg q => (by
    unfold gStr at hg
    split at hg
    · split at hg
      · rename_i hz
        cases hg
        cases dr with | cons h r => cases r; cases h; exact .inl ⟨_, rfl, hz, q⟩
      · cases hg
    · cases hg
      cases dr with | cons h r => cases r; cases h; exact .inr ⟨_, rfl, q⟩
    · cases hg), fun ds z hg => by
    unfold gStr at hg
    split at hg
    · split at hg <;> cases hg <;> rfl
    · cases hg; rfl
    · cases hg⟩
/-- repr: where no repr is under way -/
def gRepr : List D → Option D
  | [d] => match d.py with
    | some p => if p.showable = true ∧ p.shown.length ≤ sizeLine ∧ p.depth ≤ 60 then some (.str p.shown) else none
    | none => none
  | _ => none
def rRepr (K : PySem.W.Frag) : List V → Hp → VK → Prop := fun xs H Q => ∃ x p, xs = [x] ∧ Dp K H x p ∧ (p.showable = true ∧ p.shown.length ≤ sizeLine ∧ p.depth ≤ 60) ∧ Q (.str p.shown) H
theorem py_noDict : ∀ {x : V} {p : PyData} {K : PySem.W.Frag} {H : Hp}, Dp K H x p → p.hasDict = false := by
  intro x p K H h
  refine Dp.rec (motive_1 := fun _ p _ => p.hasDict = false) (motive_2 := fun _ ps _ => PyData.hasDictAll ps = false) ?_ ?_ ?_ ?_ ?_ ?_ ?_ ?_ h
  · simp [PyData.hasDict]
  · intro b; simp [PyData.hasDict]
  · intro b; simp [PyData.hasDict]
  · intro b; simp [PyData.hasDict]
  · intro a xs ds _ _ ih; simpa [PyData.hasDict] using ih
  · intro a xs ds _ _ ih; simpa [PyData.hasDict] using ih
  · simp [PyData.hasDictAll]
  · intro v vs d ds _ _ i1 i2; simp [PyData.hasDictAll, i1, i2]
theorem call_repr {k : Nat} (hg : X.A.guards = some []) (hr : Room k X.A) : CallR X (.builtin "repr") (rRepr X.K) := by
  rintro pins s σ H xs us Q I r ⟨x, p, rfl, hd, ⟨h1, h2, h3⟩, q⟩
  obtain ⟨u, rfl, ru⟩ := vals1 r
  have hu := hr.units
  have nd := py_noDict hd
  cases hd with
  | non => cases ru; exact PySem.P.repr_of_none ⟨.str _, H, I.tok _, ⟨s.toks, by simp only [PyData.shown]⟩, q⟩
  | bl b => cases ru; exact PySem.P.repr_of_bool ⟨.str _, H, I.tok _, ⟨s.toks, by simp only [PyData.shown]⟩, q⟩
  | int i =>
    obtain ⟨t, rfl⟩ := ru
    exact PySem.P.repr_of_int (by simpa [PyData.showable] using h1) ⟨.str _, H, I.tok _, ⟨s.toks, by simp only [PyData.shown]⟩, q⟩
  | str z =>
    obtain ⟨t, rfl⟩ := ru
    exact PySem.P.repr_of_str ⟨.str _, H, I.tok _, ⟨s.toks, by simp only [PyData.shown]⟩, q⟩ (by simpa [PyData.shown] using h2)
  | lst ha r' =>
    obtain ⟨as, rd⟩ := Dp.reads I _ _ u (Dp.lst ha r') ru
    cases ru
    exact repr_of_reads' rd h1 (fun e => by rw [nd] at e; cases e) hg (by omega) (fun _ _ z => z) (fun h' u tk k => ⟨.str _, H, I.kept (t' := tk) k, ⟨_, rfl⟩, q⟩) h2
  | tup ha r' =>
    obtain ⟨as, rd⟩ := Dp.reads I _ _ u (Dp.tup ha r') ru
    cases ru
    exact repr_of_reads' rd h1 (fun e => by rw [nd] at e; cases e) hg (by omega) (fun _ _ z => z) (fun h' u tk k => ⟨.str _, H, I.kept (t' := tk) k, ⟨_, rfl⟩, q⟩) h2
theorem fc_repr {k : Nat} (hg : X.A.guards = some []) (hr : Room k X.A) : FC X (.builtin "repr") (rRepr X.K) gRepr :=
  ⟨call_repr hg hr, fun H vs ds z Q dr hg q => (by
    unfold gRepr at hg
    split at hg
    · split at hg
      · rename_i p e1
        split at hg
        · rename_i hz
          cases hg
          cases dr with | cons h r => cases r; exact ⟨_, p, rfl, h.dp e1, hz, q⟩
        · cases hg
      · cases hg
    · cases hg), fun ds z hg => by
    unfold gRepr at hg
    split at hg
    · split at hg
      · split at hg <;> cases hg <;> rfl
      · cases hg
    · cases hg⟩

/-! ### list(x), tuple(x), sorted(x) -/
def gListOf : List D → Option D
  | [.lst xs] => some (.lst xs)
  | [.tup xs] => some (.lst xs)
  | _ => none
theorem sc_list : SC X (.type "list") (fun xs H Q => ∃ p ys, xs = [.ref p] ∧ (SqL X.K H p ys ∨ SqT X.K H p ys) ∧ ∀ l, H l = none → Q (.ref l) (upd H l (.lst ys))) gListOf :=
  ⟨call_list_of, fun Z H vs ds z Q sz dr hg q => by
    unfold gListOf at hg
    split at hg
    · cases hg
      cases dr with | cons h r => cases r; cases h with | lst ha r => exact ⟨_, _, rfl, .inl (.inl (same_rd sz ha)), fun l hl => q.lst _ rfl l _ r hl⟩
    · cases hg
      cases dr with | cons h r => cases r; cases h with | tup ha r => exact ⟨_, _, rfl, .inr (same_seqT sz ha), fun l hl => q.lst _ rfl l _ r hl⟩
    · cases hg⟩
def gTupOf : List D → Option D
  | [.lst xs] => some (.tup xs)
  | [.tup xs] => some (.tup xs)
  | _ => none
theorem sc_tuple : SC X (.type "tuple") (fun xs H Q => ∃ p ys, xs = [.ref p] ∧ ((SqL X.K H p ys ∧ ∀ l, H l = none → Q (.ref l) (upd H l (.tup ys))) ∨ (SqT X.K H p ys ∧ Q (.ref p) H))) gTupOf :=
  ⟨call_tuple_of, fun Z H vs ds z Q sz dr hg q => by
    unfold gTupOf at hg
    split at hg
    · cases hg
      cases dr with | cons h r => cases r; cases h with | lst ha r => exact ⟨_, _, rfl, .inl ⟨.inl (same_rd sz ha), fun l hl => q.tup _ rfl l _ r hl⟩⟩
    · cases hg
      cases dr with | cons h r => cases r; cases h with | tup ha r => exact ⟨_, _, rfl, .inr ⟨same_seqT sz ha, q.old (fun _ => by simp) _ (.tup ha r)⟩⟩
    · cases hg⟩
end
end Vl

/-! Vl9: what is walked, for, targets, list.append, comprehensions. -/
namespace Vl
open PySem PySem.Spec PyProof.Rows L2

section
variable {G : Gx} {Z H : Hp} {σ : L2.St} {ρ : Env} {fp : List Addr}
theorem RTs.snoc {v : V} {t : T} {g : List Addr} (h : RT G Z H v t g) : ∀ {vs : List V} {ts : List T} {f : List Addr}, RTs G Z H vs ts f → RTs G Z H (vs ++ [v]) (ts ++ [t]) (f ++ g)
  | _, _, _, .nil => by simpa using RTs.cons h .nil
  | _, _, _, .cons h' r => by
    have := RTs.cons h' (RTs.snoc h r)
    simpa using this
/-- a temporary (in front) appended to a slot's own list -/
theorem SOk.app {y : V} {t : T} {i : Nat} {ts : List T} (s : SOk G Z H (some y :: σ) (some t :: ρ) fp) (e : ρ[i]? = some (some (.lst ts))) :
    ∃ a vs, σ[i]? = some (some (.ref a)) ∧ H a = some (.lst vs) ∧ vs.length = ts.length ∧ ∃ g, SOk G Z (upd H a (.lst (vs ++ [y]))) σ (ρ.set i (some (.lst (ts ++ [t])))) g ∧ Stp Z H fp Z (upd H a (.lst (vs ++ [y]))) g := by
  have fr := s.fr
  have nd := s.nd
  obtain ⟨ft, g0, rfl, h, q, dj, ndt⟩ := s.tmp
  obtain ⟨v, l, f, k, hv, rt, rfl, put⟩ := q.sl.at e
  cases rt with
  | @lst a vs _ f' ha r =>
    have nda := nd
    have p : List.Perm (l ++ ((a :: (f' ++ ft)) ++ k)) (ft ++ (l ++ ((a :: f') ++ k))) := by
      refine List.perm_iff_count.mpr fun x => ?_
      simp only [List.count_append, List.count_cons]
      omega
    have nd2 : (l ++ ((a :: (f' ++ ft)) ++ k)).Nodup := p.nodup_iff.mpr nd
    have n1 := List.nodup_append.mp nd2
    have n2 := List.nodup_append.mp n1.2.1
    have n3 := List.nodup_cons.mp n2.1
    have zn : Z a = none := fr a (by simp)
    have ne : ∀ b, b ∈ l ++ k → b ≠ a := fun b hb z => by
      subst z
      rcases List.mem_append.mp hb with w | w
      · exact n1.2.2 b w b (by simp) rfl
      · exact n2.2.2 b (by simp) b w rfl
    have ne2 : ∀ b, b ∈ f' ++ ft → b ≠ a := fun b hb z => n3.1 (z ▸ hb)
    have sub' : Same Z (upd H a (.lst (vs ++ [y]))) := fun b o eb => by
      rw [upd_ne (fun z => by rw [z, zn] at eb; cases eb)]
      exact q.sub b o eb
    have rt' : RT G Z (upd H a (.lst (vs ++ [y]))) (.ref a) (.lst (ts ++ [t])) (a :: (f' ++ ft)) :=
      .lst upd_same (RTs.snoc (h.keep (Same.refl _) fun b hb => upd_ne (ne2 b (List.mem_append_right _ hb))) (r.keep (Same.refl _) fun b hb => upd_ne (ne2 b (List.mem_append_left _ hb))))
    have sl' := (put Z (upd H a (.lst (vs ++ [y]))) (Same.refl _) fun b hb => upd_ne (ne b hb)).2 _ _ _ rt'
    rw [set_same hv] at sl'
    have mem : ∀ b, b ∈ l ++ ((a :: (f' ++ ft)) ++ k) → b ∈ ft ++ (l ++ ((a :: f') ++ k)) := fun b hb => p.mem_iff.mp hb
    exact ⟨a, vs, hv, ha, r.length, _, ⟨sub', sl', nd2, fun b hb => fr b (mem b hb)⟩, ⟨Same.refl _, fun b o eb hb => by
      rw [upd_ne (fun z => hb (by rw [z]; simp))]
      exact eb, fun b o eb n => (by rw [n] at eb; cases eb), fun b hb => .inr (mem b hb)⟩⟩
end

/-! ### targets -/
structure VG (X : Cx) (P : List Nat) (tg : Expr) (g : TG) (m : D → Env → Option Env) : Prop where
  pg : PG X tg g
  len : ∀ d ρ ρ', m d ρ = some ρ' → ρ'.length = ρ.length
  sm : ∀ Z H σ ρ ρ' fp v d (Q : L2.St → Hp → Prop), SOk (gx X) Z H σ ρ fp → DR (gx X) Z v d → m d ρ = some ρ' → (∀ σ' fp', Stp Z H fp Z H fp' → SOk (gx X) Z H σ' ρ' fp' → Pin P σ σ' → Q σ' H) → g v σ H Q
structure VGs (X : Cx) (P : List Nat) (tgs : List Expr) (g : TGs) (m : List D → Env → Option Env) : Prop where
  pg : PGs X tgs g
  len : ∀ d ρ ρ', m d ρ = some ρ' → ρ'.length = ρ.length
  sm : ∀ Z H σ ρ ρ' fp vs ds (Q : L2.St → Hp → Prop), SOk (gx X) Z H σ ρ fp → DRs (gx X) Z vs ds → m ds ρ = some ρ' → (∀ σ' fp', Stp Z H fp Z H fp' → SOk (gx X) Z H σ' ρ' fp' → Pin P σ σ' → Q σ' H) → g vs σ H Q
section
variable {X : Cx} {W : WX} {P : List Nat} {pos : Pos}
def tgN (i : Nat) : D → Env → Option Env := fun d ρ => some (ρ.set i (some (.fro d)))
theorem vg_name {i : Nat} {x : Str} (hN : X.N.Nodup) (hi : X.N[i]? = some x) (hx : Loc X.env.scope x) (hp : i ∉ P) (hf : X.fn x = true ∨ X.env.scope.names.lookup x = some .local := by first | exact .inl rfl | exact .inr rfl | assumption) : VG X P (.Name x pos) (gName i) (tgN i) :=
  ⟨pg_name hN hi hx hf, (fun d ρ ρ' e => by cases e; simp), fun Z H σ ρ ρ' fp v d Q s dr e q => by
    cases e
    obtain ⟨g, s', k⟩ := (s.pushD dr).assign i
    exact q _ g (Stp.refl.less k) s' (pin_set hp)⟩
theorem vgs_nil : VGs X P [] gNil (fun ds ρ => match ds with | [] => some ρ | _ => none) :=
  ⟨pgs_nil, (fun d ρ ρ' e => by
    split at e
    · cases e; rfl
    · cases e), fun Z H σ ρ ρ' fp vs ds Q s dr e q => by
    cases dr with
    | nil => cases e; exact ⟨rfl, q σ fp Stp.refl s Pin.refl⟩
    | cons => cases e⟩
def tgC (m : D → Env → Option Env) (n : List D → Env → Option Env) : List D → Env → Option Env := fun ds ρ => match ds with
  | d :: r => match m d ρ with
    | some ρ1 => n r ρ1
    | none => none
  | [] => none
theorem vgs_cons {e : Expr} {es : List Expr} {t : TG} {u : TGs} {m : D → Env → Option Env} {n : List D → Env → Option Env} (h1 : VG X P e t m) (h2 : VGs X P es u n)
    (hs : (assignEach (e :: es) X.env).map (·.2) = assign e X.env :: (assignEach es X.env).map (·.2) := by rfl) : VGs X P (e :: es) (gCons t u) (tgC m n) :=
  ⟨pgs_cons h1.pg h2.pg hs, (fun d ρ ρ' e => by
    unfold tgC at e
    split at e
    · split at e
      · rename_i ρ1 e1
        rw [h2.len _ _ _ e, h1.len _ _ _ e1]
      · cases e
    · cases e), fun Z H σ ρ ρ' fp vs ds Q s dr e q => by
    cases dr with
    | nil => cases e
    | cons d1 dr =>
      unfold tgC at e
      dsimp only at e
      split at e
      · rename_i ρ1 e1
        refine ⟨_, _, rfl, h1.sm Z H σ ρ ρ1 fp _ _ _ s d1 e1 fun σ1 fp1 st1 s1 p1 => ?_⟩
        exact h2.sm Z H σ1 ρ1 ρ' fp1 _ _ Q s1 dr e fun σ2 fp2 st2 s2 p2 => q σ2 fp2 (st1.trans st2) s2 (p1.trans p2)
      · cases e⟩
def tgT (n : List D → Env → Option Env) (k : Nat) : D → Env → Option Env := fun d ρ => match d with
  | .tup ds => if ds.length = k then n ds ρ else none
  | _ => none
theorem vg_tup {es : List Expr} {k : Nat} {t : TGs} {n : Nat} {m : List D → Env → Option Env} (hc : X.calm = true) (h : VGs X P es t m) (hn : (assignEach es X.env).length = n := by rfl) (hst : (assignEach es X.env).findIdx? (·.1) = none := by rfl) :
    VG X P (.Tuple es k pos) (gTup X.K n t) (tgT m n) :=
  ⟨pg_tup hc h.pg hn hst, (fun d ρ ρ' e => by
    unfold tgT at e
    split at e
    · split at e
      · exact h.len _ _ _ e
      · cases e
    · cases e), fun Z H σ ρ ρ' fp v d Q s dr e q => by
    unfold tgT at e
    split at e
    · split at e
      · rename_i ds hl
        cases dr with
        | tup ha r => exact ⟨_, _, rfl, same_seqT s.sub ha, by rw [r.length, hl], h.sm Z H σ ρ ρ' fp _ _ Q s r e q⟩
      · cases e
    · cases e⟩

/-! ### what is walked -/
structure ItOk (G : Gx) (Z : Hp) (J : It) (ds : List D) : Prop where
  go : ∀ i H, i < ds.length → Same Z H → J.go i H
  stop : ∀ H, Same Z H → J.stop ds.length H
  yld : ∀ i H x H', i < ds.length → Same Z H → J.yld i H x H' → ∃ d, ds[i]? = some d ∧ ((H' = H ∧ DR G Z x d) ∨ ∃ T x1 x2 d1 d2, x = .ref T ∧ H T = none ∧ H' = upd H T (.tup [x1, x2]) ∧ d = .tup [d1, d2] ∧ DR G Z x1 d1 ∧ DR G Z x2 d2)
structure VI (X : Cx) (W : WX) (tg iter : Expr) (wi : TI) (m : Env → Out (List D)) : Prop where
  pi : PI X tg iter wi
  sm : ∀ Z H σ ρ fp (R : It → Hp → Prop), SOk (gx X) Z H σ ρ fp → Post (gx X) W Z H σ fp (fun ds ρ' => ∀ J Z' H' fp', Stp Z H fp Z' H' fp' → SOk (gx X) Z' H' σ ρ' fp' → ItOk (gx X) Z' J ds → R J H') (m ρ) → wi σ H R
variable {tg : Expr}
/-- a list, a tuple, a text -/
def iAny (K : PySem.W.Frag) (tl : TE) : TI := fun σ H R => tl σ H fun x H1 => (∃ a xs, x = .ref a ∧ SqL K H1 a xs ∧ R (Itl K a) H1) ∨ (∃ a xs, x = .ref a ∧ SqT K H1 a xs ∧ R (Itt K a) H1) ∨ ∃ z, x = .str z ∧ R (Its z) H1
theorem pi_any {l : Expr} {tl : TE} (hl : PE X l tl) : PI X tg l (iAny X.K tl) := by
  refine ⟨fun pins s σ H R I h => thn (hl.run pins s σ H _ I h) fun v s1 hh => ?_⟩
  obtain ⟨x, H1, I1, r1, ⟨a, xs, rfl, hq, q⟩ | ⟨a, xs, rfl, hq, q⟩ | ⟨z, rfl, q⟩⟩ := hh
  · cases r1
    obtain ⟨its, _, pl, _⟩ := I1.list hq
    exact wpAny_pyIter_list pl.isList (pi_one (tk := s1.toks) I1 _ (turn_list a _) ⟨_, Heap.get?_push_size _ rfl, rfl, rfl⟩ q)
  · cases r1
    obtain ⟨its, _, pl, _⟩ := I1.tuple hq
    exact wpAny_pyIter_tuple (show s1.heap.IsTuple a its.toArray from pl) (pi_one (tk := s1.toks) I1 _ (turn_tuple a _) ⟨_, Heap.get?_push_size _ rfl, rfl, rfl⟩ q)
  · obtain ⟨t, rfl⟩ := r1
    cases hz : z.cps.all (· < 128) with
    | false => exact wpAny_pyIter_wide hz (pi_one (tk := s1.toks) I1 _ (turn_str _ z t "str_iterator" (.inr rfl)) ⟨_, Heap.get?_push_size _ rfl, rfl, rfl⟩ q)
    | true => exact wpAny_pyIter_ascii hz (pi_one (tk := s1.toks) I1 _ (turn_str _ z t "str_ascii_iterator" (.inl rfl)) ⟨_, Heap.get?_push_size _ rfl, rfl, rfl⟩ q)
/-- what a thing's items are -/
def itemsD : D → Option (List D)
  | .lst ds => some ds
  | .tup ds => some ds
  | .str z => some (z.cps.toList.map fun c => .str ⟨#[c]⟩)
  | _ => none
def mIt (m : Env → Out AV) : Env → Out (List D) := fun ρ => obind (m ρ) fun av ρ1 => match fz av ρ1 with
  | some (t, ρ2) => match itemsD t.er with
    | some ds => some (.ok ds, ρ2)
    | none => none
  | none => none
theorem it_list {G : Gx} {Z : Hp} {a : Addr} {vs : List V} {ds : List D} (hq : Rd Z a (.lst vs)) (r : DRs G Z vs ds) : ItOk G Z (Itl G.1 a) ds := by
  have w := walk_list (K := G.1) (a := a) (xs := vs)
  rw [r.length] at w
  have hs : ∀ H, Same Z H → SqL G.1 H a vs := fun H s => .inl (same_rd s hq)
  refine ⟨fun i H hi s => w.goes i H hi (hs H s), fun H s => w.stops H (hs H s), fun i H x H' hi s y => ?_⟩
  obtain ⟨e1, e2⟩ := w.yields i H x H' hi (hs H s) y
  obtain ⟨d, e3, dr⟩ := r.get e2
  exact ⟨d, e3, .inl ⟨e1, dr⟩⟩
theorem it_tup {G : Gx} {Z : Hp} {a : Addr} {vs : List V} {ds : List D} (hq : SqT G.1 Z a vs) (r : DRs G Z vs ds) : ItOk G Z (Itt G.1 a) ds := by
  have w := walk_tup (K := G.1) (a := a) (xs := vs)
  rw [r.length] at w
  have hs : ∀ H, Same Z H → SqT G.1 H a vs := fun H s => same_seqT s hq
  refine ⟨fun i H hi s => w.goes i H hi (hs H s), fun H s => w.stops H (hs H s), fun i H x H' hi s y => ?_⟩
  obtain ⟨e1, e2⟩ := w.yields i H x H' hi (hs H s) y
  obtain ⟨d, e3, dr⟩ := r.get e2
  exact ⟨d, e3, .inl ⟨e1, dr⟩⟩
theorem it_str {G : Gx} {Z : Hp} {z : Str} : ItOk G Z (Its z) (z.cps.toList.map fun c => .str ⟨#[c]⟩) := by
  have w := walk_str (z := z)
  have hl : (z.cps.toList.map fun c => D.str ⟨#[c]⟩).length = z.cps.size := by simp
  refine ⟨fun i H hi s => w.goes i H (by rw [← hl]; exact hi) trivial, fun H s => by rw [hl]; exact w.stops H trivial, fun i H x H' hi s y => ?_⟩
  obtain ⟨e1, c, e2, rfl⟩ := w.yields i H x H' (by rw [← hl]; exact hi) trivial y
  exact ⟨.str ⟨#[c]⟩, by simp [e2], .inl ⟨e1, .str _⟩⟩
/-- fz, then all frozen -/
theorem fz_fro {G : Gx} {Z H : Hp} {σ : L2.St} {ρ ρ' : Env} {fp : List Addr} {v : V} {av : AV} {t : T} (s : SOk G Z H (some v :: σ) (av.sl :: ρ) fp) (a : av.at σ v) (e : fz av ρ = some (t, ρ')) :
    ∃ Z1 g, Stp Z H fp Z1 H g ∧ DR G Z1 v t.er ∧ SOk G Z1 H σ ρ' g := by
  obtain ⟨Z1, g1, st1, s1⟩ := fz_ok s a e
  obtain ⟨Z2, g2, st2, dr, _, s3⟩ := SOk.frzTmp s1
  exact ⟨Z2, g2, st1.trans st2, dr, s3⟩
theorem vi_any {e : Expr} {te : TE} {m : Env → Out AV} (he : VE X W e te m) : VI X W tg e (iAny X.K te) (mIt m) :=
  ⟨pi_any he.pe, fun Z H σ ρ fp R s h => by
    refine he.sm Z H σ ρ fp _ s (h.bind.mono fun av ρ1 h1 => ?_)
    intro v Z1 H1 fp1 st1 s1 at1
    split at h1
    · rename_i t ρ2 ef
      split at h1
      · rename_i ds ed
        obtain ⟨Z2, g, st2, dr, s2⟩ := fz_fro s1 at1 ef
        unfold itemsD at ed
        split at ed
        · rename_i ds' et
          cases ed
          rw [et] at dr
          cases dr with
          | lst ha r => exact .inl ⟨_, _, rfl, .inl (same_rd s2.sub ha), h1 _ Z2 H1 g (st1.trans st2) s2 (it_list ha r)⟩
        · rename_i ds' et
          cases ed
          rw [et] at dr
          cases dr with
          | tup ha r => exact .inr (.inl ⟨_, _, rfl, same_seqT s2.sub ha, h1 _ Z2 H1 g (st1.trans st2) s2 (it_tup ha r)⟩)
        · rename_i z et
          cases ed
          rw [et] at dr
          cases dr
          exact .inr (.inr ⟨z, rfl, h1 _ Z2 H1 g (st1.trans st2) s2 it_str⟩)
        · cases ed
      · exact h1.elim
    · exact h1.elim⟩
/-- range(n), range(a, b) -/
def rngD (lo hi : Int) : List D := (List.range (hi - lo).toNat).map fun (k : Nat) => D.int (lo + (k : Int))
theorem it_rng {G : Gx} {Z : Hp} {lo : Int} {n : Nat} : ItOk G Z (Itr lo n) ((List.range n).map fun (k : Nat) => D.int (lo + (k : Int))) := by
  have w := walk_range (lo := lo) (n := n)
  have hl : ((List.range n).map fun (k : Nat) => D.int (lo + (k : Int))).length = n := by simp
  refine ⟨fun i H hi s => w.goes i H (by rw [← hl]; exact hi) trivial, fun H s => by rw [hl]; exact w.stops H trivial, fun i H x H' hi s y => ?_⟩
  rw [hl] at hi
  obtain ⟨e1, rfl⟩ := w.yields i H x H' hi trivial y
  exact ⟨.int (lo + (i : Int)), by simp [hi], .inl ⟨e1, .int _⟩⟩
def mRng (ma : Env → Out (List AV)) : Env → Out (List D) := fun ρ => obind (ma ρ) fun avs ρ1 => match peekAll ρ1 avs with
  | some [.int j] => if j ≤ 1000000 ∧ -1000000 ≤ j then some (.ok (rngD 0 j), ρ1) else none
  | some [.int i, .int j] => if (j ≤ 1000000 ∧ -1000000 ≤ j) ∧ (i ≤ 1000000 ∧ -1000000 ≤ i) then some (.ok (rngD i j), ρ1) else none
  | _ => none
theorem vi_range1 {a : Expr} {ta : TA} {ma : Env → Out (List AV)} {p : Pos} (hg : Gl X "range") (hm : X.mg "range" = none) (ha : VA X W [a] ta ma) (hs : starEach [a] X.env = [(false, eval a X.env)] := by rfl) : VI X W tg (.Call (.Name "range" p) [a] [] pos) (iRng1 ta) (mRng ma) :=
  ⟨pi_range1 hg hm ha.pa hs, fun Z H σ ρ fp R s h => by
    refine ha.sm Z H σ ρ fp _ s (h.bind.monoE fun avs ρ1 ee h1 => ?_)
    intro vs Z1 H1 fp1 st1 s1 at1
    have hlen := ha.len _ _ _ ee
    split at h1
    · rename_i j ep
      split at h1
      · rename_i hj
        have dr : DRs (gx X) H1 vs [.int j] := s1.peekAt (vs0 := []) (avs0 := []) rfl rfl rfl at1 ep
        obtain ⟨g', s2, k2⟩ := SOk.dropAll (avAt_len at1) s1
        cases dr with
        | cons d dr =>
          cases dr
          cases d
          refine ⟨j, rfl, by omega, by omega, h1 _ Z1 H1 g' (st1.less k2) s2 ?_⟩
          have := it_rng (G := gx X) (Z := Z1) (lo := 0) (n := j.toNat)
          unfold rngD
          simpa using this
      · exact h1.elim
    · rename_i i j ep
      have := avAt_len at1
      have dr : DRs (gx X) H1 vs [.int i, .int j] := s1.peekAt (vs0 := []) (avs0 := []) rfl rfl rfl at1 ep
      have := dr.length
      simp at this hlen
      omega
    · exact h1.elim⟩
theorem vi_range2 {a b : Expr} {ta : TA} {ma : Env → Out (List AV)} {p : Pos} (hg : Gl X "range") (hm : X.mg "range" = none) (ha : VA X W [a, b] ta ma) (hs : starEach [a, b] X.env = [(false, eval a X.env), (false, eval b X.env)] := by rfl) (hs2 : starEach [b] X.env = [(false, eval b X.env)] := by rfl) :
    VI X W tg (.Call (.Name "range" p) [a, b] [] pos) (iRng2 ta) (mRng ma) :=
  ⟨pi_range2 hg hm ha.pa hs hs2, fun Z H σ ρ fp R s h => by
    refine ha.sm Z H σ ρ fp _ s (h.bind.monoE fun avs ρ1 ee h1 => ?_)
    intro vs Z1 H1 fp1 st1 s1 at1
    have hlen := ha.len _ _ _ ee
    split at h1
    · rename_i j ep
      have := avAt_len at1
      have dr : DRs (gx X) H1 vs [.int j] := s1.peekAt (vs0 := []) (avs0 := []) rfl rfl rfl at1 ep
      have := dr.length
      simp at this hlen
      omega
    · rename_i i j ep
      split at h1
      · rename_i hj
        have dr : DRs (gx X) H1 vs [.int i, .int j] := s1.peekAt (vs0 := []) (avs0 := []) rfl rfl rfl at1 ep
        obtain ⟨g', s2, k2⟩ := SOk.dropAll (avAt_len at1) s1
        cases dr with
        | cons d dr =>
          cases dr with
          | cons d2 dr =>
            cases dr
            cases d
            cases d2
            refine ⟨i, j, rfl, by omega, h1 _ Z1 H1 g' (st1.less k2) s2 ?_⟩
            exact it_rng (G := gx X) (Z := Z1) (lo := i) (n := (j - i).toNat)
      · exact h1.elim
    · exact h1.elim⟩
/-- enumerate of a list -/
def enD (ds : List D) : List D := (List.range ds.length).zipWith (fun (k : Nat) (d : D) => D.tup [.int (k : Int), d]) ds
theorem it_enum {G : Gx} {Z : Hp} {a : Addr} {vs : List V} {ds : List D} (hq : Rd Z a (.lst vs)) (r : DRs G Z vs ds) : ItOk G Z (Ite G.1 a) (enD ds) := by
  have w := walk_enum (K := G.1) (a := a) (xs := vs)
  have hl : (enD ds).length = vs.length := by simp [enD, r.length]
  have hs : ∀ H, Same Z H → SqL G.1 H a vs := fun H s => .inl (same_rd s hq)
  refine ⟨fun i H hi s => w.goes i H (by rw [← hl]; exact hi) (hs H s), fun H s => by rw [hl]; exact w.stops H (hs H s), fun i H x H' hi s y => ?_⟩
  rw [hl] at hi
  obtain ⟨T, x1, x2, rfl, h1, h2, h3, h4⟩ := w.yields i H x H' hi (hs H s) y
  obtain ⟨d, e3, dr⟩ := r.get h4
  have hi2 : i < ds.length := by rw [← r.length]; exact hi
  cases h3
  refine ⟨.tup [.int (i : Int), d], ?_, .inr ⟨T, _, x2, .int (i : Int), d, rfl, h1, h2, rfl, .int _, dr⟩⟩
  unfold enD
  rw [List.getElem?_zipWith, List.getElem?_range hi2, e3]
def mEnum (ma : Env → Out (List AV)) : Env → Out (List D) := fun ρ => obind (ma ρ) fun avs ρ1 => match nrm avs ρ1 with
  | some (ts, ρ2) => match T.erL ts with
    | [.lst ds] => some (.ok (enD ds), ρ2)
    | _ => none
  | none => none
theorem vi_enum {e : Expr} {ta : TA} {ma : Env → Out (List AV)} {p tpos : Pos} {elts : List Expr} {kk : Nat} (hg : Gl X "enumerate") (hm : X.mg "enumerate" = none) (ha : VA X W [e] ta ma) (hs : starEach [e] X.env = [(false, eval e X.env)] := by rfl) :
    VI X W (.Tuple elts kk tpos) (.Call (.Name "enumerate" p) [e] [] pos) (iEnum X.K ta) (mEnum ma) :=
  ⟨pi_enum hg hm ha.pa hs, fun Z H σ ρ fp R s h => by
    refine ha.sm Z H σ ρ fp _ s (h.bind.mono fun avs ρ1 h1 => ?_)
    intro vs Z1 H1 fp1 st1 s1 at1
    split at h1
    · rename_i ts ρ2 en
      split at h1
      · rename_i ds ed
        obtain ⟨hl, Z2, g2, st2, s2⟩ := nrm_ok s1 at1 en
        obtain ⟨Z3, g3, st3, drs, s3⟩ := SOk.frzAll (by rw [avAt_len at1, hl]) s2
        rw [ed] at drs
        cases drs with
        | cons d dr =>
          cases dr
          cases d with
          | lst ha r => exact ⟨_, _, rfl, .inl (same_rd s3.sub ha), h1 _ Z3 H1 g3 (st1.trans (st2.trans st3)) s3 (it_enum ha r)⟩
      · exact h1.elim
    · exact h1.elim⟩

/-! ### for -/
def loopD (tgt : D → Env → Option Env) (body : Env → Out Fl) : List D → Env → Out Fl
  | [], ρ => some (.ok .nx, ρ)
  | d :: ds, ρ => match tgt d ρ with
    | none => none
    | some ρ' => match body ρ' with
      | some (.ok .nx, ρ2) => loopD tgt body ds ρ2
      | some (.ok .ct, ρ2) => loopD tgt body ds ρ2
      | some (.ok .bk, ρ2) => some (.ok .nx, ρ2)
      | o => o
def mFor (mi : Env → Out (List D)) (tgt : D → Env → Option Env) (body : Env → Out Fl) : Env → Out Fl := fun ρ => sbind (mi ρ) fun ds ρ1 => loopD tgt body ds ρ1
/-- the item's own object, where it is a new pair -/
theorem it_item {G : Gx} {Z H H' : Hp} {σ : L2.St} {ρ : Env} {fp : List Addr} {x : V} {d : D} {Z0 : Hp} (s : SOk G Z H σ ρ fp) (hz : Same Z0 Z) (h : (H' = H ∧ DR G Z0 x d) ∨ ∃ T x1 x2 d1 d2, x = .ref T ∧ H T = none ∧ H' = upd H T (.tup [x1, x2]) ∧ d = .tup [d1, d2] ∧ DR G Z0 x1 d1 ∧ DR G Z0 x2 d2) :
    ∃ Z', Stp Z H fp Z' H' fp ∧ SOk G Z' H' σ ρ fp ∧ DR G Z' x d := by
  rcases h with ⟨rfl, dr⟩ | ⟨T, x1, x2, d1, d2, rfl, hT, rfl, rfl, r1, r2⟩
  · exact ⟨Z, Stp.refl, s, dr.mono hz⟩
  · obtain ⟨q1, q2⟩ := s.mkTup (ds := [d1, d2]) (vs := [x1, x2]) (.cons (r1.mono hz) (.cons (r2.mono hz) .nil)) hT
    refine ⟨_, q2, ?_, ?_⟩
    · obtain ⟨g, s1, k⟩ := q1.drop
      obtain ⟨f, g', e, h, s2, _⟩ := SOk.tmp q1
      cases h
      have : g' = fp := by simpa using e.symm
      rw [this] at s2
      exact s2
    · obtain ⟨f, g', e, h, s2, _⟩ := SOk.tmp q1
      cases h
      assumption
theorem vs_for {iter : Expr} {body : List Stmt} {wi : TI} {g : TG} {tb : TS} {mi : Env → Out (List D)} {tgt : D → Env → Option Env} {mb : Env → Out Fl} (hp : PassesOwn (model X.prog X.w) X.A X.env X.xe) (hc : X.calm = true) (hi : VI X W tg iter wi mi) (hg : VG X P tg g tgt) (hb : VSs X W P body tb mb)
    (hs : ∀ x, foldedSetIterable iter X.env x = pure x := by intro _; rfl) : VS X W P (.For tg iter body [] pos) (tFor wi g tb) (mFor mi tgt mb) :=
  ⟨ps_for hp hc hi.pi hg.pg hb.ps hs, fun Z H σ ρ fp D s h => by
    refine hi.sm Z H σ ρ fp _ s (h.bind.mono fun ds ρ1 h1 => ?_)
    intro J Z1 H1 fp1 st1 s1 it
    refine ⟨fun i m σ' H' => m = ds.length - i ∧ i ≤ ds.length ∧ ∃ ρ' Z' fp', SOk (gx X) Z' H' σ' ρ' fp' ∧ Stp Z1 H1 fp1 Z' H' fp' ∧ Pin P σ σ' ∧ PostS (gx X) W P Z' H' σ' fp' D (loopD tgt mb (ds.drop i) ρ'),
      ⟨ds.length, by simp, Nat.zero_le _, ρ1, Z1, fp1, s1, Stp.refl, Pin.refl, by simpa using h1.step st1 Pin.refl⟩, ?_⟩
    rintro i m σ' H' ⟨rfl, hle, ρ', Z', fp', s', st', pn', hpost⟩
    by_cases hlt : i < ds.length
    · refine .inr ⟨it.go i H' hlt (st'.zle.trans s'.sub), fun σ2 H2 => i + 1 ≤ ds.length ∧ ∃ ρ2 Z2 fp2, SOk (gx X) Z2 H2 σ2 ρ2 fp2 ∧ Stp Z1 H1 fp1 Z2 H2 fp2 ∧ Pin P σ σ2 ∧ PostS (gx X) W P Z2 H2 σ2 fp2 D (loopD tgt mb (ds.drop (i + 1)) ρ2), fun σ2 H2 q => ⟨ds.length - (i + 1), by omega, rfl, q⟩, fun x H3 y => ?_⟩
      obtain ⟨d, ed, hit⟩ := it.yld i H' x H3 hlt (st'.zle.trans s'.sub) y
      obtain ⟨Z3, st3, s3, dr3⟩ := it_item s' st'.zle hit
      have edrop : ds.drop i = d :: ds.drop (i + 1) := by
        rw [List.drop_eq_getElem_cons hlt]
        have : ds[i] = d := by
          rw [List.getElem?_eq_getElem hlt] at ed
          exact Option.some.inj ed
        rw [this]
      rw [edrop] at hpost
      unfold loopD at hpost
      split at hpost
      · exact hpost.elim
      · rename_i ρ2 et
        refine hg.sm Z3 H3 σ' ρ' ρ2 fp' x d _ s3 dr3 et fun σ4 fp4 st4 s4 p4 => ?_
        refine hb.sm Z3 H3 σ4 ρ2 fp4 _ s4 ?_
        have stA : Stp Z' H' fp' Z3 H3 fp4 := st3.trans st4
        rcases eb : mb ρ2 with _ | ⟨_ | fl, ρ5⟩ <;> rw [eb] at hpost
        · exact hpost
        · exact fun cls dd σ6 Z6 H6 fp6 st6 so6 pn6 ex => hpost cls dd σ6 Z6 H6 fp6 (stA.trans st6) so6 (p4.trans pn6) ex
        · cases fl with
          | nx => exact fun σ6 Z6 H6 fp6 st6 so6 pn6 => ⟨hlt, ρ5, Z6, fp6, so6, st'.trans (stA.trans st6), pn'.trans (p4.trans pn6), PostS.step hpost (stA.trans st6) (p4.trans pn6)⟩
          | ct => exact fun σ6 Z6 H6 fp6 st6 so6 pn6 => ⟨hlt, ρ5, Z6, fp6, so6, st'.trans (stA.trans st6), pn'.trans (p4.trans pn6), PostS.step hpost (stA.trans st6) (p4.trans pn6)⟩
          | bk => exact fun σ6 Z6 H6 fp6 st6 so6 pn6 => hpost σ6 Z6 H6 fp6 (stA.trans st6) so6 (p4.trans pn6)
          | rt t => exact fun v σ6 Z6 H6 fp6 st6 so6 pn6 => hpost v σ6 Z6 H6 fp6 (stA.trans st6) so6 (p4.trans pn6)
    · have e : i = ds.length := by omega
      subst e
      rw [List.drop_length] at hpost
      exact .inl ⟨it.stop H' (st'.zle.trans s'.sub), hpost σ' Z' H' fp' Stp.refl s' Pin.refl⟩⟩
end
end Vl

/-! Vl10: list.append, comprehensions, isinstance of data, join, sorted. -/
namespace Vl
open PySem PySem.Spec PyProof.Rows L2

section
variable {X : Cx} {W : WX} {P : List Nat} {pos : Pos}
/-! ### x.append(e), x a slot's own list -/
def mApp (i : Nat) (m : Env → Out AV) : Env → Out AV := fun ρ => match ρ[i]? with
 | some (some (.lst _)) => obind (m ρ) fun av ρ1 => match fz av ρ1 with
  | some (t, ρ2) => match ρ2[i]? with
    | some (some (.lst ts)) => if ts.length < 1000000 then some (.ok (.tmp (.fro .non)), ρ2.set i (some (.lst (ts ++ [t])))) else none
    | _ => none
  | none => none
 | _ => none
theorem ve_app {i : Nat} {x : Str} {e : Expr} {te : TE} {m : Env → Out AV} {p apos cpos : Pos} (hx : PE X (.Name x p) (tVar i)) (he : VE X W e te m)
    (hbase : attributeBase (.Name x p) "append" X.env (eval (.Name x p) X.env) = eval (.Name x p) X.env := by rfl)
    (hfew : ((backTo cpos (starEach (e :: []) X.env)).all (fun x => !x.1) && (backToKw cpos (keywordEach [] X.env)).all (fun x => x.1.isSome)
      && decide ((e :: []).length + ([] : List Keyword).length + (if ([] : List Keyword).isEmpty then 0 else 1) < 30)) = true := by rfl)
    (hline : (apos.endLine == cpos.line) = true := by rfl) (hs : starEach (e :: []) X.env = (false, eval e X.env) :: starEach [] X.env := by rfl) (hplain : (backTo cpos (starEach [] X.env)).any (·.1) = false := by rfl) :
    VE X W (.Call (.Attribute (.Name x p) "append" apos) [e] [] cpos) (tBM X.K "list" rAppend (tVar i) (tCons te tNil)) (mApp i m) :=
  ⟨pe_bm PySem.F.plainAttrs_list PySem.F.slot_list_append PySem.F.type_list_append mt_append hx (pa_cons he.pe pa_nil hs) hbase hfew hline hs hplain, fun Z H σ ρ fp Q s h => by
    unfold mApp at h
    split at h
    · rename_i ts0 et0
      obtain ⟨v0, l0, f0, k0, hv, rt0, _, _⟩ := s.sl.at et0
      cases rt0 with
      | @lst a vs0 _ f0' ha0 r0 =>
        refine ⟨.ref a, hv, .inl ⟨rfl, vs0, .inl (.inl ha0)⟩, ?_⟩
        refine he.sm Z H σ ρ fp _ s (h.bind.mono fun av ρ1 h1 => ?_)
        intro v Z1 H1 fp1 st1 s1 at1
        split at h1
        · rename_i t ρ2 ef
          split at h1
          · rename_i ts et
            split at h1
            · rename_i hz
              obtain ⟨Z2, g2, st2, s2⟩ := fz_ok s1 at1 ef
              obtain ⟨a', ws, hv', ha', hl, g3, s3, st3⟩ := SOk.app s2 et
              rw [hv] at hv'
              cases hv'
              exact ⟨a, ws, v, rfl, rfl, ha', by rw [hl, sizeLine_eq]; omega, h1 _ _ _ _ (st1.trans (st2.trans st3)) (s3.pushD .non) trivial⟩
            · exact h1.elim
          · exact h1.elim
        · exact h1.elim
    · exact h.elim⟩

/-! ### list comprehensions -/
/-- the block's own slots forgotten -/
def wipeE (ρ : Env) : List Nat → Env
  | [] => ρ
  | v :: vs => (wipeE ρ vs).set v none
theorem RSl.wipe1 {G : Gx} {Z H : Hp} {σ : L2.St} {ρ : Env} {f : List Addr} (r : RSl G Z H σ ρ f) (i : Nat) : ∃ g, RSl G Z H (σ.set i none) (ρ.set i none) g ∧ (∀ a ∈ g, a ∈ f) ∧ g.Sublist f := by
  induction r generalizing i with
  | nil => exact ⟨[], by simpa using RSl.nil, (fun a h => nomatch h), List.Sublist.refl _⟩
  | @no o σ ρ f r ih =>
    cases i with
    | zero => exact ⟨f, .no r, fun a h => h, List.Sublist.refl _⟩
    | succ i =>
      obtain ⟨g, h1, h2, h3⟩ := ih i
      exact ⟨g, .no h1, h2, h3⟩
  | @so v σ t ρ f g h r ih =>
    cases i with
    | zero => exact ⟨g, .no r, fun a ha => List.mem_append_right _ ha, List.sublist_append_right f g⟩
    | succ i =>
      obtain ⟨g', h1, h2, h3⟩ := ih i
      exact ⟨f ++ g', .so h h1, fun a ha => (List.mem_append.mp ha).elim (fun z => List.mem_append_left _ z) fun z => List.mem_append_right _ (h2 a z), List.Sublist.append (List.Sublist.refl _) h3⟩
theorem SOk.wipe {G : Gx} {Z H : Hp} {σ : L2.St} {ρ : Env} {fp : List Addr} (s : SOk G Z H σ ρ fp) : ∀ vs : List Nat, ∃ g, SOk G Z H (L2.wipe σ vs) (wipeE ρ vs) g ∧ ∀ a ∈ g, a ∈ fp
  | [] => ⟨fp, s, fun _ h => h⟩
  | v :: vs => by
    obtain ⟨g, s1, k⟩ := SOk.wipe s vs
    obtain ⟨g2, r, k2, sb⟩ := s1.sl.wipe1 v
    exact ⟨g2, ⟨s1.sub, r, s1.nd.sublist sb, fun a ha => s1.fr a (k2 a ha)⟩, fun a ha => k a (k2 a ha)⟩
/-- back in the frame's own slots, of which nothing is told of the block's own -/
theorem RSl.unwipe {G : Gx} {Z H : Hp} {σ σ2 : L2.St} {ρ : Env} {f : List Addr} (r : RSl G Z H σ2 ρ f) (hl : σ.length = σ2.length) (h : ∀ (i : Nat) t, ρ[i]? = some (some t) → σ[i]? = σ2[i]?) : RSl G Z H σ ρ f := by
  induction r generalizing σ with
  | nil =>
    have : σ = [] := List.eq_nil_of_length_eq_zero (by simpa using hl)
    rw [this]
    exact .nil
  | no r ih =>
    cases σ with
    | nil => simp at hl
    | cons o σ => exact .no (ih (by simpa using hl) fun i t e => by simpa using h (i + 1) t (by simpa using e))
  | so h0 r ih =>
    cases σ with
    | nil => simp at hl
    | cons o σ =>
      have e := h 0 _ rfl
      simp at e
      subst e
      exact .so h0 (ih (by simpa using hl) fun i t e => by simpa using h (i + 1) t (by simpa using e))
theorem wipe_get {σ : L2.St} {i : Nat} : ∀ {vs : List Nat}, i ∉ vs → (L2.wipe σ vs)[i]? = σ[i]?
  | [], _ => rfl
  | v :: vs, h => by
    unfold L2.wipe
    rw [List.getElem?_set_ne (fun e => h (by simp [e]))]
    exact wipe_get fun z => h (by simp [z])
theorem wipeE_get {ρ : Env} {i : Nat} {t : T} : ∀ {vs : List Nat}, (wipeE ρ vs)[i]? = some (some t) → i ∉ vs ∧ ρ[i]? = some (some t)
  | [], h => ⟨by simp, h⟩
  | v :: vs, h => by
    unfold wipeE at h
    by_cases hi : v = i
    · subst hi
      by_cases hv : v < (wipeE ρ vs).length
      · rw [List.getElem?_set_self hv] at h; cases h
      · rw [List.getElem?_eq_none (by simpa using hv)] at h; cases h
    · rw [List.getElem?_set_ne hi] at h
      obtain ⟨h1, h2⟩ := wipeE_get h
      exact ⟨by simp only [List.mem_cons, not_or]; exact ⟨fun e => hi e.symm, h1⟩, h2⟩
/-- one item through the block: kept or not -/
def lcLoop (vs : List Nat) (tgt : D → Env → Option Env) (mt : Env → Out Bool) (me : Env → Out AV) : List D → List T → Env → Out (List T)
  | [], acc, ρ => some (.ok acc, ρ)
  | d :: ds, acc, ρ => match tgt d ρ with
    | none => none
    | some ρ1 => match mt ρ1 with
      | some (.ok false, ρ2) => lcLoop vs tgt mt me ds acc (wipeE ρ2 vs)
      | some (.ok true, ρ2) => match me ρ2 with
        | some (.ok av, ρ3) => match fz av ρ3 with
          | some (t, ρ4) => if acc.length < 1000000 then lcLoop vs tgt mt me ds (acc ++ [t]) (wipeE ρ4 vs) else none
          | none => none
        | _ => none
      | _ => none
def mLc (n : Nat) (vs : List Nat) (mi : Env → Out (List D)) (tgt : D → Env → Option Env) (mt : Env → Out Bool) (me : Env → Out AV) : Env → Out AV := fun ρ => obind (mi ρ) fun ds ρ1 => if ρ1.length = n then (match lcLoop vs tgt mt me ds [] (wipeE ρ1 vs) with
  | some (.ok ts, ρ2) => some (.ok (.tmp (.lst ts)), ρ2)
  | _ => none) else none
structure VTs (X : Cx) (ifs : List Expr) (t : TT) (m : Env → Out Bool) : Prop where
  pt : PTs X ifs t
  sm : ∀ Z H σ ρ fp Q, SOk (gx X) Z H σ ρ fp → Post (gx X) (fun _ _ _ _ => False) Z H σ fp (fun b ρ' => ∀ Z' H' fp', Stp Z H fp Z' H' fp' → SOk (gx X) Z' H' σ ρ' fp' → Q b H') (m ρ) → t σ H Q
theorem vts_nil : VTs X [] tYes (fun ρ => some (.ok true, ρ)) := ⟨pts_nil, fun Z H σ ρ fp Q s h => h Z H fp Stp.refl s⟩
theorem vts_one {c : Expr} {t : TT} {m : Env → Out Bool} (h : VT X (fun _ _ _ _ => False) c t m) : VTs X [c] t m := ⟨pts_one h.pt, h.sm⟩
theorem SOk.wipe' {G : Gx} {Z H : Hp} {σ : L2.St} {ρ : Env} {o : Option V} {x : Option T} {fp : List Addr} (s : SOk G Z H (o :: σ) (x :: ρ) fp) : ∀ vs : List Nat, ∃ g, SOk G Z H (o :: L2.wipe σ vs) (x :: wipeE ρ vs) g ∧ ∀ a ∈ g, a ∈ fp
  | [] => ⟨fp, s, fun _ h => h⟩
  | v :: vs => by
    obtain ⟨g, s1, k⟩ := SOk.wipe' s vs
    obtain ⟨g2, r, k2, sb⟩ := s1.sl.wipe1 (v + 1)
    exact ⟨g2, ⟨s1.sub, r, s1.nd.sublist sb, fun a ha => s1.fr a (k2 a ha)⟩, fun a ha => k a (k2 a ha)⟩
theorem SOk.swap {G : Gx} {Z H : Hp} {σ : L2.St} {ρ : Env} {v w : V} {t u : T} {fp : List Addr} (s : SOk G Z H (some v :: some w :: σ) (some t :: some u :: ρ) fp) : ∃ g, SOk G Z H (some w :: some v :: σ) (some u :: some t :: ρ) g ∧ ∀ a ∈ g, a ∈ fp := by
  obtain ⟨sub, sl, nd, fr⟩ := s
  cases sl with
  | @so _ _ _ _ f _ h r =>
    cases r with
    | @so _ _ _ _ f2 g h2 r =>
      refine ⟨f2 ++ (f ++ g), ⟨sub, .so h2 (.so h r), nd_swap nd, fun a ha => fr a ?_⟩, fun a ha => ?_⟩ <;>
        (simp only [List.mem_append] at ha ⊢; rcases ha with z | z | z <;> simp [z])
theorem wipe_len (σ : L2.St) (vs : List Nat) : (L2.wipe σ vs).length = σ.length := wipe_length σ vs
theorem wipeE_len (ρ : Env) : ∀ vs : List Nat, (wipeE ρ vs).length = ρ.length
  | [] => rfl
  | v :: vs => by unfold wipeE; rw [List.length_set, wipeE_len ρ vs]
/-- only the block's own slots are another one's -/
theorem wipe_eq {σ σ' : L2.St} {n : Nat} {vs : List Nat} (hl : σ.length = n) (hl' : σ'.length = n) (p : Pin ((List.range n).filter fun i => decide (i ∉ vs)) (L2.wipe σ vs) σ') : L2.wipe σ' vs = L2.wipe σ vs := by
  have out : ∀ (τ : L2.St) (i : Nat), i < τ.length → ∀ us : List Nat, i ∈ us → (L2.wipe τ us)[i]? = some none := fun τ i hi us h => by
    induction us with
    | nil => cases h
    | cons u us ih =>
      unfold L2.wipe
      by_cases e : u = i
      · subst e
        rw [List.getElem?_set_self (by rw [wipe_length]; exact hi)]
      · rw [List.getElem?_set_ne e]
        exact ih ((List.mem_cons.mp h).resolve_left fun z => e z.symm)
  refine List.ext_getElem? fun i => ?_
  by_cases hi : i < n
  · by_cases hv : i ∈ vs
    · rw [out σ' i (by omega) vs hv, out σ i (by omega) vs hv]
    · rw [wipe_get hv, p i (by simp [hi, hv])]
  · rw [List.getElem?_eq_none (by rw [wipe_length]; omega), List.getElem?_eq_none (by rw [wipe_length]; omega)]
theorem lc_sm {tg iter elt : Expr} {ifs : List Expr} {wi : TI} {g : TG} {tt : TT} {te : TE} {n : Nat} {vs : List Nat} {mi : Env → Out (List D)} {tgt : D → Env → Option Env} {mt : Env → Out Bool} {me : Env → Out AV}
    {X' : Cx} (hx : gx X' = gx X) (hi : VI X W tg iter wi mi) (hg : VG X' ((List.range n).filter fun i => decide (i ∉ vs)) tg g tgt) (ht : VTs X' ifs tt mt) (he : VE X' (fun _ _ _ _ => False) elt te me)
    {Z H : Hp} {σ : L2.St} {ρ : Env} {fp : List Addr} {Q : VK} (s : SOk (gx X) Z H σ ρ fp) (h : Post (gx X) W Z H σ fp (KE (gx X) Z H σ fp Q) (mLc n vs mi tgt mt me ρ)) : tLc wi g tt te vs σ H Q := by
  refine hi.sm Z H σ ρ fp _ s (h.bind.mono fun ds ρ1 h1 => ?_)
  intro J Z1 H1 fp1 st1 s1 it
  split at h1
  case isFalse => exact h1.elim
  rename_i hn
  have hsl : σ.length = n := by rw [s1.sl.length, hn]
  intro A hA
  obtain ⟨sA, stA⟩ := SOk.mkLst (vs := []) (ts := []) rfl s1 hA
  obtain ⟨gA, sB, kB⟩ := SOk.wipe' sA vs
  refine ⟨fun i m H' => m = ds.length - i ∧ i ≤ ds.length ∧ ∃ ρ0 acc Z' fp', SOk (gx X) Z' H' (some (.ref A) :: L2.wipe σ vs) (some (.lst acc) :: wipeE ρ0 vs) fp' ∧ Stp Z H fp Z' H' fp' ∧ Same Z1 Z' ∧
      (match lcLoop vs tgt mt me (ds.drop i) acc (wipeE ρ0 vs) with
        | some (.ok ts, ρ2) => KE (gx X) Z H σ fp Q (.tmp (.lst ts)) ρ2
        | _ => False), ⟨ds.length, by simp, Nat.zero_le _, ρ1, [], Z1, gA, sB, (st1.trans stA).less kB, Same.refl _, ?_⟩, ?_⟩
  · rw [List.drop_zero]
    split at h1
    · exact h1
    · exact h1.elim
  rintro i m H' ⟨rfl, hle, ρ0, acc, Z', fp', s', st', z1, hp⟩
  by_cases hlt : i < ds.length
  · refine .inr ⟨it.go i H' hlt (z1.trans s'.sub), fun H2 => i + 1 ≤ ds.length ∧ ∃ ρ0 acc Z' fp', SOk (gx X) Z' H2 (some (.ref A) :: L2.wipe σ vs) (some (.lst acc) :: wipeE ρ0 vs) fp' ∧ Stp Z H fp Z' H2 fp' ∧ Same Z1 Z' ∧
      (match lcLoop vs tgt mt me (ds.drop (i + 1)) acc (wipeE ρ0 vs) with
        | some (.ok ts, ρ2) => KE (gx X) Z H σ fp Q (.tmp (.lst ts)) ρ2
        | _ => False), fun H2 q => ⟨ds.length - (i + 1), by omega, rfl, q⟩, fun x H3 y => ?_⟩
    obtain ⟨d, ed, hit⟩ := it.yld i H' x H3 hlt (z1.trans s'.sub) y
    obtain ⟨Z3, st3, s3, dr3⟩ := it_item s' z1 hit
    have edrop : ds.drop i = d :: ds.drop (i + 1) := by
      rw [List.drop_eq_getElem_cons hlt]
      have : ds[i] = d := by
        rw [List.getElem?_eq_getElem hlt] at ed
        exact Option.some.inj ed
      rw [this]
    rw [edrop] at hp
    unfold lcLoop at hp
    obtain ⟨f, g3, rfl, rtA, s4, dj, ndf⟩ := s3.tmp
    have frA : ∀ a ∈ f, Z3 a = none := fun a ha => s3.fr a (List.mem_append_left _ ha)
    cases et : tgt d (wipeE ρ0 vs) with
    | none => rw [et] at hp; exact hp.elim
    | some ρa =>
    rw [et] at hp
    dsimp only at hp
    refine hg.sm Z3 H3 (L2.wipe σ vs) (wipeE ρ0 vs) ρa g3 x d _ (by rw [hx]; exact s4) (by rw [hx]; exact dr3) et fun σ4 g4 st4 s5 p4 => ?_
    have hl4 : σ4.length = n := by
      rw [s5.sl.length, hg.len _ _ _ et, wipeE_len, ← hsl, ← wipe_len σ vs, s4.sl.length, wipeE_len]
    refine ⟨wipe_eq hsl hl4 p4, ?_⟩
    have hwp := wipe_eq hsl hl4 p4
    have stE : Stp Z H fp Z3 H3 (f ++ g3) := st'.trans st3
    -- the turn's end
    have fin : ∀ {Z5 H5 : Hp} {g5 : List Addr} {ρ5 : Env} {acc' : List T}, SOk (gx X) Z5 H5 (some (.ref A) :: σ4) (some (.lst acc') :: ρ5) g5 → Stp Z H fp Z5 H5 g5 → Same Z3 Z5 →
        (match lcLoop vs tgt mt me (ds.drop (i + 1)) acc' (wipeE ρ5 vs) with
          | some (.ok ts, ρ2) => KE (gx X) Z H σ fp Q (.tmp (.lst ts)) ρ2
          | _ => False) → i + 1 ≤ ds.length ∧ ∃ ρ0 acc Z' fp', SOk (gx X) Z' H5 (some (.ref A) :: L2.wipe σ vs) (some (.lst acc) :: wipeE ρ0 vs) fp' ∧ Stp Z H fp Z' H5 fp' ∧ Same Z1 Z' ∧
          (match lcLoop vs tgt mt me (ds.drop (i + 1)) acc (wipeE ρ0 vs) with
            | some (.ok ts, ρ2) => KE (gx X) Z H σ fp Q (.tmp (.lst ts)) ρ2
            | _ => False) := fun {Z5 H5 g5 ρ5 acc'} q1 q2 q3 q4 => by
      obtain ⟨g6, q5, q6⟩ := SOk.wipe' q1 vs
      rw [hwp] at q5
      exact ⟨hlt, ρ5, acc', Z5, g6, q5, q2.less q6, z1.trans (st3.zle.trans q3), q4⟩
    cases em : mt ρa with
    | none => rw [em] at hp; exact hp.elim
    | some o =>
    obtain ⟨r, ρb⟩ := o
    rw [em] at hp
    cases r with
    | error e => exact hp.elim
    | ok b =>
    refine ht.sm Z3 H3 σ4 ρa g4 _ s5 ?_
    rw [em]
    intro Z5 H5 g5 st5 s6
    rw [hx] at s5 s6
    have st45 : Stp Z3 H3 g3 Z5 H5 g5 := st4.trans st5
    cases b with
    | false => 
      rw [if_neg (by decide)]
      exact fin (SOk.frame rtA s4 dj ndf frA st45 s6) (stE.trans st45.more) st45.zle hp
    | true =>
      rw [if_pos rfl]
      dsimp only at hp
      cases ee : me ρb with
      | none => rw [ee] at hp; exact hp.elim
      | some o =>
      obtain ⟨r, ρc⟩ := o
      rw [ee] at hp
      cases r with
      | error e => exact hp.elim
      | ok av =>
      dsimp only at hp
      refine he.sm Z5 H5 σ4 ρb g5 _ (by rw [hx]; exact s6) ?_
      rw [ee]
      intro y Z6 H6 g6 st6 s7 at7
      rw [hx] at s7
      cases ef : fz av ρc with
      | none => rw [ef] at hp; exact hp.elim
      | some o =>
      obtain ⟨t, ρd⟩ := o
      rw [ef] at hp
      dsimp only at hp
      by_cases hz : acc.length < 1000000
      case neg => rw [if_neg hz] at hp; exact hp.elim
      rw [if_pos hz] at hp
      obtain ⟨Z7, g7, st7, s8⟩ := fz_ok s7 at7 ef
      have st47 : Stp Z3 H3 g3 Z7 H6 g7 := st45.trans (st6.trans st7)
      obtain ⟨g8, s9, k9⟩ := (SOk.frame rtA s4 dj ndf frA st47 s8).swap
      obtain ⟨a', ws, ha', hd', hlen, g10, s10, st10⟩ := SOk.app (i := 0) s9 rfl
      cases ha'
      refine ⟨ws, hd', by rw [hlen, sizeLine_eq]; omega, ?_⟩
      exact fin s10 ((stE.trans (st47.more.less k9)).trans st10) (st47.zle.trans st10.zle) hp
  · have e : i = ds.length := by omega
    subst e
    rw [List.drop_length] at hp
    unfold lcLoop at hp
    refine .inl ⟨it.stop H' (z1.trans s'.sub), ?_⟩
    dsimp only at hp
    obtain ⟨f, g3, rfl, rtA, s4, dj, ndf⟩ := s'.tmp
    have s5 : SOk (gx X) Z' H' σ (wipeE ρ0 vs) g3 := ⟨s4.sub, s4.sl.unwipe (wipe_len σ vs).symm fun j t e => (wipe_get (wipeE_get e).1).symm, s4.nd, s4.fr⟩
    exact hp _ Z' H' _ st' (s5.push rtA ndf dj fun a ha => s'.fr a (List.mem_append_left _ ha)) trivial
theorem ve_lc {elt tg iter : Expr} {ifs : List Expr} {scope : Scope} {own : List (Str × Nat)} {pos : Pos} {wi : TI} {g : TG} {tt : TT} {te : TE} {n : Nat} {mi : Env → Out (List D)} {tgt : D → Env → Option Env} {mt : Env → Out Bool} {me : Env → Out AV}
    (hc : X.calm = true) (hN : X.N.Nodup) (hi : VI X W tg iter wi mi) (ok : BlkOk X.N X.env.scope scope own)
    (hg : ∀ (s : Shared) (H : Hp) (C : Addr) (cl : List (Str × Addr)) (fp : List Addr), VG (X.blk s H scope (compEnvC scope cl C X.env) fp) ((List.range n).filter fun i => decide (i ∉ own.map (·.2))) tg g tgt)
    (ht : ∀ (s : Shared) (H : Hp) (C : Addr) (cl : List (Str × Addr)) (fp : List Addr), VTs (X.blk s H scope (compEnvC scope cl C X.env) fp) ifs tt mt)
    (he : ∀ (s : Shared) (H : Hp) (C : Addr) (cl : List (Str × Addr)) (fp : List Addr), VE (X.blk s H scope (compEnvC scope cl C X.env) fp) (fun _ _ _ _ => False) elt te me) (hs : ∀ x, foldedSetIterable iter X.env x = pure x := by intro _; rfl) :
    VE X W (.ListComp elt [⟨tg, iter, ifs, 0⟩] scope pos) (tLc wi g tt te (own.map (·.2))) (mLc n (own.map (·.2)) mi tgt mt me) :=
  ⟨pe_lc hc hN hi.pi ok (fun s H C cl fp => (hg s H C cl fp).pg) (fun s H C cl fp => (ht s H C cl fp).pt) (fun s H C cl fp => (he s H C cl fp).pe) hs,
    fun Z H σ ρ fp Q s h => lc_sm (X := X) (X' := X.blk {} (fun _ => none) scope (compEnvC scope [] default X.env) []) rfl hi (hg _ _ _ _ _) (ht _ _ _ _ _) (he _ _ _ _ _) s h⟩
theorem vs_setLc {i : Nat} {y : Str} {py : Pos} {elt tg iter : Expr} {ifs : List Expr} {scope : Scope} {own : List (Str × Nat)} {pos spos : Pos} {wi : TI} {g : TG} {tt : TT} {te : TE} {n : Nat} {mi : Env → Out (List D)} {tgt : D → Env → Option Env} {mt : Env → Out Bool} {me : Env → Out AV}
    (hc : X.calm = true) (hN : X.N.Nodup) (hy : X.N[i]? = some y) (hyl : X.env.scope.names.lookup y = some .local) (hp : i ∉ P) (hsw : swapsWith (.ListComp elt [⟨tg, iter, ifs, 0⟩] scope pos) (some (.Name y py)) spos.line X.env = pure true)
    (hi : VI X W tg iter wi mi) (ok : BlkOk X.N X.env.scope scope own)
    (hg : ∀ (s : Shared) (H : Hp) (C : Addr) (cl : List (Str × Addr)) (fp : List Addr), VG (X.blk s H scope (compEnvC scope cl C X.env) fp) ((List.range n).filter fun i => decide (i ∉ own.map (·.2))) tg g tgt)
    (ht : ∀ (s : Shared) (H : Hp) (C : Addr) (cl : List (Str × Addr)) (fp : List Addr), VTs (X.blk s H scope (compEnvC scope cl C X.env) fp) ifs tt mt)
    (he : ∀ (s : Shared) (H : Hp) (C : Addr) (cl : List (Str × Addr)) (fp : List Addr), VE (X.blk s H scope (compEnvC scope cl C X.env) fp) (fun _ _ _ _ => False) elt te me) (hs : ∀ x, foldedSetIterable iter X.env x = pure x := by intro _; rfl) :
    VS X W P (.Assign [.Name y py] (.ListComp elt [⟨tg, iter, ifs, 0⟩] scope pos) spos) (tAsg (tLc wi g tt te (own.map (·.2))) (gName i)) (mSet i (mLc n (own.map (·.2)) mi tgt mt me)) :=
  ⟨ps_setLc hc hN hy hyl hsw hi.pi ok (fun s H C cl fp => (hg s H C cl fp).pg) (fun s H C cl fp => (ht s H C cl fp).pt) (fun s H C cl fp => (he s H C cl fp).pe) hs, fun Z H σ ρ fp D s h => by
    have q := (ve_lc (pos := pos) hc hN hi ok hg ht he hs).sm Z H σ ρ fp (fun v H1 => D.nx (σ.set i (some v)) H1) s (h.bind.mono fun av ρ1 h1 => ?_)
    · exact q
    intro v Z1 H1 fp1 st1 s1 at1
    split at h1
    · rename_i t ρ2 ef
      obtain ⟨Z2, g2, st2, s2⟩ := fz_ok s1 at1 ef
      obtain ⟨g3, s3, k3⟩ := s2.assign i
      exact h1 _ Z2 H1 g3 ((st1.trans st2).less k3) s3 (pin_set hp)
    · exact h1.elim⟩
end
end Vl

/-! Vl11: isinstance; exceptions as values; try .. except X as e: v = e. -/
namespace Vl
open PySem PySem.Spec PyProof.Rows L2

/-! ### isinstance -/
/-- what the class at C must say -/
structure ExK (K : PySem.W.Frag) (C : Addr) : Prop where
  cs : (PySem.W.clsIn K C).isSome = true
  ga : PySem.W.findIn K (.ref C) "__getattribute__" = some (some (.builtin "BaseException.__getattribute__"))
  gg : PySem.W.findIn K (.ref C) "__getattr__" = some none
  sub : PySem.W.subIn K (.ref C) (.type "BaseException") = some true
  cl : PySem.W.findIn K (.ref C) "__class__" = some (some (.builtin "object.__class__"))
  sp : PySem.W.specialIn K (.builtin "object.__class__") "__get__" = some (some (.builtin "getset_descriptor.__get__"))
  tk : PySem.W.takesIn K (.builtin "object.__class__") = some true
  mr : PySem.W.mroIn K C (.type "object") = some true
  hd : PySem.W.hasDictIn K C = true
  ty : PySem.W.typeIn K (.ref C) = some (.type "type")
def exKB (K : PySem.W.Frag) (C : Addr) : Bool :=
  (PySem.W.clsIn K C).isSome && (PySem.W.findIn K (.ref C) "__getattribute__" == some (some (.builtin "BaseException.__getattribute__")) && (PySem.W.findIn K (.ref C) "__getattr__" == some none &&
  (PySem.W.subIn K (.ref C) (.type "BaseException") == some true && (PySem.W.findIn K (.ref C) "__class__" == some (some (.builtin "object.__class__")) && (PySem.W.specialIn K (.builtin "object.__class__") "__get__" == some (some (.builtin "getset_descriptor.__get__")) &&
  (PySem.W.takesIn K (.builtin "object.__class__") == some true && (PySem.W.mroIn K C (.type "object") == some true && (PySem.W.hasDictIn K C && PySem.W.typeIn K (.ref C) == some (.type "type")))))))))
theorem exKB_ok {K : PySem.W.Frag} {C : Addr} (h : exKB K C = true) : ExK K C := by
  unfold exKB at h
  simp only [Bool.and_eq_true, beq_iff_eq] at h
  obtain ⟨h1, h2, h3, h4, h5, h6, h7, h8, h9, h10⟩ := h
  exact ⟨h1, h2, h3, h4, h5, h6, h7, h8, h9, h10⟩
/-- a tracked exception -/
def ExAt (K : PySem.W.Frag) (H : Hp) (a C : Addr) (dd : Option Addr) (fs : List (Str × V)) : Prop :=
  ∃ φ : Heap → Prop, H a = some (.ext φ) ∧ (∀ h, φ h → ∃ (oe : Obj) (vs : Array Value), h.get? a = some oe ∧ Zc (.ref C) dd oe ∧ oe.data = .fields vs) ∧ XdOf H dd fs
theorem ExAt.inst {X : Cx} {pins : List (Addr × Obj)} {σ : L2.St} {H : Hp} {s : Shared} {a C : Addr} {dd : Option Addr} {fs : List (Str × V)} (I : Inv X pins σ H s) (x : ExAt X.K H a C dd fs) :
    ∃ (oe : Obj) (od : Option Obj), PySem.W.InstAt s.heap a oe C od ∧ (∀ f v, fs.lookup f = some v → ∃ (o : Obj) (u : Value), od = some o ∧ PySem.W.lookIn f o = some (some u) ∧ RelV v u) := by
  obtain ⟨φ, h1, h2, h3⟩ := x
  have o1 : ObjOk X.prog X.w H s.heap a (.ext φ) := I.hok a _ h1
  obtain ⟨oe, vs, ho, hz, hd⟩ := h2 _ o1.1
  cases dd with
  | none =>
    refine ⟨oe, none, ⟨ho, hz.1, by unfold PySem.W.notCls; rw [hd] <;> rfl, by rw [hz.2]; trivial⟩, fun f v e => ?_⟩
    have : fs = [] := h3
    rw [this] at e
    cases e
  | some d =>
    have o2 : ObjOk X.prog X.w H s.heap d (.xd fs) := I.hok d _ h3
    obtain ⟨mA, hns, hr⟩ := o2
    obtain ⟨od, ho2, hl⟩ := lookIn_ns hns
    refine ⟨oe, some od, ⟨ho, hz.1, by unfold PySem.W.notCls; rw [hd] <;> rfl, by rw [hz.2]; exact ho2⟩, fun f v e => ?_⟩
    obtain ⟨u, hu, ru⟩ := RelO.some_of (v := v) (o := mA f) (by rw [← e]; exact hr f)
    exact ⟨od, u, rfl, by rw [hl, hu], ru⟩
/-- what isinstance asks of a thing -/
inductive TyW (K : PySem.W.Frag) (H : Hp) : V → Value → Prop where
  | dat {x : V} {t : Value} (h : TyX K H x t) : TyW K H x t
  | exc {a C : Addr} {dd : Option Addr} {fs : List (Str × V)} (h : ExAt K H a C dd fs) (k : ExK K C) : TyW K H (.ref a) (.ref C)
  | dT {a : Addr} {kvs : List (List Key × V)} (h : Rd H a (.dT kvs)) : TyW K H (.ref a) (.type "dict")
theorem kit_w {X : Cx} {pins : List (Addr × Obj)} {σ : L2.St} {H : Hp} {s : Shared} {x : V} {u t : Value} (I : Inv X pins σ H s) (rx : RelV x u) (ty : TyW X.K H x t) :
    ∃ P : Heap → Prop, PySem.W.KitX X.K u t P ∧ P s.heap ∧ u ≠ .builtin "__main__.__loader__#opaque" := by
  cases ty with
  | dat h => exact kit_of I rx h
  | exc h k =>
    obtain ⟨oe, od, J, _⟩ := h.inst I
    cases rx
    exact ⟨_, PySem.W.kitx_exc k.cs k.ga k.gg k.sub k.cl k.sp k.tk k.mr, J, fun z => nomatch z⟩
  | @dT a kvs h =>
    cases rx
    have o1 : ObjOk X.prog X.w H s.heap a (.dT kvs) := h.ok I.hok
    obtain ⟨_, _, xs, _, o, es, ep, q1, q2, _⟩ := o1
    exact ⟨_, PySem.W.kitx_dict, ⟨o, q1, q2.1⟩, fun z => nomatch z⟩
def rIsW (K : PySem.W.Frag) : List V → Hp → VK → Prop := fun xs H Q => ∃ (x c : V) (t u : Value) (b : Bool), xs = [x, c] ∧ ClsV c u ∧ TyW K H x t ∧ PySem.W.kitOne K t u = some b ∧ Q (.bl b) H
def rIsWT (K : PySem.W.Frag) : List V → Hp → VK → Prop := fun xs H Q => ∃ (x : V) (tp : Addr) (cs : List V) (t : Value) (us : List Value) (b : Bool), xs = [x, .ref tp] ∧ H tp = some (.tup cs) ∧ Paired ClsV cs us ∧ TyW K H x t ∧ PySem.W.kitAny K t us = some b ∧ Q (.bl b) H
section
variable {X : Cx} {W : WX} {pos p : Pos}
theorem call_isw : CallR X (.builtin "isinstance") (rIsW X.K) := fun pins s σ H xs us Q I r h => by
  obtain ⟨x, c, t, u, b, rfl, k, ty, e, q⟩ := h
  obtain ⟨w1, w2, rfl, r1, r2⟩ := vals2 r
  obtain rfl := k.eq r2
  obtain ⟨P, kx, hp, hx⟩ := kit_w I r1 ty
  exact PySem.W.kia_one kx I.kIn hp e hx fun n => ⟨.bl b, H, I.tok n, rfl, q⟩
theorem call_iswT : CallR X (.builtin "isinstance") (rIsWT X.K) := fun pins s σ H xs us Q I r h => by
  obtain ⟨x, tp, cs, t, ws, b, rfl, hT, k, ty, e, q⟩ := h
  obtain ⟨w1, w2, rfl, r1, r2⟩ := vals2 r
  obtain rfl : w2 = Value.ref tp := r2
  obtain ⟨P, kx, hp, hx⟩ := kit_w I r1 ty
  have ot : ObjOk X.prog X.w H s.heap tp (.tup cs) := I.hok tp _ hT
  obtain ⟨_, its, rv, ⟨oc, od, dt, sl⟩, h1, h2, n, h3⟩ := ot
  obtain rfl := ClsV.all k rv
  dsimp only at h2 h3
  subst h2 h3
  exact PySem.W.kia_tup kx I.kIn hp h1 e hx fun n => ⟨.bl b, H, I.tok n, rfl, q⟩
def kinds : List String := ["NoneType", "bool", "int", "str", "list", "tuple", "dict"]
def knd : D → String
  | .non => "NoneType" | .bl _ => "bool" | .int _ => "int" | .str _ => "str" | .lst _ => "list" | .tup _ => "tuple" | .dic _ => "dict" | .dit _ => "dict" | .exc _ _ => ""
def isiD (ks : List String) (es all : List Str) : D → Option Bool
  | .exc c _ => if all.contains c then some (es.contains c) else none
  | d => some (ks.contains (knd d))
/-- the classes' answers -/
structure IsC (X : Cx) (ans : Value → Option Bool) (ks : List String) (es all : List Str) : Prop where
  dat : ∀ k ∈ kinds, ans (.type k) = some (ks.contains k)
  exc : ∀ c ∈ all, ∀ C, X.mg c = some (.ref C) → ExK X.K C ∧ ans (.ref C) = some (es.contains c)
theorem tyW_of {ans : Value → Option Bool} {ks : List String} {es all : List Str} (I : IsC X ans ks es all) {H : Hp} {v : V} {d : D} {b : Bool} (r : DR (gx X) H v d) (e : isiD ks es all d = some b) : ∃ t, TyW X.K H v t ∧ ans t = some b := by
  have k : ∀ n ∈ kinds, some (ks.contains n) = some b → ans (.type n) = some b := fun n hn h => by rw [I.dat n hn, h]
  cases r with
  | non => exact ⟨_, .dat (.base .non), k _ (by decide) e⟩
  | bl x => exact ⟨_, .dat (.base (.bl x)), k _ (by decide) e⟩
  | int x => exact ⟨_, .dat (.base (.int x)), k _ (by decide) e⟩
  | str x => exact ⟨_, .dat (.base (.str x)), k _ (by decide) e⟩
  | lst h _ =>
    refine ⟨.type "list", ?_, k _ (by decide) e⟩
    rcases h with h | ⟨o, h⟩
    · exact .dat (.base (.lst h))
    · exact .dat (.base (.frz h))
  | tup h _ =>
    refine ⟨.type "tuple", ?_, k _ (by decide) e⟩
    rcases h with (h | ⟨o, h⟩) | ⟨o, its, n, h1, h2, _⟩
    · exact .dat (.base (.tup h))
    · exact .dat (.fTuple h)
    · exact .dat (.kTuple h1 h2)
  | dic h _ _ =>
    refine ⟨.type "dict", ?_, k _ (by decide) e⟩
    rcases h with h | ⟨o, h⟩
    · exact .dat (.base (.dK h))
    · exact .dat (.fDict h)
  | dit h _ _ => exact ⟨.type "dict", .dT h, k _ (by decide) e⟩
  | @exc a C c dd φ fsV fs h1 h2 h3 h4 h5 h6 =>
    unfold isiD at e
    split at e
    · rename_i c' fs' eq
      cases eq
      split at e
      · rename_i hc
        obtain ⟨q1, q2⟩ := I.exc c (by simpa using hc) C h3
        exact ⟨.ref C, .exc ⟨φ, h1, h2, h4⟩ q1, by rw [q2, e]⟩
      · cases e
    · rename_i hne
      exact absurd rfl (hne _ _)
/-- an object of no account is laid -/
theorem SOk.other {G : Gx} {Z H : Hp} {σ : L2.St} {ρ : Env} {fp : List Addr} {q : Addr} {o : HO} (s : SOk G Z H σ ρ fp) (h : H q = none) : SOk G Z (upd H q o) σ ρ fp ∧ Stp Z H fp Z (upd H q o) fp := by
  have np : ∀ a ∈ fp, a ≠ q := fun a ha z => by
    obtain ⟨u, e⟩ := s.sl.there a ha
    rw [z, h] at e; cases e
  have zq : Z q = none := by
    cases e : Z q with
    | none => rfl
    | some u => rw [s.sub q u e] at h; cases h
  refine ⟨⟨fun b u e => ?_, s.sl.keep (Same.refl _) fun a ha => upd_ne (np a ha), s.nd, s.fr⟩, ⟨Same.refl _, fun b u e _ => ?_, fun b u e n => ?_, fun a ha => .inr ha⟩⟩
  · rw [upd_ne (fun z => by rw [z, zq] at e; cases e)]
    exact s.sub b u e
  · rw [upd_ne (ne_of_none e h)]; exact e
  · rw [n] at e; cases e
variable {e c : Expr} {te tc : TE} {m : Env → Out AV}
theorem ve_isi {cv : V} {u : Value} {ks : List String} {es all : List Str} (hu : ClsV cv u) (hI : IsC X (fun t => PySem.W.kitOne X.K t u) ks es all) (hg : Gl X "isinstance") (hm : X.mg "isinstance" = none) (hv : bootBuiltins "isinstance" = some (.builtin "isinstance"))
    (he : VE X W e te m) (hc : PE X c (tC cv))
    (hs : starEach [e, c] X.env = (false, eval e X.env) :: starEach [c] X.env := by rfl) (hs2 : starEach [c] X.env = (false, eval c X.env) :: starEach [] X.env := by rfl) (hpl : (backTo pos (starEach [c] X.env)).any (·.1) = false := by rfl) :
    VE X W (.Call (.Name "isinstance" p) [e, c] [] pos) (tCB (rIsW X.K) (tCons te (tCons (tC cv) tNil))) (m1 (fun d => (isiD ks es all d).map .bl) m) :=
  ⟨pe_callB call_isw hg hm hv (pa_cons he.pe (pa_cons hc pa_nil hs2) hs) (by decide) (by decide) hs hpl, fun Z H σ ρ fp Q s h =>
    flat1 (R := fun x H1 Q => rIsW X.K [x, cv] H1 Q) he (fun d z e => by
      cases q : isiD ks es all d <;> rw [q] at e <;> cases e
      rfl) (fun H x d z Q dr e q => by
      cases qq : isiD ks es all d with
      | none => rw [qq] at e; cases e
      | some b =>
        rw [qq] at e
        cases e
        obtain ⟨t, ht, ha⟩ := tyW_of hI dr qq
        exact ⟨x, cv, t, u, b, rfl, hu, ht, ha, q⟩) s (KE.ofFlat h)⟩
theorem ve_isiT {cs : List Expr} {tcs : TA} {cvs : List V} {us : List Value} {k : Nat} {tp : Pos} {ks : List String} {es all : List Str} (hu : Paired ClsV cvs us) (hI : IsC X (fun t => PySem.W.kitAny X.K t us) ks es all) (hg : Gl X "isinstance") (hm : X.mg "isinstance" = none) (hv : bootBuiltins "isinstance" = some (.builtin "isinstance"))
    (he : VE X W e te m) (hc : PA X cs tcs) (htc : ∀ σ H Q, Q cvs H → tcs σ H Q) (hz : cvs.length ≤ 1000)
    (hs : starEach [e, .Tuple cs k tp] X.env = (false, eval e X.env) :: starEach [.Tuple cs k tp] X.env := by rfl) (hs2 : starEach [.Tuple cs k tp] X.env = (false, eval (.Tuple cs k tp) X.env) :: starEach [] X.env := by rfl) (hpl : (backTo pos (starEach [.Tuple cs k tp] X.env)).any (·.1) = false := by rfl) :
    VE X W (.Call (.Name "isinstance" p) [e, .Tuple cs k tp] [] pos) (tCB (rIsWT X.K) (tCons te (tCons (tTup tcs) tNil))) (m1 (fun d => (isiD ks es all d).map .bl) m) :=
  ⟨pe_callB call_iswT hg hm hv (pa_cons he.pe (pa_cons (pe_tup hc) pa_nil hs2) hs) (by decide) (by decide) hs hpl, fun Z H σ ρ fp Q s h => by
    refine he.sm Z H σ ρ fp _ s (h.bind.mono fun av ρ1 h1 => ?_)
    intro v Z1 H1 fp1 st1 s1 at1
    refine htc σ H1 _ ⟨by rw [sizeLine_eq]; omega, fun q hq => ?_⟩
    split at h1
    · rename_i t e1
      split at h1
      · rename_i z ez
        dsimp only at ez
        cases qq : isiD ks es all t.er with
        | none => rw [qq] at ez; cases ez
        | some b =>
          rw [qq] at ez
          cases ez
          obtain ⟨s2, st2⟩ := s1.other (o := .tup cvs) hq
          obtain ⟨dr, g', s3, k3⟩ := s2.peek1 at1 e1
          obtain ⟨t', ht, ha⟩ := tyW_of hI dr qq
          exact ⟨v, q, cvs, t', us, b, rfl, upd_same, hu, ht, ha, KE.fl1 h1 rfl (st1.trans (st2.less k3)) s3⟩
      · exact h1.elim
    · exact h1.elim⟩
/-! ### a field of an exception -/
def tXA (K : PySem.W.Frag) (n : Str) (te : TE) : TE := fun σ H Q => te σ H fun x H1 => ∃ (a C : Addr) (dd : Option Addr) (fs : List (Str × V)) (v : V), x = .ref a ∧ ExAt K H1 a C dd fs ∧ ExK K C ∧ PySem.W.findIn K (.ref C) n = some none ∧ fs.lookup n = some v ∧ Q v H1
theorem pe_xa {n : Str} (he : PE X e te) (hb : attributeBase e n X.env (eval e X.env) = eval e X.env := by rfl) : PE X (.Attribute e n pos) (tXA X.K n te) :=
  ⟨fun pins s σ H Q I h => attr_of hb (thn (he.run pins s σ H _ I h) fun u s1 hh => by
    obtain ⟨x, H1, I1, rx, a, C, dd, fs, v, ex, xa, k, hno, l, q⟩ := hh
    subst ex
    obtain rfl : u = Value.ref a := rx
    obtain ⟨oe, od, J, look⟩ := xa.inst I1
    obtain ⟨o, u2, rfl, hu, ru⟩ := look _ _ l
    exact HandSPX.exc_get I1.kIn J k.ga k.gg k.sub (PySem.W.findObj_own k.hd hno rfl hu) (handed_of ru) ⟨v, H1, I1.tok _, ru, q⟩)⟩
def mXA (n : Str) (all : List Str) (m : Env → Out AV) : Env → Out AV := fun ρ => obind (m ρ) fun av ρ1 => match av with
  | .tmp (.fro (.exc c fs)) => if all.contains c then (match fs.lookup n with
      | some d => some (.ok (.tmp (.fro d)), ρ1)
      | none => none) else none
  | _ => none
theorem lookup_DRs {G : Gx} {Z : Hp} {n : Str} : ∀ {fsV : List (Str × V)} {fs : List (Str × D)} {d : D}, fsV.map (·.1) = fs.map (·.1) → DRs G Z (fsV.map (·.2)) (fs.map (·.2)) → fs.lookup n = some d → ∃ v, fsV.lookup n = some v ∧ DR G Z v d
  | [], [], _, _, _, h => nomatch h
  | [], _ :: _, _, h, _, _ => nomatch h
  | _ :: _, [], _, h, _, _ => nomatch h
  | (f, v) :: fsV, (f', d') :: fs, d, h, r, e => by
    simp only [List.map_cons, List.cons.injEq] at h
    obtain ⟨h1, h2⟩ := h
    subst h1
    cases r with
    | cons r1 r2 =>
      simp only [List.lookup] at e ⊢
      split at e
      · cases e; exact ⟨_, rfl, r1⟩
      · exact lookup_DRs h2 r2 e
theorem ve_xa {n : Str} {all : List Str} (he : VE X W e te m) (hE : ∀ c ∈ all, ∀ C, X.mg c = some (.ref C) → ExK X.K C ∧ PySem.W.findIn X.K (.ref C) n = some none) (hb : attributeBase e n X.env (eval e X.env) = eval e X.env := by rfl) : VE X W (.Attribute e n pos) (tXA X.K n te) (mXA n all m) :=
  ⟨pe_xa he.pe hb, fun Z H σ ρ fp Q s h => by
    refine he.sm Z H σ ρ fp _ s (h.bind.mono fun av ρ1 h1 => ?_)
    intro v Z1 H1 fp1 st1 s1 at1
    split at h1
    · rename_i c fs
      split at h1
      · rename_i hc
        split at h1
        · rename_i d el
          obtain ⟨f, g, rfl, rt, s2, _⟩ := s1.tmp
          cases rt with
          | fro dr =>
            cases dr with
            | @exc a C _ dd φ fsV _ h1' h2 h3 h4 h5 h6 =>
              obtain ⟨q1, q2⟩ := hE c (by simpa using hc) C h3
              obtain ⟨w, l, dw⟩ := lookup_DRs h5 h6 el
              exact ⟨a, C, dd, fsV, w, rfl, ⟨φ, s2.sub _ _ h1', h2, same_xd s2.sub h4⟩, q1, q2, l, h1 w Z1 H1 _ st1 (s2.pushD dw) trivial⟩
        · exact h1.elim
      · exact h1.elim
    · exact h1.elim⟩
end
end Vl

/-! Vl12: exceptions made as values, raised with fields, caught and kept. -/
namespace Vl
open PySem PySem.Spec PyProof.Rows L2

section
variable {G : Gx} {Z H : Hp} {σ : L2.St} {ρ : Env} {fp : List Addr}
/-- a new thing is laid and frozen at once -/
theorem SOk.layFro {q : Addr} {o : HO} (s : SOk G Z H σ ρ fp) (h : H q = none) : SOk G (upd Z q o) (upd H q o) σ ρ fp ∧ Stp Z H fp (upd Z q o) (upd H q o) fp := by
  have np : ∀ a ∈ fp, a ≠ q := fun a ha z => by
    obtain ⟨u, e⟩ := s.sl.there a ha
    rw [z, h] at e; cases e
  have zq : Z q = none := by
    cases e : Z q with
    | none => rfl
    | some u => rw [s.sub q u e] at h; cases h
  have zz : Same Z (upd Z q o) := fun b u e => by rw [upd_ne (ne_of_none e zq)]; exact e
  refine ⟨⟨fun b u e => ?_, s.sl.keep zz fun a ha => upd_ne (np a ha), s.nd, fun a ha => by rw [upd_ne (np a ha)]; exact s.fr a ha⟩, ⟨zz, fun b u e _ => ?_, fun b u e n => ?_, fun a ha => .inr ha⟩⟩
  · by_cases hb : b = q
    · rw [hb, upd_same] at e ⊢; exact e
    · rw [upd_ne hb] at e ⊢; exact s.sub b u e
  · rw [upd_ne (ne_of_none e h)]; exact e
  · by_cases hb : b = q
    · rw [hb]; exact .inl h
    · rw [upd_ne hb, n] at e; cases e
end

section
variable {X : Cx} {W : WX} {P : List Nat} {pos p : Pos} {e : Expr} {te : TE} {m : Env → Out AV} {x : Str}
/-! ### C(e), C without own __init__ -/
def mExc (c : Str) (m : Env → Out AV) : Env → Out AV := fun ρ => obind (m ρ) fun _ ρ1 => some (.ok (.tmp (.fro (.exc c []))), ρ1)
theorem ve_exc1 {C : Addr} {bmB : List Value} {B newId initId : String} (F : ExcBaseFacts B newId initId bmB) (q : PySem.W.excIn X.K C bmB newId = true) (gC : X.mg x = some (.ref C)) (kC : PySem.W.keepIn X.K (.ref C) = true) (hg : Gl X x)
    (he : VE X W e te m) (hs : starEach [e] X.env = (false, eval e X.env) :: starEach [] X.env := by rfl) (hdb : (x == ("__debug__" : Str)) = false := by decide) :
    VE X W (.Call (.Name x p) [e] [] pos) (fun σ H Q => tCons te tNil σ H fun _ H1 => ∀ a, H1 a = none → Q (.ref a) (upd H1 a (ExO (.ref C) a))) (mExc x m) :=
  ⟨by
    refine ⟨fun pins s σ H Q I h => ?_⟩
    exact (pe_exc1 F q gC kC hg he.pe hs hdb).run pins s σ H Q I h, fun Z H σ ρ fp Q s h => by
    refine he.sm Z H σ ρ fp _ s (h.bind.mono fun av ρ1 h1 => ?_)
    intro v Z1 H1 fp1 st1 s1 at1 a ha
    obtain ⟨g, s2, k2⟩ := s1.drop
    obtain ⟨s3, st3⟩ := s2.layFro (o := ExO (.ref C) a) ha
    exact h1 (.ref a) _ _ g ((st1.less k2).trans st3) (s3.pushD (.exc (dd := none) (fsV := []) upd_same (fun h z => by
      obtain ⟨oe, vs, z1, z2, z3, _⟩ := z
      exact ⟨oe, vs, z1, z2, z3⟩) gC rfl rfl .nil)) trivial⟩
/-! ### classes with fields: B.__init__(self, y, ..); self.f = y; .. -/
/-- what such an __init__ does -/
def spI (K : PySem.W.Frag) (C : Addr) (flds : List Str) : Sp := fun vs H Q _ => vs.length = flds.length + 1 ∧ ∃ (a : Addr) (ys : List V), vs = .ref a :: ys ∧ OexC K C ∧ H a = some (exo a C none) ∧ (∀ f ∈ flds, PySem.W.findIn K (.ref C) f = some none) ∧
  ∀ d, H d = none → d ≠ a → ∀ H' : Hp, (∀ b, b ≠ a → b ≠ d → H' b = H b) → H' a = some (exo a C (some d)) → H' d = some (exd d (flds.zip ys).reverse) → Q .non H'
structure Init (Pg : Program) (w : World) (K : PySem.W.Frag) (mg : Str → Option Value) (base : Heap) (x : Str) (flds : List Str) : Prop where
  ex : ∃ (C fI : Addr) (fd : FuncData) (ps : List Str), mg x = some (.ref C) ∧ OexC K C ∧ PySem.W.findIn K (.ref C) "__init__" = some (some (.ref fI)) ∧ PySem.W.typeIn K (.ref fI) = some (.type "function") ∧ FnOk Pg w K mg base CX0 1 fI fd ps (spI K C flds) ∧
    Binds K fd ps [] ∧ (∀ f ∈ flds, PySem.W.findIn K (.ref C) f = some none)
theorem pe_binit {pl : Sem Bool} {CB : Addr} {es : List Expr} {ta : TA} {p1 p2 : Pos} {bx : Str} (hg : Gl X bx) (hm : X.mg bx = some (.ref CB)) (hga : PySem.W.specialIn X.K (.ref CB) "__getattribute__" = some (some (.builtin "type.__getattribute__")))
    (hr : PySem.W.readsIn X.K CB (.type "type") = true) (hf : PySem.W.findCls X.K (.ref CB) (.type "type") "__init__" = some (.val (.builtin "ValueError.__init__"))) (ha : PA X (e :: es) ta) (hdb : (bx == ("__debug__" : Str)) = false := by decide)
    (hc : eval (.Call (.Attribute (.Name bx p1) "__init__" p2) (e :: es) [] pos) X.env = (do
      let ov ← eval (.Name bx p1) X.env
      standAt p2.atName
      let (f, first) ← holding [ov] (getMethod ov "__init__" pl)
      callWith pos f first (backTo pos (starEach (e :: es) X.env)) (backToKw pos (keywordEach [] X.env))) := by rfl)
    (he : starEach (e :: es) X.env = (false, eval e X.env) :: starEach es X.env := by rfl) (hpl : (backTo pos (starEach es X.env)).any (·.1) = false := by rfl) :
    PE X (.Call (.Attribute (.Name bx p1) "__init__" p2) (e :: es) [] pos) (tVeI X.K ta) :=
  ⟨fun pins s σ H Q I h => PySem.W.methodCall_KW (ld_glob I hg hm (PySem.W.method_cls I.kIn hga (PySem.W.cls_value I.kIn hr hf (by rfl) (PyProof.Rows.callWith_method1 (thn (ha.run pos pins _ σ H _ (I.tok _) h) fun us s1 hh => by
    obtain ⟨vs, H1, I1, r1, a, C, ws, ev, hl, T, ea, q⟩ := hh
    subst ev
    cases r1 with
    | @cons _ u0 _ ur ra rs =>
      obtain rfl : u0 = Value.ref a := ra
      exact oinit_ok T I1 ea (by rw [← Paired.length rs, sizeLine_eq]; omega) fun s' J => ⟨.non, H1, J, rfl, q⟩) he hpl))) hdb) hc⟩
def tMkV (C : Addr) (sp : Sp) (ta : TA) : TE := fun σ H Q => ta σ H fun vs H1 => vs.length ≤ 1000 ∧ ∀ a, H1 a = none → sp (.ref a :: vs) (upd H1 a (exo a C none))
  (fun v H2 => v = .non ∧ ∃ (d : Addr) (fs : List (Str × V)), H2 a = some (exo a C (some d)) ∧ H2 d = some (exd d fs) ∧ H1 d = none ∧ Q (.ref a) (upd H2 d (.xd fs))) (fun _ _ _ => False)
/-- the new exception stays tracked -/
theorem made_kept {pins : List (Addr × Obj)} {σ : L2.St} {H1 H2 : Hp} {hp hp2 h2 : Heap} {g1 g2 : Array GenState} {d1 d2 : Drawn} {t1 t2 : Nat} {os1 os2 : OsState} {a C d : Addr} {fs : List (Str × V)} (I1 : Inv X pins σ H1 ⟨hp, g1, d1, t1, os1⟩)
    (ha : hp.objs.size ≤ a) (k : ∀ b o, hp.get? b = some o → hp2.get? b = some o) (un : Un (frs X.stack) [] (upd H1 a (exo a C none)) H2 hp2 h2) (hok : HOk X.prog X.w H2 h2) (ho : os2 = os1) (hb : AllBare g2)
    (ea : H2 a = some (exo a C (some d))) (ed : H2 d = some (exd d fs)) (hd1 : H1 d = none) : Inv X pins σ (upd H2 d (.xd fs)) ⟨h2, g2, d2, t2, os2⟩ := by
  obtain ⟨mA, hns, rel⟩ := exd_at hok ed
  have hn : H1 a = none := I1.hok.fresh ha
  have nha : ∀ {b : Addr} {o : Obj}, hp.get? b = some o → b ≠ a := fun {b o} z => Nat.ne_of_lt (Nat.lt_of_lt_of_le (Heap.lt_size z) ha)
  have up : ∀ {b : Addr}, b ≠ a → H1 b = none → upd H1 a (exo a C none) b = none := fun {b} hb n => by rw [upd_ne hb]; exact n
  refine I1.call' (ch := []) ho ⟨fun b o z n hf hx => un.keep b o (k b o z) (up (nha z) n) hf hx, fun b o z n hf hx => un.slot b o (k b o z) (up (nha z) n) hf hx, fun b o z n hx => ?_, fun b o z hx => un.there b o (k b o z) hx, fun b xs z => ?_, fun b o v z => ?_, fun b ps z => ?_⟩ (fun b o z => ?_) hb (fun b z => absurd z (by simp))
  · have y := un.free b o (k b o z) (up (nha z) n) (by simp)
    rw [upd_ne (fun e => by rw [e, ed] at y; cases y)]
    exact y
  · rw [upd_ne (ne_of_none z hd1)]
    exact un.tups b xs (by rw [upd_ne (ne_of_none z hn)]; exact z)
  · rw [upd_ne (ne_of_none z hd1)]
    exact un.frzs b o v (by rw [upd_ne (ne_of_none z hn)]; exact z)
  · rw [upd_ne (ne_of_none z hd1)]
    exact un.tbls b ps (by rw [upd_ne (ne_of_none z hn)]; exact z)
  · by_cases hbd : b = d
    · subst hbd
      rw [upd_same] at z
      cases z
      exact ⟨mA, hns, rel⟩
    · rw [upd_ne hbd] at z
      exact (hok b o z).stay (fun c v _ y => y) (fun c hc => by rw [upd_ne (at_ne ed hc exd_own)]; exact hc) (fun c xs hc => by rw [upd_ne (at_ne ed hc exd_tup)]; exact hc)
theorem pe_oexV {es : List Expr} {ta : TA} {C fI : Addr} {k : Nat} {fd : FuncData} {ps : List Str} {sp : Sp} (T : OexC X.K C) (iC : PySem.W.findIn X.K (.ref C) "__init__" = some (some (.ref fI))) (tI : PySem.W.typeIn X.K (.ref fI) = some (.type "function"))
    (F1 : FnOk X.prog X.w X.K X.mg X.base CX0 k fI fd ps sp) (hr : Room (k + 1) X.A) (hb : Binds X.K fd ps []) (hg : Gl X x) (hm : X.mg x = some (.ref C)) (ha : PA X (e :: es) ta)
    (hdb : (x == ("__debug__" : Str)) = false := by decide) (he : starEach (e :: es) X.env = (false, eval e X.env) :: starEach es X.env := by rfl) (hpl : (backTo pos (starEach es X.env)).any (·.1) = false := by rfl) :
    PE X (.Call (.Name x p) (e :: es) [] pos) (tMkV C sp ta) := by
  refine ⟨fun pins s σ H Q I h => ?_⟩
  obtain ⟨nm, q, N, bs, bm, sn, sub, ab, col, dd, k0, k1, k2, k3, k5, hC, hbm⟩ := T.cls
  refine wpAny_Call_Name_kw (ld_glob I hg hm (PySem.W.callWith_K (h₀ := X.base) I.ok.mod.kin T.kC (thn (ha.run pos pins s σ H _ I h) fun us s1 hh => ?_) he hpl) hdb)
  obtain ⟨vs, H1, I1, rv, hz, q1⟩ := hh
  refine ⟨I1.kIn, ?_⟩
  obtain ⟨hp, g, dr, tk, os⟩ := s1
  have big : hp.objs.size ≤ hp.objs.size + 1 := Nat.le_succ _
  have hn : H1 (hp.objs.size + 1) = none := I1.hok.fresh big
  have hq := q1 (hp.objs.size + 1) hn
  have keeps : ∀ b o, hp.get? b = some o → ((hp.push (PySem.W.kdv_tup us)).push (PySem.HandSPX.excO C hp.objs.size)).get? b = some o := fun b o z => Heap.get?_push_of_some _ (Heap.get?_push_of_some _ z)
  have new : ((hp.push (PySem.W.kdv_tup us)).push (PySem.HandSPX.excO C hp.objs.size)).get? (hp.objs.size + 1) = some (PySem.HandSPX.excO C hp.objs.size) := by heap_get
  have I2 := I1.laid (t' := tk) (a := hp.objs.size + 1) (o := exo (hp.objs.size + 1) C none) (h' := (hp.push (PySem.W.kdv_tup us)).push (PySem.HandSPX.excO C hp.objs.size)) keeps big (exo_ok new)
  have rs : Vals (V.ref (hp.objs.size + 1) :: vs) (Value.ref (hp.objs.size + 1) :: us) := .cons rfl rv
  have hl : (Value.ref (hp.objs.size + 1) :: us ++ []).length = ps.length := by
    rw [List.append_nil, ← rs.length]
    exact F1.len _ _ _ _ hq
  have hus : us.length ≤ sizeLine := by rw [← Paired.length rv, sizeLine_eq]; omega
  have bd := hb _ (Value.ref (hp.objs.size + 1) :: us) I2.kIn hl
  rw [List.append_nil] at bd
  refine wpAny_call (PySem.HandSPX.call_own F.excBase_ValueError (fun Y => PySem.HandSPX.refsVE_contains Y bm hbm) (I1.kIn _ _ hC) (PySem.W.looks_findIn I1.kIn iC) (fun self => PySem.W.bind_fn I1.kIn self tI) hus
    (codeAny_mono (F1.run _ X.stack _ _ ⟨Value.ref (hp.objs.size + 1) :: us, []⟩ _ _ _ (fun _ _ _ => False) (hr.make C us []) (I2.env0.make C us []) bd rs hq) fun r s' hq' => ?_))
  match r, hq' with
  | .error er, hq' => exact hq'.elim
  | .ok (.ret u), ⟨v, H2, os2, bare2, un2, hok2, ru, ev, d, fs, ea, ed, hd1, q2⟩ =>
    subst ev
    obtain ⟨h2, g2, d2, t2, os'⟩ := s'
    exact ⟨ru, V.ref (hp.objs.size + 1), _, made_kept I1 big keeps un2 hok2 os2 bare2 ea ed hd1, rfl, q2⟩
  | .ok .next, hq' => exact hq'.elim
  | .ok .brk, hq' => exact hq'.elim
  | .ok .cont, hq' => exact hq'.elim
def mExcI (c : Str) (flds : List Str) (ma : Env → Out (List AV)) : Env → Out AV := fun ρ => obind (ma ρ) fun avs ρ1 => match nrm avs ρ1 with
  | some (ts, ρ2) => if ts.length = flds.length ∧ ts.length ≤ 100 then some (.ok (.tmp (.fro (.exc c (flds.zip (T.erL ts)).reverse))), ρ2) else none
  | none => none
theorem zip_fst {α β : Type} : ∀ {l : List α} {r : List β}, l.length = r.length → (l.zip r).map (·.1) = l
  | [], [], _ => rfl
  | _ :: l, _ :: r, h => by simp [zip_fst (l := l) (r := r) (by simpa using h)]
theorem zip_snd {α β : Type} : ∀ {l : List α} {r : List β}, l.length = r.length → (l.zip r).map (·.2) = r
  | [], [], _ => rfl
  | _ :: l, _ :: r, h => by simp [zip_snd (l := l) (r := r) (by simpa using h)]
theorem DRs.rev {G : Gx} {Z : Hp} {vs : List V} {ds : List D} (r : DRs G Z vs ds) : DRs G Z vs.reverse ds.reverse := by
  refine .of_get (by simp [r.length]) fun i v d e1 e2 => ?_
  have hl := r.length
  have h1 : i < vs.length := by
    have := (List.getElem?_eq_some_iff.mp e1).1
    simpa using this
  rw [List.getElem?_reverse h1] at e1
  rw [List.getElem?_reverse (by omega)] at e2
  obtain ⟨d', e3, q⟩ := r.get e1
  rw [← hl, e3] at e2
  cases e2
  exact q
/-- the two new objects and what the exception then stands for -/
theorem exc_fro {K : PySem.W.Frag} {Z H : Hp} {σ : L2.St} {ρ : Env} {fp : List Addr} {a d C : Addr} {c : Str} {flds : List Str} {vs : List V} {ds : List D} (s : SOk (gx X) Z H σ ρ fp) (r : DRs (gx X) Z vs ds) (hl : ds.length = flds.length) (ha : H a = none) (hd : H d = none) (hne : d ≠ a) (gC : X.mg c = some (.ref C)) :
    ∃ Z', Stp Z H fp Z' (upd (upd H d (.xd (flds.zip vs).reverse)) a (exo a C (some d))) fp ∧ SOk (gx X) Z' (upd (upd H d (.xd (flds.zip vs).reverse)) a (exo a C (some d))) σ ρ fp ∧ DR (gx X) Z' (.ref a) (.exc c (flds.zip ds).reverse) := by
  obtain ⟨s1, t1⟩ := s.layFro (o := .xd (flds.zip vs).reverse) hd
  obtain ⟨s2, t2⟩ := s1.layFro (q := a) (o := exo a C (some d)) (by rw [upd_ne (Ne.symm hne)]; exact ha)
  have hvl : vs.length = flds.length := by rw [r.length, hl]
  refine ⟨_, t1.trans t2, s2, .exc (dd := some d) (fsV := (flds.zip vs).reverse) upd_same (fun h z => ?_) gC ?_ ?_ ?_⟩
  · obtain ⟨t, z1⟩ := z
    exact ⟨_, _, z1, ⟨rfl, rfl⟩, rfl⟩
  · show _ = _
    rw [upd_ne hne, upd_same]
  · rw [List.map_reverse, List.map_reverse, zip_fst hvl.symm, zip_fst hl.symm]
  · rw [List.map_reverse, List.map_reverse, zip_snd hvl.symm, zip_snd hl.symm]
    exact (r.mono (t1.trans t2).zle).rev
theorem ve_excI {es : List Expr} {ta : TA} {ma : Env → Out (List AV)} {flds : List Str} (I0 : Init X.prog X.w X.K X.mg X.base x flds) (hr : Room 2 X.A) (hg : Gl X x) (ha : VA X W (e :: es) ta ma)
    (hdb : (x == ("__debug__" : Str)) = false := by decide) (he : starEach (e :: es) X.env = (false, eval e X.env) :: starEach es X.env := by rfl) (hpl : (backTo pos (starEach es X.env)).any (·.1) = false := by rfl) :
    ∃ t, VE X W (.Call (.Name x p) (e :: es) [] pos) t (mExcI x flds ma) := by
  obtain ⟨C, fI, fd, ps, gC, oC, iC, tI, F1, hb, hno⟩ := I0.ex
  refine ⟨_, pe_oexV oC iC tI F1 hr hb hg gC ha.pa hdb he hpl, fun Z H σ ρ fp Q s h => ?_⟩
  refine ha.sm Z H σ ρ fp _ s (h.bind.mono fun avs ρ1 h1 => ?_)
  intro vs Z1 H1 fp1 st1 s1 at1
  split at h1
  case h_2 => exact h1.elim
  rename_i ts ρ2 en
  by_cases hc : ts.length = flds.length ∧ ts.length ≤ 100
  case neg => rw [if_neg hc] at h1; exact h1.elim
  rw [if_pos hc] at h1
  obtain ⟨hl, Z2, g2, st2, s2⟩ := nrm_ok s1 at1 en
  obtain ⟨Z3, g3, st3, drs, s3⟩ := SOk.frzAll (by rw [avAt_len at1, hl]) s2
  have hvl : vs.length = ts.length := by rw [avAt_len at1, hl]
  refine ⟨by omega, fun a hna => ⟨by simp [hvl, hc.1], a, vs, rfl, oC, upd_same, hno, fun d hd hne H' k1 k2 k3 => ⟨rfl, d, _, k2, k3, ?_, ?_⟩⟩⟩
  · rw [upd_ne hne] at hd; exact hd
  · rw [upd_ne hne] at hd
    have eH : upd H' d (.xd (flds.zip vs).reverse) = upd (upd H1 d (.xd (flds.zip vs).reverse)) a (exo a C (some d)) := by
      funext b
      by_cases hb1 : b = d
      · rw [hb1, upd_same, upd_ne hne, upd_same]
      · rw [upd_ne hb1]
        by_cases hb2 : b = a
        · rw [hb2, upd_same, k2]
        · rw [upd_ne hb2, upd_ne hb1, k1 b hb2 hb1, upd_ne hb2]
    rw [eH]
    obtain ⟨Z4, st4, s4, dr⟩ := exc_fro (K := X.K) (flds := flds) s3 drs (by rw [T.erL_map, List.length_map, hc.1]) hna hd hne gC
    exact h1 _ Z4 _ g3 (st1.trans (st2.trans (st3.trans st4))) (s4.pushD dr) trivial
/-- raise C(e, ..), C with own __init__ -/
def mRaiseI (c : Str) (flds : List Str) (ma : Env → Out (List AV)) : Env → Out Fl := fun ρ => sbind (ma ρ) fun avs ρ1 => match nrm avs ρ1 with
  | some (ts, ρ2) => if ts.length = flds.length ∧ ts.length ≤ 100 then some (.error ⟨c, (flds.zip (T.erL ts)).reverse⟩, ρ2) else none
  | none => none
theorem vs_raiseI {es : List Expr} {ta : TA} {ma : Env → Out (List AV)} {flds : List Str} {rpos : Pos} (hc : X.calm = true) (tk : Takes X W) (I0 : Init X.prog X.w X.K X.mg X.base x flds) (hr : Room 2 X.A) (hg : Gl X x) (ha : VA X W (e :: es) ta ma)
    (hdb : (x == ("__debug__" : Str)) = false := by decide) (he : starEach (e :: es) X.env = (false, eval e X.env) :: starEach es X.env := by rfl) (hpl : (backTo pos (starEach es X.env)).any (·.1) = false := by rfl) :
    ∃ t, VS X W P (.Raise (some (.Call (.Name x p) (e :: es) [] pos)) none rpos) t (mRaiseI x flds ma) := by
  obtain ⟨C, fI, fd, ps, gC, oC, iC, tI, F1, hb, hno⟩ := I0.ex
  refine ⟨_, ps_raise hc tk (pmk_oex (ds := []) (dvs := []) oC iC tI F1 hr hb .nil pass0 hg gC ha.pa hdb he hpl), fun Z H σ ρ fp D s h => ?_⟩
  refine ha.sm Z H σ ρ fp _ s (h.bind.mono fun avs ρ1 h1 => ?_)
  intro vs Z1 H1 fp1 st1 s1 at1
  split at h1
  case h_2 => exact h1.elim
  rename_i ts ρ2 en
  by_cases hz : ts.length = flds.length ∧ ts.length ≤ 100
  case neg => rw [if_neg hz] at h1; exact h1.elim
  rw [if_pos hz] at h1
  obtain ⟨hl, Z2, g2, st2, s2⟩ := nrm_ok s1 at1 en
  obtain ⟨Z3, g3, st3, drs, s3⟩ := SOk.frzAll (by rw [avAt_len at1, hl]) s2
  have hvl : vs.length = ts.length := by rw [avAt_len at1, hl]
  have hdl : (T.erL ts).length = flds.length := by rw [T.erL_map, List.length_map, hz.1]
  refine ⟨by omega, fun a hna => ⟨by simp [hvl, hz.1], a, vs ++ [], rfl, oC, upd_same, hno, fun d hd hne H' k1 k2 k3 => ⟨rfl, d, _, k2, k3, ?_, ?_⟩⟩⟩
  · rw [upd_ne hne] at hd; exact hd
  · rw [upd_ne hne] at hd
    rw [List.append_nil]
    have eH : upd (del H' a) d (.xd (flds.zip vs).reverse) = upd H1 d (.xd (flds.zip vs).reverse) := by
      funext b
      by_cases hb1 : b = d
      · rw [hb1, upd_same, upd_same]
      · rw [upd_ne hb1, upd_ne hb1]
        by_cases hb2 : b = a
        · rw [hb2, del_same, hna]
        · rw [del_ne hb2, k1 b hb2 hb1, upd_ne hb2]
    rw [eH]
    obtain ⟨s4, st4⟩ := s3.layFro (o := .xd (flds.zip vs).reverse) hd
    refine h1 (.ref C) (some d) σ _ _ g3 (st1.trans (st2.trans (st3.trans st4))) s4 Pin.refl ⟨C, (flds.zip vs).reverse, rfl, gC, upd_same, ?_, ?_⟩
    · rw [List.map_reverse, List.map_reverse, zip_fst (by rw [hvl, hz.1]), zip_fst hdl.symm]
    · rw [List.map_reverse, List.map_reverse, zip_snd (by rw [hvl, hz.1]), zip_snd hdl.symm]
      exact (drs.mono st4.zle).rev
end
/-! ### the two forms of __init__ -/
section
variable {Pg : Program} {w : World} {K : PySem.W.Frag} {mg : Str → Option Value} {base : Heap} {C : Addr}
theorem start_get {N : List Str} {vs : List V} {i : Nat} {v : V} (h : vs[i]? = some v) : (start N vs)[i]? = some (some v) := by
  show (vs.map some ++ _)[i]? = _
  rw [List.getElem?_append_left (by rw [List.length_map]; exact (List.getElem?_eq_some_iff.mp h).1), List.getElem?_map, h]
  rfl
theorem init1_ok {x qual f : Str} {st : Stmt} {fI : Addr} {fd : FuncData} {N ps : List Str} (Fn : Fun K x qual st fI fd) (S : FnScope N ps (defScope st)) (hl : ps.length = 2)
    (hps : ∀ (cdv : Value) (A : Around) (outer : List PySem.Env) (s : Shared) (H : Hp) (E : XK), PSs (cxOf CX0 Pg w K mg base N qual (defScope st) fI cdv A outer s H E) (defBody st) (tSeq (tDrop (tVeI K (tCons (tVar 0) (tCons (tVar 1) tNil)))) (tOst K f (tVar 0) (tVar 1)))) :
    FnOk Pg w K mg base CX0 1 fI fd ps (spI K C [f]) := by
  obtain ⟨oc, od, kV, doc, pm, an, cdv, ct, osl, rfl, lk, hcd⟩ := Fn.ex
  refine fn_of lk hcd S (fun vs H Q E h => by rw [hl]; exact h.1) fun A outer s H vs Q E hr hsp => ⟨_, hps cdv A outer s H E, ?_⟩
  obtain ⟨h1, a, ys, rfl, T, ha, hno, fin⟩ := hsp
  cases ys with
  | nil => simp at h1
  | cons y ys =>
    cases ys with
    | cons => simp at h1
    | nil =>
      have g0 := start_get (N := N) (vs := [V.ref a, y]) (i := 0) rfl
      have g1 := start_get (N := N) (vs := [V.ref a, y]) (i := 1) rfl
      refine ⟨.ref a, g0, y, g1, a, C, [y], rfl, by simp, T, ha, y, g1, .ref a, g0, a, C, rfl, T, hno f (by simp), .inl ⟨ha, fun d hd hne => ?_⟩⟩
      exact fin d hd hne _ (fun b h1 h2 => by rw [upd_ne h1, upd_ne h2]) upd_same (by rw [upd_ne hne, upd_same]; rfl)
theorem init2_ok {x qual f g : Str} {st : Stmt} {fI : Addr} {fd : FuncData} {N ps : List Str} (Fn : Fun K x qual st fI fd) (S : FnScope N ps (defScope st)) (hl : ps.length = 3)
    (hps : ∀ (cdv : Value) (A : Around) (outer : List PySem.Env) (s : Shared) (H : Hp) (E : XK), PSs (cxOf CX0 Pg w K mg base N qual (defScope st) fI cdv A outer s H E) (defBody st) (tSeq (tDrop (tVeI K (tCons (tVar 0) (tCons (tVar 1) (tCons (tVar 2) tNil))))) (tSeq (tOst K f (tVar 0) (tVar 1)) (tOst K g (tVar 0) (tVar 2))))) :
    FnOk Pg w K mg base CX0 1 fI fd ps (spI K C [f, g]) := by
  obtain ⟨oc, od, kV, doc, pm, an, cdv, ct, osl, rfl, lk, hcd⟩ := Fn.ex
  refine fn_of lk hcd S (fun vs H Q E h => by rw [hl]; exact h.1) fun A outer s H vs Q E hr hsp => ⟨_, hps cdv A outer s H E, ?_⟩
  obtain ⟨h1, a, ys, rfl, T, ha, hno, fin⟩ := hsp
  cases ys with
  | nil => simp at h1
  | cons y ys =>
    cases ys with
    | nil => simp at h1
    | cons z ys =>
      cases ys with
      | cons => simp at h1
      | nil =>
        have g0 := start_get (N := N) (vs := [V.ref a, y, z]) (i := 0) rfl
        have g1 := start_get (N := N) (vs := [V.ref a, y, z]) (i := 1) rfl
        have g2 := start_get (N := N) (vs := [V.ref a, y, z]) (i := 2) rfl
        refine ⟨.ref a, g0, y, g1, z, g2, a, C, [y, z], rfl, by simp, T, ha, y, g1, .ref a, g0, a, C, rfl, T, hno f (by simp), .inl ⟨ha, fun d hd hne => ?_⟩⟩
        refine ⟨z, g2, .ref a, g0, a, C, rfl, T, hno g (by simp), .inr ⟨d, [(f, y)], upd_same, by rw [upd_ne hne, upd_same], by simp, ?_⟩⟩
        exact fin d hd hne _ (fun b h1 h2 => by rw [upd_ne h2, upd_ne h1, upd_ne h2]) (by rw [upd_ne (Ne.symm hne), upd_same]) (by rw [upd_same]; rfl)
end

/-! ### try: body / except x as n: y = n -/
section
variable {X : Cx} {pins : List (Addr × Obj)} {σ : L2.St} {H : Hp} {s : Shared} {a : Addr} {o : HO}
/-- a thing that stands in the heap is tracked from now on -/
theorem Inv.track (I : Inv X pins σ H s) (h0 : X.s_0.heap.get? a = none) (hn : H a = none) (nl : a ≠ X.env.locals) (nc : ∀ x c, X.env.cells.lookup x = some c → c ≠ a) (np : ∀ p ∈ X.pn ++ pins, p.1 ≠ a) (new : ObjOk X.prog X.w (upd H a o) s.heap a o) : Inv X pins σ (upd H a o) s := by
  have n0 : ∀ {b : Addr} {u : Obj}, X.s_0.heap.get? b = some u → b ≠ a := fun {b u} e z => by rw [z, h0] at e; cases e
  have B := I.base
  refine ⟨I.ok, I.os, I.bare, ⟨B.keep, B.slot, fun b u e n hx => ?_, B.there, fun b xs e => ?_, fun b u v e => ?_, fun b ps e => ?_⟩, I.loc, I.cell, ?_, fun x c e => ?_, fun p hp => ?_, fun b u e => ?_, I.len⟩
  · rw [upd_ne (n0 e)]; exact B.free b u e n hx
  · have q := B.tups b xs e
    rw [upd_ne (ne_of_none q hn)]; exact q
  · have q := B.frzs b u v e
    rw [upd_ne (ne_of_none q hn)]; exact q
  · obtain ⟨m, q⟩ := B.tbls b ps e
    exact ⟨m, by rw [upd_ne (ne_of_none q hn)]; exact q⟩
  · rw [upd_ne (Ne.symm nl)]; exact I.free
  · rw [upd_ne (nc x c e)]; exact I.freeC x c e
  · obtain ⟨e1, e2, e3, e4, e5⟩ := I.pin p hp
    exact ⟨e1, by rw [upd_ne (np p hp)]; exact e2, e3, e4, e5⟩
  · by_cases hb : b = a
    · subst hb
      rw [upd_same] at e
      cases e
      exact new
    · rw [upd_ne hb] at e
      exact (I.hok b u e).stay (fun c v _ q => q) (fun c q => by rw [upd_ne (ne_of_none q hn)]; exact q) fun c xs q => by rw [upd_ne (ne_of_none q hn)]; exact q
end
/-- at a: an exception of the class cls, its dict d -/
def ExT (cls : Value) (d : Option Addr) (a : Addr) : HO := .ext fun h => ∃ (oe : Obj) (vs : Array Value), h.get? a = some oe ∧ Zc cls d oe ∧ oe.data = .fields vs
theorem exT_ok {Pg : Program} {w : World} {H : Hp} {h : Heap} {a : Addr} {cls : Value} {d : Option Addr} {oe : Obj} {vs : Array Value} (e : h.get? a = some oe) (z : Zc cls d oe) (hd : oe.data = .fields vs) : ObjOk Pg w H h a (ExT cls d a) :=
  ⟨⟨oe, vs, e, z, hd⟩, ⟨oe, e⟩, fun _ _ ⟨o, v, q, r⟩ k => ⟨o, v, k o q, r⟩⟩
/-- what the clause wishes: slot i is n's, slot j is y's -/
def wKept (K : PySem.W.Frag) (c : Value) (i j : Nat) (Wout : WX) (D : Ends) : WX := fun cls d σ H =>
  ∃ b, PySem.W.exmOne K cls c = some b ∧ (b = true → ∀ a, H a = none → D.nx (((σ.set i (some (.ref a))).set j (some (.ref a))).set i none) (upd H a (ExT cls d a))) ∧ (b = false → Wout cls d σ H)
section
variable {X : Cx} {x n y : Str} {c : Value} {i j : Nat} {body : List Stmt} {np q1 q2 q3 pos pos' : Pos} {tb : WX → TS} {Wout : WX}
theorem ps_try_kept (hs : X.stack = X.env :: X.outer) (hf : X.env.frame = some X.env.locals) (hex : X.ex = []) (hN : X.N.Nodup) (hi : X.N[i]? = some n) (hln : X.env.kindOf n = some .local) (hj : X.N[j]? = some y) (hly : X.env.kindOf y = some .local) (hfn : X.fn y = true ∨ X.env.scope.names.lookup y = some .local)
    (hnd : (n == ("__debug__" : Str)) = false) (hnc : (n == ("__classdict__" : Str)) = false) (hc : Names X x c) (tk : Takes X Wout)
    (hb : ∀ (W : WX) (pn : List (Addr × Obj)) (xe : Value → Shared → Prop), Takes (X.tr pn xe) W → PassesOwn (model X.prog X.w) X.A X.env xe → PSs (X.tr pn xe) body (tb W)) :
    PS X (.Try body [.ExceptHandler (some (.Name x np)) (some n) [.Assign [.Name y q1] (.Name n q2) q3] pos'] [] [] pos) (fun D σ H => tb (wKept X.K c i j Wout D) D σ H) := by
  refine ⟨fun pins s σ H D I0 hyp => wpAny_Try_except ?_⟩
  have okX := I0.ok
  have frames : X.A.frames = some (X.env :: X.outer) := by rw [okX.frames, hs]
  refine wpAny_mono ((hb (wKept X.K c i j Wout D) (X.pn ++ pins) (fun e t1 => wpAny (model X.prog X.w) X.A (noteFrame e X.env) (fun _ t2 => wpAny (model X.prog X.w) X.A (setFlight e none) (fun _ t3 =>
    wpAny (model X.prog X.w) X.A (handleBy e X.env [.ExceptHandler (some (.Name x np)) (some n) [.Assign [.Name y q1] (.Name n q2) q3] pos']) (SP X pins D) X.xe t3) X.xe t2) X.xe t1) (fun u s' air => ?_) PassesOwn.looking).run [] s σ H D (I0.toTry _) hyp) (fun fl s1 end1 => ?_) (fun _ _ he => he)
  · obtain ⟨a, B, sI, pz, σ', H', cls, d, rfl, R', grd, up0, sky, na, os0, bare0, b, test1, yes1, no1⟩ := air
    have R : Inv X pins σ' H' sI := R'.ofTry okX
    have sky2 : Sky B (X.env :: X.outer) a (Zc cls d) X.env.locals s'.heap := hs ▸ sky
    show wpAny (model X.prog X.w) X.A (noteFrame (.ref a) X.env) _ _ _
    refine Sky.land Zc.steady frames hf sky2 fun k3 w3 up3 => ?_
    have R3 : Inv X pins σ' H' { s' with heap := k3 } := R.landed grd w3.1 (up0.trans up3) os0 bare0
    obtain ⟨x3, f3, g3, z3, e3⟩ := w3.there
    have outF : a ∉ frs (X.env :: X.outer) := fun hm => by
      obtain ⟨_, o', e', hnf⟩ := w3.2.2.1.mem hm
      rw [g3] at e'
      cases e'
      exact hnf _ e3
    have aL : a ≠ X.env.locals := fun z => outF (List.mem_filterMap.mpr ⟨X.env, List.mem_cons_self, by rw [hf, z]⟩)
    have aF : a ∉ X.fs := fun hm => by
      obtain ⟨v, hv, q⟩ := List.mem_filterMap.mp hm
      exact outF (List.mem_filterMap.mpr ⟨v, List.mem_cons_of_mem _ hv, q⟩)
    have B0 : B.get? a = none := w3.2.1
    have ground : ∀ {b : Addr} {o : Obj}, sI.heap.get? b = some o → b ∉ frs X.stack → b ≠ a := fun {b o} e1 e2 z => by
      have q := grd b o e1 e2
      rw [z, B0] at q
      cases q
    have new0 : X.s_0.heap.get? a = none := by
      cases e : X.s_0.heap.get? a with
      | none => rfl
      | some o =>
        obtain ⟨o', q⟩ := R.base.there a o e (by rw [hex]; simp)
        exact absurd rfl (ground q (by rw [hs]; exact outF))
    have pinN : ∀ p ∈ X.pn ++ pins, p.1 ≠ a := fun p hp => by
      obtain ⟨e1, _, e2, e4, _⟩ := R.pin p hp
      refine ground e1 fun hm => ?_
      rw [hs] at hm
      rcases List.mem_filterMap.mp hm with ⟨v, hv, q⟩
      rcases List.mem_cons.mp hv with rfl | hv
      · rw [hf] at q
        exact e2 (Option.some.inj q).symm
      · exact e4 (List.mem_filterMap.mpr ⟨v, hv, q⟩)
    have U3 := R3.suite g3 e3 na aL aF
    refine wpAny_handleBy_cons (codeAny_handlers_test ?_) (by intro q; cases q)
    have tyA : PySem.W.Looks (model X.prog X.w) k3 (typeOf (.ref a)) cls := fun A Q E s k q => wpAny_typeOf_ref (k _ _ g3) (by rw [z3.1]; exact q)
    have tst := PySem.W.exm_one (M := model X.prog X.w) R3.kIn tyA test1
    have named : ∀ {Q E : Value → Shared → Prop}, Q c { s' with heap := k3 } → wpAny (model X.prog X.w) (X.A.mark (some (.ref a))) (eval (.Name x np) X.env) Q E { s' with heap := k3 } := fun {Q E} q => by
      obtain ⟨n1, n2, n3 | ⟨n3, n4, n5⟩⟩ := hc
      · exact ld_glob (X := X.suite a ((a, x3) :: (X.pn ++ pins))) U3 n1 n3 q n2
      · exact ld_blt (X := X.suite a ((a, x3) :: (X.pn ++ pins))) U3 n1 n3 n4 q n5 n2
    refine named (tst.here ?_)
    cases b with
    | true =>
      refine codeAny_handlers_suite_as (HandSPX.lands_againZ w3 fun k4 w4 up4 => ?_)
      have R4 : Inv X pins σ' H' { s' with heap := k4 } := R.landed grd w4.1 ((up0.trans up3).trans up4) os0 bare0
      obtain ⟨x4, f4, g4, z4, e4⟩ := w4.there
      refine store_ok (X := X.suite a ((a, x4) :: (X.pn ++ pins))) (v := .ref a) (R4.suite g4 e4 na aL aF) hN hi (.inl hln) rfl (fun s5 U5 => ?_) (.inr hln)
      have asg : PSs (X.suite a ((a, x4) :: (X.pn ++ pins))) [.Assign [.Name y q1] (.Name n q2) q3] (tAsg (tVar i) (gName j)) :=
        pss_one (ps_set hN hj (.inl hly) (pe_var hi (.inl hln) hnd hnc) (by rfl) hfn)
      have len5 : i < (σ'.set i (some (V.ref a))).length := by
        have q := U5.len
        have h2 : i < X.N.length := (List.getElem?_eq_some_iff.mp hi).1
        rw [q]
        exact h2
      have got : (σ'.set i (some (V.ref a)))[i]? = some (some (V.ref a)) := List.getElem?_set_self (by simpa using len5)
      refine wpAny_mono (asg.run [] s5 _ H' { nx := fun τ K => τ = (σ'.set i (some (V.ref a))).set j (some (V.ref a)) ∧ K = H', rt := fun _ _ => False } U5 ⟨V.ref a, got, rfl, rfl⟩) (fun fl s6 hsp => ?_) (fun _ _ z => z.elim)
      match fl, hsp with
      | .next, ⟨_, _, U6, rfl, rfl⟩ =>
        obtain ⟨h6, n6, _⟩ := U6.pin (a, x4) (List.mem_append_left _ List.mem_cons_self)
        have R6 := Inv.track (o := ExT cls d a) (U6.unsuite okX) new0 n6 aL (fun v cc e z => by
          obtain ⟨w, o, q, hd⟩ := U6.cell v cc e
          rw [z] at q
          have q' : s6.heap.get? a = some o := q
          rw [h6] at q'
          cases q'
          rw [e4] at hd
          cases hd) pinN (exT_ok h6 z4 e4)
        exact gone_ok R6 hN hi hln fun s7 R7 => ⟨_, _, R7, yes1 rfl a na⟩
      | .brk, ⟨_, _, _, q⟩ => exact q.elim
      | .cont, ⟨_, _, _, q⟩ => exact q.elim
      | .ret _, ⟨_, _, _, _, _, q⟩ => exact q.elim
    | false =>
      show wpAny _ X.A (handleBy (.ref a) X.env []) _ _ _
      refine wpAny_handleBy_nil ?_
      obtain ⟨_, _, _, o5, v5, T5, _, _, h5, _, d5, r5, _⟩ := id w3
      unfold PySem.passOn
      refine wpAny_bind (wpAny_field h5 d5 r5 ?_)
      rw [if_neg (show ¬ ((Value.ref T5 == Value.none) = true) from by simp)]
      have out : wpAny (model X.prog X.w) X.A (setFlight (.ref a) X.env.frame) (fun _ s4 => wpAny (model X.prog X.w) X.A (throw (.ref a) : Sem Flow) (SP X pins D) X.xe s4) X.xe { s' with heap := k3 } := by
        rw [hf]
        exact HandSPX.setFlight_upZ w3 fun k4 w4 up4 => wpAny_throw (tk _ _ ⟨a, B, sI, pins, σ', H', cls, d, rfl, R, grd, (up0.trans up3).trans up4, .inr (.inr (hs ▸ w4)), na, os0, bare0, no1 rfl⟩)
      first
        | exact wpAny_bind (wpAny_pure (wpAny_bind out))
        | exact wpAny_bind out
  · match fl, end1 with
    | .next, ⟨τ, K, R, q⟩ => exact wpAny_execs_nil ⟨τ, K, R.ofTry okX, q⟩
    | .brk, ⟨τ, K, R, q⟩ => exact ⟨τ, K, R.ofTry okX, q⟩
    | .cont, ⟨τ, K, R, q⟩ => exact ⟨τ, K, R.ofTry okX, q⟩
    | .ret _, ⟨v, τ, K, R, rv, q⟩ => exact ⟨v, τ, K, R.ofTry okX, rv, q⟩
def mTry (i j : Nat) (ex : Str → Option Bool) (mb : Env → Out Fl) : Env → Out Fl := fun ρ => match mb ρ with
  | some (.error x, ρ1) => match ex x.c with
    | some true => some (.ok .nx, ((ρ1.set i (some (.fro (.exc x.c x.fs)))).set j (some (.fro (.exc x.c x.fs)))).set i none)
    | some false => some (.error x, ρ1)
    | none => none
  | o => o
theorem Cxt.tr {W : WX} {k : Nat} (cx : Cxt X W k) {W' : WX} {pn : List (Addr × Obj)} {xe : Value → Shared → Prop} (tk : Takes (X.tr pn xe) W') (po : PassesOwn (model X.prog X.w) X.A X.env xe) : Cxt (X.tr pn xe) W' k :=
  ⟨cx.gd, cx.hr, tk, po, cx.cm, cx.hs, cx.hf⟩
theorem vs_try {W : WX} {k : Nat} {P : List Nat} {ex : Str → Option Bool} {mb : Env → Out Fl} (cx : Cxt X W k) (hex : X.ex = []) (hN : X.N.Nodup) (hi : X.N[i]? = some n) (hln : X.env.kindOf n = some .local) (hj : X.N[j]? = some y) (hly : X.env.kindOf y = some .local)
    (hpi : i ∉ P) (hpj : j ∉ P) (hc : Names X x c) (hE : ∀ e b C, ex e = some b → X.mg e = some (.ref C) → PySem.W.exmOne X.K (.ref C) c = some b)
    (hb : ∀ (W' : WX) (pn : List (Addr × Obj)) (xe : Value → Shared → Prop), Cxt (X.tr pn xe) W' k → VSs (X.tr pn xe) W' P body (tb W') mb)
    (hfn : X.fn y = true ∨ X.env.scope.names.lookup y = some .local := by first | exact .inl rfl | exact .inr rfl | assumption) (hnd : (n == ("__debug__" : Str)) = false := by decide) (hnc : (n == ("__classdict__" : Str)) = false := by decide) :
    VS X W P (.Try body [.ExceptHandler (some (.Name x np)) (some n) [.Assign [.Name y q1] (.Name n q2) q3] pos'] [] [] pos) (fun D σ H => tb (wKept X.K c i j W D) D σ H) (mTry i j ex mb) :=
  ⟨ps_try_kept cx.hs cx.hf hex hN hi hln hj hly hfn hnd hnc hc cx.tk fun W' pn xe tk po => (hb W' pn xe (cx.tr tk po)).ps, fun Z H σ ρ fp D s h => by
    have sm := (hb (wKept X.K c i j W D) [] (fun e s1 => wpAny (model X.prog X.w) X.A (noteFrame e X.env) (fun _ _ => True) (fun _ _ => True) s1) (cx.tr (fun u s' air => by
      obtain ⟨a, B, sI, pins, σ, H, cls, d, rfl, I, _, _, sky, _⟩ := air
      have fr : X.A.frames = some (X.env :: X.outer) := by rw [I.ok.ofTry.frames, cx.hs]
      have sky2 : Sky B (X.env :: X.outer) a (Zc cls d) X.env.locals s'.heap := cx.hs ▸ sky
      exact wpAny_mono (Sky.land (E₁ := fun _ _ => True) (Q := fun _ _ => True) Zc.steady fr cx.hf sky2 fun _ _ _ => trivial) (fun _ _ _ => trivial) fun _ _ _ => trivial) PassesOwn.looking)).sm Z H σ ρ fp D s
    refine sm ?_
    unfold mTry at h
    rcases eb : mb ρ with _ | ⟨xx | fl, ρ1⟩ <;> rw [eb] at h
    · exact h.elim
    · intro cls dd σ' Z' H' fp' st so pn er
      obtain ⟨C, fsV, hcls, gC, hxd, hk, hv⟩ := id er
      dsimp only at h
      cases ee : ex xx.c with
      | none => rw [ee] at h; exact h.elim
      | some b =>
      rw [ee] at h
      refine ⟨b, by rw [hcls]; exact hE xx.c b C ee gC, fun hb1 a na => ?_, fun hb1 => ?_⟩
      · subst hb1
        obtain ⟨s1, st1⟩ := so.layFro (o := ExT cls dd a) na
        have dr : DR (gx X) (upd Z' a (ExT cls dd a)) (.ref a) (.exc xx.c xx.fs) := by
          subst hcls
          exact .exc (dd := dd) (fsV := fsV) upd_same (fun _ z => z) gC (same_xd st1.zle hxd) hk (hv.mono st1.zle)
        obtain ⟨g1, s2, k2⟩ := (s1.pushD dr).assign i
        obtain ⟨g2, s3, k3⟩ := (s2.pushD dr).assign j
        obtain ⟨g3, r4, k4, sb4⟩ := s3.sl.wipe1 i
        exact h _ _ _ g3 ((st.trans st1).less fun b hb => k2 b (k3 b (k4 b hb))) ⟨s3.sub, r4, s3.nd.sublist sb4, fun b hb => s3.fr b (k4 b hb)⟩ (pn.trans ((pin_set hpi).trans ((pin_set hpj).trans (pin_set hpi))))
      · subst hb1
        exact h cls dd σ' Z' H' fp' st so pn er
    · cases fl <;> exact h⟩
end
end Vl

/-! Vl13: x[i] = e, a, b = e, f; join. -/
namespace Vl
open PySem PySem.Spec PyProof.Rows L2

section
variable {G : Gx} {Z H : Hp} {σ : L2.St} {ρ : Env} {fp : List Addr}
theorem RTs.put {vs : List V} {ts : List T} {f : List Addr} (r : RTs G Z H vs ts f) : ∀ {n : Nat}, n < ts.length → ∃ l m k, f = l ++ (m ++ k) ∧ ∀ {y : V} {t : T} {g : List Addr}, RT G Z H y t g → RTs G Z H (vs.set n y) (ts.set n t) (l ++ (g ++ k)) := by
  intro n hn
  induction n generalizing vs ts f with
  | zero =>
    cases r with
    | nil => simp at hn
    | @cons v vs t ts f g h r => exact ⟨[], f, g, rfl, fun {y t' g'} h' => by
        have q := RTs.cons h' r
        exact q⟩
  | succ n ih =>
    cases r with
    | nil => simp at hn
    | @cons v vs t ts f g h r =>
      obtain ⟨l, m, k, rfl, q⟩ := ih r (by simpa using hn)
      refine ⟨f ++ l, m, k, by simp, fun {y t' g'} h' => ?_⟩
      have := RTs.cons h (q h')
      rw [List.append_assoc]
      exact this
/-- a temporary (in front) put into a slot's own list -/
theorem SOk.setIx {y : V} {t : T} {i n : Nat} {ts : List T} (s : SOk G Z H (some y :: σ) (some t :: ρ) fp) (e : ρ[i]? = some (some (.lst ts))) (hn : n < ts.length) :
    ∃ a vs, σ[i]? = some (some (.ref a)) ∧ H a = some (.lst vs) ∧ vs.length = ts.length ∧ ∃ g, SOk G Z (upd H a (.lst (vs.set n y))) σ (ρ.set i (some (.lst (ts.set n t)))) g ∧ Stp Z H fp Z (upd H a (.lst (vs.set n y))) g := by
  have fr := s.fr
  have nd := s.nd
  obtain ⟨ft, g0, rfl, h, q, dj, ndt⟩ := s.tmp
  obtain ⟨v, l, f, k, hv, rt, rfl, put⟩ := q.sl.at e
  cases rt with
  | @lst a vs _ f' ha r =>
    have hlen := r.length
    obtain ⟨l1, m1, k1, rfl, _⟩ := r.put hn
    have p : List.Perm (l ++ ((a :: (l1 ++ (ft ++ k1))) ++ k) ++ m1) (ft ++ (l ++ ((a :: (l1 ++ (m1 ++ k1))) ++ k))) := by
      refine List.perm_iff_count.mpr fun x => ?_
      simp only [List.count_append, List.count_cons]
      omega
    have nd1 : (l ++ ((a :: (l1 ++ (ft ++ k1))) ++ k) ++ m1).Nodup := p.nodup_iff.mpr nd
    have nd2 := (List.nodup_append.mp nd1).1
    have mem : ∀ b, b ∈ l ++ ((a :: (l1 ++ (ft ++ k1))) ++ k) → b ∈ ft ++ (l ++ ((a :: (l1 ++ (m1 ++ k1))) ++ k)) := fun b hb => p.mem_iff.mp (List.mem_append_left _ hb)
    have n0 := nd
    have zn : Z a = none := fr a (by simp)
    have all : ∀ b, b ∈ ft ++ (l ++ ((l1 ++ (m1 ++ k1)) ++ k)) → b ≠ a := fun b hb z => by
      subst z
      have pp : List.Perm (ft ++ (l ++ ((b :: (l1 ++ (m1 ++ k1))) ++ k))) (b :: (ft ++ (l ++ ((l1 ++ (m1 ++ k1)) ++ k)))) := by
        refine List.perm_iff_count.mpr fun x => ?_
        simp only [List.count_append, List.count_cons]
        omega
      exact (List.nodup_cons.mp (pp.nodup_iff.mp n0)).1 hb
    have sub' : Same Z (upd H a (.lst (vs.set n y))) := fun b o eb => by
      rw [upd_ne (fun z => by rw [z, zn] at eb; cases eb)]
      exact q.sub b o eb
    have h' : RT G Z (upd H a (.lst (vs.set n y))) y t ft := h.keep (Same.refl _) fun b hb => upd_ne (all b (by simp [hb]))
    have r' : RTs G Z (upd H a (.lst (vs.set n y))) vs ts (l1 ++ (m1 ++ k1)) := r.keep (Same.refl _) fun b hb => upd_ne (all b (by simp at hb ⊢; rcases hb with z | z | z <;> simp [z]))
    obtain ⟨l2, m2, k2, e2, put2⟩ := r'.put hn
    have p2 := put2 h'
    -- the row's other places stand as they stood
    have pm : List.Perm (m2 ++ (l2 ++ k2)) (m1 ++ (l1 ++ k1)) := by
      refine List.perm_iff_count.mpr fun x => ?_
      have := congrArg (List.count x) e2
      simp only [List.count_append] at this ⊢
      omega
    have P2 : List.Perm (l ++ ((a :: (l2 ++ (ft ++ k2))) ++ k) ++ m2) (ft ++ (l ++ ((a :: (l1 ++ (m1 ++ k1))) ++ k))) := by
      refine List.perm_iff_count.mpr fun x => ?_
      have := congrArg (List.count x) e2
      simp only [List.count_append, List.count_cons] at this ⊢
      omega
    have mem2 : ∀ b, b ∈ l ++ ((a :: (l2 ++ (ft ++ k2))) ++ k) → b ∈ ft ++ (l ++ ((a :: (l1 ++ (m1 ++ k1))) ++ k)) := fun b hb => P2.mem_iff.mp (List.mem_append_left _ hb)
    have sl' := (put Z (upd H a (.lst (vs.set n y))) (Same.refl _) fun b hb => upd_ne (all b (by simp at hb ⊢; rcases hb with z | z <;> simp [z]))).2 _ _ _ (RT.lst upd_same p2)
    rw [set_same hv] at sl'
    exact ⟨a, vs, hv, ha, hlen, _, ⟨sub', sl', (List.nodup_append.mp (P2.nodup_iff.mpr nd)).1, fun b hb => fr b (mem2 b hb)⟩, ⟨Same.refl _, fun b o eb hb => by
      rw [upd_ne (fun z => hb (by rw [z]; simp))]
      exact eb, fun b o eb n => (by rw [n] at eb; cases eb), fun b hb => .inr (mem2 b hb)⟩⟩
end
section
variable {X : Cx} {W : WX} {P : List Nat} {pos : Pos} {e : Expr} {te ti : TE} {m mi : Env → Out AV}
/-- x[k] = e, x a slot's own list -/
def mSetIx (j : Nat) (m mi : Env → Out AV) : Env → Out Fl := fun ρ => sbind (m ρ) fun av ρ1 => match fz av ρ1 with
  | some (t, ρ2) => match ρ2[j]? with
    | some (some (.lst _)) => sbind (mi ρ2) fun bv ρ3 => match bv.get ρ3, ρ3[j]? with
      | some u, some (some (.lst ts)) => match u.er with
        | .int k => match ixN ts.length k with
          | some n => some (.ok .nx, ρ3.set j (some (.lst (ts.set n t))))
          | none => none
        | _ => none
      | _, _ => none
    | _ => none
  | none => none
theorem vs_setIx {j : Nat} {x : Str} {ie : Expr} {p1 p2 : Pos} (hx : PE X (.Name x p1) (tVar j)) (he : VE X W e te m) (hi : VE X W ie ti mi)
    (ha : ∀ v, assign (.Subscript (.Name x p1) ie p2) X.env v = (do
      let ov ← holding [v] (eval (.Name x p1) X.env)
      let iv ← holding [v, ov] (eval ie X.env)
      standAt p2
      holding [v, ov, iv] (setItem ov iv v)
      release [v, ov, iv] []) := by intro _; rfl)
    (hs : swapsWithSole [.Subscript (.Name x p1) ie p2] e pos.line X.env = pure false := by rfl) (hw : swappedStores [.Subscript (.Name x p1) ie p2] e X.env = pure none := by rfl)
    (h1 : (assignEach [.Subscript (.Name x p1) ie p2] X.env).map (·.2) = [assign (.Subscript (.Name x p1) ie p2) X.env] := by rfl) :
    VS X W P (.Assign [.Subscript (.Name x p1) ie p2] e pos) (tAsg te (gSub (tVar j) ti rSetL)) (mSetIx j m mi) :=
  ⟨ps_asg he.pe (pg_sub hx hi.pe set_list ha) hs hw h1, fun Z H σ ρ fp D s h => by
    refine he.sm Z H σ ρ fp _ s (h.bind.mono fun av ρ1 h1 => ?_)
    intro v Z1 H1 fp1 st1 s1 at1
    split at h1
    case h_2 => exact h1.elim
    rename_i t ρ2 ef
    split at h1
    case h_2 => exact h1.elim
    rename_i ts0 et0
    obtain ⟨Z2, g2, st2, s2⟩ := fz_ok s1 at1 ef
    obtain ⟨f, g, rfl, s0, fr⟩ := SOk.split (av := .tmp t) s2
    obtain ⟨vo, l, ff, k, hv, rt, _, _⟩ := s0.sl.at et0
    refine ⟨vo, hv, ?_⟩
    refine hi.sm Z2 H1 σ ρ2 g _ s0 (Post.step (h1.bind) ((st1.trans st2).less fun b hb => List.mem_append_right _ hb) fun bv ρ3 h3 => ?_)
    intro w Z3 H3 g3 st3 s3 at3
    split at h3
    case h_2 => exact h3.elim
    rename_i u ts eu et
    split at h3
    case h_2 => exact h3.elim
    rename_i kk ek
    split at h3
    case h_2 => exact h3.elim
    rename_i n en
    obtain ⟨dr, g4, s4, k4⟩ := s3.peek1 at3 eu
    rw [ek] at dr
    cases dr
    obtain ⟨q1, q2⟩ := fr Z3 H3 σ ρ3 g4 (st3.less k4) s4
    have hn : n < ts.length := (ixN_seq en).2.1
    obtain ⟨a, vs, ha', hd, hl, g5, s5, st5⟩ := SOk.setIx q1 et hn
    rw [hv] at ha'
    cases ha'
    exact ⟨a, vs, kk, n, rfl, rfl, hd, by rw [hl]; exact en, h3 σ Z3 _ g5 ((st1.trans st2).trans (q2.trans st5)) s5 Pin.refl⟩⟩
/-- target = value, the value a row's items -/
def mAsg (tgt : D → Env → Option Env) (m : Env → Out AV) : Env → Out Fl := fun ρ => sbind (m ρ) fun av ρ1 => match fz av ρ1 with
  | some (t, ρ2) => match tgt t.er ρ2 with
    | some ρ3 => some (.ok .nx, ρ3)
    | none => none
  | none => none
theorem vs_asg {tg : Expr} {g : TG} {tgt : D → Env → Option Env} (he : VE X W e te m) (hg : VG X P tg g tgt) (hs : swapsWithSole [tg] e pos.line X.env = pure false := by rfl) (hw : swappedStores [tg] e X.env = pure none := by rfl)
    (h1 : (assignEach [tg] X.env).map (·.2) = [assign tg X.env] := by rfl) : VS X W P (.Assign [tg] e pos) (tAsg te g) (mAsg tgt m) :=
  ⟨ps_asg he.pe hg.pg hs hw h1, fun Z H σ ρ fp D s h => by
    refine he.sm Z H σ ρ fp _ s (h.bind.mono fun av ρ1 h1 => ?_)
    intro v Z1 H1 fp1 st1 s1 at1
    split at h1
    case h_2 => exact h1.elim
    rename_i t ρ2 ef
    split at h1
    case h_2 => exact h1.elim
    rename_i ρ3 et
    obtain ⟨Z2, g2, st2, dr, s2⟩ := fz_fro s1 at1 ef
    exact hg.sm Z2 H1 σ ρ2 ρ3 g2 v _ _ s2 dr et fun σ' g3 st3 s3 p3 => h1 σ' Z2 H1 g3 ((st1.trans st2).trans st3) s3 p3⟩
/-- x, y = a, b -/
def mPar (i j : Nat) (ma : Env → Out (List AV)) : Env → Out Fl := fun ρ => sbind (ma ρ) fun avs ρ1 => match nrm avs ρ1 with
  | some ([t, u], ρ2) => some (.ok .nx, (ρ2.set i (some t)).set j (some u))
  | _ => none
theorem vs_par {i j : Nat} {x y : Str} {a b : Expr} {ta : TA} {ma : Env → Out (List AV)} {px py pt : Pos} {kt k2 pt2} (hc : X.calm = true) (hN : X.N.Nodup) (hi : X.N[i]? = some x) (hj : X.N[j]? = some y) (hij : i ≠ j)
    (hx : X.env.scope.names.lookup x = some .local) (hy : X.env.scope.names.lookup y = some .local) (hpi : i ∉ P) (hpj : j ∉ P) (ha : VA X W [a, b] ta ma)
    (hw : swappedStores [.Tuple [.Name x px, .Name y py] kt pt] (.Tuple [a, b] k2 pt2) X.env = pure (some [x, y]))
    (hs : swapsWithSole [.Tuple [.Name x px, .Name y py] kt pt] (.Tuple [a, b] k2 pt2) pos.line X.env = pure false := by rfl) :
    VS X W P (.Assign [.Tuple [.Name x px, .Name y py] kt pt] (.Tuple [a, b] k2 pt2) pos) (tPar i j ta) (mPar i j ma) :=
  ⟨ps_par hc hN hi hj hij hx hy ha.pa hw hs, fun Z H σ ρ fp D s h => by
    refine ha.sm Z H σ ρ fp _ s (h.bind.mono fun avs ρ1 h1 => ?_)
    intro vs Z1 H1 fp1 st1 s1 at1
    split at h1
    case h_2 => exact h1.elim
    rename_i t u ρ2 en
    obtain ⟨hl, Z2, g2, st2, s2⟩ := nrm_ok s1 at1 en
    have hvl : vs.length = 2 := by rw [avAt_len at1, ← hl]; rfl
    match vs, hvl, s2 with
    | [v, w], _, s2 =>
      obtain ⟨g3, s3, k3⟩ := SOk.assign (σ := some w :: σ) s2 (i + 1)
      obtain ⟨g4, s4, k4⟩ := SOk.assign (σ := σ.set i (some v)) s3 j
      exact ⟨v, w, rfl, h1 _ Z2 H1 g4 ((st1.trans st2).less fun b hb => k3 b (k4 b hb)) s4 ((pin_set hpi).trans (pin_set hpj))⟩⟩
def mPar3 (i j l : Nat) (ma : Env → Out (List AV)) : Env → Out Fl := fun ρ => sbind (ma ρ) fun avs ρ1 => match nrm avs ρ1 with
  | some ([t, u, r], ρ2) => some (.ok .nx, ((ρ2.set i (some t)).set j (some u)).set l (some r))
  | _ => none
theorem vs_par3 {i j l : Nat} {x y z : Str} {a b c : Expr} {ta : TA} {ma : Env → Out (List AV)} {px py pz pt : Pos} {kt k2 pt2} (hc : X.calm = true) (hN : X.N.Nodup) (hi : X.N[i]? = some x) (hj : X.N[j]? = some y) (hl : X.N[l]? = some z) (hij : i ≠ j) (hil : i ≠ l) (hjl : j ≠ l)
    (hx : X.env.scope.names.lookup x = some .local) (hy : X.env.scope.names.lookup y = some .local) (hz : X.env.scope.names.lookup z = some .local) (hpi : i ∉ P) (hpj : j ∉ P) (hpl : l ∉ P) (ha : VA X W [a, b, c] ta ma)
    (hw : swappedStores [.Tuple [.Name x px, .Name y py, .Name z pz] kt pt] (.Tuple [a, b, c] k2 pt2) X.env = pure (some [x, y, z]))
    (hs : swapsWithSole [.Tuple [.Name x px, .Name y py, .Name z pz] kt pt] (.Tuple [a, b, c] k2 pt2) pos.line X.env = pure false := by rfl) :
    VS X W P (.Assign [.Tuple [.Name x px, .Name y py, .Name z pz] kt pt] (.Tuple [a, b, c] k2 pt2) pos) (tPar3 i j l ta) (mPar3 i j l ma) :=
  ⟨ps_par3 hc hN hi hj hl hij hil hjl hx hy hz ha.pa hw hs, fun Z H σ ρ fp D s h => by
    refine ha.sm Z H σ ρ fp _ s (h.bind.mono fun avs ρ1 h1 => ?_)
    intro vs Z1 H1 fp1 st1 s1 at1
    split at h1
    case h_2 => exact h1.elim
    rename_i t u r ρ2 en
    obtain ⟨hl, Z2, g2, st2, s2⟩ := nrm_ok s1 at1 en
    have hvl : vs.length = 3 := by rw [avAt_len at1, ← hl]; rfl
    match vs, hvl, s2 with
    | [v, w, o], _, s2 =>
      obtain ⟨g3, s3, k3⟩ := SOk.assign (σ := some w :: some o :: σ) s2 (i + 2)
      obtain ⟨g4, s4, k4⟩ := SOk.assign (σ := some o :: σ.set i (some v)) s3 (j + 1)
      obtain ⟨g5, s5, k5⟩ := SOk.assign (σ := (σ.set i (some v)).set j (some w)) s4 l
      exact ⟨v, w, o, rfl, h1 _ Z2 H1 g5 ((st1.trans st2).less fun b hb => k3 b (k4 b (k5 b hb))) s5 ((pin_set hpi).trans ((pin_set hpj).trans (pin_set hpl)))⟩⟩
/-! ### join -/
def gJoin (a : Str) : D → Option D
  | .lst ds => match strsOf ds with
    | some ys => if (ys.map (·.length)).sum + ys.length * a.length ≤ 16777216 then some (.str (Txt.join a ys)) else none
    | none => none
  | .tup ds => match strsOf ds with
    | some ys => if (ys.map (·.length)).sum + ys.length * a.length ≤ 16777216 then some (.str (Txt.join a ys)) else none
    | none => none
  | _ => none
def mJoin (mo me : Env → Out AV) : Env → Out AV := fun ρ => obind (mo ρ) fun av ρ1 => match av with
  | .tmp (.fro (.str a)) => m1 (gJoin a) me ρ1
  | _ => none
theorem ve_join {o : Expr} {to : TE} {mo : Env → Out AV} {apos : Pos} (ho : VE X W o to mo) (he : VE X W e te m) (hs : starEach [e] X.env = [(false, eval e X.env)] := by rfl) (hbase : attributeBase o "join" X.env (eval o X.env) = eval o X.env := by rfl) (hline : (apos.endLine == pos.line) = true := by rfl) :
    VE X W (.Call (.Attribute o "join" apos) [e] [] pos) (tM1 (fun x xs H Q => ∃ a p, ∃ ys : List Str, x = .str a ∧ xs = [.ref p] ∧ (SqL X.K H p (ys.map V.str) ∨ SqT X.K H p (ys.map V.str)) ∧
      (ys.map (·.length)).sum + ys.length * a.length ≤ 16777216 ∧ Q (.str (Txt.join a ys)) H) to te) (mJoin mo m) :=
  ⟨pe_join ho.pe he.pe hs hbase hline, fun Z H σ ρ fp Q s h => by
    refine ho.sm Z H σ ρ fp _ s (h.bind.mono fun av ρ1 h1 => ?_)
    intro v Z1 H1 fp1 st1 s1 at1
    split at h1
    case h_2 => exact h1.elim
    rename_i a
    obtain ⟨f, g, rfl, rt, s2, _⟩ := s1.tmp
    cases rt with
    | fro dr =>
      cases dr
      refine ⟨⟨a, rfl⟩, ?_⟩
      refine flat1 (R := fun w H1 Q => ∃ a' p, ∃ ys : List Str, V.str a = .str a' ∧ [w] = [.ref p] ∧ (SqL X.K H1 p (ys.map V.str) ∨ SqT X.K H1 p (ys.map V.str)) ∧ (ys.map (·.length)).sum + ys.length * a'.length ≤ 16777216 ∧ Q (.str (Txt.join a' ys)) H1)
        he (fun d z e => ?_) (fun H x d z Q dr e q => ?_) s2 (KE.ofFlat (h1.step (st1.less (fun b hb => List.mem_append_right _ hb)) fun av ρ k v Z' H' fp' st' => k v Z' H' fp' ((st1.less fun b hb => List.mem_append_right _ hb).trans st')))
      · unfold gJoin at e
        split at e <;> first | cases e | skip
        · split at e <;> first | cases e | skip
          split at e <;> cases e
          rfl
        · split at e <;> first | cases e | skip
          split at e <;> cases e
          rfl
      · unfold gJoin at e
        split at e
        · split at e <;> first | cases e | skip
          rename_i ys eys
          split at e <;> cases e
          rename_i hz
          cases dr with
          | lst ha r => exact ⟨a, _, ys, rfl, rfl, .inl (.inl (by rw [← strsOf_V r eys]; exact ha)), hz, q⟩
        · split at e <;> first | cases e | skip
          rename_i ys eys
          split at e <;> cases e
          rename_i hz
          cases dr with
          | tup ha r => exact ⟨a, _, ys, rfl, rfl, .inr (by rw [← strsOf_V r eys]; exact ha), hz, q⟩
        · cases e⟩
end
end Vl

/-! VlH: the head's look, the law's end. -/
namespace Vl
open PySem PySem.Spec PyProof.Rows L2

/-! ### the head's look -/
def notL (p : Addr × Obj) : Bool := match p.2.cls with
  | .type c => c != "list"
  | _ => true
def kOf (n : Nat) (g : Addr → Option Obj) : PySem.W.Frag := (He.frG g (cStatics :: sysModules :: He.asD g n)).filter notL
theorem lookup_filter {p : Addr × Obj → Bool} {a : Addr} {o : Obj} : ∀ {l : List (Addr × Obj)}, (l.filter p).lookup a = some o → p (a, o) = true
  | [], h => nomatch h
  | (b, u) :: l, h => by
    by_cases hb : p (b, u) = true
    · rw [List.filter_cons_of_pos hb] at h
      simp only [List.lookup] at h
      split at h
      · rename_i q
        rw [beq_iff_eq] at q
        cases h
        rw [q]; exact hb
      · exact lookup_filter h
    · rw [List.filter_cons_of_neg hb] at h
      exact lookup_filter h
def noneTwice (K : PySem.W.Frag) : Bool := K.all fun p => match K.lookup p.1 with
  | some o => true
  | none => false
/-- a part of the heap: no list in it -/
structure KOk (K : PySem.W.Frag) (h : Heap) : Prop where
  inn : K.In h
  nol : ∀ a o, K.lookup a = some o → o.cls ≠ .type "list"
theorem mem_of_lookup {a : Addr} {o : Obj} : ∀ {l : List (Addr × Obj)}, l.lookup a = some o → (a, o) ∈ l
  | [], h => nomatch h
  | (b, u) :: l, h => by
    simp only [List.lookup] at h
    split at h
    · rename_i q
      rw [beq_iff_eq] at q
      cases h
      rw [q]; exact List.mem_cons_self
    · exact List.mem_cons_of_mem _ (mem_of_lookup h)
theorem frG_mem {g : Addr → Option Obj} {as : List Addr} {a : Addr} {o : Obj} (h : (a, o) ∈ He.frG g as) : g a = some o := by
  unfold He.frG at h
  obtain ⟨b, _, e⟩ := List.mem_filterMap.mp h
  cases q : g b with
  | none => rw [q] at e; cases e
  | some u =>
    rw [q] at e
    cases e
    exact q
theorem kOf_ok {n : Nat} {h : Heap} : KOk (kOf n h.get?) h :=
  ⟨fun a o e => frG_mem (List.mem_filter.mp (mem_of_lookup e)).1, fun a o e z => by
    have q := lookup_filter e
    unfold notL at q
    dsimp only at q
    rw [z] at q
    simp at q⟩
abbrev AlV : Type := Bool × List He.FnW
def obsV (chk : PySem.W.Frag → Bool) (fn : List He.DefD) (K : PySem.W.Frag) : AlV := (chk K && fn.all fun d => d.ok K, fn.map fun d => He.fnW K d.at_)
def valV (fn : List He.DefD) : AlV := (true, fn.map He.DefD.val)
def SaysV (chk : PySem.W.Frag → Bool) (fn : List He.DefD) (K : PySem.W.Frag) : Prop := obsV chk fn K = valV fn
def obsVG (n : Nat) (chk : PySem.W.Frag → Bool) (fn : List He.DefD) (g : Addr → Option Obj) : AlV := obsV chk fn (kOf n g)
def hookV (n : Nat) (chk : PySem.W.Frag → Bool) (fn : List He.DefD) : PySem.W.Hook where
  α := AlV
  obs := fun s => obsVG n chk fn s.heap.get?
  val := fun _ => valV fn
  says := fun _ h => ∃ K : PySem.W.Frag, KOk K h ∧ SaysV chk fn K
  of := fun _ _ e => ⟨_, kOf_ok, e⟩
  keeps := fun _ _ _ ⟨K, hK, c⟩ k => ⟨K, ⟨PySem.W.Frag.In.keeps hK.inn k, hK.nol⟩, c⟩
theorem obsVG_eq {n : Nat} {chk : PySem.W.Frag → Bool} {fn : List He.DefD} {g : Addr → Option Obj} {s : Shared} (h : ∀ a, g a = s.heap.get? a) : obsVG n chk fn g = (hookV n chk fn).obs s := by
  have e : g = s.heap.get? := funext h
  rw [e] <;> rfl
section
variable {chk : PySem.W.Frag → Bool} {fn : List He.DefD} {K : PySem.W.Frag}
theorem SaysV.ck (c : SaysV chk fn K) : chk K = true := (Bool.and_eq_true_iff.mp (show (chk K && fn.all fun d => d.ok K) = true from congrArg (fun z : AlV => z.1) c)).1
theorem SaysV.fun_ (c : SaysV chk fn K) (i : Nat) {x qual : Str} {p : Str × Option Str} {st : Stmt} (h : fn[i]? = some ⟨p, x, qual, defArgs st, defBody st, defScope st, [], []⟩ := by rfl) : ∃ fd, Fun K x qual st (He.fAd K p) fd := by
  have c2 := (Bool.and_eq_true_iff.mp (show (chk K && fn.all fun d => d.ok K) = true from congrArg (fun z : AlV => z.1) c)).2
  have e : (fn.map fun d => He.fnW K d.at_)[i]? = (fn.map He.DefD.val)[i]? := by rw [show fn.map (fun d => He.fnW K d.at_) = fn.map He.DefD.val from congrArg (fun z : AlV => z.2) c]
  rw [List.getElem?_map, List.getElem?_map, h] at e
  obtain ⟨fd, F⟩ := He.DefD.funD (Option.some.inj e) (List.all_eq_true.mp c2 _ (List.mem_of_getElem? h))
  obtain ⟨oc, od, dV, kV, doc, pm, an, cdv, ct, osl, e1, e2, e3, e4, e5⟩ := F.ex
  have hdv : dV = .none := by
    rcases e4 with ⟨_, z⟩ | ⟨z, _⟩
    · exact z
    · exact absurd rfl z
  subst hdv
  exact ⟨fd, ⟨oc, od, kV, doc, pm, an, cdv, ct, osl, e1, e2, e3⟩, F.kp⟩
end

/-! ### the end -/
theorem ints_DRs {G : Gx} {Z : Hp} : ∀ ns : List Int, DRs G Z (ns.map V.int) (ns.map D.int)
  | [] => .nil
  | n :: ns => .cons (.int n) (ints_DRs ns)
theorem law_callV {P : Program} {w : World} {K : PySem.W.Frag} {mg mb : Str → Option Value} {k : Nat} {fa a : Addr} {x : Str} {F : FSem} {s₁ : Shared} {vs : List Value} {ns : List Int}
    (KX : KOk K s₁.heap) (hns : s₁.heap.Ns mainGlobals mg) (hb : s₁.heap.Ns builtinsNs mb) (hbb : ∀ x : Str, x ≠ "__name__" → mb x = bootBuiltins x) (hlim : s₁.heap.NoLimit) (hg : s₁.gens = #[])
    (ha : s₁.heap.get? a = some { cls := .type "list", data := .seq vs.toArray }) (hi : IntsAre vs ns) (hl : ns.length ≤ sizeLine) (hr : Room k callerA) (hm : mg x = some (.ref fa))
    (D0 : ∀ base : Heap, K.In base → base.Ns mainGlobals mg → DefOk P w K mg base x k 1 false F) (hF : ∃ ts, F [.fro (.lst (ns.map D.int))] = some (.ok (.fro (.bl true)), ts)) :
    codeAny (model P w) callerA (.call (.ref fa) ⟨[.ref a], []⟩) (fun r s' => r = .ok (.ret (.bool true)) ∧ PySem.OldK s₁.heap s'.heap ∧ s'.os = s₁.os ∧ AllBare s'.gens) s₁ := by
  have hKa : K.lookup a = none := by
    cases q : K.lookup a with
    | none => rfl
    | some o =>
      have e := KX.inn a o q
      rw [ha] at e
      cases e
      exact absurd rfl (KX.nol a _ q)
  generalize hob : ({ cls := .type "list", data := .seq vs.toArray } : Obj) = ob at ha
  obtain ⟨H, hH⟩ : ∃ H : Hp, H = fun b => if b = a then some (.frz ob (.lst (ns.map V.int))) else none := ⟨_, rfl⟩
  have atA : H a = some (.frz ob (.lst (ns.map V.int))) := by rw [hH]; exact if_pos rfl
  have atN : ∀ b, b ≠ a → H b = none := fun b hb => by rw [hH]; exact if_neg hb
  have hok : HOk P w H s₁.heap := fun b u z => by
    by_cases e : b = a
    · subst e
      rw [atA] at z
      cases z
      exact ⟨ha, show ObjOk P w H s₁.heap b (.lst (ns.map V.int)) from ⟨by rw [List.length_map]; exact hl, vs, 0, vals_ints hi, by rw [ha, ← hob]⟩⟩
    · rw [atN b e] at z; cases z
  have out : ∀ {b : Addr} {o : Obj}, s₁.heap.get? b = some o → H b = none → (hidT s₁.heap H).get? b = some o := fun e n => hidT_get e n
  have notA : ∀ {b : Addr} {o : Obj} {es : Array DictEntry} {ep : Nat}, s₁.heap.get? b = some o → o.data = .dict es ep → H b = none := fun {b o es ep} e d => atN b fun z => by
    rw [z, ha] at e
    cases e
    rw [← hob] at d
    cases d
  have nsH : ∀ {b : Addr} {m : Str → Option Value}, s₁.heap.Ns b m → (hidT s₁.heap H).Ns b m := fun {b m} q => by
    obtain ⟨o, es, ep, e, d, r⟩ := q
    exact ⟨o, es, ep, out e (notA e d), d, r⟩
  have KB : K.In (hidT s₁.heap H) := fun b o e => out (KX.inn b o e) (atN b fun z => by rw [z, hKa] at e; cases e)
  obtain ⟨mc, lim1, lim2⟩ := hlim
  have e0 : Env0 P w K mg (hidT s₁.heap H) callerA [] s₁ H :=
    ⟨rfl, ⟨KB, nsH hns, ⟨mb, nsH hb, hbb⟩, ⟨mc, nsH lim1, lim2⟩⟩, fun b o e => of_hidT e, Nat.le_of_eq (hidT_size _ _), trivial, fun b hb => absurd (show b ∈ ([] : List Addr) from hb) (by simp), hok, .of_eq hg⟩
  obtain ⟨f, fd, ps, g1, g2, g3, g4⟩ := (D0 _ KB (nsH hns)).ex
  rw [hm] at g1
  cases g1
  have sp : spV (K, mg) 1 false F [.ref a] H (fun v _ => v = .bl true) fun _ _ _ => False := by
    obtain ⟨ts, eF⟩ := hF
    refine ⟨rfl, [.fro (.lst (ns.map D.int))], H, [], rfl, ⟨Same.refl _, RSl.so (f := []) (.fro (.lst (.inr ⟨ob, atA⟩) (ints_DRs ns))) .nil, List.nodup_nil, fun _ h => nomatch h⟩, rfl, ?_⟩
    rw [eF]
    intro v H' Z' fp' st so
    obtain ⟨ft, g, rfl, rt, _⟩ := so.tmp
    cases rt with
    | fro dr => cases dr; rfl
  have bd := g3 s₁ [.ref a] (KX.inn) (by
    have := g4.len _ _ _ _ sp
    simpa using this)
  rw [List.append_nil] at bd
  refine codeAny_mono (g4.run callerA [] s₁ H ⟨[.ref a], []⟩ [.ref a] [.ref a] _ _ rfl hr e0 bd (.cons rfl .nil) sp) fun r s' h => ?_
  match r, h with
  | .error e, ⟨a, B, H', cls, d, _, _, _, _, _, _, _, q⟩ => exact q.elim
  | .ok .next, h => exact h.elim
  | .ok .brk, h => exact h.elim
  | .ok .cont, h => exact h.elim
  | .ok (.ret u), ⟨v, H', os, bare, un, hok', ru, q⟩ =>
    have q' : v = .bl true := q
    subst q'
    obtain rfl : u = Value.bool true := ru
    refine ⟨rfl, PySem.OldK.of_keep fun b o e => ?_, os, bare⟩
    by_cases z : b = a
    · subst z
      obtain ⟨e1, _⟩ := hok' b _ (un.frzs b ob _ atA)
      rw [ha] at e
      cases e
      exact e1
    · exact un.keep b o e (atN b z) (by intro z; exact absurd (show b ∈ ([] : List Addr) from z) (by simp)) (by simp)
theorem walk_V {l : PySem.W.OpenLaw} {n k : Nat} {q : Program} {loose : List Str} {XP : (Str → Option Value) → Heap → Prop} {YP : World → Heap → Prop} {d : DefRec} (hn : l.most = some n) (hn2 : n ≤ sizeLine) (hdf : d.params.defaults = []) (hr : Room k callerA)
    (F0 : ∀ (w : World) (mg : Str → Option Value) (fa : Addr) (h : Heap), YP w h → h.Ns mainGlobals mg → mg d.name = some (.ref fa) →
      ∃ (K : PySem.W.Frag) (F : FSem), KOk K h ∧ (∀ base : Heap, K.In base → base.Ns mainGlobals mg → DefOk l.prog w K mg base d.name k 1 false F) ∧ ∀ ns : List Int, ns.length ≤ n → ∃ ts, F [.fro (.lst (ns.map D.int))] = some (.ok (.fro (.bl true)), ts)) :
    PySem.W.WalkO q loose XP YP l.row.toRowW d [] (fun f vs => PySem.call f vs) :=
  Att.attach_call hn hdf fun w s₀ s₁ mg mb fa o pm cd doc a vs ns G Y ho hd hcd hmg hobj hints hlen hg => by
    obtain ⟨K, F, KX, D0, pure⟩ := F0 w mg fa _ Y G.T.g hmg
    exact law_callV KX G.T.g G.T.b G.T.builtins G.T.nolimit hg hobj hints (Nat.le_trans hlen hn2) hr hmg D0 (pure ns hlen)
end Vl

/-! VlF: facts by names, and the rules that lean on them. -/
namespace Vl
open PySem PySem.Spec PyProof.Rows L2

/-- a class by its name: a built-in type, a class of the module -/
inductive Cr where
  | ty (n : String) | own (x : Str)
def Cr.u (K : PySem.W.Frag) : Cr → Value
  | .ty n => .type n
  | .own x => .ref (He.ga K x)
def Cr.v (K : PySem.W.Frag) : Cr → V
  | .ty n => .ty n
  | .own x => .ref (He.ga K x)
theorem Cr.cls {K : PySem.W.Frag} (c : Cr) : ClsV (c.v K) (c.u K) := by
  cases c with
  | ty n => exact .ty n
  | own x => exact .own _
theorem Cr.all {K : PySem.W.Frag} : ∀ cs : List Cr, Paired ClsV (cs.map (Cr.v K)) (cs.map (Cr.u K))
  | [] => .nil
  | c :: cs => .cons c.cls (Cr.all cs)
def isA (K : PySem.W.Frag) (one : Bool) (cs : List Cr) (t : Value) : Option Bool := match one, cs with
  | true, [c] => PySem.W.kitOne K t (c.u K)
  | true, _ => none
  | false, _ => PySem.W.kitAny K t (cs.map (Cr.u K))
def gloB (K : PySem.W.Frag) (x : Str) : Bool := (He.Fa.glo x).ok K
def oexB (K : PySem.W.Frag) (C : Addr) : Bool := (match K.lookup C with
  | some ⟨.type "type", _, .cls cd, sl⟩ => (match cd.mro, sl.toList with
    | .ref C' :: bm, [_, _, _, _, some (.builtin n), _] => C' == C && (n == "ValueError.__new__" && (!cd.hasDel && (cd.hasDict && PySem.HandSPX.refsVE bm)))
    | _, _ => false)
  | _ => false) && (PySem.W.findIn K (.ref C) "__setattr__" == some (some (.builtin "object.__setattr__")) && (PySem.W.subIn K (.ref C) (.type "BaseException") == some true && (PySem.W.typeIn K (.ref C) == some (.type "type") && PySem.W.keepIn K (.ref C))))
theorem oexB_ok {K : PySem.W.Frag} {C : Addr} (h : oexB K C = true) : OexC K C := by
  unfold oexB at h
  simp only [Bool.and_eq_true, beq_iff_eq] at h
  obtain ⟨h0, h1, h2, h3, h4⟩ := h
  refine ⟨?_, h1, h2, h3, h4⟩
  split at h0
  · rename_i dd cd sl ho
    split at h0
    · rename_i C' bm k0 k1 k2 k3 n k5 hm hs
      simp only [Bool.and_eq_true, beq_iff_eq, Bool.not_eq_true'] at h0
      obtain ⟨rfl, rfl, hdel, hdi, hre⟩ := h0
      obtain ⟨nm, bs, mro, ns, qn, hd, sn, sub, ab, col, del⟩ := cd
      dsimp only at hm hdel hdi
      subst hm hdel hdi
      have hsl : sl = #[k0, k1, k2, k3, some (.builtin "ValueError.__new__"), k5] := by
        obtain ⟨l⟩ := sl
        simp only at hs
        rw [hs]
      subst hsl
      exact ⟨nm, qn, ns, bs, bm, sn, sub, ab, col, dd, k0, k1, k2, k3, k5, ho, hre⟩
    · cases h0
  · cases h0
/-- a constant as the text has it, rows within rows -/
inductive NV where
  | non | bl (b : Bool) | int (i : Int) | str (x : Str) | tup (xs : List NV)
mutual
def NV.d : NV → D
  | .non => .non
  | .bl b => .bl b
  | .int i => .int i
  | .str x => .str x
  | .tup xs => .tup (NV.dL xs)
def NV.dL : List NV → List D
  | [] => []
  | x :: xs => x.d :: NV.dL xs
end
mutual
def relN (K : PySem.W.Frag) : NV → Value → Bool
  | .non, u => match u with
    | .none => true
    | _ => false
  | .bl b, u => match u with
    | .bool c => b == c
    | _ => false
  | .int i, u => match u with
    | .int j _ => decide (i = j)
    | _ => false
  | .str x, u => match u with
    | .str y _ => decide (x = y)
    | _ => false
  | .tup xs, u => match u with
    | .ref a => (match K.lookup a with
      | some ⟨.type c, _, .seq its _, _⟩ => c == "tuple" && (decide (its.size ≤ sizeLine) && relNs K xs its.toList)
      | _ => false)
    | _ => false
def relNs (K : PySem.W.Frag) : List NV → List Value → Bool
  | [], us => us.isEmpty
  | x :: xs, us => match us with
    | u :: us => relN K x u && relNs K xs us
    | [] => false
end
mutual
theorem relN_ok {K : PySem.W.Frag} {mg : Str → Option Value} : ∀ (n : NV) (u : Value), relN K n u = true → ∃ v, RelV v u ∧ ∀ Z, DR (K, mg) Z v n.d
  | .non, u, h => by
    unfold relN at h
    split at h <;> first | exact ⟨.non, rfl, fun Z => .non⟩ | cases h
  | .bl b, u, h => by
    unfold relN at h
    split at h
    · rename_i c
      have e : b = c := eq_of_beq h
      exact ⟨.bl b, by rw [e]; rfl, fun Z => .bl b⟩
    · cases h
  | .int i, u, h => by
    unfold relN at h
    split at h
    · rename_i j t
      have e : i = j := of_decide_eq_true h
      exact ⟨.int i, ⟨t, by rw [e]⟩, fun Z => .int i⟩
    · cases h
  | .str x, u, h => by
    unfold relN at h
    split at h
    · rename_i y t
      have e : x = y := of_decide_eq_true h
      exact ⟨.str x, ⟨t, by rw [e]⟩, fun Z => .str x⟩
    · cases h
  | .tup xs, u, h => by
    unfold relN at h
    split at h
    · rename_i a
      split at h
      · rename_i c dd its n sl e
        simp only [Bool.and_eq_true, decide_eq_true_eq] at h
        obtain ⟨h1, h2, h3⟩ := h
        have hc : c = "tuple" := eq_of_beq h1
        subst hc
        obtain ⟨vs, rv, dr⟩ := relNs_ok xs its.toList h3
        exact ⟨.ref a, rfl, fun Z => .tup (.inr ⟨_, its, n, e, rfl, rfl, h2, rv⟩) (dr Z)⟩
      · cases h
    · cases h
theorem relNs_ok {K : PySem.W.Frag} {mg : Str → Option Value} : ∀ (ns : List NV) (us : List Value), relNs K ns us = true → ∃ vs, Vals vs us ∧ ∀ Z, DRs (K, mg) Z vs (NV.dL ns)
  | [], us, h => by
    unfold relNs at h
    cases us with
    | nil => exact ⟨[], .nil, fun Z => .nil⟩
    | cons => cases h
  | x :: xs, us, h => by
    unfold relNs at h
    split at h
    · rename_i u us
      rw [Bool.and_eq_true] at h
      obtain ⟨v, r1, d1⟩ := relN_ok (mg := mg) x u h.1
      obtain ⟨vs, r2, d2⟩ := relNs_ok (mg := mg) xs us h.2
      exact ⟨v :: vs, .cons r1 r2, fun Z => .cons (d1 Z) (d2 Z)⟩
    · cases h
end
inductive FV where
  | fr (x : Str) | gl (x : Str) | int (x : Str) (i : Int) | str (x z : Str) | tup (x : Str) (vs : List He.Dv)
  | isi (one : Bool) (cs : List Cr) (ks : List String) (es all : List Str)
  | ex1 (x : Str) | exm (y : Str) (es all : List Str) | ini (x : Str) (flds : List Str) | bin (x : Str) | att (n : Str) (all : List Str) | sys | ntp (x : Str) (n : NV)
/-- the written part holds sys.modules -/
def sysB (K : PySem.W.Frag) : Bool := match K.lookup sysModules with
  | some ⟨_, _, .dict _ _, _⟩ => true
  | _ => false
def FV.ok (K : PySem.W.Frag) : FV → Bool
  | .fr x => (He.Fa.free x).ok K
  | .gl x => gloB K x
  | .int x i => (He.Fa.int x i).ok K
  | .str x z => (He.Fa.str x z).ok K
  | .tup x vs => gloB K x && He.tupB K x vs
  | .isi one cs ks es all => (kinds.all fun k => isA K one cs (.type k) == some (ks.contains k)) && all.all fun c => gloB K c && (exKB K (He.ga K c) && isA K one cs (.ref (He.ga K c)) == some (es.contains c))
  | .ex1 x => gloB K x && (He.Fa.exc x).ok K
  | .exm y es all => gloB K y && all.all fun c => gloB K c && PySem.W.exmOne K (.ref (He.ga K c)) (.ref (He.ga K y)) == some (es.contains c)
  | .ini x flds => gloB K x && (oexB K (He.ga K x) && (PySem.W.findIn K (.ref (He.ga K x)) "__init__" == some (some (.ref (He.ma K (He.ga K x) "__init__"))) && (PySem.W.typeIn K (.ref (He.ma K (He.ga K x) "__init__")) == some (.type "function") && flds.all fun f => PySem.W.findIn K (.ref (He.ga K x)) f == some none)))
  | .bin x => gloB K x && (PySem.W.specialIn K (.ref (He.ga K x)) "__getattribute__" == some (some (.builtin "type.__getattribute__")) && (PySem.W.readsIn K (He.ga K x) (.type "type") && (match PySem.W.findCls K (.ref (He.ga K x)) (.type "type") "__init__" with
    | some (.val (.builtin n)) => n == "ValueError.__init__"
    | _ => false)))
  | .att n all => all.all fun c => gloB K c && (exKB K (He.ga K c) && PySem.W.findIn K (.ref (He.ga K c)) n == some none)
  | .sys => sysB K
  | .ntp x n => gloB K x && relN K n (.ref (He.ga K x))
def FV.P (K : PySem.W.Frag) (mg : Str → Option Value) : FV → Prop
  | .fr x => mg x = none
  | .gl x => mg x = some (.ref (He.ga K x))
  | .int x i => ∃ u, mg x = some u ∧ RelV (.int i) u
  | .str x z => ∃ u, mg x = some u ∧ RelV (.str z) u
  | .tup x vs => mg x = some (.ref (He.ga K x)) ∧ ∀ H : Hp, SqT K H (He.ga K x) (vs.map (He.Dv.v K))
  | .isi one cs ks es all => (∀ k ∈ kinds, isA K one cs (.type k) = some (ks.contains k)) ∧ ∀ c ∈ all, ∀ C, mg c = some (.ref C) → ExK K C ∧ isA K one cs (.ref C) = some (es.contains c)
  | .ex1 x => mg x = some (.ref (He.ga K x)) ∧ PySem.W.excIn K (He.ga K x) He.veBase "ValueError.__new__" = true ∧ PySem.W.keepIn K (.ref (He.ga K x)) = true ∧ PySem.W.subIn K (.ref (He.ga K x)) (.type "BaseException") = some true ∧ PySem.W.typeIn K (.ref (He.ga K x)) = some (.type "type")
  | .exm y es all => mg y = some (.ref (He.ga K y)) ∧ ∀ c ∈ all, ∀ C, mg c = some (.ref C) → PySem.W.exmOne K (.ref C) (.ref (He.ga K y)) = some (es.contains c)
  | .ini x flds => mg x = some (.ref (He.ga K x)) ∧ OexC K (He.ga K x) ∧ PySem.W.findIn K (.ref (He.ga K x)) "__init__" = some (some (.ref (He.ma K (He.ga K x) "__init__"))) ∧ PySem.W.typeIn K (.ref (He.ma K (He.ga K x) "__init__")) = some (.type "function") ∧ ∀ f ∈ flds, PySem.W.findIn K (.ref (He.ga K x)) f = some none
  | .bin x => mg x = some (.ref (He.ga K x)) ∧ PySem.W.specialIn K (.ref (He.ga K x)) "__getattribute__" = some (some (.builtin "type.__getattribute__")) ∧ PySem.W.readsIn K (He.ga K x) (.type "type") = true ∧ PySem.W.findCls K (.ref (He.ga K x)) (.type "type") "__init__" = some (.val (.builtin "ValueError.__init__"))
  | .att n all => ∀ c ∈ all, ∀ C, mg c = some (.ref C) → ExK K C ∧ PySem.W.findIn K (.ref C) n = some none
  | .sys => sysB K = true
  | .ntp x n => mg x = some (.ref (He.ga K x)) ∧ ∀ Z, DR (K, mg) Z (.ref (He.ga K x)) n.d
section
variable {K : PySem.W.Frag} {h : Heap} {mg : Str → Option Value}
theorem gloB_ok (X : K.In h) (G : h.Ns mainGlobals mg) {x : Str} (c : gloB K x = true) : mg x = some (.ref (He.ga K x)) := He.glo_ok X G c
theorem gloB_eq (X : K.In h) (G : h.Ns mainGlobals mg) {x : Str} (c : gloB K x = true) {C : Addr} (e : mg x = some (.ref C)) : C = He.ga K x := by
  rw [gloB_ok X G c] at e
  cases e
  rfl
theorem FV.of (X : K.In h) (G : h.Ns mainGlobals mg) {f : FV} (c : f.ok K = true) : f.P K mg := by
  cases f with
  | sys => exact c
  | ntp x n =>
    obtain ⟨c1, c2⟩ := Bool.and_eq_true_iff.mp c
    obtain ⟨v, r, d⟩ := relN_ok (mg := mg) n _ c2
    have ev : v = .ref (He.ga K x) := by
      cases v <;> first | (cases r; rfl) | exact absurd r (by simp [L2.RelV])
    exact ⟨gloB_ok X G c1, fun Z => ev ▸ d Z⟩
  | fr x => exact He.free_ok X G c
  | gl x => exact gloB_ok X G c
  | int x i =>
    obtain ⟨t, e⟩ := He.int_ok X G c
    exact ⟨_, e, t, rfl⟩
  | str x z =>
    obtain ⟨t, e⟩ := He.str_ok X G c
    exact ⟨_, e, t, rfl⟩
  | tup x vs =>
    obtain ⟨c1, c2⟩ := Bool.and_eq_true_iff.mp c
    exact ⟨gloB_ok X G c1, fun H => He.tupB_ok c2 H⟩
  | isi one cs ks es all =>
    simp only [FV.ok, Bool.and_eq_true, List.all_eq_true, beq_iff_eq] at c
    obtain ⟨c1, c2⟩ := c
    refine ⟨c1, fun e he C eC => ?_⟩
    obtain ⟨d1, d2, d3⟩ := c2 e he
    obtain rfl := gloB_eq X G d1 eC
    exact ⟨exKB_ok d2, d3⟩
  | ex1 x =>
    obtain ⟨c1, c2⟩ := Bool.and_eq_true_iff.mp c
    exact ⟨gloB_ok X G c1, He.exc_ok c2⟩
  | exm y es all =>
    simp only [FV.ok, Bool.and_eq_true, List.all_eq_true, beq_iff_eq] at c
    obtain ⟨c1, c2⟩ := c
    refine ⟨gloB_ok X G c1, fun e he C eC => ?_⟩
    obtain ⟨d1, d2⟩ := c2 e he
    obtain rfl := gloB_eq X G d1 eC
    exact d2
  | ini x flds =>
    simp only [FV.ok, Bool.and_eq_true, List.all_eq_true, beq_iff_eq] at c
    obtain ⟨c1, c2, c3, c4, c5⟩ := c
    exact ⟨gloB_ok X G c1, oexB_ok c2, c3, c4, c5⟩
  | bin x =>
    simp only [FV.ok, Bool.and_eq_true, beq_iff_eq] at c
    obtain ⟨c1, c2, c3, c4⟩ := c
    refine ⟨gloB_ok X G c1, c2, c3, ?_⟩
    split at c4
    · rename_i n e
      rw [beq_iff_eq] at c4
      rw [e, c4]
    · cases c4
  | att n all =>
    simp only [FV.ok, Bool.and_eq_true, List.all_eq_true, beq_iff_eq] at c
    intro e he C eC
    obtain ⟨d1, d2, d3⟩ := c e he
    obtain rfl := gloB_eq X G d1 eC
    exact ⟨exKB_ok d2, d3⟩
end
structure FX (fv : List FV) (K : PySem.W.Frag) (mg : Str → Option Value) : Prop where
  at_ : ∀ (i : Nat) (f : FV), fv[i]? = some f → f.P K mg
def chkV (fv : List FV) (K : PySem.W.Frag) : Bool := fv.all fun f => f.ok K
theorem FX.of {fv : List FV} {K : PySem.W.Frag} {h : Heap} {mg : Str → Option Value} (X : K.In h) (G : h.Ns mainGlobals mg) (c : chkV fv K = true) : FX fv K mg :=
  ⟨fun i f e => FV.of X G (List.all_eq_true.mp c f (List.mem_of_getElem? e))⟩
/-! ### rules -/
section
variable {X : Cx} {W : WX} {P : List Nat} {pos p : Pos} {e c : Expr} {te tc : TE} {m : Env → Out AV} {x : Str}
theorem takes0 {X : Cx} : Takes X (fun _ _ _ _ => False) := fun u s' ⟨_, _, _, _, _, _, _, _, _, _, _, _, _, _, _, _, h⟩ => h.elim
theorem pe_bt {n : String} (hg : Gl X x) (hm : X.mg x = none) (hv : bootBuiltins x = some (.type n)) (hn : x ≠ "__name__" := by decide) (hd : (x == ("__debug__" : Str)) = false := by decide) : PE X (.Name x pos) (tC (.ty n)) :=
  ⟨fun _ _ _ H _ I h => ld_blt I hg hm hv ⟨.ty n, H, I, rfl, h⟩ hn hd⟩
theorem pe_own (hg : Gl X x) (hm : X.mg x = some (.ref (He.ga X.K x))) (hd : (x == ("__debug__" : Str)) = false := by decide) : PE X (.Name x pos) (tC (Cr.v X.K (.own x))) := pe_glob hg hm rfl hd
theorem pe_gcV {v : V} (hg : Gl X x) (h : ∃ u, X.mg x = some u ∧ RelV v u) (hd : (x == ("__debug__" : Str)) = false := by decide) : PE X (.Name x pos) (tC v) := by
  obtain ⟨u, hm, r⟩ := h
  exact pe_glob hg hm r hd
theorem ve_gi {i : Int} (hg : Gl X x) (h : ∃ u, X.mg x = some u ∧ RelV (.int i) u) (hd : (x == ("__debug__" : Str)) = false := by decide) : VE X W (.Name x pos) (tC (.int i)) (mC (.int i)) := ve_glob (pe_gcV hg h hd) fun _ => .int i
theorem ve_gs {z : Str} (hg : Gl X x) (h : ∃ u, X.mg x = some u ∧ RelV (.str z) u) (hd : (x == ("__debug__" : Str)) = false := by decide) : VE X W (.Name x pos) (tC (.str z)) (mC (.str z)) := ve_glob (pe_gcV hg h hd) fun _ => .str z
def dvD : He.Dv → D
  | .bl b => .bl b
  | .int i => .int i
  | .str x => .str x
  | _ => .non
def dvOk : He.Dv → Bool
  | .non => true | .bl _ => true | .int _ => true | .str _ => true
  | _ => false
theorem dvs_DR {G : Gx} {Z : Hp} {K : PySem.W.Frag} : ∀ vs : List He.Dv, vs.all dvOk = true → DRs G Z (vs.map (He.Dv.v K)) (vs.map dvD)
  | [], _ => .nil
  | v :: vs, h => by
    simp only [List.all_cons, Bool.and_eq_true] at h
    refine .cons ?_ (dvs_DR vs h.2)
    cases v <;> first | exact .non | exact .bl _ | exact .int _ | exact .str _ | exact absurd h.1 (by simp [dvOk])
theorem ve_gt {vs : List He.Dv} (hg : Gl X x) (h : X.mg x = some (.ref (He.ga X.K x)) ∧ ∀ H : Hp, SqT X.K H (He.ga X.K x) (vs.map (He.Dv.v X.K))) (ok : vs.all dvOk = true := by rfl) (hd : (x == ("__debug__" : Str)) = false := by decide) :
    VE X W (.Name x pos) (tC (.ref (He.ga X.K x))) (mC (.tup (vs.map dvD))) := ve_glob (pe_glob hg h.1 rfl hd) fun Z => .tup (h.2 Z) (dvs_DR vs ok)
theorem ve_ntp {n : NV} (K : PySem.W.Frag) (h : (FV.ntp x n).P K X.mg) (hK : K = X.K := by rfl) (hg : Gl X x := by rfl) (hd : (x == ("__debug__" : Str)) = false := by decide) : VE X W (.Name x pos) (tC (.ref (He.ga K x))) (mC n.d) := by
  subst hK
  exact ve_glob (pe_glob hg h.1 rfl hd) h.2
theorem ve_isi1 {cr : Cr} {ks : List String} {es all : List Str} (hI : (FV.isi true [cr] ks es all).P X.K X.mg) (hm : X.mg "isinstance" = none) (hv : bootBuiltins "isinstance" = some (.builtin "isinstance")) (he : VE X W e te m) (hc : PE X c (tC (cr.v X.K))) (hg : Gl X "isinstance" := by rfl)
    (hs : starEach [e, c] X.env = (false, eval e X.env) :: starEach [c] X.env := by rfl) (hs2 : starEach [c] X.env = (false, eval c X.env) :: starEach [] X.env := by rfl) (hpl : (backTo pos (starEach [c] X.env)).any (·.1) = false := by rfl) :
    VE X W (.Call (.Name "isinstance" p) [e, c] [] pos) (tCB (rIsW X.K) (tCons te (tCons (tC (cr.v X.K)) tNil))) (m1 (fun d => (isiD ks es all d).map .bl) m) :=
  ve_isi cr.cls ⟨hI.1, hI.2⟩ hg hm hv he hc hs hs2 hpl
theorem ve_isiM {cs : List Expr} {tcs : TA} {crs : List Cr} {k : Nat} {tp : Pos} {ks : List String} {es all : List Str} (hI : (FV.isi false crs ks es all).P X.K X.mg) (hm : X.mg "isinstance" = none) (hv : bootBuiltins "isinstance" = some (.builtin "isinstance"))
    (he : VE X W e te m) (hc : PA X cs tcs) (htc : ∀ σ H Q, Q (crs.map (Cr.v X.K)) H → tcs σ H Q) (hz : crs.length ≤ 1000 := by decide) (hg : Gl X "isinstance" := by rfl)
    (hs : starEach [e, .Tuple cs k tp] X.env = (false, eval e X.env) :: starEach [.Tuple cs k tp] X.env := by rfl) (hs2 : starEach [.Tuple cs k tp] X.env = (false, eval (.Tuple cs k tp) X.env) :: starEach [] X.env := by rfl) (hpl : (backTo pos (starEach [.Tuple cs k tp] X.env)).any (·.1) = false := by rfl) :
    VE X W (.Call (.Name "isinstance" p) [e, .Tuple cs k tp] [] pos) (tCB (rIsWT X.K) (tCons te (tCons (tTup tcs) tNil))) (m1 (fun d => (isiD ks es all d).map .bl) m) :=
  ve_isiT (Cr.all crs) ⟨hI.1, hI.2⟩ hg hm hv he hc htc (by rw [List.length_map]; exact hz) hs hs2 hpl
theorem ve_ex1 (hx : (FV.ex1 x).P X.K X.mg) (he : VE X W e te m) (hg : Gl X x := by rfl) (hs : starEach [e] X.env = (false, eval e X.env) :: starEach [] X.env := by rfl) (hdb : (x == ("__debug__" : Str)) = false := by decide) :
    VE X W (.Call (.Name x p) [e] [] pos) (fun σ H Q => tCons te tNil σ H fun _ H1 => ∀ a, H1 a = none → Q (.ref a) (upd H1 a (ExO (.ref (He.ga X.K x)) a))) (mExc x m) :=
  ve_exc1 PySem.F.excBase_ValueError hx.2.1 hx.1 hx.2.2.1 hg he hs hdb
/-- raise C(e, ..), C without own __init__ -/
def mRaiseA (c : Str) (ma : Env → Out (List AV)) : Env → Out Fl := fun ρ => sbind (ma ρ) fun avs ρ1 => if avs.length ≤ 1000 then some (.error ⟨c, []⟩, ρ1) else none
theorem vs_raiseA {es : List Expr} {ta : TA} {ma : Env → Out (List AV)} {rpos : Pos} (hc : X.calm = true) (tk : Takes X W) (hx : (FV.ex1 x).P X.K X.mg) (ha : VA X W (e :: es) ta ma) (hg : Gl X x := by rfl)
    (hdb : (x == ("__debug__" : Str)) = false := by decide) (he : starEach (e :: es) X.env = (false, eval e X.env) :: starEach es X.env := by rfl) (hpl : (backTo pos (starEach es X.env)).any (·.1) = false := by rfl) :
    VS X W P (.Raise (some (.Call (.Name x p) (e :: es) [] pos)) none rpos) (fun _ σ H => ta σ H fun vs H1 => vs.length ≤ sizeLine ∧ W (.ref (He.ga X.K x)) none σ H1) (mRaiseA x ma) :=
  ⟨ps_raise hc tk (pmk_ownA PySem.F.excBase_ValueError hx.2.1 hx.1 hx.2.2.1 (raises_own hx.2.2.2.1 hx.2.2.2.2) hg ha.pa hdb he hpl), fun Z H σ ρ fp D s h => by
    refine ha.sm Z H σ ρ fp _ s (h.bind.mono fun avs ρ1 h1 => ?_)
    intro vs Z1 H1 fp1 st1 s1 at1
    split at h1
    · rename_i hz
      obtain ⟨g, s2, k2⟩ := SOk.dropAll (avAt_len at1) s1
      exact ⟨by rw [avAt_len at1, sizeLine_eq]; omega, h1 _ none σ Z1 H1 g (st1.less k2) s2 Pin.refl ⟨_, [], rfl, hx.1, rfl, rfl, .nil⟩⟩
    · exact h1.elim⟩
def exD (es all : List Str) (c : Str) : Option Bool := if all.contains c then some (es.contains c) else none
theorem exD_ok {y : Str} {es all : List Str} {K : PySem.W.Frag} {mg : Str → Option Value} (hx : (FV.exm y es all).P K mg) : ∀ e b C, exD es all e = some b → mg e = some (.ref C) → PySem.W.exmOne K (.ref C) (.ref (He.ga K y)) = some b := fun e b C h hm => by
  unfold exD at h
  split at h
  · rename_i hc
    rw [hx.2 e (by simpa using hc) C hm, h]
  · cases h
theorem ve_att {n : Str} {all : List Str} (hx : (FV.att n all).P X.K X.mg) (he : VE X W e te m) (hb : attributeBase e n X.env (eval e X.env) = eval e X.env := by rfl) : VE X W (.Attribute e n pos) (tXA X.K n te) (mXA n all m) := ve_xa he hx hb
theorem init_of {Pg : Program} {w : World} {K : PySem.W.Frag} {mg : Str → Option Value} {base : Heap} {x : Str} {flds : List Str} {fd : FuncData} {ps : List Str} (hx : (FV.ini x flds).P K mg) (F1 : FnOk Pg w K mg base CX0 1 (He.ma K (He.ga K x) "__init__") fd ps (spI K (He.ga K x) flds)) (hb : Binds K fd ps []) : Init Pg w K mg base x flds :=
  ⟨_, _, fd, ps, hx.1, hx.2.1, hx.2.2.1, hx.2.2.2.1, F1, hb, hx.2.2.2.2⟩
end
/-! ### the built-in names -/
section
theorem bb_len : bootBuiltins "len" = some (.builtin "len") := by decide +kernel
theorem bb_isinstance : bootBuiltins "isinstance" = some (.builtin "isinstance") := by decide +kernel
theorem bb_all : bootBuiltins "all" = some (.builtin "all") := by decide +kernel
theorem bb_any : bootBuiltins "any" = some (.builtin "any") := by decide +kernel
theorem bb_sum : bootBuiltins "sum" = some (.builtin "sum") := by decide +kernel
theorem bb_repr : bootBuiltins "repr" = some (.builtin "repr") := by decide +kernel
theorem bb_abs : bootBuiltins "abs" = some (.builtin "abs") := by decide +kernel
theorem bb_max : bootBuiltins "max" = some (.builtin "max") := by decide +kernel
theorem bb_min : bootBuiltins "min" = some (.builtin "min") := by decide +kernel
theorem bb_int : bootBuiltins "int" = some (.type "int") := by decide +kernel
theorem bb_bool : bootBuiltins "bool" = some (.type "bool") := by decide +kernel
theorem bb_str : bootBuiltins "str" = some (.type "str") := by decide +kernel
theorem bb_list : bootBuiltins "list" = some (.type "list") := by decide +kernel
theorem bb_tuple : bootBuiltins "tuple" = some (.type "tuple") := by decide +kernel
theorem bb_dict : bootBuiltins "dict" = some (.type "dict") := by decide +kernel
theorem bb_ValueError : bootBuiltins "ValueError" = some (.type "ValueError") := by decide +kernel
end
end Vl

/-! VlP: short names for what the generator prints. -/
namespace Vl
open PySem PySem.Spec PyProof.Rows L2
def gLt : D → D → Option D := gOrd (fun i j => decide (i < j)) fun a b => decide (a < b)
def gLe : D → D → Option D := gOrd (fun i j => decide (i ≤ j)) fun a b => !decide (b < a)
def gGt : D → D → Option D := gOrd (fun i j => decide (j < i)) fun a b => decide (b < a)
def gGe : D → D → Option D := gOrd (fun i j => decide (j ≤ i)) fun a b => !decide (a < b)
def gSub_ : D → D → Option D := gI fun i j => .int (i - j)
def gMod_ : D → D → Option D := gIC cMod fun i j => .int (i % j)
def gDiv_ : D → D → Option D := gIC cDiv fun i j => .int (i / j)
def gPow_ : D → D → Option D := gIC cPow fun i j => .int (i ^ j.toNat)
def mNil : Env → Out (List AV) := fun ρ => some (.ok [], ρ)
def mYes : Env → Out Bool := fun ρ => some (.ok true, ρ)
def mNoP : Env → Out (Option Int) := fun ρ => some (.ok none, ρ)
def mRetN : Env → Out Fl := fun ρ => some (.ok (.rt (.fro .non)), ρ)
def tgNil : List D → Env → Option Env := fun ds ρ => match ds with
  | [] => some ρ
  | _ => none
section
variable {X : Cx} {A : Around} {k : Nat}
theorem fo_eqA (hr : Room k A) (K : PySem.W.Frag) (hA : A = X.A := by rfl) (hK : K = X.K := by rfl) : FOp X (compareOp .Eq) (rEqV K) gEq := hK ▸ fo_eq (hA ▸ hr)
theorem fo_neA (hr : Room k A) (K : PySem.W.Frag) (hA : A = X.A := by rfl) (hK : K = X.K := by rfl) : FOp X (compareOp .NotEq) (rNeV K) gNe := hK ▸ fo_ne (hA ▸ hr)
theorem fo_inA (hr : Room k A) (K : PySem.W.Frag) (hA : A = X.A := by rfl) (hK : K = X.K := by rfl) : FOp X (compareOp .In) (rInV K) (gIn false) := hK ▸ fo_in (hA ▸ hr)
theorem fo_notinA (hr : Room k A) (K : PySem.W.Frag) (hA : A = X.A := by rfl) (hK : K = X.K := by rfl) : FOp X (compareOp .NotIn) (rNotInV K) (gIn true) := hK ▸ fo_notin (hA ▸ hr)
theorem fc_reprA (hg : A.guards = some []) (hr : Room k A) (hA : A = X.A := by rfl) : FC X (.builtin "repr") (rRepr X.K) gRepr := fc_repr (hA ▸ hg) (hA ▸ hr)
end
section
variable {X : Cx} {W : WX} {P : List Nat} {pos p : Pos} {e : Expr} {x : Str} {es : List Expr} {ta : TA} {ma : Env → Out (List AV)} {flds : List Str}
theorem ve_exI (I0 : Init X.prog X.w X.K X.mg X.base x flds) (hr : Room 2 X.A) (ha : VA X W (e :: es) ta ma) (hg : Gl X x := by rfl)
    (hdb : (x == ("__debug__" : Str)) = false := by decide) (he : starEach (e :: es) X.env = (false, eval e X.env) :: starEach es X.env := by rfl) (hpl : (backTo pos (starEach es X.env)).any (·.1) = false := by rfl) :
    VE X W (.Call (.Name x p) (e :: es) [] pos) (Classical.choose (ve_excI (p := p) (pos := pos) I0 hr hg ha hdb he hpl)) (mExcI x flds ma) := Classical.choose_spec (ve_excI (p := p) (pos := pos) I0 hr hg ha hdb he hpl)
theorem vs_raiseJ {rpos : Pos} (hc : X.calm = true) (tk : Takes X W) (I0 : Init X.prog X.w X.K X.mg X.base x flds) (hr : Room 2 X.A) (ha : VA X W (e :: es) ta ma) (hg : Gl X x := by rfl)
    (hdb : (x == ("__debug__" : Str)) = false := by decide) (he : starEach (e :: es) X.env = (false, eval e X.env) :: starEach es X.env := by rfl) (hpl : (backTo pos (starEach es X.env)).any (·.1) = false := by rfl) :
    VS X W P (.Raise (some (.Call (.Name x p) (e :: es) [] pos)) none rpos) (Classical.choose (vs_raiseI (P := P) (p := p) (pos := pos) (rpos := rpos) hc tk I0 hr hg ha hdb he hpl)) (mRaiseI x flds ma) := Classical.choose_spec (vs_raiseI (P := P) (p := p) (pos := pos) (rpos := rpos) hc tk I0 hr hg ha hdb he hpl)
/-- the empty dict, as a table of ints and texts -/
def mDic0 : Env → Out AV := fun ρ => some (.ok (.tmp (.dic [])), ρ)
theorem ve_dic0 : VE X W (.Dict [] [] pos) tDNewK mDic0 :=
  ⟨pe_dnewK, fun Z H σ ρ fp Q s h p hp => by
    have np : ∀ a ∈ fp, a ≠ p := fun a ha z => by
      obtain ⟨u, e⟩ := s.sl.there a ha
      rw [z, hp] at e; cases e
    obtain ⟨s1, st1⟩ := s.other (o := .dK []) hp
    have zp : Z p = none := by
      cases e : Z p with
      | none => rfl
      | some u => rw [s.sub p u e] at hp; cases hp
    refine h _ Z _ (p :: fp) ⟨st1.zle, st1.frame, st1.zfr, fun a ha => ?_⟩ (s1.push (f := [p]) (.dic (kvs := []) upd_same rfl .nil) (by simp) (fun a ha hb => ?_) fun a ha => ?_) trivial
    · rcases List.mem_cons.mp ha with z | z
      · rw [z]; exact .inl hp
      · exact .inr z
    · rw [List.mem_singleton] at ha
      exact np a hb ha
    · rw [List.mem_singleton] at ha
      rw [ha]; exact zp⟩
theorem vg_tupK {es : List Expr} {k : Nat} {t : TGs} {n : Nat} {m : List D → Env → Option Env} (K : PySem.W.Frag) (hc : X.calm = true) (h : VGs X P es t m) (hK : K = X.K := by rfl) (hn : (assignEach es X.env).length = n := by rfl) (hst : (assignEach es X.env).findIdx? (·.1) = none := by rfl) :
    VG X P (.Tuple es k pos) (gTup K n t) (tgT m n) := hK ▸ vg_tup hc h hn hst
/-! ### the same with the written part named (a block's own context is not to be seen in a reading) -/
section
variable {a b : Expr} {te tb to : TE} {m mb mo : Env → Out AV} (K : PySem.W.Frag)
theorem vt_truthK (ha : VE X W a te m) (hK : K = X.K := by rfl) (he : ∀ whole, isTrue a X.env whole = (do let v ← whole; standAt a.pos; holding [v] (truthy v)) := by intro _; rfl) :
    VT X W a (fun σ H Q => te σ H fun x H1 => ∃ k, TruV K x H1 k ∧ Q k H1) (mT m) := by subst hK; exact vt_truth ha he
theorem ve_andK {rest : List Expr} (ha : VE X W a te m) (hb : VE X W (.BoolOp .And (b :: rest) pos) tb mb) (hK : K = X.K := by rfl) : VE X W (.BoolOp .And (a :: b :: rest) pos) (tAndT K te tb) (mAnd m mb) := by subst hK; exact ve_and ha hb
theorem ve_orK {rest : List Expr} (ha : VE X W a te m) (hb : VE X W (.BoolOp .Or (b :: rest) pos) tb mb) (hK : K = X.K := by rfl) : VE X W (.BoolOp .Or (a :: b :: rest) pos) (tOrT K te tb) (mOr m mb) := by subst hK; exact ve_or ha hb
theorem ve_notK (ha : VE X W a te m) (hK : K = X.K := by rfl) : VE X W (.UnaryOp .Not a pos) (tNotT K te) (m1 gNot m) := by subst hK; exact ve_not ha
theorem ve_ixK (ha : VE X W a te m) (hb : VE X W b tb mb) (hK : K = X.K := by rfl) (hs : PlainIx b := by exact fun _ _ => rfl) : VE X W (.Subscript a b pos) (tOp (rIx K) te tb) (mIx m mb) := by subst hK; exact ve_ix ha hb hs
theorem ve_slK {lo hi : Option Expr} {tl th : TO} {ml mh : Env → Out (Option Int)} {p2 : Pos} (ha : VE X W a te m) (hl : VO X W lo tl ml) (hh : VO X W hi th mh) (hK : K = X.K := by rfl) :
    VE X W (.Subscript a (.Slice lo hi none p2) pos) (tSl (rSlV K) te tl th) (mSl m ml mh) := by subst hK; exact ve_sl ha hl hh
theorem vi_anyK {tg : Expr} (he : VE X W e te m) (hK : K = X.K := by rfl) : VI X W tg e (iAny K te) (mIt m) := by subst hK; exact vi_any he
theorem vi_enumK {p tpos : Pos} {elts : List Expr} {kk : Nat} (hg : Gl X "enumerate") (hm : X.mg "enumerate" = none) (ha : VA X W [e] ta ma) (hK : K = X.K := by rfl) (hs : starEach [e] X.env = [(false, eval e X.env)] := by rfl) :
    VI X W (.Tuple elts kk tpos) (.Call (.Name "enumerate" p) [e] [] pos) (iEnum K ta) (mEnum ma) := by subst hK; exact vi_enum hg hm ha hs
theorem so_addK (hK : K = X.K := by rfl) : SOp X (binaryOp .Add) (fun x y H Q => rI0 (fun i j => .int (i + j)) x y H Q ∨ (∃ i j, x = .str i ∧ y = .str j ∧ i.length + j.length ≤ sizeLine ∧ Q (.str (i ++ j)) H) ∨ rCatL x y H Q ∨ rCatA K x y H Q) gAdd := by subst hK; exact so_add
theorem fc_lenK (hK : K = X.K := by rfl) : FC X (.builtin "len") (fun xs H Q => (∃ p ys, xs = [.ref p] ∧ (SqL K H p ys ∨ SqT K H p ys) ∧ Q (.int ys.length) H) ∨ ∃ z, xs = [.str z] ∧ z.length ≤ sizeLine ∧ Q (.int z.length) H) gLen := by subst hK; exact fc_len
theorem fc_allK (hc : X.calm = true) (hK : K = X.K := by rfl) : FC X (.builtin "all") (rAll K) gAll := by subst hK; exact fc_all hc
theorem fc_anyK (hc : X.calm = true) (hK : K = X.K := by rfl) : FC X (.builtin "any") (rAny K) gAny := by subst hK; exact fc_any hc
theorem fc_sumK (hc : X.calm = true) (hK : K = X.K := by rfl) : FC X (.builtin "sum") (rSum K) gSum := by subst hK; exact fc_sum hc
theorem fc_reprK {A : Around} {k : Nat} (hg : A.guards = some []) (hr : Room k A) (hA : A = X.A := by rfl) (hK : K = X.K := by rfl) : FC X (.builtin "repr") (rRepr K) gRepr := by subst hK; exact fc_repr (hA ▸ hg) (hA ▸ hr)
theorem sc_listK (hK : K = X.K := by rfl) : SC X (.type "list") (fun xs H Q => ∃ p ys, xs = [.ref p] ∧ (SqL K H p ys ∨ SqT K H p ys) ∧ ∀ l, H l = none → Q (.ref l) (upd H l (.lst ys))) gListOf := by subst hK; exact sc_list
theorem sc_tupleK (hK : K = X.K := by rfl) : SC X (.type "tuple") (fun xs H Q => ∃ p ys, xs = [.ref p] ∧ ((SqL K H p ys ∧ ∀ l, H l = none → Q (.ref l) (upd H l (.tup ys))) ∨ (SqT K H p ys ∧ Q (.ref p) H))) gTupOf := by subst hK; exact sc_tuple
theorem pe_ownK (hg : Gl X x) (hm : X.mg x = some (.ref (He.ga K x))) (hK : K = X.K := by rfl) (hd : (x == ("__debug__" : Str)) = false := by decide) : PE X (.Name x pos) (tC (Cr.v K (.own x))) := by subst hK; exact pe_own hg hm hd
theorem ve_isi1K {c : Expr} {cr : Cr} {ks : List String} {es all : List Str} (hI : (FV.isi true [cr] ks es all).P K X.mg) (hm : X.mg "isinstance" = none) (hv : bootBuiltins "isinstance" = some (.builtin "isinstance")) (he : VE X W e te m) (hc : PE X c (tC (cr.v K))) (hK : K = X.K := by rfl) (hg : Gl X "isinstance" := by rfl)
    (hs : starEach [e, c] X.env = (false, eval e X.env) :: starEach [c] X.env := by rfl) (hs2 : starEach [c] X.env = (false, eval c X.env) :: starEach [] X.env := by rfl) (hpl : (backTo pos (starEach [c] X.env)).any (·.1) = false := by rfl) :
    VE X W (.Call (.Name "isinstance" p) [e, c] [] pos) (tCB (rIsW K) (tCons te (tCons (tC (cr.v K)) tNil))) (m1 (fun d => (isiD ks es all d).map .bl) m) := by subst hK; exact ve_isi1 hI hm hv he hc hg hs hs2 hpl
theorem ve_isiMK {cs : List Expr} {tcs : TA} {crs : List Cr} {k : Nat} {tp : Pos} {ks : List String} {es all : List Str} (hI : (FV.isi false crs ks es all).P K X.mg) (hm : X.mg "isinstance" = none) (hv : bootBuiltins "isinstance" = some (.builtin "isinstance"))
    (he : VE X W e te m) (hc : PA X cs tcs) (htc : ∀ σ H Q, Q (crs.map (Cr.v K)) H → tcs σ H Q) (hK : K = X.K := by rfl) (hz : crs.length ≤ 1000 := by decide) (hg : Gl X "isinstance" := by rfl)
    (hs : starEach [e, .Tuple cs k tp] X.env = (false, eval e X.env) :: starEach [.Tuple cs k tp] X.env := by rfl) (hs2 : starEach [.Tuple cs k tp] X.env = (false, eval (.Tuple cs k tp) X.env) :: starEach [] X.env := by rfl) (hpl : (backTo pos (starEach [.Tuple cs k tp] X.env)).any (·.1) = false := by rfl) :
    VE X W (.Call (.Name "isinstance" p) [e, .Tuple cs k tp] [] pos) (tCB (rIsWT K) (tCons te (tCons (tTup tcs) tNil))) (m1 (fun d => (isiD ks es all d).map .bl) m) := by subst hK; exact ve_isiM hI hm hv he hc htc hz hg hs hs2 hpl
theorem ve_attK {n : Str} {all : List Str} (hx : (FV.att n all).P K X.mg) (he : VE X W e te m) (hK : K = X.K := by rfl) (hb : attributeBase e n X.env (eval e X.env) = eval e X.env := by rfl) : VE X W (.Attribute e n pos) (tXA K n te) (mXA n all m) := by subst hK; exact ve_att hx he hb
theorem ve_joinK {o : Expr} {apos : Pos} (ho : VE X W o to mo) (he : VE X W e te m) (hK : K = X.K := by rfl) (hs : starEach [e] X.env = [(false, eval e X.env)] := by rfl) (hbase : attributeBase o "join" X.env (eval o X.env) = eval o X.env := by rfl) (hline : (apos.endLine == pos.line) = true := by rfl) :
    VE X W (.Call (.Attribute o "join" apos) [e] [] pos) (tM1 (fun x xs H Q => ∃ a p, ∃ ys : List Str, x = .str a ∧ xs = [.ref p] ∧ (SqL K H p (ys.map V.str) ∨ SqT K H p (ys.map V.str)) ∧
      (ys.map (·.length)).sum + ys.length * a.length ≤ 16777216 ∧ Q (.str (Txt.join a ys)) H) to te) (mJoin mo m) := by subst hK; exact ve_join ho he hs hbase hline
theorem ve_appK {i : Nat} {y : Str} {q apos cpos : Pos} (hx : PE X (.Name y q) (tVar i)) (he : VE X W e te m) (hK : K = X.K := by rfl)
    (hbase : attributeBase (.Name y q) "append" X.env (eval (.Name y q) X.env) = eval (.Name y q) X.env := by rfl)
    (hfew : ((backTo cpos (starEach (e :: []) X.env)).all (fun x => !x.1) && (backToKw cpos (keywordEach [] X.env)).all (fun x => x.1.isSome)
      && decide ((e :: []).length + ([] : List Keyword).length + (if ([] : List Keyword).isEmpty then 0 else 1) < 30)) = true := by rfl)
    (hline : (apos.endLine == cpos.line) = true := by rfl) (hs : starEach (e :: []) X.env = (false, eval e X.env) :: starEach [] X.env := by rfl) (hplain : (backTo cpos (starEach [] X.env)).any (·.1) = false := by rfl) :
    VE X W (.Call (.Attribute (.Name y q) "append" apos) [e] [] cpos) (tBM K "list" rAppend (tVar i) (tCons te tNil)) (mApp i m) := by subst hK; exact ve_app hx he hbase hfew hline hs hplain
theorem ve_callK {es' : List Expr} {n : Nat} {mg : Str → Option Value} {base : Heap} {Pg : Program} {w : World} {F : FSem} {k k' : Nat} {A : Around} (D : DefOk Pg w K mg base x k n false F) (hgd : A.guards = some []) (hr : Room k' A) (hk : k ≤ k') (tk : Takes X W) (hg : Gl X x) (ha : VA X W (e :: es') ta ma)
    (hP : Pg = X.prog := by rfl) (hw : w = X.w := by rfl) (hK : K = X.K := by rfl) (hM : mg = X.mg := by rfl) (hB : base = X.base := by rfl) (hA : A = X.A := by rfl) (hn : (e :: es').length = n := by rfl)
    (hdb : (x == ("__debug__" : Str)) = false := by decide) (he : starEach (e :: es') X.env = (false, eval e X.env) :: starEach es' X.env := by rfl) (hpl : (backTo pos (starEach es' X.env)).any (·.1) = false := by rfl) :
    VE X W (.Call (.Name x p) (e :: es') [] pos) (tCallS (spV (K, mg) n false F) (WE W) ta) (mCall F ma) := by subst hP hw hK hM hB hA; exact ve_call D hgd hr hk tk hg ha hn hdb he hpl
theorem ve_callIoK {es' : List Expr} {n : Nat} {mg : Str → Option Value} {base : Heap} {Pg : Program} {w : World} {F : FSem} {k k' : Nat} {A : Around} (D : DefOk Pg w K mg base x k n true F) (hgd : A.guards = some []) (hr : Room k' A) (hk : k ≤ k') (tk : Takes X W) (hg : Gl X x) (ha : VA X W (e :: es') ta ma)
    (hP : Pg = X.prog := by rfl) (hw : w = X.w := by rfl) (hK : K = X.K := by rfl) (hM : mg = X.mg := by rfl) (hB : base = X.base := by rfl) (hA : A = X.A := by rfl) (hn : (e :: es').length = n := by rfl)
    (hdb : (x == ("__debug__" : Str)) = false := by decide) (he : starEach (e :: es') X.env = (false, eval e X.env) :: starEach es' X.env := by rfl) (hpl : (backTo pos (starEach es' X.env)).any (·.1) = false := by rfl) :
    VE X W (.Call (.Name x p) (e :: es') [] pos) (tCallS (spV (K, mg) n true F) (WE W) ta) (mCallIo F ma) := by subst hP hw hK hM hB hA; exact ve_callIo D hgd hr hk tk hg ha hn hdb he hpl
theorem ve_call0K {mg : Str → Option Value} {base : Heap} {Pg : Program} {w : World} {F : FSem} {k k' : Nat} {A : Around} (D : DefOk Pg w K mg base x k 0 false F) (hgd : A.guards = some []) (hr : Room k' A) (hk : k ≤ k') (tk : Takes X W) (hg : Gl X x)
    (hP : Pg = X.prog := by rfl) (hw : w = X.w := by rfl) (hK : K = X.K := by rfl) (hM : mg = X.mg := by rfl) (hB : base = X.base := by rfl) (hA : A = X.A := by rfl)
    (hdb : (x == ("__debug__" : Str)) = false := by decide) : VE X W (.Call (.Name x p) [] [] pos) (tCallS (spV (K, mg) 0 false F) (WE W) tNil) (mCall0 F) := by subst hP hw hK hM hB hA; exact ve_call0 D hgd hr hk tk hg hdb
theorem ve_gtK {vs : List He.Dv} (hg : Gl X x) (h : (FV.tup x vs).P K X.mg) (hK : K = X.K := by rfl) (ok : vs.all dvOk = true := by rfl) (hd : (x == ("__debug__" : Str)) = false := by decide) :
    VE X W (.Name x pos) (tC (.ref (He.ga K x))) (mC (.tup (vs.map dvD))) := by subst hK; exact ve_gt hg h ok hd
theorem ve_ex1K (hx : (FV.ex1 x).P K X.mg) (he : VE X W e te m) (hK : K = X.K := by rfl) (hg : Gl X x := by rfl) (hs : starEach [e] X.env = (false, eval e X.env) :: starEach [] X.env := by rfl) (hdb : (x == ("__debug__" : Str)) = false := by decide) :
    VE X W (.Call (.Name x p) [e] [] pos) (fun σ H Q => tCons te tNil σ H fun _ H1 => ∀ a, H1 a = none → Q (.ref a) (upd H1 a (ExO (.ref (He.ga K x)) a))) (mExc x m) := by subst hK; exact ve_ex1 hx he hg hs hdb
end
end
/-- a promise of nothing: a recursion's ground -/
theorem def_none {Pg : Program} {w : World} {K : PySem.W.Frag} {mg : Str → Option Value} {base : Heap} {x qual : Str} {st : Stmt} {f : Addr} {fd : FuncData} {N ps : List Str} {k n : Nat} {io : Bool} (Fn : Fun K x qual st f fd) (gf : mg x = some (.ref f)) (hb : Binds K fd ps []) (S : FnScope N ps (defScope st)) (hn : ps.length = n) :
    DefOk Pg w K mg base x k n io (fun _ => none) := by
  refine ⟨f, fd, ps, gf, Fn.kp, hb, fun vs H Q E h => by rw [hn]; exact h.1, fun A outer s H args us vs Q E hg hr he hbd hv h => ?_⟩
  obtain ⟨_, ts, Z, fp, _, _, _, z⟩ := h
  exact z.elim
end Vl

/-! Vl14: a tuple of any things beside the empty one. -/
namespace Vl
open PySem PySem.Spec PyProof.Rows L2
section
variable {X : Cx}
def rEqE (K : PySem.W.Frag) : R2 := fun x y H Q => ∃ p q xs, x = .ref p ∧ y = .ref q ∧ SqT K H p xs ∧ SqT K H q [] ∧ Q (.bl xs.isEmpty) H
theorem op_eqE (hu : X.A.units < cLine) : OpR X (compareOp .Eq) (rEqE X.K) := by
  intro pins s σ H x y v u Q I rx ry h
  obtain ⟨p, q, xs, rfl, rfl, h1, h2, qq⟩ := h
  cases rx
  cases ry
  obtain ⟨its, r, pl, _⟩ := I.tuple h1
  obtain ⟨its2, r2, pl2, _⟩ := I.tuple h2
  cases r2
  refine SeqAt.eq_tupleAt (e := fun _ => true) pl pl2 hu (fun j _ hj => absurd hj (by simp)) ⟨.bl xs.isEmpty, H, I, ?_, qq⟩
  cases r <;> rfl
def gEqX (d e : D) : Option D := match d, e with
  | .tup ds, .tup [] => some (.bl ds.isEmpty)
  | d, e => gEq d e
theorem fo_eqX {A : Around} {k : Nat} (hr : Room k A) (K : PySem.W.Frag) (hA : A = X.A := by rfl) (hK : K = X.K := by rfl) : FOp X (compareOp .Eq) (fun x y H Q => rEqV K x y H Q ∨ rEqE K x y H Q) gEqX := by
  subst hA hK
  have F := fo_eq (X := X) hr
  refine ⟨F.op.or (op_eqE (by have := hr.un; omega)), fun H x y d e z Q h1 h2 hg q => ?_, fun d e z hg => ?_⟩
  · unfold gEqX at hg
    split at hg
    · cases hg
      cases h1 with
      | tup a1 r1 =>
        cases h2 with
        | tup a2 r2 =>
          cases r2
          exact .inr ⟨_, _, _, rfl, rfl, a1, a2, by rw [isEmpty_DRs r1]; exact q⟩
    · exact .inl (F.sm H x y _ _ z Q h1 h2 hg q)
  · unfold gEqX at hg
    split at hg
    · cases hg; rfl
    · exact F.fl _ _ _ hg
end
end Vl

/-! Vl15: zip of two lists, of two tuples. -/
namespace Vl
open PySem PySem.Spec PyProof.Rows L2 RZ
def zipD (ds es : List D) : List D := List.zipWith (fun a b => D.tup [a, b]) ds es
theorem zipD_len (ds es : List D) : (zipD ds es).length = min ds.length es.length := by simp [zipD]
theorem zipD_get {ds es : List D} {i : Nat} {d e : D} (h1 : ds[i]? = some d) (h2 : es[i]? = some e) : (zipD ds es)[i]? = some (.tup [d, e]) := by
  unfold zipD
  rw [List.getElem?_zipWith, h1, h2]
theorem it_zipL {G : Gx} {Z : Hp} {a b : Addr} {vs ws : List V} {ds es : List D} (h1 : Rd Z a (.lst vs)) (h2 : Rd Z b (.lst ws)) (r1 : DRs G Z vs ds) (r2 : DRs G Z ws es) : ItOk G Z (Itz G.1 a b) (zipD ds es) := by
  have w := walk_zip (K := G.1) (a := a) (b := b) (xs := vs) (ys := ws) rfl
  have hl : (zipD ds es).length = min vs.length ws.length := by rw [zipD_len, r1.length, r2.length]
  have hs : ∀ H, Same Z H → SqL G.1 H a vs ∧ SqL G.1 H b ws := fun H s => ⟨.inl (same_rd s h1), .inl (same_rd s h2)⟩
  refine ⟨fun i H hi s => w.goes i H (by rw [← hl]; exact hi) (hs H s), fun H s => by rw [hl]; exact w.stops H (hs H s), fun i H x H' hi s y => ?_⟩
  obtain ⟨T, x1, x2, rfl, q1, q2, q3, q4⟩ := w.yields i H x H' (by rw [← hl]; exact hi) (hs H s) y
  obtain ⟨d, e3, dr⟩ := r1.get q3
  obtain ⟨e, e4, er⟩ := r2.get q4
  exact ⟨.tup [d, e], zipD_get e3 e4, .inr ⟨T, x1, x2, d, e, rfl, q1, q2, rfl, dr, er⟩⟩
theorem it_zipT {G : Gx} {Z : Hp} {a b : Addr} {vs ws : List V} {ds es : List D} (h1 : SqT G.1 Z a vs) (h2 : SqT G.1 Z b ws) (r1 : DRs G Z vs ds) (r2 : DRs G Z ws es) : ItOk G Z (ItzT G.1 a b) (zipD ds es) := by
  have hl : (zipD ds es).length = min vs.length ws.length := by rw [zipD_len, r1.length, r2.length]
  refine ⟨fun i H hi s => ?_, fun H s => ⟨vs, ws, same_seqT s h1, same_seqT s h2, by omega⟩, fun i H x H' hi s y => ?_⟩
  · have i1 : i < vs.length := by omega
    have i2 : i < ws.length := by omega
    exact ⟨vs, ws, vs[i], ws[i], same_seqT s h1, same_seqT s h2, by simp [i1], by simp [i2]⟩
  · obtain ⟨T, x1, x2, rfl, q1, q2, q3, q4⟩ := y
    obtain ⟨d, e3, dr⟩ := r1.get (q3 vs (same_seqT s h1))
    obtain ⟨e, e4, er⟩ := r2.get (q4 ws (same_seqT s h2))
    exact ⟨.tup [d, e], zipD_get e3 e4, .inr ⟨T, x1, x2, d, e, rfl, q1, q2, rfl, dr, er⟩⟩
def mZip (ma : Env → Out (List AV)) : Env → Out (List D) := fun ρ => obind (ma ρ) fun avs ρ1 => match nrm avs ρ1 with
  | some (ts, ρ2) => match T.erL ts with
    | [.lst ds, .lst es] => some (.ok (zipD ds es), ρ2)
    | [.tup ds, .tup es] => some (.ok (zipD ds es), ρ2)
    | _ => none
  | none => none
theorem vi_zipK {X : Cx} {W : WX} {e e2 : Expr} {ta : TA} {ma : Env → Out (List AV)} {p pos tpos : Pos} {elts : List Expr} {kk : Nat} (K : PySem.W.Frag) (hg : Gl X "zip") (hm : X.mg "zip" = none) (ha : VA X W [e, e2] ta ma) (hK : K = X.K := by rfl)
    (hs : starEach [e, e2] X.env = (false, eval e X.env) :: starEach [e2] X.env := by rfl) (hpl : (backTo pos (starEach [e2] X.env)).any (·.1) = false := by rfl) :
    VI X W (.Tuple elts kk tpos) (.Call (.Name "zip" p) [e, e2] [] pos) (iZipA K ta) (mZip ma) := by
  subst hK
  refine ⟨pi_zipA hg hm ha.pa hs hpl, fun Z H σ ρ fp R s h => ?_⟩
  refine ha.sm Z H σ ρ fp _ s (h.bind.mono fun avs ρ1 h1 => ?_)
  intro vs Z1 H1 fp1 st1 s1 at1
  split at h1
  case h_2 => exact h1.elim
  rename_i ts ρ2 en
  obtain ⟨hl, Z2, g2, st2, s2⟩ := nrm_ok s1 at1 en
  obtain ⟨Z3, g3, st3, drs, s3⟩ := SOk.frzAll (by rw [avAt_len at1, hl]) s2
  split at h1
  · rename_i ds es ed
    rw [ed] at drs
    cases drs with
    | cons d1 dr =>
      cases dr with
      | cons d2 dr =>
        cases dr
        cases d1 with
        | lst a1 r1 =>
          cases d2 with
          | lst a2 r2 => exact ⟨_, _, _, _, rfl, .inl ⟨.inl (same_rd s3.sub a1), .inl (same_rd s3.sub a2), h1 _ Z3 H1 g3 (st1.trans (st2.trans st3)) s3 (it_zipL a1 a2 r1 r2)⟩⟩
  · rename_i ds es ed
    rw [ed] at drs
    cases drs with
    | cons d1 dr =>
      cases dr with
      | cons d2 dr =>
        cases dr
        cases d1 with
        | tup a1 r1 =>
          cases d2 with
          | tup a2 r2 => exact ⟨_, _, _, _, rfl, .inr ⟨same_seqT s3.sub a1, same_seqT s3.sub a2, h1 _ Z3 H1 g3 (st1.trans (st2.trans st3)) s3 (it_zipT a1 a2 r1 r2)⟩⟩
  · exact h1.elim
end Vl

/-! Vl16: sorted of ints. -/
namespace Vl
open PySem PySem.Spec PyProof.Rows L2
section
variable {α : Type} (le : α → α → Bool)
def ins1 (a : α) : List α → List α
  | [] => [a]
  | b :: l => if le a b = true then a :: b :: l else b :: ins1 a l
def isort : List α → List α
  | [] => []
  | a :: l => ins1 le a (isort l)
theorem ins1_perm (a : α) : ∀ l : List α, (ins1 le a l).Perm (a :: l)
  | [] => .refl _
  | b :: l => by
    unfold ins1
    split
    · exact .refl _
    · exact ((ins1_perm a l).cons b).trans (.swap a b l)
theorem isort_perm : ∀ l : List α, (isort le l).Perm l
  | [] => .refl _
  | a :: l => (ins1_perm le a (isort le l)).trans ((isort_perm l).cons a)
theorem ins1_sorted (trn : ∀ a b c : α, le a b = true → le b c = true → le a c = true) (tot : ∀ a b : α, le a b = true ∨ le b a = true) (a : α) : ∀ l : List α, l.Pairwise (fun x y => le x y = true) → (ins1 le a l).Pairwise (fun x y => le x y = true)
  | [], _ => by simp [ins1]
  | b :: l, h => by
    unfold ins1
    have hb := List.pairwise_cons.mp h
    split
    · rename_i hab
      exact List.pairwise_cons.mpr ⟨fun c hc => by
        rcases List.mem_cons.mp hc with rfl | hc
        · exact hab
        · exact trn a b c hab (hb.1 c hc), h⟩
    · rename_i hab
      have hba : le b a = true := (tot a b).resolve_left hab
      exact List.pairwise_cons.mpr ⟨fun c hc => by
        rcases List.mem_cons.mp ((ins1_perm le a l).mem_iff.mp hc) with rfl | hc
        · exact hba
        · exact hb.1 c hc, ins1_sorted trn tot a l hb.2⟩
theorem isort_sorted (trn : ∀ a b c : α, le a b = true → le b c = true → le a c = true) (tot : ∀ a b : α, le a b = true ∨ le b a = true) : ∀ l : List α, (isort le l).Pairwise (fun x y => le x y = true)
  | [] => .nil
  | a :: l => ins1_sorted le trn tot a _ (isort_sorted trn tot l)
end
def leI (a b : Int) : Bool := decide (a ≤ b)
theorem isortI {ns ns' : List Int} (p : ns'.Perm ns) (s : ns'.Pairwise (· ≤ ·)) : ns' = isort leI ns := by
  have s2 := isort_sorted leI (fun a b c h1 h2 => by simp [leI] at *; omega) (fun a b => by simp [leI]; omega) ns
  exact List.Perm.eq_of_pairwise (le := (· ≤ ·)) (fun a b _ _ h1 h2 => by omega) s (s2.imp fun h => by simpa [leI] using h) (p.trans (isort_perm leI ns).symm)
def gSrtI : List D → Option D
  | [.lst ds] => (intsOf ds).map fun ns => .lst ((isort leI ns).map .int)
  | _ => none
theorem sc_sortedI {X : Cx} (K : PySem.W.Frag) (hK : K = X.K := by rfl) : SC X (.builtin "sorted") (rSortedI K) gSrtI := by
  subst hK
  refine ⟨cr_sortedI, fun Z H vs ds z Q sz dr hg q => ?_⟩
  unfold gSrtI at hg
  split at hg
  · rename_i ds'
    obtain ⟨ns, e1, rfl⟩ := Option.map_eq_some_iff.mp hg
    cases dr with
    | cons h r =>
      cases r
      cases h with
      | lst ha r =>
        refine ⟨_, ns, rfl, by rw [← intsOf_V r e1]; exact .inl (same_rd sz ha), fun ns' p hp hs hn => ?_⟩
        rw [isortI hp hs]
        exact q.lst _ rfl p _ (by
          generalize isort leI ns = l
          induction l with
          | nil => exact .nil
          | cons a l ih => exact .cons (.int a) ih) hn
  · cases hg
end Vl

/-! Vl17: sorted of texts. -/
namespace Vl
open PySem PySem.Spec PyProof.Rows L2
theorem lt_tot : ∀ a b : List Nat, ltCps a b = false → ltCps b a = false → a = b
  | [], [], _, _ => rfl
  | [], _ :: _, h, _ => by simp [ltCps] at h
  | _ :: _, [], _, h => by simp [ltCps] at h
  | x :: a, y :: b, h1, h2 => by
    simp [ltCps] at h1 h2
    have e : x = y := by omega
    subst e
    rw [lt_tot a b (by simpa using h1) (by simpa using h2)]
theorem lt_asym : ∀ a b : List Nat, ltCps a b = true → ltCps b a = false
  | [], [], h => by simp [ltCps] at h
  | [], _ :: _, _ => by simp [ltCps]
  | _ :: _, [], h => by simp [ltCps] at h
  | x :: a, y :: b, h => by
    simp [ltCps] at h ⊢
    rcases h with h | ⟨rfl, h⟩
    · exact ⟨by omega, fun e => by omega⟩
    · exact ⟨Nat.le_refl _, fun _ => lt_asym a b h⟩
theorem le_trans_cps : ∀ a b c : List Nat, ltCps b a = false → ltCps c b = false → ltCps c a = false
  | [], [], _, _, h => h
  | [], _ :: _, [], _, h => by simp [ltCps] at h
  | [], _ :: _, _ :: _, _, _ => by simp [ltCps]
  | _ :: _, [], _, h, _ => by simp [ltCps] at h
  | _ :: _, _ :: _, [], _, h => by simp [ltCps] at h
  | x :: a, y :: b, z :: c, h1, h2 => by
    simp [ltCps] at h1 h2 ⊢
    refine ⟨by omega, fun e => ?_⟩
    have e1 : y = x := by omega
    have e2 : z = y := by omega
    exact le_trans_cps a b c (h1.2 e1) (h2.2 e2)
def leS (a b : Str) : Bool := !ltCps b.cps.toList a.cps.toList
theorem leS_trans (a b c : Str) (h1 : leS a b = true) (h2 : leS b c = true) : leS a c = true := by
  simp [leS] at *
  exact le_trans_cps _ _ _ h1 h2
theorem leS_tot (a b : Str) : leS a b = true ∨ leS b a = true := by
  simp only [leS, Bool.not_eq_true']
  cases h : ltCps b.cps.toList a.cps.toList with
  | false => exact .inl rfl
  | true => exact .inr (lt_asym _ _ h)
theorem leS_anti (a b : Str) (h1 : leS a b = true) (h2 : leS b a = true) : a = b := by
  simp [leS] at h1 h2
  exact Str.ext' (Array.toList_inj.mp (lt_tot _ _ h2 h1))
theorem rising_pw : ∀ (ss : List Str) (p : Str), risingS p ss = true → (p :: ss).Pairwise (fun a b => leS a b = true)
  | [], p, _ => by simp
  | x :: r, p, h => by
    simp only [risingS, Bool.and_eq_true] at h
    have ih := rising_pw r x h.2
    refine List.pairwise_cons.mpr ⟨fun c hc => ?_, ih⟩
    rcases List.mem_cons.mp hc with rfl | hc
    · exact h.1
    · exact leS_trans p x c h.1 ((List.pairwise_cons.mp ih).1 c hc)
theorem sorted_pw (ss : List Str) (h : sortedS ss = true) : ss.Pairwise (fun a b => leS a b = true) := by
  cases ss with
  | nil => exact .nil
  | cons x r => exact rising_pw r x h
theorem isortS {ss ss' : List Str} (p : ss'.Perm ss) (s : sortedS ss' = true) : ss' = isort leS ss :=
  List.Perm.eq_of_pairwise (le := fun a b => leS a b = true) (fun a b _ _ h1 h2 => leS_anti a b h1 h2) (sorted_pw ss' s) (isort_sorted leS leS_trans leS_tot ss) (p.trans (isort_perm leS ss).symm)
def gSrtS : List D → Option D
  | [.lst ds] => match strsOf ds with
    | some ss => if ss.length < 64 then some (.lst ((isort leS ss).map .str)) else none
    | none => none
  | _ => none
theorem strs_DRs {G : Gx} {Z : Hp} : ∀ l : List Str, DRs G Z (l.map V.str) (l.map D.str)
  | [] => .nil
  | a :: l => .cons (.str a) (strs_DRs l)
def gSrt (xs : List D) : Option D := match gSrtS xs with
  | some d => some d
  | none => gSrtI xs
def rSrt (K : PySem.W.Frag) : List V → Hp → VK → Prop := fun vs H Q => rSortedS K vs H Q ∨ rSortedI K vs H Q
theorem sc_sorted {X : Cx} (K : PySem.W.Frag) (hK : K = X.K := by rfl) : SC X (.builtin "sorted") (rSrt K) gSrt := by
  have FI := sc_sortedI (X := X) K hK
  subst hK
  refine ⟨fun pins s σ H xs us Q I r h => h.elim (cr_sortedS pins s σ H xs us Q I r) (cr_sortedI pins s σ H xs us Q I r), fun Z H vs ds z Q sz dr hg q => ?_⟩
  unfold gSrt at hg
  split at hg
  · rename_i d hd
    cases hg
    unfold gSrtS at hd
    split at hd
    · rename_i ds'
      split at hd
      · rename_i ss e1
        split at hd
        · rename_i h64
          cases hd
          cases dr with
          | cons h r =>
            cases r
            cases h with
            | lst ha r =>
              refine .inl ⟨_, ss, rfl, by rw [← strsOf_V r e1]; exact .inl (same_rd sz ha), h64, fun ss' p hp hs hn => ?_⟩
              rw [isortS hp hs]
              exact q.lst _ rfl p _ (strs_DRs _) hn
        · cases hd
      · cases hd
    · cases hd
  · exact .inr (FI.sm Z H vs ds z Q sz dr hg q)
end Vl
namespace Vl
open PySem
theorem bb_sorted : bootBuiltins "sorted" = some (.builtin "sorted") := by decide +kernel
end Vl

/-! Vl18: a row times an int. -/
namespace Vl
open PySem PySem.Spec PyProof.Rows L2
/-- a list (read, perhaps frozen) times a small number -/
def rRepL : R2 := fun x y H Q => ∃ l k xs, x = .ref l ∧ y = .int k ∧ Rd H l (.lst xs) ∧ 0 ≤ k ∧ k ≤ 1000 ∧ xs.length ≤ 1000 ∧ ∀ p, H p = none → Q (.ref p) (upd H p (.lst (List.replicate k.toNat xs).flatten))
theorem op_repL {X : Cx} : OpR X (binaryOp .Mult) rRepL := by
  rintro pins s σ H x y v u Q I rx ry ⟨l, k, xs, rfl, rfl, hH, k0, k1, hz, q⟩
  cases rx
  obtain ⟨t, rfl⟩ := ry
  obtain ⟨its, n, rv, hl, at_⟩ := rd_list I hH
  have big : its.toArray.size * k.toNat ≤ 1000 * 1000 := Nat.mul_le_mul (by rw [List.size_toArray, ← hl]; exact hz) (by omega)
  have out : List.foldl (fun a b => a ++ b) #[] (List.replicate (if its.toArray.isEmpty = true then 0 else k.toNat) its.toArray) = (List.replicate k.toNat its).flatten.toArray := by
    have base : ∀ m : Nat, List.foldl (fun a b => a ++ b) #[] (List.replicate m its.toArray) = (List.replicate m its).flatten.toArray := fun m => by
      have z := foldl_rep its m []
      rw [List.nil_append] at z
      exact z
    rw [base]
    cases its with
    | nil => simp
    | cons a r => rw [if_neg (by simp)]
  refine wpAny_binaryOp_repeat_ref (T := "list") (U := "int") (by decide) ⟨_, at_, rfl⟩ (fun s' => typeIs_int s' k t) noFill_list_mul F.fills_int_mul F.slot_int_rmul repeat_list F.slot_int_index.lookup ?_
  refine call_meets F.slot_int_rmul (typeIs_int s k t) F.entry_int_rmul (F.args_int_rmul_2 _ _) (int___rmul___int_list k t l its.toArray n) ⟨at_, rfl, ⟨_, at_, rfl⟩, ?_⟩
  refine call_meets F.slot_list_mul ⟨_, at_, rfl⟩ F.entry_list_mul (F.args_list_mul_2 _ _) (AutoListH.list___mul___list_int_3 l its.toArray n k t ?_ ?_ ?_) ⟨at_, ?_⟩
  · rw [fitsIndex_both (by omega) (by omega)]; exact Bool.false_ne_true
  · have z : (1000 * 1000 : Nat) ≤ (2 ^ 63 - 1) / 8 := by decide
    omega
  · rw [notLongL (by rw [sizeLine_eq]; omega)]; exact Bool.false_ne_true
  · rw [out]
    have hlen : (List.replicate k.toNat xs).flatten.length ≤ sizeLine := by
      rw [PyProof.Rows.lm_len_rep_flat, Nat.mul_comm, sizeLine_eq, hl]
      rw [List.size_toArray] at big
      omega
    exact ⟨.ref _, _, I.lnew (t' := s.toks) (rv.rep k.toNat) hlen, rfl, q _ I.fresh⟩
def gMulX : D → D → Option D
  | .lst xs, .int k => if 0 ≤ k ∧ k ≤ 1000 ∧ xs.length ≤ 1000 then some (.lst (List.replicate k.toNat xs).flatten) else none
  | d, e => gMul d e
theorem DRs.rep {G : Gx} {Z : Hp} {vs : List V} {ds : List D} (r : DRs G Z vs ds) : ∀ n : Nat, DRs G Z (List.replicate n vs).flatten (List.replicate n ds).flatten
  | 0 => .nil
  | n + 1 => by
    rw [List.replicate_succ, List.replicate_succ, List.flatten_cons, List.flatten_cons]
    exact r.append (DRs.rep r n)
theorem so_mul {X : Cx} : SOp X (binaryOp .Mult) (fun x y H Q => (rI CMul (fun i j => .int (i * j)) x y H Q ∨ ∃ i n, x = .str i ∧ y = .int n ∧ (0 ≤ n ∧ n ≤ 1000 ∧ i.length ≤ 1000) ∧ Q (.str (Txt.mul i n)) H) ∨ rRepL x y H Q) gMulX := by
  have F := fo_mul (X := X)
  refine ⟨F.op.or op_repL, fun Z H x y d e z Q sz h1 h2 hg q => ?_⟩
  unfold gMulX at hg
  split at hg
  · split at hg
    · rename_i hk
      cases hg
      cases h1 with
      | lst a1 r1 =>
        cases h2
        exact .inr ⟨_, _, _, rfl, rfl, same_rd sz a1, hk.1, hk.2.1, by rw [r1.length]; exact hk.2.2, fun p hp => q.lst _ rfl p _ (DRs.rep r1 _) hp⟩
    · cases hg
  · refine .inl (F.sm H x y d e z Q (h1.mono sz) (h2.mono sz) hg ?_)
    have fl := F.fl _ _ _ hg
    exact q.old (fun zs ez => by rw [ez] at fl; simp [flat] at fl) _ (DR.of_flat fl)
end Vl

/-! Vl19: repr of data in which empty dicts stand. -/
namespace Vl
open PySem PySem.Spec PyProof.Rows L2
mutual
def D.pyx : D → Option PyData
  | .non => some .none
  | .bl b => some (.bool b)
  | .int i => some (.int i)
  | .str x => some (.str x)
  | .lst xs => (D.pyxL xs).map .list
  | .tup xs => (D.pyxL xs).map .tuple
  | .dic kvs => match kvs with
    | [] => some (.dict [])
    | _ => none
  | .dit _ => none
  | .exc _ _ => none
def D.pyxL : List D → Option (List PyData)
  | [] => some []
  | d :: ds => match d.pyx, D.pyxL ds with
    | some p, some ps => some (p :: ps)
    | _, _ => none
end
theorem sys_at {X : Cx} {pins : List (Addr × Obj)} {σ : L2.St} {H : Hp} {s : Shared} (I : Inv X pins σ H s) (h : sysB X.K = true) : ∃ (o : Obj) (es : Array DictEntry) (ep : Nat), s.heap.get? sysModules = some o ∧ o.data = .dict es ep := by
  unfold sysB at h
  split at h
  · rename_i c d es ep sl e
    exact ⟨_, es, ep, I.kIn _ _ e, rfl⟩
  · cases h
section
variable {X : Cx} {pins : List (Addr × Obj)} {σ : L2.St} {H : Hp} {s : Shared}
mutual
theorem DR.readsX (I : Inv X pins σ H s) (hS : sysB X.K = true) : ∀ {v : V} {d : D} {p : PyData} {u : Value}, DR (gx X) H v d → d.pyx = some p → RelV v u → ∃ as, Reads s.heap u p as ∧ sysModules ∉ as
  | _, _, _, _, .non, e, r => by rw [D.pyx] at e; cases e; cases r; exact ⟨_, .none, by simp⟩
  | _, _, _, _, .bl b, e, r => by rw [D.pyx] at e; cases e; cases r; exact ⟨_, .bool b, by simp⟩
  | _, _, _, _, .int i, e, r => by rw [D.pyx] at e; cases e; obtain ⟨t, rfl⟩ := r; exact ⟨_, .int i t, by simp⟩
  | _, _, _, _, .str x, e, r => by rw [D.pyx] at e; cases e; obtain ⟨t, rfl⟩ := r; exact ⟨_, .str x t, by simp⟩
  | _, _, _, _, .lst (a := a) h q, e, r => by
    rw [D.pyx] at e
    obtain ⟨ps, e1, rfl⟩ := Option.map_eq_some_iff.mp e
    cases r
    obtain ⟨its, n, rv, _, at_⟩ := rd_list I h
    obtain ⟨as, hr, hn⟩ := DRs.readsX I hS q e1 rv
    refine ⟨_, .list at_ rfl rfl hr, fun hm => ?_⟩
    rcases List.mem_cons.mp hm with z | z
    · obtain ⟨o, es, ep, e2, e3⟩ := sys_at I hS
      rw [z, at_] at e2
      cases e2
      cases e3
    · exact hn z
  | _, _, _, _, .tup h q, e, r => by
    rw [D.pyx] at e
    obtain ⟨ps, e1, rfl⟩ := Option.map_eq_some_iff.mp e
    cases r
    obtain ⟨its, rv, ⟨o, ho, hc, n, hd⟩, _⟩ := I.tuple h
    obtain ⟨as, hr, hn⟩ := DRs.readsX I hS q e1 rv
    exact ⟨_, .tuple ho hc hd hr, hn⟩
  | _, _, _, _, .dic (a := a) (kvs := kvs) (dks := dks) h hk q, e, r => by
    cases dks with
    | cons => simp [D.pyx] at e
    | nil =>
      rw [D.pyx] at e
      cases e
      cases r
      have hk0 : kvs = [] := by
        cases kvs with
        | nil => rfl
        | cons => cases hk
      subst hk0
      have o1 : ObjOk X.prog X.w H s.heap a (.dK []) := h.ok I.hok
      obtain ⟨_, hne, vs, hkv, o, es, ep, ho, ⟨hcls, _⟩, hdata, hkeys, hpairs, _⟩ := o1
      cases hkv
      have hes : es.toList = [] := by
        cases hl : es.toList with
        | nil => rfl
        | cons x r => rw [hl] at hpairs; cases hpairs
      refine ⟨_, Reads.dict (kvs := []) (as := []) (bs := []) ho hcls hdata (by rw [hes]; exact .nil) (by rw [hes]; exact .nil), fun hm => ?_⟩
      simp at hm
      rw [← hm] at hne
      simp at hne
  | _, _, _, _, .dit _ _ _, e, _ => by rw [D.pyx] at e; cases e
  | _, _, _, _, .exc _ _ _ _ _ _, e, _ => by rw [D.pyx] at e; cases e
theorem DRs.readsX (I : Inv X pins σ H s) (hS : sysB X.K = true) : ∀ {vs : List V} {ds : List D} {ps : List PyData} {us : List Value}, DRs (gx X) H vs ds → D.pyxL ds = some ps → Vals vs us → ∃ as, ReadsAll s.heap us ps as ∧ sysModules ∉ as
  | _, _, _, _, .nil, e, r => by rw [D.pyxL] at e; cases e; cases r; exact ⟨_, .nil, by simp⟩
  | _, _, _, _, .cons h q, e, r => by
    rw [D.pyxL] at e
    split at e
    · rename_i p ps e1 e2
      cases e
      cases r with
      | cons r1 r2 =>
        obtain ⟨as, q1, n1⟩ := DR.readsX I hS h e1 r1
        obtain ⟨bs, q2, n2⟩ := DRs.readsX I hS q e2 r2
        exact ⟨_, .cons q1 q2, fun hm => (List.mem_append.mp hm).elim n1 n2⟩
    · cases e
end
end
def gReprX : List D → Option D
  | [d] => match d.pyx with
    | some p => if p.showable = true ∧ p.shown.length ≤ sizeLine ∧ p.depth ≤ 60 then some (.str p.shown) else none
    | none => none
  | _ => none
def rReprX (mg : Str → Option Value) (K : PySem.W.Frag) : List V → Hp → VK → Prop := fun xs H Q => ∃ x d p, xs = [x] ∧ DR (K, mg) H x d ∧ d.pyx = some p ∧ (p.showable = true ∧ p.shown.length ≤ sizeLine ∧ p.depth ≤ 60) ∧ Q (.str p.shown) H
theorem call_reprX {X : Cx} {k : Nat} (hg : X.A.guards = some []) (hr : Room k X.A) (hS : sysB X.K = true) : CallR X (.builtin "repr") (rReprX X.mg X.K) := by
  rintro pins s σ H xs us Q I r ⟨x, d, p, rfl, hd, e, ⟨h1, h2, h3⟩, q⟩
  obtain ⟨u, rfl, ru⟩ := vals1 r
  have hu := hr.units
  obtain ⟨as, rd, hn⟩ := DR.readsX I hS hd e ru
  have out : ∀ a, u = .ref a → wpAny (model X.prog X.w) X.A (call (.builtin "repr") [u]) (EP X pins σ Q) X.xe s := fun a ea => by
    subst ea
    exact repr_of_reads' rd h1 (fun _ => hn) hg (by omega) (fun _ _ z => z) (fun h' u tk k => ⟨.str _, H, I.kept (t' := tk) k, ⟨_, rfl⟩, q⟩) h2
  cases hd with
  | non => rw [D.pyx] at e; cases e; cases ru; exact PySem.P.repr_of_none ⟨.str _, H, I.tok _, ⟨s.toks, by simp only [PyData.shown]⟩, q⟩
  | bl b => rw [D.pyx] at e; cases e; cases ru; exact PySem.P.repr_of_bool ⟨.str _, H, I.tok _, ⟨s.toks, by simp only [PyData.shown]⟩, q⟩
  | int i =>
    rw [D.pyx] at e
    cases e
    obtain ⟨t, rfl⟩ := ru
    exact PySem.P.repr_of_int (by simpa [PyData.showable] using h1) ⟨.str _, H, I.tok _, ⟨s.toks, by simp only [PyData.shown]⟩, q⟩
  | str z =>
    rw [D.pyx] at e
    cases e
    obtain ⟨t, rfl⟩ := ru
    exact PySem.P.repr_of_str ⟨.str _, H, I.tok _, ⟨s.toks, by simp only [PyData.shown]⟩, q⟩ (by simpa [PyData.shown] using h2)
  | lst => exact out _ ru
  | tup => exact out _ ru
  | dic => exact out _ ru
  | dit => rw [D.pyx] at e; cases e
  | exc => rw [D.pyx] at e; cases e
theorem fc_reprX {X : Cx} {A : Around} {k : Nat} (K : PySem.W.Frag) (mg : Str → Option Value) (hg : A.guards = some []) (hr : Room k A) (hS : sysB K = true) (hA : A = X.A := by rfl) (hK : K = X.K := by rfl) (hM : mg = X.mg := by rfl) : FC X (.builtin "repr") (rReprX mg K) gReprX := by
  subst hA hK hM
  refine ⟨call_reprX hg hr hS, fun H vs ds z Q dr hg q => ?_, fun ds z hg => ?_⟩
  · unfold gReprX at hg
    split at hg
    · split at hg
      · rename_i p e1
        split at hg
        · rename_i hz
          cases hg
          cases dr with | cons h r => cases r; exact ⟨_, _, p, rfl, h, e1, hz, q⟩
        · cases hg
      · cases hg
    · cases hg
  · unfold gReprX at hg
    split at hg
    · split at hg
      · split at hg <;> cases hg <;> rfl
      · cases hg
    · cases hg
end Vl

/-! Vl20: a list the other way about. -/
namespace Vl
open PySem PySem.Spec PyProof.Rows L2
def mRev (m : Env → Out AV) : Env → Out AV := fun ρ => obind (m ρ) fun av ρ1 => match vw av ρ1 with
  | some (.lst xs, ρ2) => some (.ok (.tmp (tr (.lst xs.reverse))), ρ2)
  | _ => none
theorem ve_revL {X : Cx} {W : WX} {e : Expr} {te : TE} {m : Env → Out AV} {k : Nat} {p1 p2 p3 pos : Pos} (K : PySem.W.Frag) (he : VE X W e te m) (hK : K = X.K := by rfl) :
    VE X W (.Subscript e (.Slice none none (some (.UnaryOp .USub (.Constant (.int 1) k p1) p2)) p3) pos) (tRevL K te) (mRev m) := by
  subst hK
  refine ⟨pe_revL he.pe, fun Z H σ ρ fp Q s h => ?_⟩
  refine he.sm Z H σ ρ fp _ s (h.bind.mono fun av ρ1 h1 => ?_)
  intro v Z1 H1 fp1 st1 s1 at1
  split at h1
  · rename_i xs ρ2 ev
    obtain ⟨Z2, g2, st2, dv, s2⟩ := vw_ok s1 at1 ev
    obtain ⟨a, vs, rfl, ha, r⟩ := dv.list s2.sub
    have q := KE.new (z := .lst xs.reverse) h1 (st1.trans st2) s2
    exact ⟨a, vs, rfl, .inl ha, fun p hp => q.lst _ rfl p _ (DRs.rev r) hp⟩
  · exact h1.elim
end Vl

/-! Vl21: a tuple the other way about. -/
namespace Vl
open PySem PySem.Spec PyProof.Rows L2
section
variable {prog : Program} {w : World} {A : Around} {E : Value → Shared → Prop} {s : Shared}
theorem adjust_rev (n : Nat) : Builtin.Slice.sliceAdjust none none (-1) (n : Int) = ((n : Int) - 1, -1) := by
  unfold Builtin.Slice.sliceAdjust
  have h1 : ((-1 : Int) < 0) := by omega
  simp only [h1, if_true]
theorem places_rev (n : Nat) : Builtin.Slice.slicePlaces ((n : Int) - 1) (-1) (-1) = n := by
  unfold Builtin.Slice.slicePlaces
  have h1 : ¬ (-1 : Int) > 0 := by omega
  simp only [h1, if_false]
  split <;> simp <;> omega
theorem sliceApplied_rev {sl : Addr} {vs : Value} {n : Nat} {Q : Int × Int × Nat → Shared → Prop} (hs : s.heap.IsSliceOf sl .none .none vs) (ps : IsPart vs (some (-1)))
    (h : Q ((n : Int) - 1, -1, n) s) : wpAny (model prog w) A (Builtin.Slice.sliceApplied (.ref sl) (pure (n : Int))) Q E s := by
  obtain ⟨os, hos, hcs, hds⟩ := id hs
  unfold Builtin.Slice.sliceApplied Builtin.Slice.sliceFields
  refine wpAny_bind (wpAny_bind (wpAny_field hos hds (x := .none) rfl (wpAny_bind (wpAny_field hos hds (x := .none) rfl (wpAny_bind (wpAny_field hos hds (x := vs) rfl (wpAny_pure ?_)))))))
  refine wpAny_bind (HT.slicePart_ ps ?_)
  show wpAny _ _ (if ((-1 : Int) == 0) = true then _ else _) _ _ s
  rw [if_neg (by decide)]
  refine wpAny_bind (HT.slicePart_ .none (wpAny_bind (HT.slicePart_ .none (wpAny_bind (wpAny_pure ?_)))))
  show wpAny _ _ (match Builtin.Slice.sliceAdjust none none (-1) (n : Int) with | (lo, hi) => pure (lo, (-1 : Int), Builtin.Slice.slicePlaces lo hi (-1))) _ _ s
  rw [adjust_rev n]
  show wpAny _ _ (pure ((n : Int) - 1, (-1 : Int), Builtin.Slice.slicePlaces ((n : Int) - 1) (-1) (-1))) _ _ s
  rw [places_rev]
  exact wpAny_pure h
theorem pick_rev_n (l : List Value) : ∀ k : Nat, k ≤ l.length → (List.range k).filterMap (fun (m : Nat) => l[(((l.length : Int) - 1) + (m : Int) * (-1)).toNat]?) = l.reverse.take k
  | 0, _ => by simp
  | k + 1, h => by
    rw [List.range_succ, List.filterMap_append, pick_rev_n l k (by omega), List.take_add_one]
    congr 1
    have e : (((l.length : Int) - 1) + (k : Int) * (-1)).toNat = l.length - 1 - k := by omega
    rw [List.filterMap_cons, e, List.getElem?_reverse (by omega), List.getElem?_eq_getElem (by omega)]
    rfl
theorem pick_rev (xs : Array Value) : ((List.range xs.size).filterMap fun (m : Nat) => xs[(((xs.size : Int) - 1) + (m : Int) * (-1)).toNat]?).toArray = xs.toList.reverse.toArray := by
  have q := pick_rev_n xs.toList xs.size (by simp)
  simp only [Array.length_toList, Array.getElem?_toList] at q
  rw [q, List.take_of_length_le (by simp)]
theorem getItem_tuple_rev {t sl : Addr} {items : Array Value} {vs : Value} {Q : Value → Shared → Prop} (ht : IsTup s.heap t items) (hs : s.heap.IsSliceOf sl .none .none vs) (ps : IsPart vs (some (-1)))
    (h : Q (.ref s.heap.objs.size) { s with heap := s.heap.push { cls := .type "tuple", data := .seq items.toList.reverse.toArray } })
    (hsz : items.size ≤ sizeLine) : wpAny (model prog w) A (getItem (.ref t) (.ref sl)) Q E s := by
  have htake : sizeOk (.seq items.toList.reverse.toArray) := by
    show items.toList.reverse.toArray.size ≤ sizeLine
    rw [List.size_toArray, List.length_reverse, Array.length_toList]
    omega
  obtain ⟨os, hos, hcs, hds⟩ := id hs
  have hTs : s.TypeIs (.ref sl) "slice" := ⟨os, hos, hcs⟩
  unfold getItem
  try with_reducible refine wpAny_holding ?_
  first | refine wpAny_bind (wpAny_pure ?_) | skip
  refine wpAny_bind (wpAny_sequenceKey ht.typeIs (by decide) ?_)
  refine wpAny_bind (wpAny_callSpecial?_slot (name := Str.ofString "__getitem__") ht.typeIs PyProof.Rows.slot_tuple_getitem
    (wpAny_call_entry PyProof.Rows.slot_tuple_getitem ht.typeIs entry_tuple_getitem ?_ (args_tuple_getitem _ _)))
  show wpAny _ _ (Builtin.Tuple.tupleItemsOf (.ref t) >>= _) _ _ s
  refine wpAny_bind (tupleItemsOf_ ht ?_)
  refine wpAny_bind (wpAny_typeOf hTs ?_)
  rw [if_pos (by decide)]
  refine wpAny_bind (sliceApplied_rev hs ps ?_)
  have hno : ¬ ((((items.size : Int) - 1) == 0 && (-1 : Int) == 1 && items.size == items.size) = true) := by
    intro q
    rw [Bool.and_eq_true, Bool.and_eq_true] at q
    exact absurd q.1.2 (by decide)
  show wpAny _ _ (if (((items.size : Int) - 1) == 0 && (-1 : Int) == 1 && items.size == items.size) = true then _ else _) _ _ s
  rw [if_neg hno, pick_rev]
  first
    | exact wpAny_bind (m := Builtin.Tuple.tupleExact _) (wpAny_newObj_type (wpAny_pure ⟨_, rfl, wpAny_pure h⟩) htake)
    | exact wpAny_bind (m := Builtin.Tuple.tupleExact _) (wpAny_newObj_type (wpAny_bind (wpAny_pure (wpAny_pure ⟨_, rfl, wpAny_pure h⟩))) htake)
    | exact wpAny_bind (wpAny_bind (m := Builtin.Tuple.tupleExact _) (wpAny_newObj_type (wpAny_pure (wpAny_pure ⟨_, rfl, wpAny_pure h⟩)) htake))
    | exact wpAny_bind (wpAny_bind (m := Builtin.Tuple.tupleExact _) (wpAny_newObj_type (wpAny_pure ⟨_, rfl, wpAny_pure h⟩) htake))
end
def tRevX (K : PySem.W.Frag) (te : TE) : TE := fun σ H Q => te σ H fun x H1 => (∃ a xs, x = .ref a ∧ SqL K H1 a xs ∧ ∀ p, H1 p = none → Q (.ref p) (upd H1 p (.lst xs.reverse))) ∨
  (∃ a xs, x = .ref a ∧ SqT K H1 a xs ∧ ∀ p, H1 p = none → Q (.ref p) (upd H1 p (.tup xs.reverse)))
theorem pe_revX {X : Cx} {e : Expr} {te : TE} {k : Nat} {p1 p2 p3 pos : Pos} (he : PE X e te) : PE X (.Subscript e (.Slice none none (some (.UnaryOp .USub (.Constant (.int 1) k p1) p2)) p3) pos) (tRevX X.K te) := by
  refine ⟨fun pins s σ H Q I h => ?_⟩
  refine Subscript_ (thn (he.run pins s σ H _ I h) fun v s1 ⟨x, H1, I1, r1, q1⟩ => ?_)
  obtain ⟨a, xs, ex, hx⟩ : ∃ a xs, x = V.ref a ∧ ((SqL X.K H1 a xs ∧ ∀ p, H1 p = none → Q (.ref p) (upd H1 p (.lst xs.reverse))) ∨ (SqT X.K H1 a xs ∧ ∀ p, H1 p = none → Q (.ref p) (upd H1 p (.tup xs.reverse)))) := by
    rcases q1 with ⟨a, xs, e, h⟩ | ⟨a, xs, e, h⟩
    · exact ⟨a, xs, e, .inl h⟩
    · exact ⟨a, xs, e, .inr h⟩
  subst ex
  cases r1
  have hst : PO X (some (.UnaryOp .USub (.Constant (.int 1) k p1) p2)) (tPart (tUn (rU fun i => .int (-i)) (tC (.int 1)))) := po_some (pe_un un_neg pe_int)
  rcases hx with ⟨hx, q⟩ | ⟨hx, q⟩
  · refine wpAny_Slice (thn (po_none.run pins s1 σ H1 (fun o H2 => o = none ∧ H2 = H1) I1 ⟨rfl, rfl⟩) fun vl s2 ⟨l, H2, I2, pl, el, e2⟩ => ?_)
    subst el e2
    refine thn (po_none.run pins s2 σ H2 (fun o H3 => o = none ∧ H3 = H2) I2 ⟨rfl, rfl⟩) fun vu s3 ⟨u, H3, I3, pu, eu, e3⟩ => ?_
    subst eu e3
    refine thn (hst.run pins s3 σ H3 (fun o H4 => o = some (-1) ∧ H4 = H3) I3 ⟨1, rfl, -1, rfl, rfl, rfl⟩) fun vs s4 ⟨o, H4, I4, ps, eo, e4⟩ => ?_
    subst eo e4
    have I5 : Inv X pins σ H4 { s4 with heap := s4.heap.push { cls := .type "slice", data := .fields #[vl, vu, vs] } } := I4.kept (t' := s4.toks) fun b ob q => Heap.get?_push_of_some _ q
    obtain ⟨its, r, ht, hz⟩ := I5.list hx
    have hlen := r.length
    show wpAny (model X.prog X.w) X.A (subscriptTail e (.Slice none none (some (.UnaryOp .USub (.Constant (.int 1) k p1) p2)) p3) (.ref a) (.ref s4.heap.objs.size)) (EP X pins σ Q) X.xe { s4 with heap := s4.heap.push { cls := .type "slice", data := .fields #[vl, vu, vs] } }
    refine tail_any (ops := [.ref a, .ref s4.heap.objs.size]) ht.isList.typeIs (PySem.slot_list_getitem.lookup) ?_ (by with_unfolding_all rfl)
    refine wpAny_getItem_list_slice ht.isList (Heap.IsSliceOf.new _ vl vu vs) pl pu ps (by decide) ?_ (by rw [List.size_toArray]; omega)
    rw [PySem.W.krv_pick]
    refine ⟨.ref _, _, I5.laid (t' := s4.toks) (o := .lst xs.reverse) (fun b ob q => Heap.get?_push_of_some _ q) (Nat.le_refl _) ?_, rfl, q _ (I5.hok.fresh (Nat.le_refl _))⟩
    exact ⟨by rw [List.length_reverse]; exact hz, _, 0, r.reverse, Heap.get?_push_size _ rfl⟩
  · refine wpAny_Slice (thn (po_none.run pins s1 σ H1 (fun o H2 => o = none ∧ H2 = H1) I1 ⟨rfl, rfl⟩) fun vl s2 ⟨l, H2, I2, pl, el, e2⟩ => ?_)
    subst el e2
    refine thn (po_none.run pins s2 σ H2 (fun o H3 => o = none ∧ H3 = H2) I2 ⟨rfl, rfl⟩) fun vu s3 ⟨u, H3, I3, pu, eu, e3⟩ => ?_
    subst eu e3
    refine thn (hst.run pins s3 σ H3 (fun o H4 => o = some (-1) ∧ H4 = H3) I3 ⟨1, rfl, -1, rfl, rfl, rfl⟩) fun vs s4 ⟨o, H4, I4, ps, eo, e4⟩ => ?_
    subst eo e4
    have I5 : Inv X pins σ H4 { s4 with heap := s4.heap.push { cls := .type "slice", data := .fields #[vl, vu, vs] } } := I4.kept (t' := s4.toks) fun b ob q => Heap.get?_push_of_some _ q
    obtain ⟨its, r, ht, hz⟩ := I5.tuple hx
    have hlen := r.length
    cases pl
    cases pu
    show wpAny (model X.prog X.w) X.A (subscriptTail e (.Slice none none (some (.UnaryOp .USub (.Constant (.int 1) k p1) p2)) p3) (.ref a) (.ref s4.heap.objs.size)) (EP X pins σ Q) X.xe { s4 with heap := s4.heap.push { cls := .type "slice", data := .fields #[.none, .none, vs] } }
    refine tail_any (ops := [.ref a, .ref s4.heap.objs.size]) ht.typeIs (PyProof.Rows.slot_tuple_getitem.lookup) ?_ (by with_unfolding_all rfl)
    refine getItem_tuple_rev ht (Heap.IsSliceOf.new _ .none .none vs) ps ?_ (by rw [List.size_toArray]; omega)
    refine ⟨.ref _, _, I5.laid (t' := s4.toks) (o := .tup xs.reverse) (fun b ob q => Heap.get?_push_of_some _ q) (Nat.le_refl _) ?_, rfl, q _ (I5.hok.fresh (Nat.le_refl _))⟩
    exact ⟨by rw [List.length_reverse]; exact hz, _, r.reverse, IsTup.new _ _⟩
def mRevX (m : Env → Out AV) : Env → Out AV := fun ρ => obind (m ρ) fun av ρ1 => match vw av ρ1 with
  | some (.lst xs, ρ2) => some (.ok (.tmp (tr (.lst xs.reverse))), ρ2)
  | some (.tup xs, ρ2) => some (.ok (.tmp (tr (.tup xs.reverse))), ρ2)
  | _ => none
theorem ve_revX {X : Cx} {W : WX} {e : Expr} {te : TE} {m : Env → Out AV} {k : Nat} {p1 p2 p3 pos : Pos} (K : PySem.W.Frag) (he : VE X W e te m) (hK : K = X.K := by rfl) :
    VE X W (.Subscript e (.Slice none none (some (.UnaryOp .USub (.Constant (.int 1) k p1) p2)) p3) pos) (tRevX K te) (mRevX m) := by
  subst hK
  refine ⟨pe_revX he.pe, fun Z H σ ρ fp Q s h => ?_⟩
  refine he.sm Z H σ ρ fp _ s (h.bind.mono fun av ρ1 h1 => ?_)
  intro v Z1 H1 fp1 st1 s1 at1
  split at h1
  · rename_i xs ρ2 ev
    obtain ⟨Z2, g2, st2, dv, s2⟩ := vw_ok s1 at1 ev
    obtain ⟨a, vs, rfl, ha, r⟩ := dv.list s2.sub
    have q := KE.new (z := .lst xs.reverse) h1 (st1.trans st2) s2
    exact .inl ⟨a, vs, rfl, .inl ha, fun p hp => q.lst _ rfl p _ (DRs.rev r) hp⟩
  · rename_i xs ρ2 ev
    obtain ⟨Z2, g2, st2, dv, s2⟩ := vw_ok s1 at1 ev
    obtain ⟨a, vs, rfl, ha0, r⟩ := dv.tup
    have ha := same_seqT s2.sub ha0
    have q := KE.new (z := .tup xs.reverse) h1 (st1.trans st2) s2
    exact .inr ⟨a, vs, rfl, ha, fun p hp => q.tup _ rfl p _ (DRs.rev r) hp⟩
  · exact h1.elim
end Vl

/-! Vl22: enumerate of a tuple. -/
namespace Vl
open PySem PySem.Spec PyProof.Rows L2
theorem meets_enumT (l : Addr) (items : Array Value) (n : Nat) (dct : Option Addr) (sl : Array (Option Value)) :
    Meets (Builtin.«enumerate.__new__» ⟨[.type "enumerate", .ref l], []⟩) (fun _ R s => s.heap.get? l = some { cls := .type "tuple", dict := dct, data := .seq items n, slots := sl } ∧
      R (.ok (.ret (.ref (s.heap.push { cls := .type "tuple_iterator", data := .fields #[.ref l, .int 0 0] }).objs.size)))
        { s with heap := (s.heap.push { cls := .type "tuple_iterator", data := .fields #[.ref l, .int 0 0] }).push { cls := .type "enumerate", data := .fields #[.none, .bool false, .ref s.heap.objs.size, rawInt 0, .none, .none] } }) :=
  .of_wp fun prog w A R s h => by
    obtain ⟨hp, g, d, tk, os⟩ := s; obtain ⟨hl, h⟩ := h
    have hsub := sub_enumerate
    have hL : Heap.IsTuple (Shared.heap ⟨hp, g, d, tk, os⟩) l items := ⟨_, hl, rfl, n, rfl⟩
    wp_walk using AutoSeq1.wpAny_loadPart' hl
    refine wpAny_stack_any fun st => wpAny_pure ?_
    split
    · rename_i c _ _ _ _ _
      cases (c == Value.type "enumerate")
      · wp_walk using AutoSeq1.wpAny_loadPart' hl, wpAny_pyIter_tuple hL
        exact ⟨_, rfl, h⟩
      · wp_walk using AutoSeq1.wpAny_loadPart' hl, wpAny_pyIter_tuple hL
        exact ⟨_, rfl, h⟩
    · wp_walk using AutoSeq1.wpAny_loadPart' hl, wpAny_pyIter_tuple hL
      exact ⟨_, rfl, h⟩
section
variable {prog : Program} {w : World} {A : Around} {E : Value → Shared → Prop} {s : Shared}
theorem call_enumT {l : Addr} {items : Array Value} {Q : Value → Shared → Prop} (hL : s.heap.IsTuple l items)
    (h : ∀ h', IsEnum h' (s.heap.objs.size + 1) s.heap.objs.size 0 .none → h'.IsTupleIter s.heap.objs.size l 0 → h'.objs.size = s.heap.objs.size + 2 →
      (∀ b o, s.heap.get? b = some o → h'.get? b = some o) → Q (.ref (s.heap.objs.size + 1)) { s with heap := h' }) :
    wpAny (model prog w) A (call (.type "enumerate") [.ref l]) Q E s := by
  obtain ⟨⟨c, dct, dt, sl⟩, hl, hc, n, hd⟩ := hL
  replace hc : c = .type "tuple" := hc
  replace hd : dt = .seq items n := hd
  subst hc hd
  refine callType_new F.called_enumerate (by decide) (F.typeCall_enumerate_1 _) (F.newCall_enumerate_1 _) (fun obj => F.args_object_init_2 obj _) F.entry_enumerate_new
    (meets_enumT l items n dct sl) ⟨hl, ?_⟩
  have hz : (s.heap.push { cls := .type "tuple_iterator", data := .fields #[.ref l, .int 0 0] }).objs.size = s.heap.objs.size + 1 := Heap.size_push ..
  show _ ∧ _
  rw [hz]
  have he : IsEnum ((s.heap.push { cls := .type "tuple_iterator", data := .fields #[.ref l, .int 0 0] }).push
      { cls := .type "enumerate", data := .fields #[.none, .bool false, .ref s.heap.objs.size, rawInt 0, .none, .none] }) (s.heap.objs.size + 1) s.heap.objs.size 0 .none := by
    have := Heap.get?_push_size (s.heap.push { cls := .type "tuple_iterator", data := .fields #[.ref l, .int 0 0] })
      (o := { cls := .type "enumerate", data := .fields #[.none, .bool false, .ref s.heap.objs.size, rawInt 0, .none, .none] }) rfl
    rw [hz] at this; exact this
  refine ⟨⟨_, he, rfl⟩, h _ he ⟨_, Heap.get?_push_of_some _ (Heap.get?_push_size _ rfl), rfl, rfl⟩ (by rw [Heap.size_push, hz]) fun b o x => Heap.get?_push_of_some _ (Heap.get?_push_of_some _ x)⟩
end
/-- the tuple at a as it stands at each turn, each item in a new pair -/
def ItX (K : PySem.W.Frag) (a : Addr) : It :=
  ⟨fun i H => ∃ (xs : List V) (x : V), SqT K H a xs ∧ xs[i]? = some x, fun i H v H' => ∃ T x, v = .ref T ∧ H T = none ∧ H' = upd H T (.tup [.int (i : Nat), x]) ∧ ∀ xs, SqT K H a xs → xs[i]? = some x, fun i H => ∃ xs : List V, SqT K H a xs ∧ xs.length ≤ i⟩
theorem turn_enumX {P : Program} {w : World} {K : PySem.W.Frag} {elts : List Expr} {kk : Nat} {tpos : Pos} (a e it : Addr) :
    Turn P w K (.Tuple elts kk tpos) (ItX K a) [e, it] e (fun i h => (∃ old, IsEnum h e it ((i : Nat) : Int) old) ∧ h.IsTupleIter it a i ∧ e ≠ it) where
  mem := by simp
  obj := fun i h st b hb => by
    obtain ⟨⟨old, he⟩, ⟨o, ho, hc, hd⟩, _⟩ := st
    have e' : b = e ∨ b = it := by simpa using hb
    rcases e' with z | z
    · rw [z]; exact ⟨_, he, fun v q => nomatch q⟩
    · rw [z]; exact ⟨o, ho, fun v q => by rw [hd] at q; cases q⟩
  keep := fun i h h' st k => let ⟨⟨old, he⟩, hi, hne⟩ := st; ⟨⟨old, k e (by simp) _ he⟩, hi.at fun o q => k it (by simp) o q, hne⟩
  item := by
    intro X hP hw hK hc i pins s σ H E I hf st hg
    subst hP hw hK
    obtain ⟨⟨old, he⟩, hit, hne⟩ := st
    obtain ⟨xs, x, hq, hx⟩ := hg
    obtain ⟨its, rv, p, hz⟩ := I.tuple hq
    obtain ⟨u, hu, ru⟩ := rv.get hx
    have hel : e < s.heap.objs.size := Heap.lt_size he
    have hil : it < s.heap.objs.size := by obtain ⟨_, q, _⟩ := hit; exact Heap.lt_size q
    have hta : a ≠ it := by
      obtain ⟨o1, e1, c1, _⟩ := p
      obtain ⟨o2, e2, c2, _⟩ := hit
      intro z
      rw [z, e2] at e1
      cases e1
      rw [c2] at c1
      exact absurd (Value.type.inj c1) (by decide)
    have hea : e ≠ a := by
      obtain ⟨o1, e1, c1, _⟩ := p
      intro z
      rw [← z] at e1
      have e2 : s.heap.get? e = _ := he
      rw [e2] at e1
      cases e1
      exact absurd (Value.type.inj c1) (by decide)
    have hlt : i < its.length := by
      have := rv.length
      have h2 := (List.getElem?_eq_some_iff.mp hx).1
      omega
    refine wpAny_pyNext_enum_itemD (Draws.tuple (A := X.A.in1) (I.ok.hd hc) it a hta its.toArray) he ⟨hit, p⟩ (by simpa using hlt) hne (by simp [hne, hea]) fun y h' tk hy ho hit' hT hsz hk => ?_
    obtain rfl : y = u := by
      have e1 : its[i]? = some y := by simpa using hy
      rw [hu] at e1
      exact (Option.some.inj e1).symm
    refine ⟨_, rfl, wpAny_letOwnedTupleGo_enum (s := { s with heap := h', toks := tk + 1 }) ho fun h'' he' sb => ?_⟩
    have hT2 : h''.get? s.heap.objs.size = some { cls := .type "tuple", data := .seq #[.int i tk, y] } := (sb.2 _ (Nat.ne_of_gt hel)).trans hT
    have new : ObjOk X.prog X.w (upd H s.heap.objs.size (.tup [.int (i : Nat), x])) h'' s.heap.objs.size (.tup [.int (i : Nat), x]) :=
      ⟨by show 2 ≤ sizeLine; decide, [.int i tk, y], .cons ⟨_, rfl⟩ (.cons ru .nil), ⟨_, hT2, rfl, _, rfl⟩⟩
    have I1 : Inv X pins σ (upd H s.heap.objs.size (.tup [.int (i : Nat), x])) { s with heap := h'', toks := tk + 1 } :=
      I.turnedNew (ch := [e, it]) (fun b ob hb q => (sb.2 b (fun z => hb (by simp [z]))).trans (hk b ob (fun z => hb (by simp [z])) (fun z => hb (by simp [z])) q)) hf (Nat.le_refl _) new
    refine ⟨.ref s.heap.objs.size, _, I1, rfl, ⟨_, x, rfl, I.hok.fresh (Nat.le_refl _), rfl, fun ys hy => by rw [I.tuple_inj hy hq]; exact hx⟩, ⟨⟨y, ?_⟩, hit'.1.at fun o q => (sb.2 it (Ne.symm hne)).trans q, hne⟩, fun b hb => ?_⟩
    · have e1 : ((i + 1 : Nat) : Int) = (i : Int) + 1 := by omega
      rw [e1]; exact he'
    · have hb' : b < s.heap.objs.size := by
        have e' : b = e ∨ b = it := by simpa using hb
        rcases e' with z | z
        · rw [z]; exact hel
        · rw [z]; exact hil
      rw [upd_ne (Nat.ne_of_lt hb')]
      exact (hf b hb).1
  done := by
    intro X hP hw hK hc i pins s σ H E I hf st hg
    subst hP hw hK
    obtain ⟨⟨old, he⟩, hit, hne⟩ := st
    obtain ⟨xs, hq, hx⟩ := hg
    obtain ⟨its, rv, p, hz⟩ := I.tuple hq
    obtain ⟨f0, f1, f2, f3, f4, f5⟩ := hf it (by simp)
    have hl := rv.length
    have hT : s.TypeIs (.ref e) "enumerate" := ⟨_, he, rfl⟩
    unfold pyNext
    refine wpAny_bind (wpAny_attempt (wpAny_callSpecial?_slot (name := Str.ofString "__next__") hT F.slot_enumerate_next
      (wpAny_call_entry F.slot_enumerate_next hT F.entry_enumerate_next ?_ (F.args_enumerate_next_1 _))))
    show wpAny _ _ (field (.ref e) 2 >>= _) _ _ _
    refine wpAny_bind (wpAny_field he rfl (x := .ref it) rfl ?_)
    refine wpAny_bind (wpAny_nextOf_tuple_end (I.ok.hd hc) hit p (by simp; omega) fun h' x he' hx' => ?_)
    obtain ⟨o, ho, hc'⟩ := hx'
    refine wpAny_bind (wpAny_isInstance (T := "StopIteration") (b := true) ⟨o, ho, hc'⟩ isSubtype_stop ?_)
    exact wpAny_pure ⟨rfl, I.turned (t' := s.toks) (fun b o hb q => he' b o hb q) f0 f1 f3 f4 f5⟩
  self := fun A i s Q E st h => let ⟨⟨_, he⟩, _⟩ := st; wpAny_pyIter_enum he h
def iEnumX (K : PySem.W.Frag) (ta : TA) : TI := fun σ H R => ta σ H fun vs H1 => (∃ a xs, vs = [.ref a] ∧ SqL K H1 a xs ∧ R (Ite K a) H1) ∨ (∃ a xs, vs = [.ref a] ∧ SqT K H1 a xs ∧ R (ItX K a) H1)
theorem pi_enumX {X : Cx} {e : Expr} {ta : TA} {p pos tpos : Pos} {elts : List Expr} {kk : Nat} (hg : Gl X "enumerate") (hm : X.mg "enumerate" = none) (ha : PA X [e] ta) (hs : starEach [e] X.env = [(false, eval e X.env)] := by rfl) :
    PI X (.Tuple elts kk tpos) (.Call (.Name "enumerate" p) [e] [] pos) (iEnumX X.K ta) := by
  refine ⟨fun pins s σ H R I h => ?_⟩
  refine Call_ (ld_blt I hg hm boot_enumerate (PyProof.Rows.callWith_type1 (thn (ha.run pos pins s σ H _ I h) fun us s1 ⟨vs, H1, I1, r1, q1⟩ => ?_) hs rfl))
  rcases q1 with ⟨a, xs, ex, hq, q⟩ | ⟨a, xs, ex, hq, q⟩
  · subst ex
    cases r1 with
    | cons r rr =>
      cases rr
      cases r
      obtain ⟨its, rv, p', hz⟩ := I1.list hq
      refine call_enumerate_list p'.isList fun h' he hit hsz hk => wpAny_pyIter_enum he ?_
      have I2 : Inv X pins σ H1 { s1 with heap := h' } := I1.kept (t' := s1.toks) hk
      refine ⟨s1.heap.objs.size + 1, [s1.heap.objs.size + 1, s1.heap.objs.size], _, _, H1, rfl, I2, turn_enum a (s1.heap.objs.size + 1) s1.heap.objs.size, ⟨⟨.none, he⟩, hit, Nat.succ_ne_self _⟩, fun b hb => ?_, q⟩
      have e' : b = s1.heap.objs.size + 1 ∨ b = s1.heap.objs.size := by simpa using hb
      have hle : s1.heap.objs.size ≤ b := by
        rcases e' with z | z
        · rw [z]; exact Nat.le_add_right _ _
        · rw [z]; exact Nat.le_refl _
      exact I1.fpOk hle (I1.hok.fresh hle)
  · subst ex
    cases r1 with
    | cons r rr =>
      cases rr
      cases r
      obtain ⟨its, rv, p', hz⟩ := I1.tuple hq
      refine call_enumT p' fun h' he hit hsz hk => wpAny_pyIter_enum he ?_
      have I2 : Inv X pins σ H1 { s1 with heap := h' } := I1.kept (t' := s1.toks) hk
      refine ⟨s1.heap.objs.size + 1, [s1.heap.objs.size + 1, s1.heap.objs.size], _, _, H1, rfl, I2, turn_enumX a (s1.heap.objs.size + 1) s1.heap.objs.size, ⟨⟨.none, he⟩, hit, Nat.succ_ne_self _⟩, fun b hb => ?_, q⟩
      have e' : b = s1.heap.objs.size + 1 ∨ b = s1.heap.objs.size := by simpa using hb
      have hle : s1.heap.objs.size ≤ b := by
        rcases e' with z | z
        · rw [z]; exact Nat.le_add_right _ _
        · rw [z]; exact Nat.le_refl _
      exact I1.fpOk hle (I1.hok.fresh hle)
theorem walk_enumX {K : PySem.W.Frag} {a : Addr} {xs : List V} : Walk (ItX K a) xs.length (fun H => SqT K H a xs) (YPair (fun i => some (.int (i : Nat))) (fun i => xs[i]?)) := by
  refine ⟨fun i _ hi q => ⟨xs, xs[i], q, by simp [hi]⟩, fun _ q => ⟨xs, q, Nat.le_refl _⟩, fun i H v H' _ q y => ?_⟩
  obtain ⟨T, x, h1, h2, h3, h4⟩ := y
  exact ⟨T, .int (i : Nat), x, h1, h2, h3, rfl, h4 xs q⟩
theorem it_enumX {G : Gx} {Z : Hp} {a : Addr} {vs : List V} {ds : List D} (hq : SqT G.1 Z a vs) (r : DRs G Z vs ds) : ItOk G Z (ItX G.1 a) (enD ds) := by
  have w := walk_enumX (K := G.1) (a := a) (xs := vs)
  have hl : (enD ds).length = vs.length := by simp [enD, r.length]
  have hs : ∀ H, Same Z H → SqT G.1 H a vs := fun H s => same_seqT s hq
  refine ⟨fun i H hi s => w.goes i H (by rw [← hl]; exact hi) (hs H s), fun H s => by rw [hl]; exact w.stops H (hs H s), fun i H x H' hi s y => ?_⟩
  rw [hl] at hi
  obtain ⟨T, x1, x2, rfl, h1, h2, h3, h4⟩ := w.yields i H x H' hi (hs H s) y
  obtain ⟨d, e3, dr⟩ := r.get h4
  have hi2 : i < ds.length := by rw [← r.length]; exact hi
  cases h3
  refine ⟨.tup [.int (i : Int), d], ?_, .inr ⟨T, _, x2, .int (i : Int), d, rfl, h1, h2, rfl, .int _, dr⟩⟩
  unfold enD
  rw [List.getElem?_zipWith, List.getElem?_range hi2, e3]
def mEnumX (ma : Env → Out (List AV)) : Env → Out (List D) := fun ρ => obind (ma ρ) fun avs ρ1 => match nrm avs ρ1 with
  | some (ts, ρ2) => match T.erL ts with
    | [.lst ds] => some (.ok (enD ds), ρ2)
    | [.tup ds] => some (.ok (enD ds), ρ2)
    | _ => none
  | none => none
theorem vi_enumX {X : Cx} {W : WX} {e : Expr} {ta : TA} {ma : Env → Out (List AV)} {p pos tpos : Pos} {elts : List Expr} {kk : Nat} (K : PySem.W.Frag) (hg : Gl X "enumerate") (hm : X.mg "enumerate" = none) (ha : VA X W [e] ta ma) (hK : K = X.K := by rfl) (hs : starEach [e] X.env = [(false, eval e X.env)] := by rfl) :
    VI X W (.Tuple elts kk tpos) (.Call (.Name "enumerate" p) [e] [] pos) (iEnumX K ta) (mEnumX ma) := by
  subst hK
  exact ⟨pi_enumX hg hm ha.pa hs, fun Z H σ ρ fp R s h => by
    refine ha.sm Z H σ ρ fp _ s (h.bind.mono fun avs ρ1 h1 => ?_)
    intro vs Z1 H1 fp1 st1 s1 at1
    split at h1
    · rename_i ts ρ2 en
      split at h1
      · rename_i ds ed
        obtain ⟨hl, Z2, g2, st2, s2⟩ := nrm_ok s1 at1 en
        obtain ⟨Z3, g3, st3, drs, s3⟩ := SOk.frzAll (by rw [avAt_len at1, hl]) s2
        rw [ed] at drs
        cases drs with
        | cons d dr =>
          cases dr
          cases d with
          | lst ha r => exact .inl ⟨_, _, rfl, .inl (same_rd s3.sub ha), h1 _ Z3 H1 g3 (st1.trans (st2.trans st3)) s3 (it_enum ha r)⟩
      · rename_i ds ed
        obtain ⟨hl, Z2, g2, st2, s2⟩ := nrm_ok s1 at1 en
        obtain ⟨Z3, g3, st3, drs, s3⟩ := SOk.frzAll (by rw [avAt_len at1, hl]) s2
        rw [ed] at drs
        cases drs with
        | cons d dr =>
          cases dr
          cases d with
          | tup ha r => exact .inr ⟨_, _, rfl, same_seqT s3.sub ha, h1 _ Z3 H1 g3 (st1.trans (st2.trans st3)) s3 (it_enumX ha r)⟩
      · exact h1.elim
    · exact h1.elim⟩
end Vl

/-! Vl23: sorted of pairs of ints. -/
namespace Vl
open PySem PySem.Spec PyProof.Rows L2
def pairD (p : Int × Int) : D := .tup [.int p.1, .int p.2]
def pairOf : D → Option (Int × Int)
  | .tup [.int a, .int b] => some (a, b)
  | _ => none
theorem pairOf_eq {d : D} {p : Int × Int} (h : pairOf d = some p) : d = pairD p := by
  unfold pairOf at h
  split at h
  · cases h; rfl
  · cases h
def pairsOf : List D → Option (List (Int × Int))
  | [] => some []
  | d :: ds => (pairOf d).bind fun p => (pairsOf ds).map (p :: ·)
theorem pairsOf_eq : ∀ {ds : List D} {ps : List (Int × Int)}, pairsOf ds = some ps → ds = ps.map pairD
  | [], ps, h => by cases h; rfl
  | d :: ds, ps, h => by
    rw [pairsOf] at h
    obtain ⟨p, e1, h⟩ := Option.bind_eq_some_iff.mp h
    obtain ⟨qs, e, rfl⟩ := Option.map_eq_some_iff.mp h
    rw [pairsOf_eq e, pairOf_eq e1]; rfl
theorem pairsOf_map : ∀ ps : List (Int × Int), pairsOf (ps.map pairD) = some ps
  | [] => rfl
  | p :: ps => by
    show (pairsOf (ps.map pairD)).map (p :: ·) = _
    rw [pairsOf_map ps]; rfl
def leP (p q : Int × Int) : Bool := !SrtO.lexB q p
theorem leP_iff {p q : Int × Int} : leP p q = true ↔ p.1 < q.1 ∨ (p.1 = q.1 ∧ p.2 ≤ q.2) := by
  unfold leP
  rw [Bool.not_eq_true', SrtO.lexB_no]
  omega
theorem leP_trans (a b c : Int × Int) (h1 : leP a b = true) (h2 : leP b c = true) : leP a c = true := by
  rw [leP_iff] at *; omega
theorem leP_tot (a b : Int × Int) : leP a b = true ∨ leP b a = true := by
  rw [leP_iff, leP_iff]; omega
theorem leP_anti (a b : Int × Int) (h1 : leP a b = true) (h2 : leP b a = true) : a = b := by
  rw [leP_iff] at *
  exact Prod.ext (by omega) (by omega)
theorem isortP {ps qs : List (Int × Int)} (p : qs.Perm ps) (s : qs.Pairwise (fun a b => leP a b = true)) : qs = isort leP ps :=
  List.Perm.eq_of_pairwise (le := fun a b => leP a b = true) (fun a b _ _ h1 h2 => leP_anti a b h1 h2) s (isort_sorted leP leP_trans leP_tot ps) (p.trans (isort_perm leP ps).symm)
def rSortedPT (K : PySem.W.Frag) : List V → Hp → VK → Prop := fun vs H Q => ∃ (a : Addr) (xs : List V) (R : V → Int × Int → Prop) (ps : List (Int × Int)), vs = [V.ref a] ∧ SqL K H a xs ∧ (∀ x p, R x p → ∃ t, x = V.ref t ∧ SqT K H t [.int p.1, .int p.2]) ∧ Paired R xs ps ∧
  ∀ ys p, Paired R ys (isort leP ps) → H p = none → Q (.ref p) (upd H p (.lst ys))
section
variable {X : Cx}
theorem cr_sortedPT : CallR X (.builtin "sorted") (rSortedPT X.K) := by
  intro pins s σ H vs us Q I r h
  obtain ⟨a, xs, R, ps, rfl, hs, hR, hp, q⟩ := h
  have uq : ∀ x p p', R x p → R x p' → p = p' := fun x p p' h1 h2 => by
    obtain ⟨t, e1, s1⟩ := hR x p h1
    obtain ⟨t', e2, s2⟩ := hR x p' h2
    rw [e1] at e2; cases e2
    have e := I.tuple_inj s1 s2
    simp only [List.cons.injEq, V.int.injEq, and_true] at e
    exact Prod.ext e.1 e.2
  let k : V → Int × Int := fun x => (Classical.epsilon fun p => R x p)
  have hk : ∀ x p, R x p → R x (k x) ∧ k x = p := fun x p h => by
    have e : R x (Classical.epsilon fun p => R x p) := Classical.epsilon_spec (p := fun p => R x p) ⟨p, h⟩
    exact ⟨e, uq x _ _ e h⟩
  have hx : ∀ x ∈ xs, R x (k x) := by
    clear hs q
    induction hp with
    | nil => intro x hx; cases hx
    | cons h _ ih =>
      intro x hx
      rcases List.mem_cons.mp hx with rfl | hx
      · exact (hk _ _ h).1
      · exact ih x hx
  have hps : xs.map k = ps := by
    clear hs q hx
    induction hp with
    | nil => rfl
    | cons h _ ih => rw [List.map_cons, ih, (hk _ _ h).2]
  obtain ⟨its, rv, hl, hz⟩ := I.list hs
  obtain ⟨u, rfl, ru⟩ := vals1 r
  obtain rfl : u = Value.ref a := ru
  obtain ⟨e1, e2⟩ := refs_back rv fun x m => by
    obtain ⟨t, e, _⟩ := hR x _ (hx x m)
    exact ⟨t, e⟩
  refine SrtO.sorted_pairsO (k := fun u => k (backV u)) hl.isList (by rw [← rv.length]; exact hz) (fun v hv => ?_) fun h' d out h1 h2 kp hd hn => ?_
  · obtain ⟨t, rfl⟩ := e2 v hv
    have hm : V.ref t ∈ xs := by rw [e1]; exact List.mem_map.mpr ⟨_, hv, rfl⟩
    obtain ⟨t', e, ht⟩ := hR _ _ (hx _ hm)
    cases e
    obtain ⟨its2, r2, ⟨o, ho, hc, n, hd⟩, _⟩ := I.tuple ht
    obtain ⟨u1, u2, rfl, ri, rj⟩ := vals2 r2
    obtain ⟨t1, rfl⟩ := ri
    obtain ⟨t2, rfl⟩ := rj
    exact ⟨t, o, t1, t2, n, rfl, ho, hc, hd⟩
  · have h3 : ∀ u ∈ out, ∃ a, u = Value.ref a := fun u hu => e2 u (h2.perm.mem_iff.mp hu)
    obtain ⟨n, hn⟩ := hn
    have hb : SrtO.Stb (ltP k) (out.map backV) xs := by
      rw [e1]
      exact SrtO.Stb.map (ltP_swo k) backV h2
    have hsr : SrtO.Srtd (ltP k) (out.map backV) := SrtO.srtd_map h1
    have hsort : (out.map backV).map k = isort leP ps := by
      refine isortP ?_ ?_
      · rw [← hps]; exact hb.perm.map k
      · rw [List.pairwise_map]
        refine List.Pairwise.imp (fun {a b} h => ?_) hsr
        unfold leP
        rw [Bool.not_eq_true']
        exact h
    have hpair : Paired R (out.map backV) (isort leP ps) := by
      rw [← hsort]
      have : ∀ l : List V, (∀ x ∈ l, x ∈ xs) → Paired R l (l.map k) := by
        intro l
        induction l with
        | nil => intro _; exact .nil
        | cons x l ih => intro h; exact .cons (hx x (h x List.mem_cons_self)) (ih fun y hy => h y (List.mem_cons_of_mem _ hy))
      exact this _ fun x hx => hb.perm.mem_iff.mp hx
    refine ⟨.ref d, upd H d (.lst (out.map backV)), I.laid (t' := s.toks) kp hd ⟨?_, out, n, vals_back h3, hn⟩, rfl, q _ d hpair (I.hok.fresh hd)⟩
    rw [hb.len]
    exact hz
end
def gSrtP : List D → Option D
  | [.lst ds] => (pairsOf ds).map fun ps => .lst ((isort leP ps).map pairD)
  | _ => none
theorem paired_DRs {G : Gx} {Z : Hp} : ∀ {vs : List V} {ps : List (Int × Int)}, DRs G Z vs (ps.map pairD) → Paired (fun x p => DR G Z x (pairD p)) vs ps
  | [], [], _ => .nil
  | v :: vs, p :: ps, h => by
    cases h with
    | cons h r => exact .cons h (paired_DRs r)
  | [], _ :: _, h => by cases h
  | _ :: _, [], h => by cases h
theorem DRs_paired {G : Gx} {Z : Hp} : ∀ {vs : List V} {ps : List (Int × Int)}, Paired (fun x p => DR G Z x (pairD p)) vs ps → DRs G Z vs (ps.map pairD)
  | _, _, .nil => .nil
  | _, _, .cons h r => .cons h (DRs_paired r)
def gSrtX (xs : List D) : Option D := match gSrt xs with
  | some d => some d
  | none => gSrtP xs
def rSrtX (K : PySem.W.Frag) : List V → Hp → VK → Prop := fun vs H Q => rSrt K vs H Q ∨ rSortedPT K vs H Q
theorem sc_sortedX {X : Cx} (K : PySem.W.Frag) (hK : K = X.K := by rfl) : SC X (.builtin "sorted") (rSrtX K) gSrtX := by
  have FS := sc_sorted (X := X) K hK
  subst hK
  refine ⟨fun pins s σ H xs us Q I r h => h.elim (FS.op pins s σ H xs us Q I r) (cr_sortedPT pins s σ H xs us Q I r), fun Z H vs ds z Q sz dr hg q => ?_⟩
  unfold gSrtX at hg
  split at hg
  · rename_i d hd
    cases hg
    exact .inl (FS.sm Z H vs ds _ Q sz dr hd q)
  · unfold gSrtP at hg
    split at hg
    · rename_i ds'
      obtain ⟨ps, e1, rfl⟩ := Option.map_eq_some_iff.mp hg
      cases dr with
      | cons h r =>
        cases r
        cases h with
        | lst ha r =>
          rw [pairsOf_eq e1] at r
          refine .inr ⟨_, _, fun x p => DR (gx X) Z x (pairD p), ps, rfl, .inl (same_rd sz ha), fun x p hx => ?_, paired_DRs r, fun ys p hp hn => q.lst _ rfl p _ (DRs_paired hp) hn⟩
          cases hx with
          | tup h r =>
            cases r with
            | cons h1 r =>
              cases r with
              | cons h2 r =>
                cases r
                cases h1
                cases h2
                exact ⟨_, rfl, same_seqT sz h⟩
    · cases hg
theorem gSrtX_strs {zs : List Str} (h : zs.length < 64) : gSrtX [.lst (zs.map D.str)] = some (.lst ((isort leS zs).map D.str)) := by
  have e : strsOf (zs.map D.str) = some zs := by
    clear h
    induction zs with
    | nil => rfl
    | cons z zs ih => show (strsOf (zs.map D.str)).map (z :: ·) = _; rw [ih]; rfl
  unfold gSrtX gSrt gSrtS
  simp only [e, h, if_true]
theorem gSrtX_pairs {ps : List (Int × Int)} (h : ps ≠ []) : gSrtX [.lst (ps.map pairD)] = some (.lst ((isort leP ps).map pairD)) := by
  cases ps with
  | nil => exact absurd rfl h
  | cons p ps =>
    have e1 : gSrtS [.lst ((p :: ps).map pairD)] = none := rfl
    have e2 : gSrtI [.lst ((p :: ps).map pairD)] = none := rfl
    unfold gSrtX gSrt
    rw [e1, e2]
    show gSrtP _ = _
    unfold gSrtP
    dsimp only
    rw [pairsOf_map]; rfl
end Vl

/-! Vl24: slices of lists with a written step. -/
namespace Vl
open PySem PySem.Spec PyProof.Rows L2
def pickG {α : Type} (xs : List α) (lo hi : Option Int) (st : Int) : List α :=
  (sliceRange (sliceBounds lo hi (some st) xs.length).1 (sliceBounds lo hi (some st) xs.length).2.1 (sliceBounds lo hi (some st) xs.length).2.2).filterMap (xs[·]?)
theorem vals_idx {xs : List V} {us : List Value} (r : Vals xs us) : ∀ l : List Nat, Vals (l.filterMap (xs[·]?)) (l.filterMap (us[·]?))
  | [] => .nil
  | i :: l => by
    have ih := vals_idx r l
    have hl := r.length
    cases e : xs[i]? with
    | none =>
      have e2 : us[i]? = none := by
        rw [List.getElem?_eq_none_iff] at e ⊢
        omega
      rw [List.filterMap_cons_none e, List.filterMap_cons_none e2]
      exact ih
    | some x =>
      obtain ⟨u, hu, ru⟩ := r.get e
      rw [List.filterMap_cons_some e, List.filterMap_cons_some hu]
      exact .cons ru ih
theorem drs_idx {G : Gx} {Z : Hp} {xs : List V} {ds : List D} (r : DRs G Z xs ds) : ∀ l : List Nat, DRs G Z (l.filterMap (xs[·]?)) (l.filterMap (ds[·]?))
  | [] => .nil
  | i :: l => by
    have ih := drs_idx r l
    have hl := r.length
    cases e : xs[i]? with
    | none =>
      have e2 : ds[i]? = none := by
        rw [List.getElem?_eq_none_iff] at e ⊢
        omega
      rw [List.filterMap_cons_none e, List.filterMap_cons_none e2]
      exact ih
    | some x =>
      obtain ⟨d, hd, rd⟩ := r.get e
      rw [List.filterMap_cons_some e, List.filterMap_cons_some hd]
      exact .cons rd ih
theorem pick_eq {xs : List V} {its : List Value} (r : Vals xs its) (lo hi : Option Int) (st : Int) : Vals (pickG xs lo hi st) (slicePick its.toArray lo hi (some st)).toList := by
  have hl := r.length
  have q := vals_idx r (sliceRange (sliceBounds lo hi (some st) xs.length).1 (sliceBounds lo hi (some st) xs.length).2.1 (sliceBounds lo hi (some st) xs.length).2.2)
  unfold pickG slicePick
  simp only [List.size_toArray, ← hl]
  simpa using q
def tStp (K : PySem.W.Frag) (te : TE) (tl th : TO) (st : Int) : TE := fun σ H Q => te σ H fun x H1 => tl σ H1 fun l H2 => th σ H2 fun u H3 => ∃ a xs, x = .ref a ∧ SqL K H3 a xs ∧ ∀ p, H3 p = none → Q (.ref p) (upd H3 p (.lst (pickG xs l u st)))
theorem pe_stp {X : Cx} {e : Expr} {te : TE} {lo hi : Option Expr} {tl th : TO} {i : Int} {k : Nat} {p1 p2 pos : Pos} (he : PE X e te) (hl : PO X lo tl) (hh : PO X hi th) (hi0 : i ≠ 0)
    (hsub : ∀ r v, subscripted (.Slice lo hi (some (.Constant (.int i) k p1)) p2) false r v = operate [r, v] (getItem r v) := by intro _ _; with_unfolding_all rfl) :
    PE X (.Subscript e (.Slice lo hi (some (.Constant (.int i) k p1)) p2) pos) (tStp X.K te tl th i) := by
  refine ⟨fun pins s σ H Q I h => ?_⟩
  refine Subscript_ (thn (he.run pins s σ H _ I h) fun v s1 ⟨x, H1, I1, r1, q1⟩ => ?_)
  have hst : PO X (some (.Constant (.int i) k p1)) (tPart (tC (.int i))) := po_some pe_int
  refine wpAny_Slice (thn (hl.run pins s1 σ H1 _ I1 q1) fun vl s2 ⟨l, H2, I2, pl, q2⟩ => ?_)
  refine thn (hh.run pins s2 σ H2 _ I2 q2) fun vu s3 ⟨u, H3, I3, pu, q3⟩ => ?_
  refine thn (hst.run pins s3 σ H3 (fun o H4 => o = some i ∧ H4 = H3) I3 ⟨i, rfl, rfl, rfl⟩) fun vs s4 ⟨o, H4, I4, ps, eo, e4⟩ => ?_
  subst eo e4
  obtain ⟨a, xs, ex, hx, q⟩ := q3
  subst ex
  cases r1
  have I5 : Inv X pins σ H4 { s4 with heap := s4.heap.push { cls := .type "slice", data := .fields #[vl, vu, vs] } } := I4.kept (t' := s4.toks) fun b ob q => Heap.get?_push_of_some _ q
  obtain ⟨its, r, ht, hz⟩ := I5.list hx
  have hlen := r.length
  show wpAny (model X.prog X.w) X.A (subscriptTail e (.Slice lo hi (some (.Constant (.int i) k p1)) p2) (.ref a) (.ref s4.heap.objs.size)) (EP X pins σ Q) X.xe { s4 with heap := s4.heap.push { cls := .type "slice", data := .fields #[vl, vu, vs] } }
  refine tail_any (ops := [.ref a, .ref s4.heap.objs.size]) ht.isList.typeIs (PySem.slot_list_getitem.lookup) ?_ (hsub _ _)
  refine wpAny_getItem_list_slice ht.isList (Heap.IsSliceOf.new _ vl vu vs) pl pu ps (by simp [hi0]) ?_ (by rw [List.size_toArray]; omega)
  have hp := pick_eq r l u i
  refine ⟨.ref _, _, I5.laid (t' := s4.toks) (o := .lst (pickG xs l u i)) (fun b ob q => Heap.get?_push_of_some _ q) (Nat.le_refl _) ?_, rfl, q _ (I5.hok.fresh (Nat.le_refl _))⟩
  refine ⟨?_, _, 0, hp, ?_⟩
  · have h1 := hp.length
    have h2 := slicePick_size_le its.toArray l u (some i)
    have h3 : (slicePick its.toArray l u (some i)).toList.length = (slicePick its.toArray l u (some i)).size := Array.length_toList
    have h4 : its.toArray.size = its.length := List.size_toArray
    have h5 : (pickG xs l u i).length = (slicePick its.toArray l u (some i)).toList.length := h1
    show (pickG xs l u i).length ≤ sizeLine
    omega
  · exact Heap.get?_push_size _ rfl
def mStp (st : Int) (ma : Env → Out AV) (ml mh : Env → Out (Option Int)) : Env → Out AV := fun ρ => obind (ma ρ) fun av ρ1 => obind (ml ρ1) fun lo ρ2 => obind (mh ρ2) fun hi ρ3 => match vw av ρ3 with
  | some (.lst xs, ρ4) => some (.ok (.tmp (tr (.lst (pickG xs lo hi st)))), ρ4)
  | _ => none
theorem ve_stp {X : Cx} {W : WX} {a : Expr} {lo hi : Option Expr} {ta : TE} {tl th : TO} {ma : Env → Out AV} {ml mh : Env → Out (Option Int)} {i : Int} {k : Nat} {p1 p2 pos : Pos} (K : PySem.W.Frag) (ha : VE X W a ta ma) (hl : VO X W lo tl ml) (hh : VO X W hi th mh) (hi0 : i ≠ 0) (hK : K = X.K := by rfl)
    (hsub : ∀ r v, subscripted (.Slice lo hi (some (.Constant (.int i) k p1)) p2) false r v = operate [r, v] (getItem r v) := by intro _ _; with_unfolding_all rfl) :
    VE X W (.Subscript a (.Slice lo hi (some (.Constant (.int i) k p1)) p2) pos) (tStp K ta tl th i) (mStp i ma ml mh) := by
  subst hK
  refine ⟨pe_stp ha.pe hl.po hh.po hi0 hsub, fun Z H σ ρ fp Q s h => ?_⟩
  refine ha.sm Z H σ ρ fp _ s (h.bind.mono fun av ρ1 h1 => ?_)
  intro v Z1 H1 fp1 st1 s1 at1
  obtain ⟨f, g, rfl, s0, fr⟩ := s1.split
  refine hl.sm Z1 H1 σ ρ1 g _ s0 ((h1.bind.step (st1.less fun x hx => List.mem_append_right _ hx)) fun lo ρ2 h2 => ?_)
  intro Z2 H2 g2 st2 s2
  have st12 : Stp Z H fp Z2 H2 g2 := (st1.less fun x hx => List.mem_append_right _ hx).trans st2
  refine hh.sm Z2 H2 σ ρ2 g2 _ s2 ((h2.bind.step st12) fun hi ρ3 h3 => ?_)
  intro Z3 H3 g3 st3 s3
  obtain ⟨q1, q2⟩ := fr Z3 H3 σ ρ3 g3 (st2.trans st3) s3
  split at h3
  · rename_i xs ρ4 ev
    obtain ⟨Z4, g4, st4, dv, s4⟩ := vw_ok q1 at1 ev
    obtain ⟨b, vs, rfl, hb, r⟩ := dv.list s4.sub
    have q := KE.new (z := .lst (pickG xs lo hi i)) h3 (st1.trans (q2.trans st4)) s4
    exact ⟨b, vs, rfl, .inl hb, fun p hp => q.lst _ rfl p _ (by
      have hl := r.length
      have := drs_idx r (sliceRange (sliceBounds lo hi (some i) vs.length).1 (sliceBounds lo hi (some i) vs.length).2.1 (sliceBounds lo hi (some i) vs.length).2.2)
      unfold pickG
      rw [← hl]
      exact this) hp⟩
  · exact h3.elim
end Vl

/-! Vl25: sorted of a list or a tuple of any data that are alike. -/
namespace PySem.W
open PySem PySem.Calls PyProof.Rows
section
variable {prog : Program} {w : World} {A : Around} {E : Value → Shared → Prop} {s : Shared}
def VlSeq (h : Heap) (l : Addr) (vs : List Value) : Prop := h.IsList l vs.toArray ∨ h.IsTuple l vs.toArray
theorem vl_collect {l : Addr} {vs : List Value} {Q : List Value → Shared → Prop} (hl : VlSeq s.heap l vs)
    (h : Q vs { s with heap := (s.heap.push (seqObj "list" #[] 0)).update s.heap.objs.size (Obj.mapSeq (· ++ vs.toArray)) }) (hsz : vs.length ≤ sizeLine) :
    wpAny (model prog w) A (collect (.ref l)) Q E s := by
  rcases hl with hl | hl
  · exact collect_list hl h hsz
  obtain ⟨o, ho, hc, n, hd⟩ := id hl
  unfold collect
  refine wpAny_bind (wpAny_runValue (codeAny_builtin entry_proto_collect' ?_))
  show wpAny _ _ (do again (.builtin "list.__iadd__" ⟨[← newList [], .ref l], []⟩)) _ _ s
  refine wpAny_bind (wpAny_newList (wpAny_pure ⟨Code.quiet_builtin _ (by decide +kernel), codeAny_builtin entry_list_iadd' ?_⟩))
  show wpAny _ _ (Builtin.List.listExtendWith (.ref s.heap.objs.size) (.ref l) (.ref s.heap.objs.size)) _ _ { s with heap := s.heap.push (seqObj "list" #[] 0) }
  unfold Builtin.List.listExtendWith
  have ho' : (s.heap.push (seqObj "list" #[] 0)).get? l = some o := Heap.get?_push_of_some _ ho
  refine wpAny_bind (wpAny_typeOf (T := "tuple") ⟨o, ho', hc⟩ ?_)
  have ht : (Value.type "tuple" == Value.type "tuple") = true := by rfl
  rw [if_pos (by rw [ht]; simp)]
  refine wpAny_bind (listItems_at ho' hd ?_)
  refine wpAny_bind (listItems_at (xs := #[]) (n := 0) (Heap.get?_push_size _ rfl) rfl ?_)
  rw [if_neg (by simp)]
  refine wpAny_bind (listUpdate_at (xs := #[]) (n := 0) (Heap.get?_push_size _ rfl) rfl ?_ (Nat.zero_le _) (by show (#[] ++ vs.toArray).size ≤ sizeLine + 1; simp only [Array.size_append, List.size_toArray, List.length_nil]; omega))
  refine wpAny_pure ?_
  show wpAny (model prog w) A (do
      let o ← load s.heap.objs.size
      match o.data with
      | .seq xs _ => pure xs.toList
      | _ => unsupported "internal:collect") Q E { s with heap := (s.heap.push (seqObj "list" #[] 0)).update s.heap.objs.size (Obj.mapSeq (· ++ vs.toArray)) }
  refine wpAny_bind (wpAny_load (get?_update_seq (Heap.get?_push_size _ rfl) _) ?_)
  show wpAny _ _ (pure ((#[] : Array Value) ++ vs.toArray).toList) Q E _
  rw [show ((#[] : Array Value) ++ vs.toArray).toList = vs by simp]
  exact wpAny_pure h
theorem vl_sorted_of_sort {l : Addr} {vs : List Value} {kw : List (Str × Value)} {Q : Value → Shared → Prop} (hl : VlSeq s.heap l vs) (hL : vs.length ≤ sizeLine) (ha1 : argsOk "sorted" ⟨[.ref l], kw⟩) (ha2 : ∀ x, argsOk "list.sort" ⟨[.ref x], kw⟩)
    (body : ∀ E' : Value → Shared → Prop, wpAny (model prog w) A.in1.in1 (Builtin.«list.sort» ⟨[.ref (s.heap.objs.size + 1)], kw⟩) (fun f s' => f = .done (.ret .none) ∧ Q (.ref (s.heap.objs.size + 1)) s') E' { s with heap := copyHeap s.heap vs }) :
    wpAny (model prog w) A (call (.builtin "sorted") [.ref l] kw) Q E s := by
  refine call_function_entry_kw kind_sorted plain_sorted entry_sorted ha1 ?_
  unfold Builtin.«sorted»
  refine wpAny_bind (m := checkCount "sorted" 1 1 _) (wpAny_pure ?_)
  refine wpAny_bind (vl_collect hl ?_ hL)
  refine wpAny_bind (wpAny_newList ?_ hL)
  have hsz : ((s.heap.push (seqObj "list" #[] 0)).update s.heap.objs.size (Obj.mapSeq (· ++ vs.toArray))).objs.size = s.heap.objs.size + 1 := by
    rw [Heap.size_update, size_push']
  show wpAny _ _ _ _ _ { s with heap := copyHeap s.heap vs }
  rw [hsz]
  refine wpAny_bind (wpAny_holding (wpAny_call_entry_kw slot_list_sort ⟨_, copyHeap_at s.heap vs, rfl⟩ entry_list_sort ?body (ha2 _)))
  case body =>
    show wpAny (model prog w) A.in1.in1 (Builtin.«list.sort» ⟨[.ref (s.heap.objs.size + 1)], kw⟩) _ _ _
    refine wpAny_mono (body _) (fun f s' hf => ?_) fun _ _ e => e
    obtain ⟨rfl, hq⟩ := hf
    exact ⟨_, rfl, wpAny_pure ⟨_, rfl, hq⟩⟩
theorem vl_sorted_data {β : Type} {vs : List Value} {bs : List β} {enc : β → PyData} {R : Value → β → Prop} {l : Addr} {Q : Value → Shared → Prop} (hl : VlSeq s.heap l vs) (e : EachIs R vs bs) (er : EachIs (fun v b => ∃ as, Reads s.heap v (enc b) as) vs bs) (hal : AllAlike (bs.map enc)) (hk : Sortable (bs.map enc)) (hL : bs.length ≤ sizeLine)
    (hu : ∀ b, b ∈ bs → A.units + 2 + (enc b).depth < cLine) (h : ∀ out, out.length = bs.length → EachIs R out (bs.mergeSort (dataLe false enc)) → Q (.ref (s.heap.objs.size + 1)) { s with heap := sortedAll s.heap vs (List.toArray out) }) :
    wpAny (model prog w) A (call (.builtin "sorted") [.ref l]) Q E s := by
  have er' : EachIs (fun v b => ∃ as, Reads (sortingHeap (copyHeap s.heap vs) (s.heap.objs.size + 1) vs) v (enc b) as) vs bs := er.mono fun _ _ ⟨as, r⟩ => ⟨as, PyProof.Rows.Reads.keeps (fun _ _ => sorting_copy_old) r⟩
  refine vl_sorted_of_sort hl (by rw [e.length]; exact hL) (args_sorted1 _) (fun _ => args_list_sort _) fun _ => list_sort_vals (s := { s with heap := copyHeap s.heap vs }) (copyHeap_at s.heap vs) (SortsAt.data (s := { s with heap := sortingHeap (copyHeap s.heap vs) (s.heap.objs.size + 1) vs }) (each_map (R := fun v d => ∃ as, Reads (sortingHeap (copyHeap s.heap vs) (s.heap.objs.size + 1) vs) v d as) enc er') hal hk (bound_map hu)) (by rw [e.length]; exact hL)
    ⟨rfl, h _ (by rw [sortVals_length false rfl]; exact e.length) (sortVals_data false e er' hal)⟩
end
end PySem.W
namespace Vl
open PySem PySem.Spec PyProof.Rows L2 PySem.W
def pyN (d : D) : PyData := d.py.getD .none
def tup1 : PyData → Bool
  | .tuple (_ :: _) => true
  | _ => false
def notTN : PyData → Bool
  | .tuple _ => false
  | .none => false
  | _ => true
/-- these can be sorted: all of one form, texts and numbers where numbers and texts stand -/
def srtB (ps : List PyData) : Bool := ps.all (fun p => ps.all fun q => PySem.W.alike p q) && (ps.all tup1 || ps.all notTN) && ps.all (fun p => decide (p.depth ≤ 50)) && decide (ps.length ≤ 1000000)
def leD (d e : D) : Bool := dataLe false pyN d e
def gSrtD : List D → Option D
  | [.lst ds] => if (D.pyL ds).isSome = true ∧ srtB (ds.map pyN) = true then some (.lst (ds.mergeSort leD)) else none
  | [.tup ds] => if (D.pyL ds).isSome = true ∧ srtB (ds.map pyN) = true then some (.lst (ds.mergeSort leD)) else none
  | _ => none
theorem pyL_mem : ∀ {ds : List D}, (D.pyL ds).isSome = true → ∀ d ∈ ds, d.py = some (pyN d)
  | [], _, d, h => by cases h
  | e :: ds, h, d, hd => by
    rw [D.pyL] at h
    cases h1 : e.py with
    | none => rw [h1] at h; cases h
    | some p =>
      cases h2 : D.pyL ds with
      | none => rw [h1, h2] at h; cases h
      | some ps =>
        rcases List.mem_cons.mp hd with rfl | hd
        · rw [h1]; unfold pyN; rw [h1]; rfl
        · exact pyL_mem (by rw [h2]; rfl) d hd
theorem srtB_ok {ds : List D} (h : srtB (ds.map pyN) = true) : AllAlike (ds.map pyN) ∧ Sortable (ds.map pyN) ∧ (∀ d ∈ ds, (pyN d).depth ≤ 50) ∧ ds.length ≤ 1000000 := by
  unfold srtB at h
  simp only [Bool.and_eq_true, List.all_eq_true, decide_eq_true_eq, Bool.or_eq_true] at h
  obtain ⟨⟨⟨h1, h2⟩, h3⟩, h4⟩ := h
  refine ⟨h1, ?_, fun d hd => h3 _ (List.mem_map.mpr ⟨d, hd, rfl⟩), by simpa using h4⟩
  rcases h2 with h2 | h2
  · refine .inl fun d hd => ?_
    have := h2 d hd
    unfold tup1 at this
    split at this
    · exact ⟨_, _, rfl⟩
    · cases this
  · refine .inr fun d hd => ?_
    have := h2 d hd
    unfold notTN at this
    split at this
    · cases this
    · cases this
    · rename_i n1 n2
      exact ⟨n2, fun xs e => n1 xs e⟩
def rSortedD (G : Gx) : List V → Hp → VK → Prop := fun vs H Q => ∃ (a : Addr) (xs : List V) (ds : List D) (R : V → D → Prop), vs = [V.ref a] ∧ (SqL G.1 H a xs ∨ SqT G.1 H a xs) ∧ (∀ x d, R x d → DR G H x d) ∧ Paired R xs ds ∧ (D.pyL ds).isSome = true ∧ srtB (ds.map pyN) = true ∧
  ∀ ys p, Paired R ys (ds.mergeSort leD) → H p = none → Q (.ref p) (upd H p (.lst ys))
theorem pairs_vals {R : V → D → Prop} : ∀ {xs : List V} {us : List Value} {ds : List D}, Vals xs us → Paired R xs ds → EachIs (fun u d => ∃ x, RelV x u ∧ R x d) us ds
  | _, _, _, .nil, .nil => .nil
  | _, _, _, .cons r rs, .cons h hs => .cons ⟨_, r, h⟩ (pairs_vals rs hs)
theorem vals_pairs {R : V → D → Prop} : ∀ {us : List Value} {ds : List D}, EachIs (fun u d => ∃ x, RelV x u ∧ R x d) us ds → ∃ xs, Vals xs us ∧ Paired R xs ds
  | _, _, .nil => ⟨[], .nil, .nil⟩
  | _, _, .cons ⟨x, r, h⟩ t => by
    obtain ⟨xs, a, b⟩ := vals_pairs t
    exact ⟨x :: xs, .cons r a, .cons h b⟩
section
variable {X : Cx}
theorem cr_sortedD {k : Nat} (hr : Room k X.A) : CallR X (.builtin "sorted") (rSortedD (gx X)) := by
  intro pins s σ H vs us Q I r h
  obtain ⟨a, xs, ds, R, rfl, hs, hR, hp, hpy, hB, q⟩ := h
  obtain ⟨u, rfl, ru⟩ := vals1 r
  obtain rfl : u = Value.ref a := ru
  obtain ⟨its, rv, hl, hz⟩ : ∃ its : List Value, Vals xs its ∧ VlSeq s.heap a its ∧ its.length ≤ sizeLine := by
    rcases hs with hs | hs
    · obtain ⟨its, rv, hl, hz⟩ := I.list hs
      exact ⟨its, rv, .inl hl.isList, by rw [← rv.length]; exact hz⟩
    · obtain ⟨its, rv, hl, hz⟩ := I.tuple hs
      exact ⟨its, rv, .inr hl, by rw [← rv.length]; exact hz⟩
  obtain ⟨b1, b2, b3, b4⟩ := srtB_ok hB
  have e := pairs_vals rv hp
  have hu := hr.units
  refine vl_sorted_data (R := fun u d => ∃ x, RelV x u ∧ R x d) (enc := pyN) hl e ?_ b1 b2 (by rw [sizeLine_eq]; omega) (fun d hd => by have := b3 d hd; omega) fun out ho eo => ?_
  · refine (each_mem e).mono fun u d hh => ?_
    obtain ⟨⟨x, rx, hx⟩, hd⟩ := hh
    exact Dp.reads I _ _ _ (DR.dp (hR x d hx) (pyL_mem hpy d hd)) rx
  · obtain ⟨ys, hv, hpair⟩ := vals_pairs eo
    obtain ⟨n, hn⟩ := sortedAll_at s.heap its out.toArray
    have hd : s.heap.objs.size ≤ s.heap.objs.size + 1 := Nat.le_succ _
    refine ⟨.ref (s.heap.objs.size + 1), upd H (s.heap.objs.size + 1) (.lst ys), I.laid (t' := s.toks) (fun b o e => sortedAll_old e) hd ⟨?_, out, n, hv, hn⟩, rfl, q _ _ hpair (I.hok.fresh hd)⟩
    rw [hv.length, ho, sizeLine_eq]; omega
end
def gSrtY (xs : List D) : Option D := match gSrtX xs with
  | some d => some d
  | none => gSrtD xs
theorem paired_DR {G : Gx} {Z : Hp} : ∀ {vs : List V} {ds : List D}, DRs G Z vs ds → Paired (fun x d => DR G Z x d) vs ds
  | _, _, .nil => .nil
  | _, _, .cons h r => .cons h (paired_DR r)
theorem DR_paired {G : Gx} {Z : Hp} : ∀ {vs : List V} {ds : List D}, Paired (fun x d => DR G Z x d) vs ds → DRs G Z vs ds
  | _, _, .nil => .nil
  | _, _, .cons h r => .cons h (DR_paired r)
def rSrtY (mg : Str → Option Value) (K : PySem.W.Frag) : List V → Hp → VK → Prop := fun vs H Q => rSrtX K vs H Q ∨ rSortedD (K, mg) vs H Q
theorem sc_sortedY {X : Cx} {A : Around} {k : Nat} (K : PySem.W.Frag) (mg : Str → Option Value) (hr : Room k A) (hA : A = X.A := by rfl) (hK : K = X.K := by rfl) (hM : mg = X.mg := by rfl) : SC X (.builtin "sorted") (rSrtY mg K) gSrtY := by
  subst hA hK hM
  have FS := sc_sortedX (X := X) X.K rfl
  refine ⟨fun pins s σ H xs us Q I r h => h.elim (FS.op pins s σ H xs us Q I r) (cr_sortedD hr pins s σ H xs us Q I r), fun Z H vs ds z Q sz dr hg q => ?_⟩
  unfold gSrtY at hg
  split at hg
  · rename_i d hd
    cases hg
    exact .inl (FS.sm Z H vs ds _ Q sz dr hd q)
  · unfold gSrtD at hg
    split at hg
    · rename_i ds' _
      split at hg
      · rename_i hc
        cases hg
        cases dr with
        | cons h r =>
          cases r
          cases h with
          | lst ha r => exact .inr ⟨_, _, ds', fun x d => DR (gx X) Z x d, rfl, .inl (.inl (same_rd sz ha)), fun x d h => h.mono sz, paired_DR r, hc.1, hc.2, fun ys p hp hn => q.lst _ rfl p _ (DR_paired hp) hn⟩
      · cases hg
    · rename_i ds' _
      split at hg
      · rename_i hc
        cases hg
        cases dr with
        | cons h r =>
          cases r
          cases h with
          | tup ha r => exact .inr ⟨_, _, ds', fun x d => DR (gx X) Z x d, rfl, .inr (same_seqT sz ha), fun x d h => h.mono sz, paired_DR r, hc.1, hc.2, fun ys p hp hn => q.lst _ rfl p _ (DR_paired hp) hn⟩
      · cases hg
    · cases hg
/-! what that is, for pairs of numbers -/
theorem gSrtX_tup {ds : List D} : gSrtX [.tup ds] = none := (rfl)
theorem leD_pairs {p q : Int × Int} : leD (pairD p) (pairD q) = leP p q := by
  have e := congrFun (congrFun (dataLe_ii (β := Int × Int) (fun p => p.1) (fun p => p.2)) p) q
  have e1 : leD (pairD p) (pairD q) = dataLe false (fun b : Int × Int => PyData.tuple [.int b.1, .int b.2]) p q := rfl
  rw [e1, e, Bool.eq_iff_iff, decide_eq_true_eq, leP_iff]
theorem msort_pairs {ps : List (Int × Int)} : (ps.map pairD).mergeSort leD = (isort leP ps).map pairD := by
  rw [← List.map_mergeSort (r := leP) (f := pairD) (fun a _ b _ => leD_pairs.symm)]
  congr 1
  refine isortP (List.mergeSort_perm _ _) ?_
  exact List.pairwise_mergeSort (fun a b c h1 h2 => leP_trans a b c h1 h2) (fun a b => by have := leP_tot a b; simpa using this) ps
theorem pyL_pairs : ∀ ps : List (Int × Int), D.pyL (ps.map pairD) = some (ps.map fun p => PyData.tuple [.int p.1, .int p.2])
  | [] => rfl
  | p :: ps => by
    rw [List.map_cons, D.pyL, pyL_pairs ps]; rfl
theorem srtB_pairs {ps : List (Int × Int)} (h : ps.length ≤ 1000000) : srtB ((ps.map pairD).map pyN) = true := by
  have e : (ps.map pairD).map pyN = ps.map fun p => PyData.tuple [.int p.1, .int p.2] := by rw [List.map_map]; rfl
  rw [e]
  unfold srtB
  simp only [Bool.and_eq_true, List.all_eq_true, List.mem_map, decide_eq_true_eq, Bool.or_eq_true, List.length_map]
  refine ⟨⟨⟨?_, .inl ?_⟩, ?_⟩, h⟩
  · rintro _ ⟨p, _, rfl⟩ _ ⟨q, _, rfl⟩
    simp [PySem.W.alike, PySem.W.alikeAll]
  · rintro _ ⟨p, _, rfl⟩; rfl
  · rintro _ ⟨p, _, rfl⟩; simp [PyData.depth, PyData.depthAll]
theorem gSrtY_tpairs {ps : List (Int × Int)} (h : ps.length ≤ 1000000) : gSrtY [.tup (ps.map pairD)] = some (.lst ((isort leP ps).map pairD)) := by
  unfold gSrtY
  rw [gSrtX_tup]
  show gSrtD _ = _
  unfold gSrtD
  dsimp only
  rw [if_pos ⟨by rw [pyL_pairs]; rfl, srtB_pairs h⟩, msort_pairs]
theorem gSrtY_pairs {ps : List (Int × Int)} (h : ps.length ≤ 1000000) : gSrtY [.lst (ps.map pairD)] = some (.lst ((isort leP ps).map pairD)) := by
  unfold gSrtY
  cases ps with
  | nil => rfl
  | cons p ps => rw [gSrtX_pairs (by simp)]
theorem gSrtY_strs {zs : List Str} (h : zs.length < 64) : gSrtY [.lst (zs.map D.str)] = some (.lst ((isort leS zs).map D.str)) := by
  unfold gSrtY
  rw [gSrtX_strs h]
end Vl

noncomputable section
namespace bondyears_k08_whole_days_together
open PySem PySem.Spec PyProof.Rows L2 Vl
def top (i : Nat) : Stmt := PySem.Challenge.pw_bondyears_k08_whole_days_together.main.body.getD i (.Pass ⟨0, 0, 0, 0⟩)
def clsAt (s : Stmt) (i : Nat) : Stmt := match s with
  | .ClassDef _ _ _ b _ _ _ _ _ _ _ => b.getD i (.Pass ⟨0, 0, 0, 0⟩)
  | _ => .Pass ⟨0, 0, 0, 0⟩
def exAll : List Str := ["BondError", "BadDay", "BadName", "BadRules", "BadStretch", "BadNumber"]
def es_isi0 : List Str := []
def es_isi1 : List Str := []
def es_isi2 : List Str := []
def es_isi3 : List Str := []
def es_isi4 : List Str := []
def g_isi0 : D → Option D := fun d => (isiD ["bool", "int"] es_isi0 exAll d).map .bl
def g_isi1 : D → Option D := fun d => (isiD ["bool"] es_isi1 exAll d).map .bl
def g_isi2 : D → Option D := fun d => (isiD ["str"] es_isi2 exAll d).map .bl
def g_isi3 : D → Option D := fun d => (isiD ["tuple"] es_isi3 exAll d).map .bl
def g_isi4 : D → Option D := fun d => (isiD ["list", "tuple"] es_isi4 exAll d).map .bl
def fv : List FV := [.isi true [.ty "int"] ["bool", "int"] es_isi0 exAll, .fr "isinstance", .fr "int", .isi true [.ty "bool"] ["bool"] es_isi1 exAll, .fr "bool", .isi true [.ty "str"] ["str"] es_isi2 exAll, .fr "str", .fr "len", .int "LONGEST" 8, .str "LETTERS" "abcdefghijklmnopqrstuvwxyz", .fr "all", .ex1 "BadName", .int "LAST_DAY" 99999, .ex1 "BadDay", .isi true [.ty "tuple"] ["tuple"] es_isi3 exAll, .fr "tuple", .int "BEHIND" 100000, .ex1 "BadStretch", .fr "min", .fr "max", .isi false [.ty "list", .ty "tuple"] ["list", "tuple"] es_isi4 exAll, .fr "list", .fr "sorted", .int "WHOLE_SHARE" 100, .int "MOST_SHARES" 8, .fr "zip", .int "SHARES" 7, .ntp "BOUNDS" (.tup [(.tup [(.int 0), (.int 9999)]), (.tup [(.int 0), (.int 9999)]), (.tup [(.int 1), (.int 9)]), (.tup [(.int 0), (.int 999)]), (.tup [(.int 1), (.int 99999)]), (.tup [(.int 1), (.int 9)]), (.tup [(.int 0), (.int 9999)])]), .fr "enumerate", .ex1 "BadNumber", .fr "range", .fr "sum", .bin "BondError", .ini "BadRules" ["part"], .gl "_law_mixed", .gl "_law_stream", .gl "_law_take", .gl "_law_day_by", .gl "_law_stretch_by", .gl "_law_rows_by", .gl "is_whole", .gl "is_among", .gl "is_day", .gl "is_stretch", .gl "joined_up", .gl "need_stretch", .gl "need_day", .gl "is_within", .gl "cut_at", .gl "days_in", .gl "_law_days_right", .gl "shared_days", .gl "_law_counts_right", .gl "_law_name_by", .gl "_law_names_by", .gl "_law_rules_by", .gl "is_eight", .gl "is_name", .gl "is_share", .gl "are_shares", .gl "is_part", .gl "wrong_part", .gl "need_rules", .gl "with_part", .gl "need_name", .gl "share_of", .gl "_law_rules_right", .gl "law"]
theorem ft_isi0 {K : PySem.W.Frag} {mg : Str → Option Value} (FF : FX fv K mg) : (FV.isi true [.ty "int"] ["bool", "int"] es_isi0 exAll).P K mg := FF.at_ 0 _ rfl
theorem ft_n_isinstance {K : PySem.W.Frag} {mg : Str → Option Value} (FF : FX fv K mg) : mg "isinstance" = none := FF.at_ 1 _ rfl
theorem ft_n_int {K : PySem.W.Frag} {mg : Str → Option Value} (FF : FX fv K mg) : mg "int" = none := FF.at_ 2 _ rfl
theorem ft_isi1 {K : PySem.W.Frag} {mg : Str → Option Value} (FF : FX fv K mg) : (FV.isi true [.ty "bool"] ["bool"] es_isi1 exAll).P K mg := FF.at_ 3 _ rfl
theorem ft_n_bool {K : PySem.W.Frag} {mg : Str → Option Value} (FF : FX fv K mg) : mg "bool" = none := FF.at_ 4 _ rfl
theorem ft_isi2 {K : PySem.W.Frag} {mg : Str → Option Value} (FF : FX fv K mg) : (FV.isi true [.ty "str"] ["str"] es_isi2 exAll).P K mg := FF.at_ 5 _ rfl
theorem ft_n_str {K : PySem.W.Frag} {mg : Str → Option Value} (FF : FX fv K mg) : mg "str" = none := FF.at_ 6 _ rfl
theorem ft_n_len {K : PySem.W.Frag} {mg : Str → Option Value} (FF : FX fv K mg) : mg "len" = none := FF.at_ 7 _ rfl
theorem ft_c_LONGEST {K : PySem.W.Frag} {mg : Str → Option Value} (FF : FX fv K mg) : ∃ u, mg "LONGEST" = some u ∧ RelV (.int 8) u := FF.at_ 8 _ rfl
theorem ft_c_LETTERS {K : PySem.W.Frag} {mg : Str → Option Value} (FF : FX fv K mg) : ∃ u, mg "LETTERS" = some u ∧ RelV (.str "abcdefghijklmnopqrstuvwxyz") u := FF.at_ 9 _ rfl
theorem ft_n_all {K : PySem.W.Frag} {mg : Str → Option Value} (FF : FX fv K mg) : mg "all" = none := FF.at_ 10 _ rfl
theorem ft_x_BadName {K : PySem.W.Frag} {mg : Str → Option Value} (FF : FX fv K mg) : (FV.ex1 "BadName").P K mg := FF.at_ 11 _ rfl
theorem ft_c_LAST_DAY {K : PySem.W.Frag} {mg : Str → Option Value} (FF : FX fv K mg) : ∃ u, mg "LAST_DAY" = some u ∧ RelV (.int 99999) u := FF.at_ 12 _ rfl
theorem ft_x_BadDay {K : PySem.W.Frag} {mg : Str → Option Value} (FF : FX fv K mg) : (FV.ex1 "BadDay").P K mg := FF.at_ 13 _ rfl
theorem ft_isi3 {K : PySem.W.Frag} {mg : Str → Option Value} (FF : FX fv K mg) : (FV.isi true [.ty "tuple"] ["tuple"] es_isi3 exAll).P K mg := FF.at_ 14 _ rfl
theorem ft_n_tuple {K : PySem.W.Frag} {mg : Str → Option Value} (FF : FX fv K mg) : mg "tuple" = none := FF.at_ 15 _ rfl
theorem ft_c_BEHIND {K : PySem.W.Frag} {mg : Str → Option Value} (FF : FX fv K mg) : ∃ u, mg "BEHIND" = some u ∧ RelV (.int 100000) u := FF.at_ 16 _ rfl
theorem ft_x_BadStretch {K : PySem.W.Frag} {mg : Str → Option Value} (FF : FX fv K mg) : (FV.ex1 "BadStretch").P K mg := FF.at_ 17 _ rfl
theorem ft_n_min {K : PySem.W.Frag} {mg : Str → Option Value} (FF : FX fv K mg) : mg "min" = none := FF.at_ 18 _ rfl
theorem ft_n_max {K : PySem.W.Frag} {mg : Str → Option Value} (FF : FX fv K mg) : mg "max" = none := FF.at_ 19 _ rfl
theorem ft_isi4 {K : PySem.W.Frag} {mg : Str → Option Value} (FF : FX fv K mg) : (FV.isi false [.ty "list", .ty "tuple"] ["list", "tuple"] es_isi4 exAll).P K mg := FF.at_ 20 _ rfl
theorem ft_n_list {K : PySem.W.Frag} {mg : Str → Option Value} (FF : FX fv K mg) : mg "list" = none := FF.at_ 21 _ rfl
theorem ft_n_sorted {K : PySem.W.Frag} {mg : Str → Option Value} (FF : FX fv K mg) : mg "sorted" = none := FF.at_ 22 _ rfl
theorem ft_c_WHOLE_SHARE {K : PySem.W.Frag} {mg : Str → Option Value} (FF : FX fv K mg) : ∃ u, mg "WHOLE_SHARE" = some u ∧ RelV (.int 100) u := FF.at_ 23 _ rfl
theorem ft_c_MOST_SHARES {K : PySem.W.Frag} {mg : Str → Option Value} (FF : FX fv K mg) : ∃ u, mg "MOST_SHARES" = some u ∧ RelV (.int 8) u := FF.at_ 24 _ rfl
theorem ft_n_zip {K : PySem.W.Frag} {mg : Str → Option Value} (FF : FX fv K mg) : mg "zip" = none := FF.at_ 25 _ rfl
theorem ft_c_SHARES {K : PySem.W.Frag} {mg : Str → Option Value} (FF : FX fv K mg) : ∃ u, mg "SHARES" = some u ∧ RelV (.int 7) u := FF.at_ 26 _ rfl
theorem ft_c_BOUNDS {K : PySem.W.Frag} {mg : Str → Option Value} (FF : FX fv K mg) : (FV.ntp "BOUNDS" (.tup [(.tup [(.int 0), (.int 9999)]), (.tup [(.int 0), (.int 9999)]), (.tup [(.int 1), (.int 9)]), (.tup [(.int 0), (.int 999)]), (.tup [(.int 1), (.int 99999)]), (.tup [(.int 1), (.int 9)]), (.tup [(.int 0), (.int 9999)])])).P K mg := FF.at_ 27 _ rfl
theorem ft_n_enumerate {K : PySem.W.Frag} {mg : Str → Option Value} (FF : FX fv K mg) : mg "enumerate" = none := FF.at_ 28 _ rfl
theorem ft_x_BadNumber {K : PySem.W.Frag} {mg : Str → Option Value} (FF : FX fv K mg) : (FV.ex1 "BadNumber").P K mg := FF.at_ 29 _ rfl
theorem ft_n_range {K : PySem.W.Frag} {mg : Str → Option Value} (FF : FX fv K mg) : mg "range" = none := FF.at_ 30 _ rfl
theorem ft_n_sum {K : PySem.W.Frag} {mg : Str → Option Value} (FF : FX fv K mg) : mg "sum" = none := FF.at_ 31 _ rfl
theorem ft_bin_BondError {K : PySem.W.Frag} {mg : Str → Option Value} (FF : FX fv K mg) : (FV.bin "BondError").P K mg := FF.at_ 32 _ rfl
theorem ft_ini_BadRules {K : PySem.W.Frag} {mg : Str → Option Value} (FF : FX fv K mg) : (FV.ini "BadRules" ["part"]).P K mg := FF.at_ 33 _ rfl
theorem ft_g__law_mixed {K : PySem.W.Frag} {mg : Str → Option Value} (FF : FX fv K mg) : mg "_law_mixed" = some (.ref (He.ga K "_law_mixed")) := FF.at_ 34 _ rfl
theorem ft_g__law_stream {K : PySem.W.Frag} {mg : Str → Option Value} (FF : FX fv K mg) : mg "_law_stream" = some (.ref (He.ga K "_law_stream")) := FF.at_ 35 _ rfl
theorem ft_g__law_take {K : PySem.W.Frag} {mg : Str → Option Value} (FF : FX fv K mg) : mg "_law_take" = some (.ref (He.ga K "_law_take")) := FF.at_ 36 _ rfl
theorem ft_g__law_day_by {K : PySem.W.Frag} {mg : Str → Option Value} (FF : FX fv K mg) : mg "_law_day_by" = some (.ref (He.ga K "_law_day_by")) := FF.at_ 37 _ rfl
theorem ft_g__law_stretch_by {K : PySem.W.Frag} {mg : Str → Option Value} (FF : FX fv K mg) : mg "_law_stretch_by" = some (.ref (He.ga K "_law_stretch_by")) := FF.at_ 38 _ rfl
theorem ft_g__law_rows_by {K : PySem.W.Frag} {mg : Str → Option Value} (FF : FX fv K mg) : mg "_law_rows_by" = some (.ref (He.ga K "_law_rows_by")) := FF.at_ 39 _ rfl
theorem ft_g_is_whole {K : PySem.W.Frag} {mg : Str → Option Value} (FF : FX fv K mg) : mg "is_whole" = some (.ref (He.ga K "is_whole")) := FF.at_ 40 _ rfl
theorem ft_g_is_among {K : PySem.W.Frag} {mg : Str → Option Value} (FF : FX fv K mg) : mg "is_among" = some (.ref (He.ga K "is_among")) := FF.at_ 41 _ rfl
theorem ft_g_is_day {K : PySem.W.Frag} {mg : Str → Option Value} (FF : FX fv K mg) : mg "is_day" = some (.ref (He.ga K "is_day")) := FF.at_ 42 _ rfl
theorem ft_g_is_stretch {K : PySem.W.Frag} {mg : Str → Option Value} (FF : FX fv K mg) : mg "is_stretch" = some (.ref (He.ga K "is_stretch")) := FF.at_ 43 _ rfl
theorem ft_g_joined_up {K : PySem.W.Frag} {mg : Str → Option Value} (FF : FX fv K mg) : mg "joined_up" = some (.ref (He.ga K "joined_up")) := FF.at_ 44 _ rfl
theorem ft_g_need_stretch {K : PySem.W.Frag} {mg : Str → Option Value} (FF : FX fv K mg) : mg "need_stretch" = some (.ref (He.ga K "need_stretch")) := FF.at_ 45 _ rfl
theorem ft_g_need_day {K : PySem.W.Frag} {mg : Str → Option Value} (FF : FX fv K mg) : mg "need_day" = some (.ref (He.ga K "need_day")) := FF.at_ 46 _ rfl
theorem ft_g_is_within {K : PySem.W.Frag} {mg : Str → Option Value} (FF : FX fv K mg) : mg "is_within" = some (.ref (He.ga K "is_within")) := FF.at_ 47 _ rfl
theorem ft_g_cut_at {K : PySem.W.Frag} {mg : Str → Option Value} (FF : FX fv K mg) : mg "cut_at" = some (.ref (He.ga K "cut_at")) := FF.at_ 48 _ rfl
theorem ft_g_days_in {K : PySem.W.Frag} {mg : Str → Option Value} (FF : FX fv K mg) : mg "days_in" = some (.ref (He.ga K "days_in")) := FF.at_ 49 _ rfl
theorem ft_g__law_days_right {K : PySem.W.Frag} {mg : Str → Option Value} (FF : FX fv K mg) : mg "_law_days_right" = some (.ref (He.ga K "_law_days_right")) := FF.at_ 50 _ rfl
theorem ft_g_shared_days {K : PySem.W.Frag} {mg : Str → Option Value} (FF : FX fv K mg) : mg "shared_days" = some (.ref (He.ga K "shared_days")) := FF.at_ 51 _ rfl
theorem ft_g__law_counts_right {K : PySem.W.Frag} {mg : Str → Option Value} (FF : FX fv K mg) : mg "_law_counts_right" = some (.ref (He.ga K "_law_counts_right")) := FF.at_ 52 _ rfl
theorem ft_g__law_name_by {K : PySem.W.Frag} {mg : Str → Option Value} (FF : FX fv K mg) : mg "_law_name_by" = some (.ref (He.ga K "_law_name_by")) := FF.at_ 53 _ rfl
theorem ft_g__law_names_by {K : PySem.W.Frag} {mg : Str → Option Value} (FF : FX fv K mg) : mg "_law_names_by" = some (.ref (He.ga K "_law_names_by")) := FF.at_ 54 _ rfl
theorem ft_g__law_rules_by {K : PySem.W.Frag} {mg : Str → Option Value} (FF : FX fv K mg) : mg "_law_rules_by" = some (.ref (He.ga K "_law_rules_by")) := FF.at_ 55 _ rfl
theorem ft_g_is_eight {K : PySem.W.Frag} {mg : Str → Option Value} (FF : FX fv K mg) : mg "is_eight" = some (.ref (He.ga K "is_eight")) := FF.at_ 56 _ rfl
theorem ft_g_is_name {K : PySem.W.Frag} {mg : Str → Option Value} (FF : FX fv K mg) : mg "is_name" = some (.ref (He.ga K "is_name")) := FF.at_ 57 _ rfl
theorem ft_g_is_share {K : PySem.W.Frag} {mg : Str → Option Value} (FF : FX fv K mg) : mg "is_share" = some (.ref (He.ga K "is_share")) := FF.at_ 58 _ rfl
theorem ft_g_are_shares {K : PySem.W.Frag} {mg : Str → Option Value} (FF : FX fv K mg) : mg "are_shares" = some (.ref (He.ga K "are_shares")) := FF.at_ 59 _ rfl
theorem ft_g_is_part {K : PySem.W.Frag} {mg : Str → Option Value} (FF : FX fv K mg) : mg "is_part" = some (.ref (He.ga K "is_part")) := FF.at_ 60 _ rfl
theorem ft_g_wrong_part {K : PySem.W.Frag} {mg : Str → Option Value} (FF : FX fv K mg) : mg "wrong_part" = some (.ref (He.ga K "wrong_part")) := FF.at_ 61 _ rfl
theorem ft_g_need_rules {K : PySem.W.Frag} {mg : Str → Option Value} (FF : FX fv K mg) : mg "need_rules" = some (.ref (He.ga K "need_rules")) := FF.at_ 62 _ rfl
theorem ft_g_with_part {K : PySem.W.Frag} {mg : Str → Option Value} (FF : FX fv K mg) : mg "with_part" = some (.ref (He.ga K "with_part")) := FF.at_ 63 _ rfl
theorem ft_g_need_name {K : PySem.W.Frag} {mg : Str → Option Value} (FF : FX fv K mg) : mg "need_name" = some (.ref (He.ga K "need_name")) := FF.at_ 64 _ rfl
theorem ft_g_share_of {K : PySem.W.Frag} {mg : Str → Option Value} (FF : FX fv K mg) : mg "share_of" = some (.ref (He.ga K "share_of")) := FF.at_ 65 _ rfl
theorem ft_g__law_rules_right {K : PySem.W.Frag} {mg : Str → Option Value} (FF : FX fv K mg) : mg "_law_rules_right" = some (.ref (He.ga K "_law_rules_right")) := FF.at_ 66 _ rfl
theorem ft_g_law {K : PySem.W.Frag} {mg : Str → Option Value} (FF : FX fv K mg) : mg "law" = some (.ref (He.ga K "law")) := FF.at_ 67 _ rfl
/-! ### BadRules -/
def si_BadRules : Stmt := clsAt (top 4) 0
theorem sci_BadRules : FnScope ["self", "part"] ["self", "part"] (defScope si_BadRules) := ⟨rfl, rfl, rfl, by decide +kernel, rfl, by decide +kernel, by decide +kernel⟩
theorem oki_BadRules {Pg : Program} {w : World} {K : PySem.W.Frag} {mg : Str → Option Value} {base : Heap} {fd : FuncData} (FF : FX fv K mg) (Fn : Fun K "__init__" "BadRules.__init__" si_BadRules (He.ma K (He.ga K "BadRules") "__init__") fd) : Init Pg w K mg base "BadRules" ["part"] :=
  init_of (ft_ini_BadRules FF) (init1_ok Fn sci_BadRules rfl fun cdv A outer s H E => pss_cons (ps_expr (pe_binit rfl (ft_bin_BondError FF).1 (ft_bin_BondError FF).2.1 (ft_bin_BondError FF).2.2.1 (ft_bin_BondError FF).2.2.2 (pa_cons (pv 0) (pa_cons (pv 1) pa_nil))))
    (pss_one (ps_ost (pv 0) (pv 1)))) (Fn.binds fun _ _ _ _ _ _ us hl => match us, hl with | [_, _], _ => rfl)
/-! ### _law_mixed -/
def st__law_mixed : Stmt := top 40
theorem sc__law_mixed : FnScope ["_law_number", "_law_k"] ["_law_number", "_law_k"] (defScope st__law_mixed) := ⟨rfl, rfl, rfl, by decide +kernel, rfl, by decide +kernel, by decide +kernel⟩
def m__law_mixed : Vl.Env → Out Fl := (mSeq (mSet 0 (m2 gMod_ (m2 gPow_ (m2s gAdd (m2s gAdd (m2s gAdd (m2 gMod_ (mV 0) (mC (.int 2147483647))) (m2s gMulX (m2s gMulX (mC (.int 7919)) (mV 1)) (mV 1))) (m2s gMulX (mC (.int 31)) (mV 1))) (mC (.int 5))) (mC (.int 5))) (mC (.int 2147483629))))
    (mRet [] (m2 gDiv_ (m2 gMod_ (m2s gMulX (mV 0) (m2s gAdd (mC (.int 69621)) (m2s gMulX (mC (.int 2)) (mV 1)))) (mC (.int 2147483587))) (mC (.int 7)))))
def F__law_mixed : FSem := runF false 2 m__law_mixed
theorem ok__law_mixed {Pg : Program} {w : World} {K : PySem.W.Frag} {mg : Str → Option Value} {base : Heap} {f : Addr} {fd : FuncData} (FF : FX fv K mg) (Fn : Fun K "_law_mixed" "_law_mixed" st__law_mixed f fd) (gf : mg "_law_mixed" = some (.ref f)) : DefOk Pg w K mg base "_law_mixed" 3 2 false F__law_mixed :=
  def_ok (N := ["_law_number", "_law_k"]) (ps := ["_law_number", "_law_k"]) (P := []) (m := m__law_mixed) (F := F__law_mixed) (k := 2) (io := false) Fn gf (Fn.binds fun _ _ _ _ _ _ us hl => match us, hl with | [_, _], _ => rfl) sc__law_mixed (fun cdv A outer s H E cx => have sc := sc__law_mixed; ⟨_, (vss_cons (vs_set (i := 0) sc.nd rfl (by first | exact .inl rfl | exact .inr rfl) (by decide) (ve_op fo_mod (ve_op fo_pow (ve_ops (so_addK K) (ve_ops (so_addK K) (ve_ops (so_addK K) (ve_op fo_mod (ve_var (pv 0)) ve_int) (ve_ops so_mul (ve_ops so_mul ve_int (ve_var (pv 1))) (ve_var (pv 1)))) (ve_ops so_mul ve_int (ve_var (pv 1)))) ve_int) ve_int) ve_int))
    (vss_one (vs_ret (ve_op fo_fdiv (ve_op fo_mod (ve_ops so_mul (ve_var (pv 0)) (ve_ops (so_addK K) ve_int (ve_ops so_mul ve_int (ve_var (pv 1))))) ve_int) ve_int))))⟩) (fun _ _ => rfl) (by decide)
/-! ### _law_stream -/
def st__law_stream : Stmt := top 41
theorem sc__law_stream : FnScope ["_law_cell", "_law_k"] ["_law_cell", "_law_k"] (defScope st__law_stream) := ⟨rfl, rfl, rfl, by decide +kernel, rfl, by decide +kernel, by decide +kernel⟩
def m__law_stream : Vl.Env → Out Fl := (mRet [] (mLst (mCons (m2 gGe (mV 0) (m2 gPow_ (mC (.int 10)) (mC (.int 18)))) (mCons (mV 0) (mCons (mC (.int 0)) (mCons (mCall F__law_mixed (mCons (mV 0) (mCons (mV 1) mNil))) mNil))))))
def F__law_stream : FSem := runF false 2 m__law_stream
theorem ok__law_stream {Pg : Program} {w : World} {K : PySem.W.Frag} {mg : Str → Option Value} {base : Heap} {f : Addr} {fd : FuncData} (FF : FX fv K mg) (D__law_mixed : DefOk Pg w K mg base "_law_mixed" 3 2 false F__law_mixed) (Fn : Fun K "_law_stream" "_law_stream" st__law_stream f fd) (gf : mg "_law_stream" = some (.ref f)) : DefOk Pg w K mg base "_law_stream" 4 2 false F__law_stream :=
  def_ok (N := ["_law_cell", "_law_k"]) (ps := ["_law_cell", "_law_k"]) (P := []) (m := m__law_stream) (F := F__law_stream) (k := 3) (io := false) Fn gf (Fn.binds fun _ _ _ _ _ _ us hl => match us, hl with | [_, _], _ => rfl) sc__law_stream (fun cdv A outer s H E cx => have sc := sc__law_stream; ⟨_, (vss_one (vs_ret (ve_lst (va_cons (ve_cmp fo_ge (ve_var (pv 0)) (ve_op fo_pow ve_int ve_int)) (va_cons (ve_var (pv 0)) (va_cons ve_int (va_cons (ve_callK K D__law_mixed cx.gd cx.hr (by decide) cx.tk rfl (va_cons (ve_var (pv 0)) (va_cons (ve_var (pv 1)) va_nil))) va_nil)))))))⟩) (fun _ _ => rfl) (by decide)
/-! ### _law_take -/
def st__law_take : Stmt := top 42
theorem sc__law_take : FnScope ["_law_stream_here", "_law_many", "_law_number"] ["_law_stream_here", "_law_many"] (defScope st__law_take) := ⟨rfl, rfl, rfl, by decide +kernel, rfl, by decide +kernel, by decide +kernel⟩
def m__law_take : Vl.Env → Out Fl := (mSeq (mSetIx 0 (m2s gAdd (mIx (mV 0) (mC (.int 2))) (mC (.int 1))) (mC (.int 2)))
    (mSeq (mIfS (mOrT (mNotT (mT (mIx (mV 0) (mC (.int 0))))) (mOrT (mB (m2 (gIn false) (mIx (mV 0) (mC (.int 1))) (mTup (mCons (mC (.int 0)) (mCons (m1 gNeg (mC (.int 1))) mNil))))) (mB (m2 gGt (mIx (mV 0) (mC (.int 2))) (mC (.int 60)))))) (mRet [0] (m2 gMod_ (m2 gDiv_ (mCall F__law_mixed (mCons (m2s gAdd (mIx (mV 0) (mC (.int 3))) (m2s gMulX (mC (.int 104729)) (mIx (mV 0) (mC (.int 2))))) (mCons (mIx (mV 0) (mC (.int 2))) mNil))) (mC (.int 11))) (mV 1))) mSkip)
    (mSeq (mSet 2 (m2 gMod_ (mIx (mV 0) (mC (.int 1))) (mV 1)))
    (mSeq (mSetIx 0 (m2 gDiv_ (mIx (mV 0) (mC (.int 1))) (mV 1)) (mC (.int 1)))
    (mRet [0] (mV 2))))))
def F__law_take : FSem := runF true 3 m__law_take
theorem ok__law_take {Pg : Program} {w : World} {K : PySem.W.Frag} {mg : Str → Option Value} {base : Heap} {f : Addr} {fd : FuncData} (FF : FX fv K mg) (D__law_mixed : DefOk Pg w K mg base "_law_mixed" 3 2 false F__law_mixed) (Fn : Fun K "_law_take" "_law_take" st__law_take f fd) (gf : mg "_law_take" = some (.ref f)) : DefOk Pg w K mg base "_law_take" 4 2 true F__law_take :=
  def_ok (N := ["_law_stream_here", "_law_many", "_law_number"]) (ps := ["_law_stream_here", "_law_many"]) (P := [0]) (m := m__law_take) (F := F__law_take) (k := 3) (io := true) Fn gf (Fn.binds fun _ _ _ _ _ _ us hl => match us, hl with | [_, _], _ => rfl) sc__law_take (fun cdv A outer s H E cx => have sc := sc__law_take; ⟨_, (vss_cons (vs_setIx (pv 0) (ve_ops (so_addK K) (ve_ixK K (ve_var (pv 0)) ve_int) ve_int) ve_int)
    (vss_cons (vs_if (VW.vt (vw_or (vt_not (vt_truthK K (ve_ixK K (ve_var (pv 0)) ve_int))) (vw_or (vt_cmp (fo_inA cx.hr K) (ve_ixK K (ve_var (pv 0)) ve_int) (ve_tup (va_cons ve_int (va_cons (ve_neg ve_int) va_nil)))) (vw_or1 (vt_cmp fo_gt (ve_ixK K (ve_var (pv 0)) ve_int) ve_int))))) (vss_one (vs_ret (ve_op fo_mod (ve_op fo_fdiv (ve_callK K D__law_mixed cx.gd cx.hr (by decide) cx.tk rfl (va_cons (ve_ops (so_addK K) (ve_ixK K (ve_var (pv 0)) ve_int) (ve_ops so_mul ve_int (ve_ixK K (ve_var (pv 0)) ve_int))) (va_cons (ve_ixK K (ve_var (pv 0)) ve_int) va_nil))) ve_int) (ve_var (pv 1))))) vss_nil)
    (vss_cons (vs_set (i := 2) sc.nd rfl (by first | exact .inl rfl | exact .inr rfl) (by decide) (ve_op fo_mod (ve_ixK K (ve_var (pv 0)) ve_int) (ve_var (pv 1))))
    (vss_cons (vs_setIx (pv 0) (ve_op fo_fdiv (ve_ixK K (ve_var (pv 0)) ve_int) (ve_var (pv 1))) ve_int)
    (vss_one (vs_ret (ve_var (pv 2))))))))⟩) (fun _ _ => rfl) (by decide)
/-! ### _law_day_by -/
def st__law_day_by : Stmt := top 46
theorem sc__law_day_by : FnScope ["_law_stream_here", "_law_some"] ["_law_stream_here"] (defScope st__law_day_by) := ⟨rfl, rfl, rfl, by decide +kernel, rfl, by decide +kernel, by decide +kernel⟩
def m__law_day_by : Vl.Env → Out Fl := (mSeq (mSet 1 (mLst (mCons (mCallIo F__law_take (mCons (mV 0) (mCons (mC (.int 9)) mNil))) (mCons (m2 gSub_ (mC (.int 99999)) (mCallIo F__law_take (mCons (mV 0) (mCons (mC (.int 9)) mNil)))) (mCons (mCallIo F__law_take (mCons (mV 0) (mCons (mC (.int 100000)) mNil))) (mCons (mC (.int 500)) mNil))))))
    (mRet [0] (mIx (mV 1) (mCallIo F__law_take (mCons (mV 0) (mCons (mC (.int 4)) mNil))))))
def F__law_day_by : FSem := runF true 2 m__law_day_by
theorem ok__law_day_by {Pg : Program} {w : World} {K : PySem.W.Frag} {mg : Str → Option Value} {base : Heap} {f : Addr} {fd : FuncData} (FF : FX fv K mg) (D__law_take : DefOk Pg w K mg base "_law_take" 4 2 true F__law_take) (Fn : Fun K "_law_day_by" "_law_day_by" st__law_day_by f fd) (gf : mg "_law_day_by" = some (.ref f)) : DefOk Pg w K mg base "_law_day_by" 5 1 true F__law_day_by :=
  def_ok (N := ["_law_stream_here", "_law_some"]) (ps := ["_law_stream_here"]) (P := [0]) (m := m__law_day_by) (F := F__law_day_by) (k := 4) (io := true) Fn gf (Fn.binds fun _ _ _ _ _ _ us hl => match us, hl with | [_], _ => rfl) sc__law_day_by (fun cdv A outer s H E cx => have sc := sc__law_day_by; ⟨_, (vss_cons (vs_set (i := 1) sc.nd rfl (by first | exact .inl rfl | exact .inr rfl) (by decide) (ve_lst (va_cons (ve_callIoK K D__law_take cx.gd cx.hr (by decide) cx.tk rfl (va_cons (ve_var (pv 0)) (va_cons ve_int va_nil))) (va_cons (ve_op fo_sub ve_int (ve_callIoK K D__law_take cx.gd cx.hr (by decide) cx.tk rfl (va_cons (ve_var (pv 0)) (va_cons ve_int va_nil)))) (va_cons (ve_callIoK K D__law_take cx.gd cx.hr (by decide) cx.tk rfl (va_cons (ve_var (pv 0)) (va_cons ve_int va_nil))) (va_cons ve_int va_nil))))))
    (vss_one (vs_ret (ve_ixK K (ve_var (pv 1)) (ve_callIoK K D__law_take cx.gd cx.hr (by decide) cx.tk rfl (va_cons (ve_var (pv 0)) (va_cons ve_int va_nil)))))))⟩) (fun _ _ => rfl) (by decide)
/-! ### _law_stretch_by -/
def st__law_stretch_by : Stmt := top 47
theorem sc__law_stretch_by : FnScope ["_law_stream_here", "_law_begin", "_law_left", "_law_long"] ["_law_stream_here"] (defScope st__law_stretch_by) := ⟨rfl, rfl, rfl, by decide +kernel, rfl, by decide +kernel, by decide +kernel⟩
def m__law_stretch_by : Vl.Env → Out Fl := (mSeq (mSet 1 (mCallIo F__law_day_by (mCons (mV 0) mNil)))
    (mSeq (mSet 2 (m2 gSub_ (mC (.int 100000)) (mV 1)))
    (mSeq (mSet 3 (mIx (mLst (mCons (mC (.int 0)) (mCons (mC (.int 1)) (mCons (mCallIo F__law_take (mCons (mV 0) (mCons (mC (.int 9)) mNil))) (mCons (mV 2) (mCons (mCallIo F__law_take (mCons (mV 0) (mCons (m2s gAdd (mV 2) (mC (.int 1))) mNil))) mNil)))))) (mCallIo F__law_take (mCons (mV 0) (mCons (mC (.int 5)) mNil)))))
    (mRet [0] (mTup (mCons (mV 1) (mCons (m2s gAdd (mV 1) (mFC gMin (mCons (mV 2) (mCons (mV 3) mNil)))) mNil)))))))
def F__law_stretch_by : FSem := runF true 4 m__law_stretch_by
theorem ok__law_stretch_by {Pg : Program} {w : World} {K : PySem.W.Frag} {mg : Str → Option Value} {base : Heap} {f : Addr} {fd : FuncData} (FF : FX fv K mg) (D__law_day_by : DefOk Pg w K mg base "_law_day_by" 5 1 true F__law_day_by) (D__law_take : DefOk Pg w K mg base "_law_take" 4 2 true F__law_take) (Fn : Fun K "_law_stretch_by" "_law_stretch_by" st__law_stretch_by f fd) (gf : mg "_law_stretch_by" = some (.ref f)) : DefOk Pg w K mg base "_law_stretch_by" 6 1 true F__law_stretch_by :=
  def_ok (N := ["_law_stream_here", "_law_begin", "_law_left", "_law_long"]) (ps := ["_law_stream_here"]) (P := [0]) (m := m__law_stretch_by) (F := F__law_stretch_by) (k := 5) (io := true) Fn gf (Fn.binds fun _ _ _ _ _ _ us hl => match us, hl with | [_], _ => rfl) sc__law_stretch_by (fun cdv A outer s H E cx => have sc := sc__law_stretch_by; ⟨_, (vss_cons (vs_set (i := 1) sc.nd rfl (by first | exact .inl rfl | exact .inr rfl) (by decide) (ve_callIoK K D__law_day_by cx.gd cx.hr (by decide) cx.tk rfl (va_cons (ve_var (pv 0)) va_nil)))
    (vss_cons (vs_set (i := 2) sc.nd rfl (by first | exact .inl rfl | exact .inr rfl) (by decide) (ve_op fo_sub ve_int (ve_var (pv 1))))
    (vss_cons (vs_set (i := 3) sc.nd rfl (by first | exact .inl rfl | exact .inr rfl) (by decide) (ve_ixK K (ve_lst (va_cons ve_int (va_cons ve_int (va_cons (ve_callIoK K D__law_take cx.gd cx.hr (by decide) cx.tk rfl (va_cons (ve_var (pv 0)) (va_cons ve_int va_nil))) (va_cons (ve_var (pv 2)) (va_cons (ve_callIoK K D__law_take cx.gd cx.hr (by decide) cx.tk rfl (va_cons (ve_var (pv 0)) (va_cons (ve_ops (so_addK K) (ve_var (pv 2)) ve_int) va_nil))) va_nil)))))) (ve_callIoK K D__law_take cx.gd cx.hr (by decide) cx.tk rfl (va_cons (ve_var (pv 0)) (va_cons ve_int va_nil)))))
    (vss_one (vs_ret (ve_tup (va_cons (ve_var (pv 1)) (va_cons (ve_ops (so_addK K) (ve_var (pv 1)) (ve_callB (fc_min rfl) rfl (ft_n_min FF) bb_min (va_cons (ve_var (pv 2)) (va_cons (ve_var (pv 3)) va_nil)))) va_nil))))))))⟩) (fun _ _ => rfl) (by decide)
/-! ### _law_rows_by -/
def st__law_rows_by : Stmt := top 48
theorem sc__law_rows_by : FnScope ["_law_stream_here", "_law_rows", "_law_turn", "_law_one", "_law_near", "_law_begin"] ["_law_stream_here"] (defScope st__law_rows_by) := ⟨rfl, rfl, rfl, by decide +kernel, rfl, by decide +kernel, by decide +kernel⟩
def m__law_rows_by : Vl.Env → Out Fl := (mSeq (mSet 1 (mLst mNil))
    (mSeq (mFor (mRng (mCons (mCallIo F__law_take (mCons (mV 0) (mCons (mC (.int 9)) mNil))) mNil)) (tgN 2) (mSeq (mSet 3 (mCallIo F__law_stretch_by (mCons (mV 0) mNil)))
    (mSeq (mIfS (mAndT (mB (m2 gNe (mV 1) (mLst mNil))) (mB (m2 gGt (mCallIo F__law_take (mCons (mV 0) (mCons (mC (.int 3)) mNil))) (mC (.int 0))))) (mSeq (mSet 4 (mIx (mV 1) (mCallIo F__law_take (mCons (mV 0) (mCons (mFC gLen (mCons (mV 1) mNil)) mNil)))))
    (mSeq (mSet 5 (mFC gMax (mCons (mC (.int 0)) (mCons (mFC gMin (mCons (mC (.int 99999)) (mCons (m2 gSub_ (m2s gAdd (mIx (mV 4) (mCallIo F__law_take (mCons (mV 0) (mCons (mC (.int 2)) mNil)))) (mCallIo F__law_take (mCons (mV 0) (mCons (mC (.int 7)) mNil)))) (mC (.int 3))) mNil))) mNil))))
    (mSet 3 (mTup (mCons (mV 5) (mCons (mFC gMin (mCons (mC (.int 100000)) (mCons (m2s gAdd (mV 5) (mCallIo F__law_take (mCons (mV 0) (mCons (mC (.int 40)) mNil)))) mNil))) mNil)))))) mSkip)
    (mExpr (mApp 1 (mV 3))))))
    (mRet [0] (mV 1))))
def F__law_rows_by : FSem := runF true 6 m__law_rows_by
theorem ok__law_rows_by {Pg : Program} {w : World} {K : PySem.W.Frag} {mg : Str → Option Value} {base : Heap} {f : Addr} {fd : FuncData} (FF : FX fv K mg) (D__law_take : DefOk Pg w K mg base "_law_take" 4 2 true F__law_take) (D__law_stretch_by : DefOk Pg w K mg base "_law_stretch_by" 6 1 true F__law_stretch_by) (Fn : Fun K "_law_rows_by" "_law_rows_by" st__law_rows_by f fd) (gf : mg "_law_rows_by" = some (.ref f)) : DefOk Pg w K mg base "_law_rows_by" 7 1 true F__law_rows_by :=
  def_ok (N := ["_law_stream_here", "_law_rows", "_law_turn", "_law_one", "_law_near", "_law_begin"]) (ps := ["_law_stream_here"]) (P := [0]) (m := m__law_rows_by) (F := F__law_rows_by) (k := 6) (io := true) Fn gf (Fn.binds fun _ _ _ _ _ _ us hl => match us, hl with | [_], _ => rfl) sc__law_rows_by (fun cdv A outer s H E cx => have sc := sc__law_rows_by; ⟨_, (vss_cons (vs_set (i := 1) sc.nd rfl (by first | exact .inl rfl | exact .inr rfl) (by decide) (ve_lst va_nil))
    (vss_cons (vs_for cx.po rfl (vi_range1 rfl (ft_n_range FF) (va_cons (ve_callIoK K D__law_take cx.gd cx.hr (by decide) cx.tk rfl (va_cons (ve_var (pv 0)) (va_cons ve_int va_nil))) va_nil)) (vg_name (i := 2) sc.nd rfl (by first | exact .inl rfl | exact .inr rfl) (by decide)) (vss_cons (vs_set (i := 3) sc.nd rfl (by first | exact .inl rfl | exact .inr rfl) (by decide) (ve_callIoK K D__law_stretch_by cx.gd cx.hr (by decide) cx.tk rfl (va_cons (ve_var (pv 0)) va_nil)))
    (vss_cons (vs_if (VW.vt (vw_and (vt_cmp (fo_neA cx.hr K) (ve_var (pv 1)) (ve_lst va_nil)) (vw_and1 (vt_cmp fo_gt (ve_callIoK K D__law_take cx.gd cx.hr (by decide) cx.tk rfl (va_cons (ve_var (pv 0)) (va_cons ve_int va_nil))) ve_int)))) (vss_cons (vs_set (i := 4) sc.nd rfl (by first | exact .inl rfl | exact .inr rfl) (by decide) (ve_ixK K (ve_var (pv 1)) (ve_callIoK K D__law_take cx.gd cx.hr (by decide) cx.tk rfl (va_cons (ve_var (pv 0)) (va_cons (ve_callB (fc_lenK K) rfl (ft_n_len FF) bb_len (va_cons (ve_var (pv 1)) va_nil)) va_nil)))))
    (vss_cons (vs_set (i := 5) sc.nd rfl (by first | exact .inl rfl | exact .inr rfl) (by decide) (ve_callB (fc_max rfl) rfl (ft_n_max FF) bb_max (va_cons ve_int (va_cons (ve_callB (fc_min rfl) rfl (ft_n_min FF) bb_min (va_cons ve_int (va_cons (ve_op fo_sub (ve_ops (so_addK K) (ve_ixK K (ve_var (pv 4)) (ve_callIoK K D__law_take cx.gd cx.hr (by decide) cx.tk rfl (va_cons (ve_var (pv 0)) (va_cons ve_int va_nil)))) (ve_callIoK K D__law_take cx.gd cx.hr (by decide) cx.tk rfl (va_cons (ve_var (pv 0)) (va_cons ve_int va_nil)))) ve_int) va_nil))) va_nil))))
    (vss_one (vs_set (i := 3) sc.nd rfl (by first | exact .inl rfl | exact .inr rfl) (by decide) (ve_tup (va_cons (ve_var (pv 5)) (va_cons (ve_callB (fc_min rfl) rfl (ft_n_min FF) bb_min (va_cons ve_int (va_cons (ve_ops (so_addK K) (ve_var (pv 5)) (ve_callIoK K D__law_take cx.gd cx.hr (by decide) cx.tk rfl (va_cons (ve_var (pv 0)) (va_cons ve_int va_nil)))) va_nil))) va_nil))))))) vss_nil)
    (vss_one (vs_expr (ve_appK K (pv 1) (ve_var (pv 3))))))))
    (vss_one (vs_ret (ve_var (pv 1))))))⟩) (fun _ _ => rfl) (by decide)
/-! ### is_whole -/
def st_is_whole : Stmt := top 11
theorem sc_is_whole : FnScope ["thing"] ["thing"] (defScope st_is_whole) := ⟨rfl, rfl, rfl, by decide +kernel, rfl, by decide +kernel, by decide +kernel⟩
def m_is_whole : Vl.Env → Out Fl := (mRet [] (mAnd (m1 g_isi0 (mV 0)) (m1 gNot (m1 g_isi1 (mV 0)))))
def F_is_whole : FSem := runF false 1 m_is_whole
theorem ok_is_whole {Pg : Program} {w : World} {K : PySem.W.Frag} {mg : Str → Option Value} {base : Heap} {f : Addr} {fd : FuncData} (FF : FX fv K mg) (Fn : Fun K "is_whole" "is_whole" st_is_whole f fd) (gf : mg "is_whole" = some (.ref f)) : DefOk Pg w K mg base "is_whole" 3 1 false F_is_whole :=
  def_ok (N := ["thing"]) (ps := ["thing"]) (P := []) (m := m_is_whole) (F := F_is_whole) (k := 2) (io := false) Fn gf (Fn.binds fun _ _ _ _ _ _ us hl => match us, hl with | [_], _ => rfl) sc_is_whole (fun cdv A outer s H E cx => have sc := sc_is_whole; ⟨_, (vss_one (vs_ret (ve_andK K (ve_isi1K K (ft_isi0 FF) (ft_n_isinstance FF) bb_isinstance (ve_var (pv 0)) (pe_bt rfl (ft_n_int FF) bb_int)) (ve_one (ve_notK K (ve_isi1K K (ft_isi1 FF) (ft_n_isinstance FF) bb_isinstance (ve_var (pv 0)) (pe_bt rfl (ft_n_bool FF) bb_bool)))))))⟩) (fun _ _ => rfl) (by decide)
/-! ### is_among -/
def st_is_among : Stmt := top 12
theorem sc_is_among : FnScope ["thing", "least", "most"] ["thing", "least", "most"] (defScope st_is_among) := ⟨rfl, rfl, rfl, by decide +kernel, rfl, by decide +kernel, by decide +kernel⟩
def m_is_among : Vl.Env → Out Fl := (mRet [] (mAnd (mCall F_is_whole (mCons (mV 0) mNil)) (mCh gLe gLe (mV 1) (mV 0) (mV 2))))
def F_is_among : FSem := runF false 3 m_is_among
theorem ok_is_among {Pg : Program} {w : World} {K : PySem.W.Frag} {mg : Str → Option Value} {base : Heap} {f : Addr} {fd : FuncData} (FF : FX fv K mg) (D_is_whole : DefOk Pg w K mg base "is_whole" 3 1 false F_is_whole) (Fn : Fun K "is_among" "is_among" st_is_among f fd) (gf : mg "is_among" = some (.ref f)) : DefOk Pg w K mg base "is_among" 4 3 false F_is_among :=
  def_ok (N := ["thing", "least", "most"]) (ps := ["thing", "least", "most"]) (P := []) (m := m_is_among) (F := F_is_among) (k := 3) (io := false) Fn gf (Fn.binds fun _ _ _ _ _ _ us hl => match us, hl with | [_, _, _], _ => rfl) sc_is_among (fun cdv A outer s H E cx => have sc := sc_is_among; ⟨_, (vss_one (vs_ret (ve_andK K (ve_callK K D_is_whole cx.gd cx.hr (by decide) cx.tk rfl (va_cons (ve_var (pv 0)) va_nil)) (ve_one (ve_chain fo_le fo_le (ve_var (pv 1)) (ve_var (pv 0)) (ve_var (pv 2)))))))⟩) (fun _ _ => rfl) (by decide)
/-! ### is_day -/
def st_is_day : Stmt := top 15
theorem sc_is_day : FnScope ["thing"] ["thing"] (defScope st_is_day) := ⟨rfl, rfl, rfl, by decide +kernel, rfl, by decide +kernel, by decide +kernel⟩
def m_is_day : Vl.Env → Out Fl := (mRet [] (mCall F_is_among (mCons (mV 0) (mCons (mC (.int 0)) (mCons (mC (.int 99999)) mNil)))))
def F_is_day : FSem := runF false 1 m_is_day
theorem ok_is_day {Pg : Program} {w : World} {K : PySem.W.Frag} {mg : Str → Option Value} {base : Heap} {f : Addr} {fd : FuncData} (FF : FX fv K mg) (D_is_among : DefOk Pg w K mg base "is_among" 4 3 false F_is_among) (Fn : Fun K "is_day" "is_day" st_is_day f fd) (gf : mg "is_day" = some (.ref f)) : DefOk Pg w K mg base "is_day" 5 1 false F_is_day :=
  def_ok (N := ["thing"]) (ps := ["thing"]) (P := []) (m := m_is_day) (F := F_is_day) (k := 4) (io := false) Fn gf (Fn.binds fun _ _ _ _ _ _ us hl => match us, hl with | [_], _ => rfl) sc_is_day (fun cdv A outer s H E cx => have sc := sc_is_day; ⟨_, (vss_one (vs_ret (ve_callK K D_is_among cx.gd cx.hr (by decide) cx.tk rfl (va_cons (ve_var (pv 0)) (va_cons ve_int (va_cons (ve_gi rfl (ft_c_LAST_DAY FF)) va_nil))))))⟩) (fun _ _ => rfl) (by decide)
/-! ### is_stretch -/
def st_is_stretch : Stmt := top 19
theorem sc_is_stretch : FnScope ["thing"] ["thing"] (defScope st_is_stretch) := ⟨rfl, rfl, rfl, by decide +kernel, rfl, by decide +kernel, by decide +kernel⟩
def m_is_stretch : Vl.Env → Out Fl := (mSeq (mIfS (mOrT (mNotT (mT (m1 g_isi3 (mV 0)))) (mOrT (mB (m2 gNe (mFC gLen (mCons (mV 0) mNil)) (mC (.int 2)))) (mNotT (mT (mCall F_is_day (mCons (mIx (mV 0) (mC (.int 0))) mNil)))))) (mRet [] (mC (.bl false))) mSkip)
    (mRet [] (mCall F_is_among (mCons (mIx (mV 0) (mC (.int 1))) (mCons (mIx (mV 0) (mC (.int 0))) (mCons (mC (.int 100000)) mNil))))))
def F_is_stretch : FSem := runF false 1 m_is_stretch
theorem ok_is_stretch {Pg : Program} {w : World} {K : PySem.W.Frag} {mg : Str → Option Value} {base : Heap} {f : Addr} {fd : FuncData} (FF : FX fv K mg) (D_is_day : DefOk Pg w K mg base "is_day" 5 1 false F_is_day) (D_is_among : DefOk Pg w K mg base "is_among" 4 3 false F_is_among) (Fn : Fun K "is_stretch" "is_stretch" st_is_stretch f fd) (gf : mg "is_stretch" = some (.ref f)) : DefOk Pg w K mg base "is_stretch" 6 1 false F_is_stretch :=
  def_ok (N := ["thing"]) (ps := ["thing"]) (P := []) (m := m_is_stretch) (F := F_is_stretch) (k := 5) (io := false) Fn gf (Fn.binds fun _ _ _ _ _ _ us hl => match us, hl with | [_], _ => rfl) sc_is_stretch (fun cdv A outer s H E cx => have sc := sc_is_stretch; ⟨_, (vss_cons (vs_if (VW.vt (vw_or (vt_not (vt_truthK K (ve_isi1K K (ft_isi3 FF) (ft_n_isinstance FF) bb_isinstance (ve_var (pv 0)) (pe_bt rfl (ft_n_tuple FF) bb_tuple)))) (vw_or (vt_cmp (fo_neA cx.hr K) (ve_callB (fc_lenK K) rfl (ft_n_len FF) bb_len (va_cons (ve_var (pv 0)) va_nil)) ve_int) (vw_or1 (vt_not (vt_truthK K (ve_callK K D_is_day cx.gd cx.hr (by decide) cx.tk rfl (va_cons (ve_ixK K (ve_var (pv 0)) ve_int) va_nil)))))))) (vss_one (vs_ret ve_bl)) vss_nil)
    (vss_one (vs_ret (ve_callK K D_is_among cx.gd cx.hr (by decide) cx.tk rfl (va_cons (ve_ixK K (ve_var (pv 0)) ve_int) (va_cons (ve_ixK K (ve_var (pv 0)) ve_int) (va_cons (ve_gi rfl (ft_c_BEHIND FF)) va_nil)))))))⟩) (fun _ _ => rfl) (by decide)
/-! ### joined_up -/
def st_joined_up : Stmt := top 25
theorem sc_joined_up : FnScope ["stretches", "found", "begin", "behind", "one"] ["stretches"] (defScope st_joined_up) := ⟨rfl, rfl, rfl, by decide +kernel, rfl, by decide +kernel, by decide +kernel⟩
def m_joined_up : Vl.Env → Out Fl := (mSeq (mIfS (mOrT (mNotT (mT (m1 g_isi4 (mV 0)))) (mNotT (mT (mFC gAll (mCons (mLc 5 [4] (mIt (mV 0)) (tgN 4) mYes (mCall F_is_stretch (mCons (mV 4) mNil))) mNil))))) (mRaiseA "BadStretch" (mCons (mC (.str "a list of stretches is wanted")) mNil)) mSkip)
    (mSeq (mSet 1 (mLst mNil))
    (mSeq (mFor (mIt (mSC gSrtY (mCons (mV 0) mNil))) (tgT (tgC (tgN 2) (tgC (tgN 3) tgNil)) 2) (mIfS (mAndT (mB (m2 gLt (mV 2) (mV 3))) (mAndT (mB (m2 gNe (mV 1) (mLst mNil))) (mB (m2 gLe (mV 2) (mIx (mIx (mV 1) (m1 gNeg (mC (.int 1)))) (mC (.int 1))))))) (mSetIx 1 (mTup (mCons (mIx (mIx (mV 1) (m1 gNeg (mC (.int 1)))) (mC (.int 0))) (mCons (mFC gMax (mCons (mV 3) (mCons (mIx (mIx (mV 1) (m1 gNeg (mC (.int 1)))) (mC (.int 1))) mNil))) mNil))) (m1 gNeg (mC (.int 1)))) (mIfS (mB (m2 gLt (mV 2) (mV 3))) (mExpr (mApp 1 (mTup (mCons (mV 2) (mCons (mV 3) mNil))))) mSkip)))
    (mRet [] (mV 1)))))
def F_joined_up : FSem := runF false 5 m_joined_up
theorem ok_joined_up {Pg : Program} {w : World} {K : PySem.W.Frag} {mg : Str → Option Value} {base : Heap} {f : Addr} {fd : FuncData} (FF : FX fv K mg) (D_is_stretch : DefOk Pg w K mg base "is_stretch" 6 1 false F_is_stretch) (Fn : Fun K "joined_up" "joined_up" st_joined_up f fd) (gf : mg "joined_up" = some (.ref f)) : DefOk Pg w K mg base "joined_up" 7 1 false F_joined_up :=
  def_ok (N := ["stretches", "found", "begin", "behind", "one"]) (ps := ["stretches"]) (P := []) (m := m_joined_up) (F := F_joined_up) (k := 6) (io := false) Fn gf (Fn.binds fun _ _ _ _ _ _ us hl => match us, hl with | [_], _ => rfl) sc_joined_up (fun cdv A outer s H E cx => have sc := sc_joined_up; ⟨_, (vss_cons (vs_if (VW.vt (vw_or (vt_not (vt_truthK K (ve_isiMK K (ft_isi4 FF) (ft_n_isinstance FF) bb_isinstance (ve_var (pv 0)) (pa_cons (pe_bt rfl (ft_n_list FF) bb_list) (pa_cons (pe_bt rfl (ft_n_tuple FF) bb_tuple) pa_nil)) (fun _ _ _ h => h)))) (vw_or1 (vt_not (vt_truthK K (ve_callB (fc_allK K rfl) rfl (ft_n_all FF) bb_all (va_cons (ve_lc (n := 5) (own := [("one", 4)]) rfl sc.nd (vi_anyK K (ve_var (pv 0))) (blkOk_by (by rfl)) (fun _ _ _ _ _ => (vg_name (i := 4) sc.nd rfl (by first | exact .inl rfl | exact .inr rfl) (by decide))) (fun _ _ _ _ _ => vts_nil) (fun _ _ _ _ _ => (ve_callK K D_is_stretch cx.gd cx.hr (by decide) Vl.takes0 rfl (va_cons (ve_var (pv 4)) va_nil)))) va_nil))))))) (vss_one (vs_raiseA rfl cx.tk (ft_x_BadStretch FF) (va_cons ve_str va_nil))) vss_nil)
    (vss_cons (vs_set (i := 1) sc.nd rfl (by first | exact .inl rfl | exact .inr rfl) (by decide) (ve_lst va_nil))
    (vss_cons (vs_for cx.po rfl (vi_anyK K (ve_newB (sc_sortedY K mg cx.hr) rfl (ft_n_sorted FF) bb_sorted (va_cons (ve_var (pv 0)) va_nil))) (vg_tupK K rfl (vgs_cons (vg_name (i := 2) sc.nd rfl (by first | exact .inl rfl | exact .inr rfl) (by decide)) (vgs_cons (vg_name (i := 3) sc.nd rfl (by first | exact .inl rfl | exact .inr rfl) (by decide)) vgs_nil))) (vss_one (vs_if (VW.vt (vw_and (vt_cmp fo_lt (ve_var (pv 2)) (ve_var (pv 3))) (vw_and (vt_cmp (fo_neA cx.hr K) (ve_var (pv 1)) (ve_lst va_nil)) (vw_and1 (vt_cmp fo_le (ve_var (pv 2)) (ve_ixK K (ve_ixK K (ve_var (pv 1)) (ve_neg ve_int)) ve_int)))))) (vss_one (vs_setIx (pv 1) (ve_tup (va_cons (ve_ixK K (ve_ixK K (ve_var (pv 1)) (ve_neg ve_int)) ve_int) (va_cons (ve_callB (fc_max rfl) rfl (ft_n_max FF) bb_max (va_cons (ve_var (pv 3)) (va_cons (ve_ixK K (ve_ixK K (ve_var (pv 1)) (ve_neg ve_int)) ve_int) va_nil))) va_nil))) (ve_neg ve_int))) (vss_one (vs_if (vt_cmp fo_lt (ve_var (pv 2)) (ve_var (pv 3))) (vss_one (vs_expr (ve_appK K (pv 1) (ve_tup (va_cons (ve_var (pv 2)) (va_cons (ve_var (pv 3)) va_nil)))))) vss_nil)))))
    (vss_one (vs_ret (ve_var (pv 1)))))))⟩) (fun _ _ => rfl) (by decide)
/-! ### need_stretch -/
def st_need_stretch : Stmt := top 20
theorem sc_need_stretch : FnScope ["thing"] ["thing"] (defScope st_need_stretch) := ⟨rfl, rfl, rfl, by decide +kernel, rfl, by decide +kernel, by decide +kernel⟩
def m_need_stretch : Vl.Env → Out Fl := (mIfS (mNotT (mT (mCall F_is_stretch (mCons (mV 0) mNil)))) (mRaiseA "BadStretch" (mCons (mC (.str "a stretch of days is wanted")) mNil)) mSkip)
def F_need_stretch : FSem := runF false 1 m_need_stretch
theorem ok_need_stretch {Pg : Program} {w : World} {K : PySem.W.Frag} {mg : Str → Option Value} {base : Heap} {f : Addr} {fd : FuncData} (FF : FX fv K mg) (D_is_stretch : DefOk Pg w K mg base "is_stretch" 6 1 false F_is_stretch) (Fn : Fun K "need_stretch" "need_stretch" st_need_stretch f fd) (gf : mg "need_stretch" = some (.ref f)) : DefOk Pg w K mg base "need_stretch" 7 1 false F_need_stretch :=
  def_ok (N := ["thing"]) (ps := ["thing"]) (P := []) (m := m_need_stretch) (F := F_need_stretch) (k := 6) (io := false) Fn gf (Fn.binds fun _ _ _ _ _ _ us hl => match us, hl with | [_], _ => rfl) sc_need_stretch (fun cdv A outer s H E cx => have sc := sc_need_stretch; ⟨_, (vss_one (vs_if (vt_not (vt_truthK K (ve_callK K D_is_stretch cx.gd cx.hr (by decide) cx.tk rfl (va_cons (ve_var (pv 0)) va_nil)))) (vss_one (vs_raiseA rfl cx.tk (ft_x_BadStretch FF) (va_cons ve_str va_nil))) vss_nil))⟩) (fun _ _ => rfl) (by decide)
/-! ### need_day -/
def st_need_day : Stmt := top 16
theorem sc_need_day : FnScope ["thing"] ["thing"] (defScope st_need_day) := ⟨rfl, rfl, rfl, by decide +kernel, rfl, by decide +kernel, by decide +kernel⟩
def m_need_day : Vl.Env → Out Fl := (mIfS (mNotT (mT (mCall F_is_day (mCons (mV 0) mNil)))) (mRaiseA "BadDay" (mCons (mC (.str "a day is wanted")) mNil)) mSkip)
def F_need_day : FSem := runF false 1 m_need_day
theorem ok_need_day {Pg : Program} {w : World} {K : PySem.W.Frag} {mg : Str → Option Value} {base : Heap} {f : Addr} {fd : FuncData} (FF : FX fv K mg) (D_is_day : DefOk Pg w K mg base "is_day" 5 1 false F_is_day) (Fn : Fun K "need_day" "need_day" st_need_day f fd) (gf : mg "need_day" = some (.ref f)) : DefOk Pg w K mg base "need_day" 6 1 false F_need_day :=
  def_ok (N := ["thing"]) (ps := ["thing"]) (P := []) (m := m_need_day) (F := F_need_day) (k := 5) (io := false) Fn gf (Fn.binds fun _ _ _ _ _ _ us hl => match us, hl with | [_], _ => rfl) sc_need_day (fun cdv A outer s H E cx => have sc := sc_need_day; ⟨_, (vss_one (vs_if (vt_not (vt_truthK K (ve_callK K D_is_day cx.gd cx.hr (by decide) cx.tk rfl (va_cons (ve_var (pv 0)) va_nil)))) (vss_one (vs_raiseA rfl cx.tk (ft_x_BadDay FF) (va_cons ve_str va_nil))) vss_nil))⟩) (fun _ _ => rfl) (by decide)
/-! ### is_within -/
def st_is_within : Stmt := top 23
theorem sc_is_within : FnScope ["stretch", "day"] ["stretch", "day"] (defScope st_is_within) := ⟨rfl, rfl, rfl, by decide +kernel, rfl, by decide +kernel, by decide +kernel⟩
def m_is_within : Vl.Env → Out Fl := (mSeq (mExpr (mCall F_need_stretch (mCons (mV 0) mNil)))
    (mSeq (mExpr (mCall F_need_day (mCons (mV 1) mNil)))
    (mRet [] (mCh gLe gLt (mIx (mV 0) (mC (.int 0))) (mV 1) (mIx (mV 0) (mC (.int 1)))))))
def F_is_within : FSem := runF false 2 m_is_within
theorem ok_is_within {Pg : Program} {w : World} {K : PySem.W.Frag} {mg : Str → Option Value} {base : Heap} {f : Addr} {fd : FuncData} (FF : FX fv K mg) (D_need_stretch : DefOk Pg w K mg base "need_stretch" 7 1 false F_need_stretch) (D_need_day : DefOk Pg w K mg base "need_day" 6 1 false F_need_day) (Fn : Fun K "is_within" "is_within" st_is_within f fd) (gf : mg "is_within" = some (.ref f)) : DefOk Pg w K mg base "is_within" 8 2 false F_is_within :=
  def_ok (N := ["stretch", "day"]) (ps := ["stretch", "day"]) (P := []) (m := m_is_within) (F := F_is_within) (k := 7) (io := false) Fn gf (Fn.binds fun _ _ _ _ _ _ us hl => match us, hl with | [_, _], _ => rfl) sc_is_within (fun cdv A outer s H E cx => have sc := sc_is_within; ⟨_, (vss_cons (vs_expr (ve_callK K D_need_stretch cx.gd cx.hr (by decide) cx.tk rfl (va_cons (ve_var (pv 0)) va_nil)))
    (vss_cons (vs_expr (ve_callK K D_need_day cx.gd cx.hr (by decide) cx.tk rfl (va_cons (ve_var (pv 1)) va_nil)))
    (vss_one (vs_ret (ve_chain fo_le fo_lt (ve_ixK K (ve_var (pv 0)) ve_int) (ve_var (pv 1)) (ve_ixK K (ve_var (pv 0)) ve_int))))))⟩) (fun _ _ => rfl) (by decide)
/-! ### cut_at -/
def st_cut_at : Stmt := top 22
theorem sc_cut_at : FnScope ["stretch", "day"] ["stretch", "day"] (defScope st_cut_at) := ⟨rfl, rfl, rfl, by decide +kernel, rfl, by decide +kernel, by decide +kernel⟩
def m_cut_at : Vl.Env → Out Fl := (mSeq (mExpr (mCall F_need_stretch (mCons (mV 0) mNil)))
    (mSeq (mIfS (mNotT (mT (mCall F_is_among (mCons (mV 1) (mCons (mC (.int 0)) (mCons (mC (.int 100000)) mNil)))))) (mRaiseA "BadDay" (mCons (mC (.str "a day is wanted")) mNil)) mSkip)
    (mRet [] (mTup (mCons (mIx (mV 0) (mC (.int 0))) (mCons (mFC gMax (mCons (mIx (mV 0) (mC (.int 0))) (mCons (mFC gMin (mCons (mIx (mV 0) (mC (.int 1))) (mCons (mV 1) mNil))) mNil))) mNil))))))
def F_cut_at : FSem := runF false 2 m_cut_at
theorem ok_cut_at {Pg : Program} {w : World} {K : PySem.W.Frag} {mg : Str → Option Value} {base : Heap} {f : Addr} {fd : FuncData} (FF : FX fv K mg) (D_need_stretch : DefOk Pg w K mg base "need_stretch" 7 1 false F_need_stretch) (D_is_among : DefOk Pg w K mg base "is_among" 4 3 false F_is_among) (Fn : Fun K "cut_at" "cut_at" st_cut_at f fd) (gf : mg "cut_at" = some (.ref f)) : DefOk Pg w K mg base "cut_at" 8 2 false F_cut_at :=
  def_ok (N := ["stretch", "day"]) (ps := ["stretch", "day"]) (P := []) (m := m_cut_at) (F := F_cut_at) (k := 7) (io := false) Fn gf (Fn.binds fun _ _ _ _ _ _ us hl => match us, hl with | [_, _], _ => rfl) sc_cut_at (fun cdv A outer s H E cx => have sc := sc_cut_at; ⟨_, (vss_cons (vs_expr (ve_callK K D_need_stretch cx.gd cx.hr (by decide) cx.tk rfl (va_cons (ve_var (pv 0)) va_nil)))
    (vss_cons (vs_if (vt_not (vt_truthK K (ve_callK K D_is_among cx.gd cx.hr (by decide) cx.tk rfl (va_cons (ve_var (pv 1)) (va_cons ve_int (va_cons (ve_gi rfl (ft_c_BEHIND FF)) va_nil)))))) (vss_one (vs_raiseA rfl cx.tk (ft_x_BadDay FF) (va_cons ve_str va_nil))) vss_nil)
    (vss_one (vs_ret (ve_tup (va_cons (ve_ixK K (ve_var (pv 0)) ve_int) (va_cons (ve_callB (fc_max rfl) rfl (ft_n_max FF) bb_max (va_cons (ve_ixK K (ve_var (pv 0)) ve_int) (va_cons (ve_callB (fc_min rfl) rfl (ft_n_min FF) bb_min (va_cons (ve_ixK K (ve_var (pv 0)) ve_int) (va_cons (ve_var (pv 1)) va_nil))) va_nil))) va_nil)))))))⟩) (fun _ _ => rfl) (by decide)
/-! ### days_in -/
def st_days_in : Stmt := top 21
theorem sc_days_in : FnScope ["stretch"] ["stretch"] (defScope st_days_in) := ⟨rfl, rfl, rfl, by decide +kernel, rfl, by decide +kernel, by decide +kernel⟩
def m_days_in : Vl.Env → Out Fl := (mSeq (mExpr (mCall F_need_stretch (mCons (mV 0) mNil)))
    (mRet [] (m2 gSub_ (mIx (mV 0) (mC (.int 1))) (mIx (mV 0) (mC (.int 0))))))
def F_days_in : FSem := runF false 1 m_days_in
theorem ok_days_in {Pg : Program} {w : World} {K : PySem.W.Frag} {mg : Str → Option Value} {base : Heap} {f : Addr} {fd : FuncData} (FF : FX fv K mg) (D_need_stretch : DefOk Pg w K mg base "need_stretch" 7 1 false F_need_stretch) (Fn : Fun K "days_in" "days_in" st_days_in f fd) (gf : mg "days_in" = some (.ref f)) : DefOk Pg w K mg base "days_in" 8 1 false F_days_in :=
  def_ok (N := ["stretch"]) (ps := ["stretch"]) (P := []) (m := m_days_in) (F := F_days_in) (k := 7) (io := false) Fn gf (Fn.binds fun _ _ _ _ _ _ us hl => match us, hl with | [_], _ => rfl) sc_days_in (fun cdv A outer s H E cx => have sc := sc_days_in; ⟨_, (vss_cons (vs_expr (ve_callK K D_need_stretch cx.gd cx.hr (by decide) cx.tk rfl (va_cons (ve_var (pv 0)) va_nil)))
    (vss_one (vs_ret (ve_op fo_sub (ve_ixK K (ve_var (pv 0)) ve_int) (ve_ixK K (ve_var (pv 0)) ve_int)))))⟩) (fun _ _ => rfl) (by decide)
/-! ### _law_days_right -/
def st__law_days_right : Stmt := top 49
theorem sc__law_days_right : FnScope ["_law_rows", "_law_joined", "_law_days", "_law_day", "_law_due", "_law_row", "_law_ahead", "_law_rest", "_law_one"] ["_law_rows", "_law_joined", "_law_days"] (defScope st__law_days_right) := ⟨rfl, rfl, rfl, by decide +kernel, rfl, by decide +kernel, by decide +kernel⟩
def m__law_days_right : Vl.Env → Out Fl := (mSeq (mFor (mIt (mV 2)) (tgN 3) (mSeq (mSet 4 (m2 gNe (mLc 9 [5] (mIt (mV 0)) (tgN 5) (mT (mCall F_is_within (mCons (mV 5) (mCons (mV 3) mNil)))) (mV 5)) (mLst mNil)))
    (mSeq (mIfS (mB (m2 gNe (m2 gNe (mLc 9 [8] (mIt (mV 1)) (tgN 8) (mT (mCall F_is_within (mCons (mV 8) (mCons (mV 3) mNil)))) (mV 8)) (mLst mNil)) (mV 4))) (mRet [] (mC (.bl false))) mSkip)
    (mFor (mIt (mV 0)) (tgN 5) (mSeq (mSet 6 (mCall F_cut_at (mCons (mV 5) (mCons (mV 3) mNil))))
    (mSeq (mSet 7 (mTup (mCons (mFC gMax (mCons (mIx (mV 5) (mC (.int 0))) (mCons (mFC gMin (mCons (mIx (mV 5) (mC (.int 1))) (mCons (mV 3) mNil))) mNil))) (mCons (mIx (mV 5) (mC (.int 1))) mNil))))
    (mSeq (mIfS (mOrT (mNotT (mT (mCall F_is_stretch (mCons (mV 6) mNil)))) (mB (m2 gNe (m2s gAdd (mCall F_days_in (mCons (mV 6) mNil)) (mCall F_days_in (mCons (mV 7) mNil))) (mCall F_days_in (mCons (mV 5) mNil))))) (mRet [] (mC (.bl false))) mSkip)
    (mIfS (mOrT (mB (m2 gGt (mIx (mV 6) (mC (.int 1))) (mFC gMax (mCons (mV 3) (mCons (mIx (mV 5) (mC (.int 0))) mNil))))) (mAndT (mB (m2 gGt (mCall F_days_in (mCons (mV 6) mNil)) (mC (.int 0)))) (mT (mCall F_is_within (mCons (mV 6) (mCons (mV 3) mNil)))))) (mRet [] (mC (.bl false))) mSkip))))))))
    (mRet [] (mC (.bl true))))
def F__law_days_right : FSem := runF false 9 m__law_days_right
theorem ok__law_days_right {Pg : Program} {w : World} {K : PySem.W.Frag} {mg : Str → Option Value} {base : Heap} {f : Addr} {fd : FuncData} (FF : FX fv K mg) (D_is_within : DefOk Pg w K mg base "is_within" 8 2 false F_is_within) (D_cut_at : DefOk Pg w K mg base "cut_at" 8 2 false F_cut_at) (D_is_stretch : DefOk Pg w K mg base "is_stretch" 6 1 false F_is_stretch) (D_days_in : DefOk Pg w K mg base "days_in" 8 1 false F_days_in) (Fn : Fun K "_law_days_right" "_law_days_right" st__law_days_right f fd) (gf : mg "_law_days_right" = some (.ref f)) : DefOk Pg w K mg base "_law_days_right" 9 3 false F__law_days_right :=
  def_ok (N := ["_law_rows", "_law_joined", "_law_days", "_law_day", "_law_due", "_law_row", "_law_ahead", "_law_rest", "_law_one"]) (ps := ["_law_rows", "_law_joined", "_law_days"]) (P := []) (m := m__law_days_right) (F := F__law_days_right) (k := 8) (io := false) Fn gf (Fn.binds fun _ _ _ _ _ _ us hl => match us, hl with | [_, _, _], _ => rfl) sc__law_days_right (fun cdv A outer s H E cx => have sc := sc__law_days_right; ⟨_, (vss_cons (vs_for cx.po rfl (vi_anyK K (ve_var (pv 2))) (vg_name (i := 3) sc.nd rfl (by first | exact .inl rfl | exact .inr rfl) (by decide)) (vss_cons (vs_set (i := 4) sc.nd rfl (by first | exact .inl rfl | exact .inr rfl) (by decide) (ve_cmp (fo_neA cx.hr K) (ve_lc (n := 9) (own := [("_law_row", 5)]) rfl sc.nd (vi_anyK K (ve_var (pv 0))) (blkOk_by (by rfl)) (fun _ _ _ _ _ => (vg_name (i := 5) sc.nd rfl (by first | exact .inl rfl | exact .inr rfl) (by decide))) (fun _ _ _ _ _ => (vts_one (vt_truthK K (ve_callK K D_is_within cx.gd cx.hr (by decide) Vl.takes0 rfl (va_cons (ve_var (pv 5)) (va_cons (ve_var (pv 3)) va_nil)))))) (fun _ _ _ _ _ => (ve_var (pv 5)))) (ve_lst va_nil)))
    (vss_cons (vs_if (vt_cmp (fo_neA cx.hr K) (ve_cmp (fo_neA cx.hr K) (ve_lc (n := 9) (own := [("_law_one", 8)]) rfl sc.nd (vi_anyK K (ve_var (pv 1))) (blkOk_by (by rfl)) (fun _ _ _ _ _ => (vg_name (i := 8) sc.nd rfl (by first | exact .inl rfl | exact .inr rfl) (by decide))) (fun _ _ _ _ _ => (vts_one (vt_truthK K (ve_callK K D_is_within cx.gd cx.hr (by decide) Vl.takes0 rfl (va_cons (ve_var (pv 8)) (va_cons (ve_var (pv 3)) va_nil)))))) (fun _ _ _ _ _ => (ve_var (pv 8)))) (ve_lst va_nil)) (ve_var (pv 4))) (vss_one (vs_ret ve_bl)) vss_nil)
    (vss_one (vs_for cx.po rfl (vi_anyK K (ve_var (pv 0))) (vg_name (i := 5) sc.nd rfl (by first | exact .inl rfl | exact .inr rfl) (by decide)) (vss_cons (vs_set (i := 6) sc.nd rfl (by first | exact .inl rfl | exact .inr rfl) (by decide) (ve_callK K D_cut_at cx.gd cx.hr (by decide) cx.tk rfl (va_cons (ve_var (pv 5)) (va_cons (ve_var (pv 3)) va_nil))))
    (vss_cons (vs_set (i := 7) sc.nd rfl (by first | exact .inl rfl | exact .inr rfl) (by decide) (ve_tup (va_cons (ve_callB (fc_max rfl) rfl (ft_n_max FF) bb_max (va_cons (ve_ixK K (ve_var (pv 5)) ve_int) (va_cons (ve_callB (fc_min rfl) rfl (ft_n_min FF) bb_min (va_cons (ve_ixK K (ve_var (pv 5)) ve_int) (va_cons (ve_var (pv 3)) va_nil))) va_nil))) (va_cons (ve_ixK K (ve_var (pv 5)) ve_int) va_nil))))
    (vss_cons (vs_if (VW.vt (vw_or (vt_not (vt_truthK K (ve_callK K D_is_stretch cx.gd cx.hr (by decide) cx.tk rfl (va_cons (ve_var (pv 6)) va_nil)))) (vw_or1 (vt_cmp (fo_neA cx.hr K) (ve_ops (so_addK K) (ve_callK K D_days_in cx.gd cx.hr (by decide) cx.tk rfl (va_cons (ve_var (pv 6)) va_nil)) (ve_callK K D_days_in cx.gd cx.hr (by decide) cx.tk rfl (va_cons (ve_var (pv 7)) va_nil))) (ve_callK K D_days_in cx.gd cx.hr (by decide) cx.tk rfl (va_cons (ve_var (pv 5)) va_nil)))))) (vss_one (vs_ret ve_bl)) vss_nil)
    (vss_one (vs_if (VW.vt (vw_or (vt_cmp fo_gt (ve_ixK K (ve_var (pv 6)) ve_int) (ve_callB (fc_max rfl) rfl (ft_n_max FF) bb_max (va_cons (ve_var (pv 3)) (va_cons (ve_ixK K (ve_var (pv 5)) ve_int) va_nil)))) (vw_or1 (VW.vt (vw_and (vt_cmp fo_gt (ve_callK K D_days_in cx.gd cx.hr (by decide) cx.tk rfl (va_cons (ve_var (pv 6)) va_nil)) ve_int) (vw_and1 (vt_truthK K (ve_callK K D_is_within cx.gd cx.hr (by decide) cx.tk rfl (va_cons (ve_var (pv 6)) (va_cons (ve_var (pv 3)) va_nil)))))))))) (vss_one (vs_ret ve_bl)) vss_nil))))))))))
    (vss_one (vs_ret ve_bl)))⟩) (fun _ _ => rfl) (by decide)
/-! ### shared_days -/
def st_shared_days : Stmt := top 24
theorem sc_shared_days : FnScope ["one", "other"] ["one", "other"] (defScope st_shared_days) := ⟨rfl, rfl, rfl, by decide +kernel, rfl, by decide +kernel, by decide +kernel⟩
def m_shared_days : Vl.Env → Out Fl := (mSeq (mExpr (mCall F_need_stretch (mCons (mV 0) mNil)))
    (mSeq (mExpr (mCall F_need_stretch (mCons (mV 1) mNil)))
    (mRet [] (mFC gMax (mCons (mC (.int 0)) (mCons (m2 gSub_ (mFC gMin (mCons (mIx (mV 0) (mC (.int 1))) (mCons (mIx (mV 1) (mC (.int 1))) mNil))) (mFC gMax (mCons (mIx (mV 0) (mC (.int 0))) (mCons (mIx (mV 1) (mC (.int 0))) mNil)))) mNil))))))
def F_shared_days : FSem := runF false 2 m_shared_days
theorem ok_shared_days {Pg : Program} {w : World} {K : PySem.W.Frag} {mg : Str → Option Value} {base : Heap} {f : Addr} {fd : FuncData} (FF : FX fv K mg) (D_need_stretch : DefOk Pg w K mg base "need_stretch" 7 1 false F_need_stretch) (Fn : Fun K "shared_days" "shared_days" st_shared_days f fd) (gf : mg "shared_days" = some (.ref f)) : DefOk Pg w K mg base "shared_days" 8 2 false F_shared_days :=
  def_ok (N := ["one", "other"]) (ps := ["one", "other"]) (P := []) (m := m_shared_days) (F := F_shared_days) (k := 7) (io := false) Fn gf (Fn.binds fun _ _ _ _ _ _ us hl => match us, hl with | [_, _], _ => rfl) sc_shared_days (fun cdv A outer s H E cx => have sc := sc_shared_days; ⟨_, (vss_cons (vs_expr (ve_callK K D_need_stretch cx.gd cx.hr (by decide) cx.tk rfl (va_cons (ve_var (pv 0)) va_nil)))
    (vss_cons (vs_expr (ve_callK K D_need_stretch cx.gd cx.hr (by decide) cx.tk rfl (va_cons (ve_var (pv 1)) va_nil)))
    (vss_one (vs_ret (ve_callB (fc_max rfl) rfl (ft_n_max FF) bb_max (va_cons ve_int (va_cons (ve_op fo_sub (ve_callB (fc_min rfl) rfl (ft_n_min FF) bb_min (va_cons (ve_ixK K (ve_var (pv 0)) ve_int) (va_cons (ve_ixK K (ve_var (pv 1)) ve_int) va_nil))) (ve_callB (fc_max rfl) rfl (ft_n_max FF) bb_max (va_cons (ve_ixK K (ve_var (pv 0)) ve_int) (va_cons (ve_ixK K (ve_var (pv 1)) ve_int) va_nil)))) va_nil)))))))⟩) (fun _ _ => rfl) (by decide)
/-! ### _law_counts_right -/
def st__law_counts_right : Stmt := top 50
theorem sc__law_counts_right : FnScope ["_law_rows", "_law_joined", "_law_many", "_law_twice", "_law_at", "_law_row", "_law_most", "_law_one", "_law_other"] ["_law_rows", "_law_joined"] (defScope st__law_counts_right) := ⟨rfl, rfl, rfl, by decide +kernel, rfl, by decide +kernel, by decide +kernel⟩
def m__law_counts_right : Vl.Env → Out Fl := (mSeq (mSet 2 (mFC gSum (mCons (mLc 9 [7] (mIt (mV 1)) (tgN 7) mYes (mCall F_days_in (mCons (mV 7) mNil))) mNil)))
    (mSeq (mSet 3 (mC (.int 0)))
    (mSeq (mFor (mEnumX (mCons (mV 0) mNil)) (tgT (tgC (tgN 4) (tgC (tgN 5) tgNil)) 2) (mSeq (mIfS (mB (m2 gNe (mFC gSum (mCons (mLc 9 [7] (mIt (mV 1)) (tgN 7) mYes (mCall F_shared_days (mCons (mV 5) (mCons (mV 7) mNil)))) mNil)) (mCall F_days_in (mCons (mV 5) mNil)))) (mRet [] (mC (.bl false))) mSkip)
    (mSet 3 (m2s gAdd (mV 3) (mFC gSum (mCons (mLc 9 [8] (mIt (mSl (mV 0) mNoP (mPart (mV 4)))) (tgN 8) mYes (mCall F_shared_days (mCons (mV 5) (mCons (mV 8) mNil)))) mNil))))))
    (mSeq (mSet 6 (mFC gSum (mCons (mLc 9 [5] (mIt (mV 0)) (tgN 5) mYes (mCall F_days_in (mCons (mV 5) mNil))) mNil)))
    (mRet [] (mCh gLe gLe (m2 gSub_ (mV 6) (mV 3)) (mV 2) (mV 6)))))))
def F__law_counts_right : FSem := runF false 9 m__law_counts_right
theorem ok__law_counts_right {Pg : Program} {w : World} {K : PySem.W.Frag} {mg : Str → Option Value} {base : Heap} {f : Addr} {fd : FuncData} (FF : FX fv K mg) (D_days_in : DefOk Pg w K mg base "days_in" 8 1 false F_days_in) (D_shared_days : DefOk Pg w K mg base "shared_days" 8 2 false F_shared_days) (Fn : Fun K "_law_counts_right" "_law_counts_right" st__law_counts_right f fd) (gf : mg "_law_counts_right" = some (.ref f)) : DefOk Pg w K mg base "_law_counts_right" 9 2 false F__law_counts_right :=
  def_ok (N := ["_law_rows", "_law_joined", "_law_many", "_law_twice", "_law_at", "_law_row", "_law_most", "_law_one", "_law_other"]) (ps := ["_law_rows", "_law_joined"]) (P := []) (m := m__law_counts_right) (F := F__law_counts_right) (k := 8) (io := false) Fn gf (Fn.binds fun _ _ _ _ _ _ us hl => match us, hl with | [_, _], _ => rfl) sc__law_counts_right (fun cdv A outer s H E cx => have sc := sc__law_counts_right; ⟨_, (vss_cons (vs_set (i := 2) sc.nd rfl (by first | exact .inl rfl | exact .inr rfl) (by decide) (ve_callB (fc_sumK K rfl) rfl (ft_n_sum FF) bb_sum (va_cons (ve_lc (n := 9) (own := [("_law_one", 7)]) rfl sc.nd (vi_anyK K (ve_var (pv 1))) (blkOk_by (by rfl)) (fun _ _ _ _ _ => (vg_name (i := 7) sc.nd rfl (by first | exact .inl rfl | exact .inr rfl) (by decide))) (fun _ _ _ _ _ => vts_nil) (fun _ _ _ _ _ => (ve_callK K D_days_in cx.gd cx.hr (by decide) Vl.takes0 rfl (va_cons (ve_var (pv 7)) va_nil)))) va_nil)))
    (vss_cons (vs_set (i := 3) sc.nd rfl (by first | exact .inl rfl | exact .inr rfl) (by decide) ve_int)
    (vss_cons (vs_for cx.po rfl (vi_enumX K rfl (ft_n_enumerate FF) (va_cons (ve_var (pv 0)) va_nil)) (vg_tupK K rfl (vgs_cons (vg_name (i := 4) sc.nd rfl (by first | exact .inl rfl | exact .inr rfl) (by decide)) (vgs_cons (vg_name (i := 5) sc.nd rfl (by first | exact .inl rfl | exact .inr rfl) (by decide)) vgs_nil))) (vss_cons (vs_if (vt_cmp (fo_neA cx.hr K) (ve_callB (fc_sumK K rfl) rfl (ft_n_sum FF) bb_sum (va_cons (ve_lc (n := 9) (own := [("_law_one", 7)]) rfl sc.nd (vi_anyK K (ve_var (pv 1))) (blkOk_by (by rfl)) (fun _ _ _ _ _ => (vg_name (i := 7) sc.nd rfl (by first | exact .inl rfl | exact .inr rfl) (by decide))) (fun _ _ _ _ _ => vts_nil) (fun _ _ _ _ _ => (ve_callK K D_shared_days cx.gd cx.hr (by decide) Vl.takes0 rfl (va_cons (ve_var (pv 5)) (va_cons (ve_var (pv 7)) va_nil))))) va_nil)) (ve_callK K D_days_in cx.gd cx.hr (by decide) cx.tk rfl (va_cons (ve_var (pv 5)) va_nil))) (vss_one (vs_ret ve_bl)) vss_nil)
    (vss_one (vs_set (i := 3) sc.nd rfl (by first | exact .inl rfl | exact .inr rfl) (by decide) (ve_ops (so_addK K) (ve_var (pv 3)) (ve_callB (fc_sumK K rfl) rfl (ft_n_sum FF) bb_sum (va_cons (ve_lc (n := 9) (own := [("_law_other", 8)]) rfl sc.nd (vi_anyK K (ve_slK K (ve_var (pv 0)) vo_none (vo_some (ve_var (pv 4))))) (blkOk_by (by rfl)) (fun _ _ _ _ _ => (vg_name (i := 8) sc.nd rfl (by first | exact .inl rfl | exact .inr rfl) (by decide))) (fun _ _ _ _ _ => vts_nil) (fun _ _ _ _ _ => (ve_callK K D_shared_days cx.gd cx.hr (by decide) Vl.takes0 rfl (va_cons (ve_var (pv 5)) (va_cons (ve_var (pv 8)) va_nil))))) va_nil)))))))
    (vss_cons (vs_set (i := 6) sc.nd rfl (by first | exact .inl rfl | exact .inr rfl) (by decide) (ve_callB (fc_sumK K rfl) rfl (ft_n_sum FF) bb_sum (va_cons (ve_lc (n := 9) (own := [("_law_row", 5)]) rfl sc.nd (vi_anyK K (ve_var (pv 0))) (blkOk_by (by rfl)) (fun _ _ _ _ _ => (vg_name (i := 5) sc.nd rfl (by first | exact .inl rfl | exact .inr rfl) (by decide))) (fun _ _ _ _ _ => vts_nil) (fun _ _ _ _ _ => (ve_callK K D_days_in cx.gd cx.hr (by decide) Vl.takes0 rfl (va_cons (ve_var (pv 5)) va_nil)))) va_nil)))
    (vss_one (vs_ret (ve_chain fo_le fo_le (ve_op fo_sub (ve_var (pv 6)) (ve_var (pv 3))) (ve_var (pv 2)) (ve_var (pv 6)))))))))⟩) (fun _ _ => rfl) (by decide)
/-! ### _law_name_by -/
def st__law_name_by : Stmt := top 43
theorem sc__law_name_by : FnScope ["_law_stream_here", "_law_letters", "_law_turn"] ["_law_stream_here"] (defScope st__law_name_by) := ⟨rfl, rfl, rfl, by decide +kernel, rfl, by decide +kernel, by decide +kernel⟩
def m__law_name_by : Vl.Env → Out Fl := (mSeq (mSet 1 (mC (.str "abcdefghijklmnopqrstuvwxyz")))
    (mRet [0] (mJoin (mC (.str "")) (mLc 3 [2] (mRng (mCons (m2s gAdd (mC (.int 1)) (mCallIo F__law_take (mCons (mV 0) (mCons (mC (.int 8)) mNil)))) mNil)) (tgN 2) mYes (mIx (mV 1) (mCallIo F__law_take (mCons (mV 0) (mCons (mC (.int 26)) mNil))))))))
def F__law_name_by : FSem := runF true 3 m__law_name_by
theorem ok__law_name_by {Pg : Program} {w : World} {K : PySem.W.Frag} {mg : Str → Option Value} {base : Heap} {f : Addr} {fd : FuncData} (FF : FX fv K mg) (D__law_take : DefOk Pg w K mg base "_law_take" 4 2 true F__law_take) (Fn : Fun K "_law_name_by" "_law_name_by" st__law_name_by f fd) (gf : mg "_law_name_by" = some (.ref f)) : DefOk Pg w K mg base "_law_name_by" 5 1 true F__law_name_by :=
  def_ok (N := ["_law_stream_here", "_law_letters", "_law_turn"]) (ps := ["_law_stream_here"]) (P := [0]) (m := m__law_name_by) (F := F__law_name_by) (k := 4) (io := true) Fn gf (Fn.binds fun _ _ _ _ _ _ us hl => match us, hl with | [_], _ => rfl) sc__law_name_by (fun cdv A outer s H E cx => have sc := sc__law_name_by; ⟨_, (vss_cons (vs_set (i := 1) sc.nd rfl (by first | exact .inl rfl | exact .inr rfl) (by decide) ve_str)
    (vss_one (vs_ret (ve_joinK K ve_str (ve_lc (n := 3) (own := [("_law_turn", 2)]) rfl sc.nd (vi_range1 rfl (ft_n_range FF) (va_cons (ve_ops (so_addK K) ve_int (ve_callIoK K D__law_take cx.gd cx.hr (by decide) cx.tk rfl (va_cons (ve_var (pv 0)) (va_cons ve_int va_nil)))) va_nil)) (blkOk_by (by rfl)) (fun _ _ _ _ _ => (vg_name (i := 2) sc.nd rfl (by first | exact .inl rfl | exact .inr rfl) (by decide))) (fun _ _ _ _ _ => vts_nil) (fun _ _ _ _ _ => (ve_ixK K (ve_var (pv 1)) (ve_callIoK K D__law_take cx.gd cx.hr (by decide) Vl.takes0 rfl (va_cons (ve_var (pv 0)) (va_cons ve_int va_nil))))))))))⟩) (fun _ _ => rfl) (by decide)
/-! ### _law_names_by -/
def st__law_names_by : Stmt := top 44
theorem sc__law_names_by : FnScope ["_law_stream_here", "_law_many", "_law_kind", "_law_base", "_law_found", "_law_turn", "_law_one", "_law_at"] ["_law_stream_here", "_law_many"] (defScope st__law_names_by) := ⟨rfl, rfl, rfl, by decide +kernel, rfl, by decide +kernel, by decide +kernel⟩
def m__law_names_by : Vl.Env → Out Fl := (mSeq (mPar 2 3 (mCons (mCallIo F__law_take (mCons (mV 0) (mCons (mC (.int 3)) mNil))) (mCons (mCallIo F__law_name_by (mCons (mV 0) mNil)) mNil)))
    (mSeq (mSet 4 (mLst mNil))
    (mSeq (mFor (mRng (mCons (mV 1) mNil)) (tgN 5) (mSeq (mSet 6 (mCallIo F__law_name_by (mCons (mV 0) mNil)))
    (mSeq (mIfS (mB (m2 gEqX (mV 2) (mC (.int 1)))) (mSet 6 (mSl (m2s gMulX (mV 3) (mC (.int 8))) mNoP (mPart (m2s gAdd (mC (.int 1)) (m2 gMod_ (mV 5) (mC (.int 8))))))) mSkip)
    (mSeq (mIfS (mB (m2 gEqX (mV 2) (mC (.int 2)))) (mSeq (mSet 7 (m2 gDiv_ (mFC gLen (mCons (mV 3) mNil)) (mC (.int 2))))
    (mSet 6 (m2s gAdd (m2s gAdd (mSl (mV 3) mNoP (mPart (mV 7))) (mIx (mC (.str "abcdefghijklmnopqrstuvwxyz")) (m2 gMod_ (m2s gAdd (mCallIo F__law_take (mCons (mV 0) (mCons (mC (.int 26)) mNil))) (mV 5)) (mC (.int 26))))) (mSl (mV 3) (mPart (m2s gAdd (mV 7) (mC (.int 1)))) mNoP)))) mSkip)
    (mIfS (mB (m2 (gIn true) (mV 6) (mV 4))) (mExpr (mApp 4 (mV 6))) mSkip)))))
    (mRet [0] (mV 4)))))
def F__law_names_by : FSem := runF true 8 m__law_names_by
theorem ok__law_names_by {Pg : Program} {w : World} {K : PySem.W.Frag} {mg : Str → Option Value} {base : Heap} {f : Addr} {fd : FuncData} (FF : FX fv K mg) (D__law_take : DefOk Pg w K mg base "_law_take" 4 2 true F__law_take) (D__law_name_by : DefOk Pg w K mg base "_law_name_by" 5 1 true F__law_name_by) (Fn : Fun K "_law_names_by" "_law_names_by" st__law_names_by f fd) (gf : mg "_law_names_by" = some (.ref f)) : DefOk Pg w K mg base "_law_names_by" 6 2 true F__law_names_by :=
  def_ok (N := ["_law_stream_here", "_law_many", "_law_kind", "_law_base", "_law_found", "_law_turn", "_law_one", "_law_at"]) (ps := ["_law_stream_here", "_law_many"]) (P := [0]) (m := m__law_names_by) (F := F__law_names_by) (k := 5) (io := true) Fn gf (Fn.binds fun _ _ _ _ _ _ us hl => match us, hl with | [_, _], _ => rfl) sc__law_names_by (fun cdv A outer s H E cx => have sc := sc__law_names_by; ⟨_, (vss_cons (vs_par (i := 2) (j := 3) rfl sc.nd rfl rfl (by decide) rfl rfl (by decide) (by decide) (va_cons (ve_callIoK K D__law_take cx.gd cx.hr (by decide) cx.tk rfl (va_cons (ve_var (pv 0)) (va_cons ve_int va_nil))) (va_cons (ve_callIoK K D__law_name_by cx.gd cx.hr (by decide) cx.tk rfl (va_cons (ve_var (pv 0)) va_nil)) va_nil)) (by rfl))
    (vss_cons (vs_set (i := 4) sc.nd rfl (by first | exact .inl rfl | exact .inr rfl) (by decide) (ve_lst va_nil))
    (vss_cons (vs_for cx.po rfl (vi_range1 rfl (ft_n_range FF) (va_cons (ve_var (pv 1)) va_nil)) (vg_name (i := 5) sc.nd rfl (by first | exact .inl rfl | exact .inr rfl) (by decide)) (vss_cons (vs_set (i := 6) sc.nd rfl (by first | exact .inl rfl | exact .inr rfl) (by decide) (ve_callIoK K D__law_name_by cx.gd cx.hr (by decide) cx.tk rfl (va_cons (ve_var (pv 0)) va_nil)))
    (vss_cons (vs_if (vt_cmp (fo_eqX cx.hr K) (ve_var (pv 2)) ve_int) (vss_one (vs_set (i := 6) sc.nd rfl (by first | exact .inl rfl | exact .inr rfl) (by decide) (ve_slK K (ve_ops so_mul (ve_var (pv 3)) ve_int) vo_none (vo_some (ve_ops (so_addK K) ve_int (ve_op fo_mod (ve_var (pv 5)) ve_int)))))) vss_nil)
    (vss_cons (vs_if (vt_cmp (fo_eqX cx.hr K) (ve_var (pv 2)) ve_int) (vss_cons (vs_set (i := 7) sc.nd rfl (by first | exact .inl rfl | exact .inr rfl) (by decide) (ve_op fo_fdiv (ve_callB (fc_lenK K) rfl (ft_n_len FF) bb_len (va_cons (ve_var (pv 3)) va_nil)) ve_int))
    (vss_one (vs_set (i := 6) sc.nd rfl (by first | exact .inl rfl | exact .inr rfl) (by decide) (ve_ops (so_addK K) (ve_ops (so_addK K) (ve_slK K (ve_var (pv 3)) vo_none (vo_some (ve_var (pv 7)))) (ve_ixK K ve_str (ve_op fo_mod (ve_ops (so_addK K) (ve_callIoK K D__law_take cx.gd cx.hr (by decide) cx.tk rfl (va_cons (ve_var (pv 0)) (va_cons ve_int va_nil))) (ve_var (pv 5))) ve_int))) (ve_slK K (ve_var (pv 3)) (vo_some (ve_ops (so_addK K) (ve_var (pv 7)) ve_int)) vo_none))))) vss_nil)
    (vss_one (vs_if (vt_cmp (fo_notinA cx.hr K) (ve_var (pv 6)) (ve_var (pv 4))) (vss_one (vs_expr (ve_appK K (pv 4) (ve_var (pv 6))))) vss_nil))))))
    (vss_one (vs_ret (ve_var (pv 4)))))))⟩) (fun _ _ => rfl) (by decide)
/-! ### _law_rules_by -/
def st__law_rules_by : Stmt := top 45
theorem sc__law_rules_by : FnScope ["_law_stream_here", "_law_names", "_law_found", "_law_least", "_law_most", "_law_kind", "_law_some", "_law_shares", "_law_name"] ["_law_stream_here", "_law_names"] (defScope st__law_rules_by) := ⟨rfl, rfl, rfl, by decide +kernel, rfl, by decide +kernel, by decide +kernel⟩
def m__law_rules_by : Vl.Env → Out Fl := (mSeq (mSet 2 (mLst mNil))
    (mSeq (mFor (mIt (mTup (mCons (mTup (mCons (mC (.int 0)) (mCons (mC (.int 9999)) mNil))) (mCons (mTup (mCons (mC (.int 0)) (mCons (mC (.int 9999)) mNil))) (mCons (mTup (mCons (mC (.int 1)) (mCons (mC (.int 9)) mNil))) (mCons (mTup (mCons (mC (.int 0)) (mCons (mC (.int 999)) mNil))) (mCons (mTup (mCons (mC (.int 1)) (mCons (mC (.int 99999)) mNil))) (mCons (mTup (mCons (mC (.int 1)) (mCons (mC (.int 9)) mNil))) (mCons (mTup (mCons (mC (.int 0)) (mCons (mC (.int 9999)) mNil))) mNil))))))))) (tgT (tgC (tgN 3) (tgC (tgN 4) tgNil)) 2) (mSeq (mSet 5 (mCallIo F__law_take (mCons (mV 0) (mCons (mC (.int 4)) mNil))))
    (mSeq (mSet 6 (mLst (mCons (mV 3) (mCons (mV 4) (mCons (mFC gMin (mCons (mV 4) (mCons (m2s gAdd (mV 3) (mCallIo F__law_take (mCons (mV 0) (mCons (mC (.int 9)) mNil)))) mNil))) (mCons (m2s gAdd (mV 3) (mCallIo F__law_take (mCons (mV 0) (mCons (m2s gAdd (m2 gSub_ (mV 4) (mV 3)) (mC (.int 1))) mNil)))) mNil))))))
    (mExpr (mApp 2 (mIx (mV 6) (mV 5)))))))
    (mSeq (mSet 7 (mLc 9 [8] (mIt (mSC gSrtY (mCons (mV 1) mNil))) (tgN 8) mYes (mTup (mCons (mV 8) (mCons (mIx (mLst (mCons (mC (.int 0)) (mCons (mC (.int 100)) (mCons (mCallIo F__law_take (mCons (mV 0) (mCons (mC (.int 101)) mNil))) mNil)))) (mCallIo F__law_take (mCons (mV 0) (mCons (mC (.int 3)) mNil)))) mNil)))))
    (mRet [0] (m2s gAdd (mSC gTupOf (mCons (mV 2) mNil)) (mTup (mCons (mSC gTupOf (mCons (mSl (mV 7) mNoP (mPart (mC (.int 8)))) mNil)) mNil)))))))
def F__law_rules_by : FSem := runF true 9 m__law_rules_by
theorem ok__law_rules_by {Pg : Program} {w : World} {K : PySem.W.Frag} {mg : Str → Option Value} {base : Heap} {f : Addr} {fd : FuncData} (FF : FX fv K mg) (D__law_take : DefOk Pg w K mg base "_law_take" 4 2 true F__law_take) (Fn : Fun K "_law_rules_by" "_law_rules_by" st__law_rules_by f fd) (gf : mg "_law_rules_by" = some (.ref f)) : DefOk Pg w K mg base "_law_rules_by" 5 2 true F__law_rules_by :=
  def_ok (N := ["_law_stream_here", "_law_names", "_law_found", "_law_least", "_law_most", "_law_kind", "_law_some", "_law_shares", "_law_name"]) (ps := ["_law_stream_here", "_law_names"]) (P := [0]) (m := m__law_rules_by) (F := F__law_rules_by) (k := 4) (io := true) Fn gf (Fn.binds fun _ _ _ _ _ _ us hl => match us, hl with | [_, _], _ => rfl) sc__law_rules_by (fun cdv A outer s H E cx => have sc := sc__law_rules_by; ⟨_, (vss_cons (vs_set (i := 2) sc.nd rfl (by first | exact .inl rfl | exact .inr rfl) (by decide) (ve_lst va_nil))
    (vss_cons (vs_for cx.po rfl (vi_anyK K (ve_tup (va_cons (ve_tup (va_cons ve_int (va_cons ve_int va_nil))) (va_cons (ve_tup (va_cons ve_int (va_cons ve_int va_nil))) (va_cons (ve_tup (va_cons ve_int (va_cons ve_int va_nil))) (va_cons (ve_tup (va_cons ve_int (va_cons ve_int va_nil))) (va_cons (ve_tup (va_cons ve_int (va_cons ve_int va_nil))) (va_cons (ve_tup (va_cons ve_int (va_cons ve_int va_nil))) (va_cons (ve_tup (va_cons ve_int (va_cons ve_int va_nil))) va_nil))))))))) (vg_tupK K rfl (vgs_cons (vg_name (i := 3) sc.nd rfl (by first | exact .inl rfl | exact .inr rfl) (by decide)) (vgs_cons (vg_name (i := 4) sc.nd rfl (by first | exact .inl rfl | exact .inr rfl) (by decide)) vgs_nil))) (vss_cons (vs_set (i := 5) sc.nd rfl (by first | exact .inl rfl | exact .inr rfl) (by decide) (ve_callIoK K D__law_take cx.gd cx.hr (by decide) cx.tk rfl (va_cons (ve_var (pv 0)) (va_cons ve_int va_nil))))
    (vss_cons (vs_set (i := 6) sc.nd rfl (by first | exact .inl rfl | exact .inr rfl) (by decide) (ve_lst (va_cons (ve_var (pv 3)) (va_cons (ve_var (pv 4)) (va_cons (ve_callB (fc_min rfl) rfl (ft_n_min FF) bb_min (va_cons (ve_var (pv 4)) (va_cons (ve_ops (so_addK K) (ve_var (pv 3)) (ve_callIoK K D__law_take cx.gd cx.hr (by decide) cx.tk rfl (va_cons (ve_var (pv 0)) (va_cons ve_int va_nil)))) va_nil))) (va_cons (ve_ops (so_addK K) (ve_var (pv 3)) (ve_callIoK K D__law_take cx.gd cx.hr (by decide) cx.tk rfl (va_cons (ve_var (pv 0)) (va_cons (ve_ops (so_addK K) (ve_op fo_sub (ve_var (pv 4)) (ve_var (pv 3))) ve_int) va_nil)))) va_nil))))))
    (vss_one (vs_expr (ve_appK K (pv 2) (ve_ixK K (ve_var (pv 6)) (ve_var (pv 5)))))))))
    (vss_cons (vs_setLc (i := 7) (n := 9) (own := [("_law_name", 8)]) rfl sc.nd rfl rfl (by decide) (sw_true rfl rfl rfl (by rfl)) (vi_anyK K (ve_newB (sc_sortedY K mg cx.hr) rfl (ft_n_sorted FF) bb_sorted (va_cons (ve_var (pv 1)) va_nil))) (blkOk_by (by rfl)) (fun _ _ _ _ _ => (vg_name (i := 8) sc.nd rfl (by first | exact .inl rfl | exact .inr rfl) (by decide))) (fun _ _ _ _ _ => vts_nil) (fun _ _ _ _ _ => (ve_tup (va_cons (ve_var (pv 8)) (va_cons (ve_ixK K (ve_lst (va_cons ve_int (va_cons ve_int (va_cons (ve_callIoK K D__law_take cx.gd cx.hr (by decide) Vl.takes0 rfl (va_cons (ve_var (pv 0)) (va_cons ve_int va_nil))) va_nil)))) (ve_callIoK K D__law_take cx.gd cx.hr (by decide) Vl.takes0 rfl (va_cons (ve_var (pv 0)) (va_cons ve_int va_nil)))) va_nil)))))
    (vss_one (vs_ret (ve_ops (so_addK K) (ve_newTy (sc_tupleK K) rfl (ft_n_tuple FF) bb_tuple (va_cons (ve_var (pv 2)) va_nil)) (ve_tup (va_cons (ve_newTy (sc_tupleK K) rfl (ft_n_tuple FF) bb_tuple (va_cons (ve_slK K (ve_var (pv 7)) vo_none (vo_some ve_int)) va_nil)) va_nil))))))))⟩) (fun _ _ => rfl) (by decide)
/-! ### is_eight -/
def st_is_eight : Stmt := top 35
theorem sc_is_eight : FnScope ["thing"] ["thing"] (defScope st_is_eight) := ⟨rfl, rfl, rfl, by decide +kernel, rfl, by decide +kernel, by decide +kernel⟩
def m_is_eight : Vl.Env → Out Fl := (mRet [] (mAnd (m1 g_isi3 (mV 0)) (m2 gEqX (mFC gLen (mCons (mV 0) mNil)) (m2s gAdd (mC (.int 7)) (mC (.int 1))))))
def F_is_eight : FSem := runF false 1 m_is_eight
theorem ok_is_eight {Pg : Program} {w : World} {K : PySem.W.Frag} {mg : Str → Option Value} {base : Heap} {f : Addr} {fd : FuncData} (FF : FX fv K mg) (Fn : Fun K "is_eight" "is_eight" st_is_eight f fd) (gf : mg "is_eight" = some (.ref f)) : DefOk Pg w K mg base "is_eight" 3 1 false F_is_eight :=
  def_ok (N := ["thing"]) (ps := ["thing"]) (P := []) (m := m_is_eight) (F := F_is_eight) (k := 2) (io := false) Fn gf (Fn.binds fun _ _ _ _ _ _ us hl => match us, hl with | [_], _ => rfl) sc_is_eight (fun cdv A outer s H E cx => have sc := sc_is_eight; ⟨_, (vss_one (vs_ret (ve_andK K (ve_isi1K K (ft_isi3 FF) (ft_n_isinstance FF) bb_isinstance (ve_var (pv 0)) (pe_bt rfl (ft_n_tuple FF) bb_tuple)) (ve_one (ve_cmp (fo_eqX cx.hr K) (ve_callB (fc_lenK K) rfl (ft_n_len FF) bb_len (va_cons (ve_var (pv 0)) va_nil)) (ve_ops (so_addK K) (ve_gi rfl (ft_c_SHARES FF)) ve_int))))))⟩) (fun _ _ => rfl) (by decide)
/-! ### is_name -/
def st_is_name : Stmt := top 13
theorem sc_is_name : FnScope ["thing", "sign"] ["thing"] (defScope st_is_name) := ⟨rfl, rfl, rfl, by decide +kernel, rfl, by decide +kernel, by decide +kernel⟩
def m_is_name : Vl.Env → Out Fl := (mSeq (mIfS (mOrT (mNotT (mT (m1 g_isi2 (mV 0)))) (mNotT (mB (mCh gLe gLe (mC (.int 1)) (mFC gLen (mCons (mV 0) mNil)) (mC (.int 8)))))) (mRet [] (mC (.bl false))) mSkip)
    (mRet [] (mFC gAll (mCons (mLc 2 [1] (mIt (mV 0)) (tgN 1) mYes (m2 (gIn false) (mV 1) (mC (.str "abcdefghijklmnopqrstuvwxyz")))) mNil))))
def F_is_name : FSem := runF false 2 m_is_name
theorem ok_is_name {Pg : Program} {w : World} {K : PySem.W.Frag} {mg : Str → Option Value} {base : Heap} {f : Addr} {fd : FuncData} (FF : FX fv K mg) (Fn : Fun K "is_name" "is_name" st_is_name f fd) (gf : mg "is_name" = some (.ref f)) : DefOk Pg w K mg base "is_name" 3 1 false F_is_name :=
  def_ok (N := ["thing", "sign"]) (ps := ["thing"]) (P := []) (m := m_is_name) (F := F_is_name) (k := 2) (io := false) Fn gf (Fn.binds fun _ _ _ _ _ _ us hl => match us, hl with | [_], _ => rfl) sc_is_name (fun cdv A outer s H E cx => have sc := sc_is_name; ⟨_, (vss_cons (vs_if (VW.vt (vw_or (vt_not (vt_truthK K (ve_isi1K K (ft_isi2 FF) (ft_n_isinstance FF) bb_isinstance (ve_var (pv 0)) (pe_bt rfl (ft_n_str FF) bb_str)))) (vw_or1 (vt_not (vt_chain fo_le fo_le ve_int (ve_callB (fc_lenK K) rfl (ft_n_len FF) bb_len (va_cons (ve_var (pv 0)) va_nil)) (ve_gi rfl (ft_c_LONGEST FF))))))) (vss_one (vs_ret ve_bl)) vss_nil)
    (vss_one (vs_ret (ve_callB (fc_allK K rfl) rfl (ft_n_all FF) bb_all (va_cons (ve_lc (n := 2) (own := [("sign", 1)]) rfl sc.nd (vi_anyK K (ve_var (pv 0))) (blkOk_by (by rfl)) (fun _ _ _ _ _ => (vg_name (i := 1) sc.nd rfl (by first | exact .inl rfl | exact .inr rfl) (by decide))) (fun _ _ _ _ _ => vts_nil) (fun _ _ _ _ _ => (ve_cmp (fo_inA cx.hr K) (ve_var (pv 1)) (ve_gs rfl (ft_c_LETTERS FF))))) va_nil)))))⟩) (fun _ _ => rfl) (by decide)
/-! ### is_share -/
def st_is_share : Stmt := top 31
theorem sc_is_share : FnScope ["thing"] ["thing"] (defScope st_is_share) := ⟨rfl, rfl, rfl, by decide +kernel, rfl, by decide +kernel, by decide +kernel⟩
def m_is_share : Vl.Env → Out Fl := (mSeq (mIfS (mOrT (mNotT (mT (m1 g_isi3 (mV 0)))) (mB (m2 gNe (mFC gLen (mCons (mV 0) mNil)) (mC (.int 2))))) (mRet [] (mC (.bl false))) mSkip)
    (mRet [] (mAnd (mCall F_is_name (mCons (mIx (mV 0) (mC (.int 0))) mNil)) (mCall F_is_among (mCons (mIx (mV 0) (mC (.int 1))) (mCons (mC (.int 0)) (mCons (mC (.int 100)) mNil)))))))
def F_is_share : FSem := runF false 1 m_is_share
theorem ok_is_share {Pg : Program} {w : World} {K : PySem.W.Frag} {mg : Str → Option Value} {base : Heap} {f : Addr} {fd : FuncData} (FF : FX fv K mg) (D_is_name : DefOk Pg w K mg base "is_name" 3 1 false F_is_name) (D_is_among : DefOk Pg w K mg base "is_among" 4 3 false F_is_among) (Fn : Fun K "is_share" "is_share" st_is_share f fd) (gf : mg "is_share" = some (.ref f)) : DefOk Pg w K mg base "is_share" 5 1 false F_is_share :=
  def_ok (N := ["thing"]) (ps := ["thing"]) (P := []) (m := m_is_share) (F := F_is_share) (k := 4) (io := false) Fn gf (Fn.binds fun _ _ _ _ _ _ us hl => match us, hl with | [_], _ => rfl) sc_is_share (fun cdv A outer s H E cx => have sc := sc_is_share; ⟨_, (vss_cons (vs_if (VW.vt (vw_or (vt_not (vt_truthK K (ve_isi1K K (ft_isi3 FF) (ft_n_isinstance FF) bb_isinstance (ve_var (pv 0)) (pe_bt rfl (ft_n_tuple FF) bb_tuple)))) (vw_or1 (vt_cmp (fo_neA cx.hr K) (ve_callB (fc_lenK K) rfl (ft_n_len FF) bb_len (va_cons (ve_var (pv 0)) va_nil)) ve_int)))) (vss_one (vs_ret ve_bl)) vss_nil)
    (vss_one (vs_ret (ve_andK K (ve_callK K D_is_name cx.gd cx.hr (by decide) cx.tk rfl (va_cons (ve_ixK K (ve_var (pv 0)) ve_int) va_nil)) (ve_one (ve_callK K D_is_among cx.gd cx.hr (by decide) cx.tk rfl (va_cons (ve_ixK K (ve_var (pv 0)) ve_int) (va_cons ve_int (va_cons (ve_gi rfl (ft_c_WHOLE_SHARE FF)) va_nil)))))))))⟩) (fun _ _ => rfl) (by decide)
/-! ### are_shares -/
def st_are_shares : Stmt := top 32
theorem sc_are_shares : FnScope ["thing", "one", "other"] ["thing"] (defScope st_are_shares) := ⟨rfl, rfl, rfl, by decide +kernel, rfl, by decide +kernel, by decide +kernel⟩
def m_are_shares : Vl.Env → Out Fl := (mSeq (mIfS (mOrT (mNotT (mT (m1 g_isi3 (mV 0)))) (mOrT (mB (m2 gGt (mFC gLen (mCons (mV 0) mNil)) (mC (.int 8)))) (mNotT (mT (mFC gAll (mCons (mLc 3 [1] (mIt (mV 0)) (tgN 1) mYes (mCall F_is_share (mCons (mV 1) mNil))) mNil)))))) (mRet [] (mC (.bl false))) mSkip)
    (mRet [] (mFC gAll (mCons (mLc 3 [1, 2] (mZip (mCons (mV 0) (mCons (mSl (mV 0) (mPart (mC (.int 1))) mNoP) mNil))) (tgT (tgC (tgN 1) (tgC (tgN 2) tgNil)) 2) mYes (m2 gLt (mIx (mV 1) (mC (.int 0))) (mIx (mV 2) (mC (.int 0))))) mNil))))
def F_are_shares : FSem := runF false 3 m_are_shares
theorem ok_are_shares {Pg : Program} {w : World} {K : PySem.W.Frag} {mg : Str → Option Value} {base : Heap} {f : Addr} {fd : FuncData} (FF : FX fv K mg) (D_is_share : DefOk Pg w K mg base "is_share" 5 1 false F_is_share) (Fn : Fun K "are_shares" "are_shares" st_are_shares f fd) (gf : mg "are_shares" = some (.ref f)) : DefOk Pg w K mg base "are_shares" 6 1 false F_are_shares :=
  def_ok (N := ["thing", "one", "other"]) (ps := ["thing"]) (P := []) (m := m_are_shares) (F := F_are_shares) (k := 5) (io := false) Fn gf (Fn.binds fun _ _ _ _ _ _ us hl => match us, hl with | [_], _ => rfl) sc_are_shares (fun cdv A outer s H E cx => have sc := sc_are_shares; ⟨_, (vss_cons (vs_if (VW.vt (vw_or (vt_not (vt_truthK K (ve_isi1K K (ft_isi3 FF) (ft_n_isinstance FF) bb_isinstance (ve_var (pv 0)) (pe_bt rfl (ft_n_tuple FF) bb_tuple)))) (vw_or (vt_cmp fo_gt (ve_callB (fc_lenK K) rfl (ft_n_len FF) bb_len (va_cons (ve_var (pv 0)) va_nil)) (ve_gi rfl (ft_c_MOST_SHARES FF))) (vw_or1 (vt_not (vt_truthK K (ve_callB (fc_allK K rfl) rfl (ft_n_all FF) bb_all (va_cons (ve_lc (n := 3) (own := [("one", 1)]) rfl sc.nd (vi_anyK K (ve_var (pv 0))) (blkOk_by (by rfl)) (fun _ _ _ _ _ => (vg_name (i := 1) sc.nd rfl (by first | exact .inl rfl | exact .inr rfl) (by decide))) (fun _ _ _ _ _ => vts_nil) (fun _ _ _ _ _ => (ve_callK K D_is_share cx.gd cx.hr (by decide) Vl.takes0 rfl (va_cons (ve_var (pv 1)) va_nil)))) va_nil)))))))) (vss_one (vs_ret ve_bl)) vss_nil)
    (vss_one (vs_ret (ve_callB (fc_allK K rfl) rfl (ft_n_all FF) bb_all (va_cons (ve_lc (n := 3) (own := [("one", 1), ("other", 2)]) rfl sc.nd (vi_zipK K rfl (ft_n_zip FF) (va_cons (ve_var (pv 0)) (va_cons (ve_slK K (ve_var (pv 0)) (vo_some ve_int) vo_none) va_nil))) (blkOk_by (by rfl)) (fun _ _ _ _ _ => (vg_tupK K rfl (vgs_cons (vg_name (i := 1) sc.nd rfl (by first | exact .inl rfl | exact .inr rfl) (by decide)) (vgs_cons (vg_name (i := 2) sc.nd rfl (by first | exact .inl rfl | exact .inr rfl) (by decide)) vgs_nil)))) (fun _ _ _ _ _ => vts_nil) (fun _ _ _ _ _ => (ve_cmp fo_lt (ve_ixK K (ve_var (pv 1)) ve_int) (ve_ixK K (ve_var (pv 2)) ve_int)))) va_nil)))))⟩) (fun _ _ => rfl) (by decide)
/-! ### is_part -/
def st_is_part : Stmt := top 33
theorem sc_is_part : FnScope ["part", "thing"] ["part", "thing"] (defScope st_is_part) := ⟨rfl, rfl, rfl, by decide +kernel, rfl, by decide +kernel, by decide +kernel⟩
def m_is_part : Vl.Env → Out Fl := (mSeq (mIfS (mB (m2 gEqX (mV 0) (mC (.int 7)))) (mRet [] (mCall F_are_shares (mCons (mV 1) mNil))) mSkip)
    (mRet [] (mCall F_is_among (mCons (mV 1) (mCons (mIx (mIx (mC (NV.d (.tup [(.tup [(.int 0), (.int 9999)]), (.tup [(.int 0), (.int 9999)]), (.tup [(.int 1), (.int 9)]), (.tup [(.int 0), (.int 999)]), (.tup [(.int 1), (.int 99999)]), (.tup [(.int 1), (.int 9)]), (.tup [(.int 0), (.int 9999)])]))) (mV 0)) (mC (.int 0))) (mCons (mIx (mIx (mC (NV.d (.tup [(.tup [(.int 0), (.int 9999)]), (.tup [(.int 0), (.int 9999)]), (.tup [(.int 1), (.int 9)]), (.tup [(.int 0), (.int 999)]), (.tup [(.int 1), (.int 99999)]), (.tup [(.int 1), (.int 9)]), (.tup [(.int 0), (.int 9999)])]))) (mV 0)) (mC (.int 1))) mNil))))))
def F_is_part : FSem := runF false 2 m_is_part
theorem ok_is_part {Pg : Program} {w : World} {K : PySem.W.Frag} {mg : Str → Option Value} {base : Heap} {f : Addr} {fd : FuncData} (FF : FX fv K mg) (D_are_shares : DefOk Pg w K mg base "are_shares" 6 1 false F_are_shares) (D_is_among : DefOk Pg w K mg base "is_among" 4 3 false F_is_among) (Fn : Fun K "is_part" "is_part" st_is_part f fd) (gf : mg "is_part" = some (.ref f)) : DefOk Pg w K mg base "is_part" 7 2 false F_is_part :=
  def_ok (N := ["part", "thing"]) (ps := ["part", "thing"]) (P := []) (m := m_is_part) (F := F_is_part) (k := 6) (io := false) Fn gf (Fn.binds fun _ _ _ _ _ _ us hl => match us, hl with | [_, _], _ => rfl) sc_is_part (fun cdv A outer s H E cx => have sc := sc_is_part; ⟨_, (vss_cons (vs_if (vt_cmp (fo_eqX cx.hr K) (ve_var (pv 0)) (ve_gi rfl (ft_c_SHARES FF))) (vss_one (vs_ret (ve_callK K D_are_shares cx.gd cx.hr (by decide) cx.tk rfl (va_cons (ve_var (pv 1)) va_nil)))) vss_nil)
    (vss_one (vs_ret (ve_callK K D_is_among cx.gd cx.hr (by decide) cx.tk rfl (va_cons (ve_var (pv 1)) (va_cons (ve_ixK K (ve_ixK K (ve_ntp K (ft_c_BOUNDS FF)) (ve_var (pv 0))) ve_int) (va_cons (ve_ixK K (ve_ixK K (ve_ntp K (ft_c_BOUNDS FF)) (ve_var (pv 0))) ve_int) va_nil)))))))⟩) (fun _ _ => rfl) (by decide)
/-! ### wrong_part -/
def st_wrong_part : Stmt := top 34
theorem sc_wrong_part : FnScope ["thing", "part", "one"] ["thing"] (defScope st_wrong_part) := ⟨rfl, rfl, rfl, by decide +kernel, rfl, by decide +kernel, by decide +kernel⟩
def m_wrong_part : Vl.Env → Out Fl := (mSeq (mFor (mEnumX (mCons (mV 0) mNil)) (tgT (tgC (tgN 1) (tgC (tgN 2) tgNil)) 2) (mIfS (mNotT (mT (mCall F_is_part (mCons (mV 1) (mCons (mV 2) mNil))))) (mRet [] (mV 1)) mSkip))
    (mRet [] (mC .non)))
def F_wrong_part : FSem := runF false 3 m_wrong_part
theorem ok_wrong_part {Pg : Program} {w : World} {K : PySem.W.Frag} {mg : Str → Option Value} {base : Heap} {f : Addr} {fd : FuncData} (FF : FX fv K mg) (D_is_part : DefOk Pg w K mg base "is_part" 7 2 false F_is_part) (Fn : Fun K "wrong_part" "wrong_part" st_wrong_part f fd) (gf : mg "wrong_part" = some (.ref f)) : DefOk Pg w K mg base "wrong_part" 8 1 false F_wrong_part :=
  def_ok (N := ["thing", "part", "one"]) (ps := ["thing"]) (P := []) (m := m_wrong_part) (F := F_wrong_part) (k := 7) (io := false) Fn gf (Fn.binds fun _ _ _ _ _ _ us hl => match us, hl with | [_], _ => rfl) sc_wrong_part (fun cdv A outer s H E cx => have sc := sc_wrong_part; ⟨_, (vss_cons (vs_for cx.po rfl (vi_enumX K rfl (ft_n_enumerate FF) (va_cons (ve_var (pv 0)) va_nil)) (vg_tupK K rfl (vgs_cons (vg_name (i := 1) sc.nd rfl (by first | exact .inl rfl | exact .inr rfl) (by decide)) (vgs_cons (vg_name (i := 2) sc.nd rfl (by first | exact .inl rfl | exact .inr rfl) (by decide)) vgs_nil))) (vss_one (vs_if (vt_not (vt_truthK K (ve_callK K D_is_part cx.gd cx.hr (by decide) cx.tk rfl (va_cons (ve_var (pv 1)) (va_cons (ve_var (pv 2)) va_nil))))) (vss_one (vs_ret (ve_var (pv 1)))) vss_nil)))
    (vss_one (vs_ret ve_non)))⟩) (fun _ _ => rfl) (by decide)
/-! ### need_rules -/
def st_need_rules : Stmt := top 36
theorem sc_need_rules : FnScope ["thing"] ["thing"] (defScope st_need_rules) := ⟨rfl, rfl, rfl, by decide +kernel, rfl, by decide +kernel, by decide +kernel⟩
def m_need_rules : Vl.Env → Out Fl := (mSeq (mIfS (mNotT (mT (mCall F_is_eight (mCons (mV 0) mNil)))) (mRaiseI "BadRules" ["part"] (mCons (mC .non) mNil)) mSkip)
    (mIfS (mB (m2 (gIsN true) (mCall F_wrong_part (mCons (mV 0) mNil)) (mC .non))) (mRaiseI "BadRules" ["part"] (mCons (mCall F_wrong_part (mCons (mV 0) mNil)) mNil)) mSkip))
def F_need_rules : FSem := runF false 1 m_need_rules
theorem ok_need_rules {Pg : Program} {w : World} {K : PySem.W.Frag} {mg : Str → Option Value} {base : Heap} {f : Addr} {fd : FuncData} (FF : FX fv K mg) (J_BadRules : Init Pg w K mg base "BadRules" ["part"]) (D_is_eight : DefOk Pg w K mg base "is_eight" 3 1 false F_is_eight) (D_wrong_part : DefOk Pg w K mg base "wrong_part" 8 1 false F_wrong_part) (Fn : Fun K "need_rules" "need_rules" st_need_rules f fd) (gf : mg "need_rules" = some (.ref f)) : DefOk Pg w K mg base "need_rules" 9 1 false F_need_rules :=
  def_ok (N := ["thing"]) (ps := ["thing"]) (P := []) (m := m_need_rules) (F := F_need_rules) (k := 8) (io := false) Fn gf (Fn.binds fun _ _ _ _ _ _ us hl => match us, hl with | [_], _ => rfl) sc_need_rules (fun cdv A outer s H E cx => have sc := sc_need_rules; ⟨_, (vss_cons (vs_if (vt_not (vt_truthK K (ve_callK K D_is_eight cx.gd cx.hr (by decide) cx.tk rfl (va_cons (ve_var (pv 0)) va_nil)))) (vss_one (vs_raiseJ rfl cx.tk J_BadRules (cx.hr.mono (by decide)) (va_cons ve_non va_nil))) vss_nil)
    (vss_one (vs_if (vt_cmp fo_isnot (ve_callK K D_wrong_part cx.gd cx.hr (by decide) cx.tk rfl (va_cons (ve_var (pv 0)) va_nil)) ve_non) (vss_one (vs_raiseJ rfl cx.tk J_BadRules (cx.hr.mono (by decide)) (va_cons (ve_callK K D_wrong_part cx.gd cx.hr (by decide) cx.tk rfl (va_cons (ve_var (pv 0)) va_nil)) va_nil))) vss_nil)))⟩) (fun _ _ => rfl) (by decide)
/-! ### with_part -/
def st_with_part : Stmt := top 38
theorem sc_with_part : FnScope ["rules", "part", "thing"] ["rules", "part", "thing"] (defScope st_with_part) := ⟨rfl, rfl, rfl, by decide +kernel, rfl, by decide +kernel, by decide +kernel⟩
def m_with_part : Vl.Env → Out Fl := (mSeq (mExpr (mCall F_need_rules (mCons (mV 0) mNil)))
    (mSeq (mIfS (mNotT (mT (mCall F_is_among (mCons (mV 1) (mCons (mC (.int 0)) (mCons (mC (.int 7)) mNil)))))) (mRaiseA "BadNumber" (mCons (mC (.str "no such part")) mNil)) mSkip)
    (mSeq (mIfS (mNotT (mT (mCall F_is_part (mCons (mV 1) (mCons (mV 2) mNil))))) (mRaiseI "BadRules" ["part"] (mCons (mV 1) mNil)) mSkip)
    (mRet [] (m2s gAdd (m2s gAdd (mSl (mV 0) mNoP (mPart (mV 1))) (mTup (mCons (mV 2) mNil))) (mSl (mV 0) (mPart (m2s gAdd (mV 1) (mC (.int 1)))) mNoP))))))
def F_with_part : FSem := runF false 3 m_with_part
theorem ok_with_part {Pg : Program} {w : World} {K : PySem.W.Frag} {mg : Str → Option Value} {base : Heap} {f : Addr} {fd : FuncData} (FF : FX fv K mg) (J_BadRules : Init Pg w K mg base "BadRules" ["part"]) (D_need_rules : DefOk Pg w K mg base "need_rules" 9 1 false F_need_rules) (D_is_among : DefOk Pg w K mg base "is_among" 4 3 false F_is_among) (D_is_part : DefOk Pg w K mg base "is_part" 7 2 false F_is_part) (Fn : Fun K "with_part" "with_part" st_with_part f fd) (gf : mg "with_part" = some (.ref f)) : DefOk Pg w K mg base "with_part" 10 3 false F_with_part :=
  def_ok (N := ["rules", "part", "thing"]) (ps := ["rules", "part", "thing"]) (P := []) (m := m_with_part) (F := F_with_part) (k := 9) (io := false) Fn gf (Fn.binds fun _ _ _ _ _ _ us hl => match us, hl with | [_, _, _], _ => rfl) sc_with_part (fun cdv A outer s H E cx => have sc := sc_with_part; ⟨_, (vss_cons (vs_expr (ve_callK K D_need_rules cx.gd cx.hr (by decide) cx.tk rfl (va_cons (ve_var (pv 0)) va_nil)))
    (vss_cons (vs_if (vt_not (vt_truthK K (ve_callK K D_is_among cx.gd cx.hr (by decide) cx.tk rfl (va_cons (ve_var (pv 1)) (va_cons ve_int (va_cons (ve_gi rfl (ft_c_SHARES FF)) va_nil)))))) (vss_one (vs_raiseA rfl cx.tk (ft_x_BadNumber FF) (va_cons ve_str va_nil))) vss_nil)
    (vss_cons (vs_if (vt_not (vt_truthK K (ve_callK K D_is_part cx.gd cx.hr (by decide) cx.tk rfl (va_cons (ve_var (pv 1)) (va_cons (ve_var (pv 2)) va_nil))))) (vss_one (vs_raiseJ rfl cx.tk J_BadRules (cx.hr.mono (by decide)) (va_cons (ve_var (pv 1)) va_nil))) vss_nil)
    (vss_one (vs_ret (ve_ops (so_addK K) (ve_ops (so_addK K) (ve_slK K (ve_var (pv 0)) vo_none (vo_some (ve_var (pv 1)))) (ve_tup (va_cons (ve_var (pv 2)) va_nil))) (ve_slK K (ve_var (pv 0)) (vo_some (ve_ops (so_addK K) (ve_var (pv 1)) ve_int)) vo_none)))))))⟩) (fun _ _ => rfl) (by decide)
/-! ### need_name -/
def st_need_name : Stmt := top 14
theorem sc_need_name : FnScope ["thing"] ["thing"] (defScope st_need_name) := ⟨rfl, rfl, rfl, by decide +kernel, rfl, by decide +kernel, by decide +kernel⟩
def m_need_name : Vl.Env → Out Fl := (mIfS (mNotT (mT (mCall F_is_name (mCons (mV 0) mNil)))) (mRaiseA "BadName" (mCons (mC (.str "a name is wanted")) mNil)) mSkip)
def F_need_name : FSem := runF false 1 m_need_name
theorem ok_need_name {Pg : Program} {w : World} {K : PySem.W.Frag} {mg : Str → Option Value} {base : Heap} {f : Addr} {fd : FuncData} (FF : FX fv K mg) (D_is_name : DefOk Pg w K mg base "is_name" 3 1 false F_is_name) (Fn : Fun K "need_name" "need_name" st_need_name f fd) (gf : mg "need_name" = some (.ref f)) : DefOk Pg w K mg base "need_name" 4 1 false F_need_name :=
  def_ok (N := ["thing"]) (ps := ["thing"]) (P := []) (m := m_need_name) (F := F_need_name) (k := 3) (io := false) Fn gf (Fn.binds fun _ _ _ _ _ _ us hl => match us, hl with | [_], _ => rfl) sc_need_name (fun cdv A outer s H E cx => have sc := sc_need_name; ⟨_, (vss_one (vs_if (vt_not (vt_truthK K (ve_callK K D_is_name cx.gd cx.hr (by decide) cx.tk rfl (va_cons (ve_var (pv 0)) va_nil)))) (vss_one (vs_raiseA rfl cx.tk (ft_x_BadName FF) (va_cons ve_str va_nil))) vss_nil))⟩) (fun _ _ => rfl) (by decide)
/-! ### share_of -/
def st_share_of : Stmt := top 37
theorem sc_share_of : FnScope ["rules", "town", "other", "name", "hundredths"] ["rules", "town", "other"] (defScope st_share_of) := ⟨rfl, rfl, rfl, by decide +kernel, rfl, by decide +kernel, by decide +kernel⟩
def m_share_of : Vl.Env → Out Fl := (mSeq (mExpr (mCall F_need_rules (mCons (mV 0) mNil)))
    (mSeq (mExpr (mCall F_need_name (mCons (mV 1) mNil)))
    (mSeq (mExpr (mCall F_need_name (mCons (mV 2) mNil)))
    (mSeq (mFor (mIt (mIx (mV 0) (mC (.int 7)))) (tgT (tgC (tgN 3) (tgC (tgN 4) tgNil)) 2) (mIfS (mB (m2 gEqX (mV 3) (mV 2))) (mRet [] (mV 4)) mSkip))
    (mRet [] (mIf (mB (m2 gEqX (mV 2) (mV 1))) (mC (.int 100)) (mC (.int 0))))))))
def F_share_of : FSem := runF false 5 m_share_of
theorem ok_share_of {Pg : Program} {w : World} {K : PySem.W.Frag} {mg : Str → Option Value} {base : Heap} {f : Addr} {fd : FuncData} (FF : FX fv K mg) (D_need_rules : DefOk Pg w K mg base "need_rules" 9 1 false F_need_rules) (D_need_name : DefOk Pg w K mg base "need_name" 4 1 false F_need_name) (Fn : Fun K "share_of" "share_of" st_share_of f fd) (gf : mg "share_of" = some (.ref f)) : DefOk Pg w K mg base "share_of" 10 3 false F_share_of :=
  def_ok (N := ["rules", "town", "other", "name", "hundredths"]) (ps := ["rules", "town", "other"]) (P := []) (m := m_share_of) (F := F_share_of) (k := 9) (io := false) Fn gf (Fn.binds fun _ _ _ _ _ _ us hl => match us, hl with | [_, _, _], _ => rfl) sc_share_of (fun cdv A outer s H E cx => have sc := sc_share_of; ⟨_, (vss_cons (vs_expr (ve_callK K D_need_rules cx.gd cx.hr (by decide) cx.tk rfl (va_cons (ve_var (pv 0)) va_nil)))
    (vss_cons (vs_expr (ve_callK K D_need_name cx.gd cx.hr (by decide) cx.tk rfl (va_cons (ve_var (pv 1)) va_nil)))
    (vss_cons (vs_expr (ve_callK K D_need_name cx.gd cx.hr (by decide) cx.tk rfl (va_cons (ve_var (pv 2)) va_nil)))
    (vss_cons (vs_for cx.po rfl (vi_anyK K (ve_ixK K (ve_var (pv 0)) (ve_gi rfl (ft_c_SHARES FF)))) (vg_tupK K rfl (vgs_cons (vg_name (i := 3) sc.nd rfl (by first | exact .inl rfl | exact .inr rfl) (by decide)) (vgs_cons (vg_name (i := 4) sc.nd rfl (by first | exact .inl rfl | exact .inr rfl) (by decide)) vgs_nil))) (vss_one (vs_if (vt_cmp (fo_eqX cx.hr K) (ve_var (pv 3)) (ve_var (pv 2))) (vss_one (vs_ret (ve_var (pv 4)))) vss_nil)))
    (vss_one (vs_ret (ve_if (vt_cmp (fo_eqX cx.hr K) (ve_var (pv 2)) (ve_var (pv 1))) (ve_gi rfl (ft_c_WHOLE_SHARE FF)) ve_int)))))))⟩) (fun _ _ => rfl) (by decide)
/-! ### _law_rules_right -/
def st__law_rules_right : Stmt := top 51
theorem sc__law_rules_right : FnScope ["_law_stream_here", "_law_names", "_law_one", "_law_other", "_law_found", "_law_first", "_law_turn", "_law_told", "_law_name"] ["_law_stream_here"] (defScope st__law_rules_right) := ⟨rfl, rfl, rfl, by decide +kernel, rfl, by decide +kernel, by decide +kernel⟩
def m__law_rules_right : Vl.Env → Out Fl := (mSeq (mSet 1 (mCallIo F__law_names_by (mCons (mV 0) (mCons (m2s gAdd (mC (.int 1)) (mCallIo F__law_take (mCons (mV 0) (mCons (mC (.int 9)) mNil)))) mNil))))
    (mSeq (mAsg (tgT (tgC (tgN 2) (tgC (tgN 3) tgNil)) 2) (mTup (mCons (mCallIo F__law_rules_by (mCons (mV 0) (mCons (mSl (mV 1) (mPart (mC (.int 1))) mNoP) mNil))) (mCons (mCallIo F__law_rules_by (mCons (mV 0) (mCons (mV 1) mNil))) mNil))))
    (mSeq (mSet 4 (mV 2))
    (mSeq (mSet 5 (mCallIo F__law_take (mCons (mV 0) (mCons (mC (.int 8)) mNil))))
    (mSeq (mFor (mRng (mCons (mC (.int 8)) mNil)) (tgN 6) (mSet 4 (mCall F_with_part (mCons (mV 4) (mCons (m2 gMod_ (m2s gAdd (mV 5) (mV 6)) (mC (.int 8))) (mCons (mIx (mV 3) (m2 gMod_ (m2s gAdd (mV 5) (mV 6)) (mC (.int 8)))) mNil))))))
    (mSeq (mIfS (mB (m2 gNe (mV 4) (mV 3))) (mRet [0] (mC (.bl false))) mSkip)
    (mSeq (mSet 7 (mLc 9 [8] (mIt (mV 1)) (tgN 8) mYes (mCall F_share_of (mCons (mV 4) (mCons (mIx (mV 1) (mC (.int 0))) (mCons (mV 8) mNil))))))
    (mRet [0] (m2 gEqX (mV 7) (mLc 9 [8] (mIt (mV 1)) (tgN 8) mYes (mCall F_share_of (mCons (mV 3) (mCons (mIx (mV 1) (mC (.int 0))) (mCons (mV 8) mNil))))))))))))))
def F__law_rules_right : FSem := runF true 9 m__law_rules_right
theorem ok__law_rules_right {Pg : Program} {w : World} {K : PySem.W.Frag} {mg : Str → Option Value} {base : Heap} {f : Addr} {fd : FuncData} (FF : FX fv K mg) (D__law_names_by : DefOk Pg w K mg base "_law_names_by" 6 2 true F__law_names_by) (D__law_take : DefOk Pg w K mg base "_law_take" 4 2 true F__law_take) (D__law_rules_by : DefOk Pg w K mg base "_law_rules_by" 5 2 true F__law_rules_by) (D_with_part : DefOk Pg w K mg base "with_part" 10 3 false F_with_part) (D_share_of : DefOk Pg w K mg base "share_of" 10 3 false F_share_of) (Fn : Fun K "_law_rules_right" "_law_rules_right" st__law_rules_right f fd) (gf : mg "_law_rules_right" = some (.ref f)) : DefOk Pg w K mg base "_law_rules_right" 11 1 true F__law_rules_right :=
  def_ok (N := ["_law_stream_here", "_law_names", "_law_one", "_law_other", "_law_found", "_law_first", "_law_turn", "_law_told", "_law_name"]) (ps := ["_law_stream_here"]) (P := [0]) (m := m__law_rules_right) (F := F__law_rules_right) (k := 10) (io := true) Fn gf (Fn.binds fun _ _ _ _ _ _ us hl => match us, hl with | [_], _ => rfl) sc__law_rules_right (fun cdv A outer s H E cx => have sc := sc__law_rules_right; ⟨_, (vss_cons (vs_set (i := 1) sc.nd rfl (by first | exact .inl rfl | exact .inr rfl) (by decide) (ve_callIoK K D__law_names_by cx.gd cx.hr (by decide) cx.tk rfl (va_cons (ve_var (pv 0)) (va_cons (ve_ops (so_addK K) ve_int (ve_callIoK K D__law_take cx.gd cx.hr (by decide) cx.tk rfl (va_cons (ve_var (pv 0)) (va_cons ve_int va_nil)))) va_nil))))
    (vss_cons (vs_asg (ve_tup (va_cons (ve_callIoK K D__law_rules_by cx.gd cx.hr (by decide) cx.tk rfl (va_cons (ve_var (pv 0)) (va_cons (ve_slK K (ve_var (pv 1)) (vo_some ve_int) vo_none) va_nil))) (va_cons (ve_callIoK K D__law_rules_by cx.gd cx.hr (by decide) cx.tk rfl (va_cons (ve_var (pv 0)) (va_cons (ve_var (pv 1)) va_nil))) va_nil))) (vg_tupK K rfl (vgs_cons (vg_name (i := 2) sc.nd rfl (by first | exact .inl rfl | exact .inr rfl) (by decide)) (vgs_cons (vg_name (i := 3) sc.nd rfl (by first | exact .inl rfl | exact .inr rfl) (by decide)) vgs_nil))))
    (vss_cons (vs_set (i := 4) sc.nd rfl (by first | exact .inl rfl | exact .inr rfl) (by decide) (ve_var (pv 2)))
    (vss_cons (vs_set (i := 5) sc.nd rfl (by first | exact .inl rfl | exact .inr rfl) (by decide) (ve_callIoK K D__law_take cx.gd cx.hr (by decide) cx.tk rfl (va_cons (ve_var (pv 0)) (va_cons ve_int va_nil))))
    (vss_cons (vs_for cx.po rfl (vi_range1 rfl (ft_n_range FF) (va_cons ve_int va_nil)) (vg_name (i := 6) sc.nd rfl (by first | exact .inl rfl | exact .inr rfl) (by decide)) (vss_one (vs_set (i := 4) sc.nd rfl (by first | exact .inl rfl | exact .inr rfl) (by decide) (ve_callK K D_with_part cx.gd cx.hr (by decide) cx.tk rfl (va_cons (ve_var (pv 4)) (va_cons (ve_op fo_mod (ve_ops (so_addK K) (ve_var (pv 5)) (ve_var (pv 6))) ve_int) (va_cons (ve_ixK K (ve_var (pv 3)) (ve_op fo_mod (ve_ops (so_addK K) (ve_var (pv 5)) (ve_var (pv 6))) ve_int)) va_nil)))))))
    (vss_cons (vs_if (vt_cmp (fo_neA cx.hr K) (ve_var (pv 4)) (ve_var (pv 3))) (vss_one (vs_ret ve_bl)) vss_nil)
    (vss_cons (vs_setLc (i := 7) (n := 9) (own := [("_law_name", 8)]) rfl sc.nd rfl rfl (by decide) (sw_true rfl rfl rfl (by rfl)) (vi_anyK K (ve_var (pv 1))) (blkOk_by (by rfl)) (fun _ _ _ _ _ => (vg_name (i := 8) sc.nd rfl (by first | exact .inl rfl | exact .inr rfl) (by decide))) (fun _ _ _ _ _ => vts_nil) (fun _ _ _ _ _ => (ve_callK K D_share_of cx.gd cx.hr (by decide) Vl.takes0 rfl (va_cons (ve_var (pv 4)) (va_cons (ve_ixK K (ve_var (pv 1)) ve_int) (va_cons (ve_var (pv 8)) va_nil))))))
    (vss_one (vs_ret (ve_cmp (fo_eqX cx.hr K) (ve_var (pv 7)) (ve_lc (n := 9) (own := [("_law_name", 8)]) rfl sc.nd (vi_anyK K (ve_var (pv 1))) (blkOk_by (by rfl)) (fun _ _ _ _ _ => (vg_name (i := 8) sc.nd rfl (by first | exact .inl rfl | exact .inr rfl) (by decide))) (fun _ _ _ _ _ => vts_nil) (fun _ _ _ _ _ => (ve_callK K D_share_of cx.gd cx.hr (by decide) Vl.takes0 rfl (va_cons (ve_var (pv 3)) (va_cons (ve_ixK K (ve_var (pv 1)) ve_int) (va_cons (ve_var (pv 8)) va_nil))))))))))))))))⟩) (fun _ _ => rfl) (by decide)
/-! ### law -/
def st_law : Stmt := top 52
theorem sc_law : FnScope ["_law_script", "_law_k", "_law_cell", "_law_stream_here", "_law_rows", "_law_joined", "_law_days", "_law_row", "_law_one", "_law_other"] ["_law_script"] (defScope st_law) := ⟨rfl, rfl, rfl, by decide +kernel, rfl, by decide +kernel, by decide +kernel⟩
def m_law : Vl.Env → Out Fl := (mSeq (mFor (mEnumX (mCons (mSl (m2s gAdd (mV 0) (mLst (mCons (mC (.int 0)) mNil))) mNoP (mPart (mC (.int 63)))) mNil)) (tgT (tgC (tgN 1) (tgC (tgN 2) tgNil)) 2) (mSeq (mSet 3 (mCall F__law_stream (mCons (mV 2) (mCons (mV 1) mNil))))
    (mSeq (mSet 4 (mCallIo F__law_rows_by (mCons (mV 3) mNil)))
    (mSeq (mSet 5 (mCall F_joined_up (mCons (mV 4) mNil)))
    (mSeq (mSet 6 (mLst (mCons (mC (.int 0)) (mCons (mC (.int 99999)) (mCons (mCallIo F__law_day_by (mCons (mV 3) mNil)) mNil)))))
    (mSeq (mFor (mIt (mV 4)) (tgN 7) (mSet 6 (m2s gAdd (mV 6) (mLst (mCons (mIx (mV 7) (mC (.int 0))) (mCons (mFC gMax (mCons (mC (.int 0)) (mCons (m2 gSub_ (mIx (mV 7) (mC (.int 1))) (mC (.int 1))) mNil))) (mCons (mFC gMin (mCons (mC (.int 99999)) (mCons (mIx (mV 7) (mC (.int 1))) mNil))) mNil)))))))
    (mSeq (mIfS (mOrT (mNotT (mT (mCall F__law_days_right (mCons (mV 4) (mCons (mV 5) (mCons (mV 6) mNil)))))) (mNotT (mT (mCall F__law_counts_right (mCons (mV 4) (mCons (mV 5) mNil)))))) (mRet [] (mC (.bl false))) mSkip)
    (mSeq (mIfS (mOrT (mB (m2 gNe (mCall F_joined_up (mCons (mV 5) mNil)) (mV 5))) (mNotT (mT (mCallIo F__law_rules_right (mCons (mV 3) mNil))))) (mRet [] (mC (.bl false))) mSkip)
    (mIfS (mB (m2 gNe (mLc 10 [8, 9] (mZip (mCons (mV 5) (mCons (mSl (mV 5) (mPart (mC (.int 1))) mNoP) mNil))) (tgT (tgC (tgN 8) (tgC (tgN 9) tgNil)) 2) (mB (m2 gGe (mIx (mV 8) (mC (.int 1))) (mIx (mV 9) (mC (.int 0))))) (mV 8)) (mLst mNil))) (mRet [] (mC (.bl false))) mSkip)))))))))
    (mRet [] (mC (.bl true))))
def F_law : FSem := runF false 10 m_law
theorem ok_law {Pg : Program} {w : World} {K : PySem.W.Frag} {mg : Str → Option Value} {base : Heap} {f : Addr} {fd : FuncData} (FF : FX fv K mg) (D__law_stream : DefOk Pg w K mg base "_law_stream" 4 2 false F__law_stream) (D__law_rows_by : DefOk Pg w K mg base "_law_rows_by" 7 1 true F__law_rows_by) (D_joined_up : DefOk Pg w K mg base "joined_up" 7 1 false F_joined_up) (D__law_day_by : DefOk Pg w K mg base "_law_day_by" 5 1 true F__law_day_by) (D__law_days_right : DefOk Pg w K mg base "_law_days_right" 9 3 false F__law_days_right) (D__law_counts_right : DefOk Pg w K mg base "_law_counts_right" 9 2 false F__law_counts_right) (D__law_rules_right : DefOk Pg w K mg base "_law_rules_right" 11 1 true F__law_rules_right) (Fn : Fun K "law" "law" st_law f fd) (gf : mg "law" = some (.ref f)) : DefOk Pg w K mg base "law" 12 1 false F_law :=
  def_ok (N := ["_law_script", "_law_k", "_law_cell", "_law_stream_here", "_law_rows", "_law_joined", "_law_days", "_law_row", "_law_one", "_law_other"]) (ps := ["_law_script"]) (P := []) (m := m_law) (F := F_law) (k := 11) (io := false) Fn gf (Fn.binds fun _ _ _ _ _ _ us hl => match us, hl with | [_], _ => rfl) sc_law (fun cdv A outer s H E cx => have sc := sc_law; ⟨_, (vss_cons (vs_for cx.po rfl (vi_enumX K rfl (ft_n_enumerate FF) (va_cons (ve_slK K (ve_ops (so_addK K) (ve_var (pv 0)) (ve_lst (va_cons ve_int va_nil))) vo_none (vo_some ve_int)) va_nil)) (vg_tupK K rfl (vgs_cons (vg_name (i := 1) sc.nd rfl (by first | exact .inl rfl | exact .inr rfl) (by decide)) (vgs_cons (vg_name (i := 2) sc.nd rfl (by first | exact .inl rfl | exact .inr rfl) (by decide)) vgs_nil))) (vss_cons (vs_set (i := 3) sc.nd rfl (by first | exact .inl rfl | exact .inr rfl) (by decide) (ve_callK K D__law_stream cx.gd cx.hr (by decide) cx.tk rfl (va_cons (ve_var (pv 2)) (va_cons (ve_var (pv 1)) va_nil))))
    (vss_cons (vs_set (i := 4) sc.nd rfl (by first | exact .inl rfl | exact .inr rfl) (by decide) (ve_callIoK K D__law_rows_by cx.gd cx.hr (by decide) cx.tk rfl (va_cons (ve_var (pv 3)) va_nil)))
    (vss_cons (vs_set (i := 5) sc.nd rfl (by first | exact .inl rfl | exact .inr rfl) (by decide) (ve_callK K D_joined_up cx.gd cx.hr (by decide) cx.tk rfl (va_cons (ve_var (pv 4)) va_nil)))
    (vss_cons (vs_set (i := 6) sc.nd rfl (by first | exact .inl rfl | exact .inr rfl) (by decide) (ve_lst (va_cons ve_int (va_cons ve_int (va_cons (ve_callIoK K D__law_day_by cx.gd cx.hr (by decide) cx.tk rfl (va_cons (ve_var (pv 3)) va_nil)) va_nil)))))
    (vss_cons (vs_for cx.po rfl (vi_anyK K (ve_var (pv 4))) (vg_name (i := 7) sc.nd rfl (by first | exact .inl rfl | exact .inr rfl) (by decide)) (vss_one (vs_set (i := 6) sc.nd rfl (by first | exact .inl rfl | exact .inr rfl) (by decide) (ve_ops (so_addK K) (ve_var (pv 6)) (ve_lst (va_cons (ve_ixK K (ve_var (pv 7)) ve_int) (va_cons (ve_callB (fc_max rfl) rfl (ft_n_max FF) bb_max (va_cons ve_int (va_cons (ve_op fo_sub (ve_ixK K (ve_var (pv 7)) ve_int) ve_int) va_nil))) (va_cons (ve_callB (fc_min rfl) rfl (ft_n_min FF) bb_min (va_cons ve_int (va_cons (ve_ixK K (ve_var (pv 7)) ve_int) va_nil))) va_nil))))))))
    (vss_cons (vs_if (VW.vt (vw_or (vt_not (vt_truthK K (ve_callK K D__law_days_right cx.gd cx.hr (by decide) cx.tk rfl (va_cons (ve_var (pv 4)) (va_cons (ve_var (pv 5)) (va_cons (ve_var (pv 6)) va_nil)))))) (vw_or1 (vt_not (vt_truthK K (ve_callK K D__law_counts_right cx.gd cx.hr (by decide) cx.tk rfl (va_cons (ve_var (pv 4)) (va_cons (ve_var (pv 5)) va_nil)))))))) (vss_one (vs_ret ve_bl)) vss_nil)
    (vss_cons (vs_if (VW.vt (vw_or (vt_cmp (fo_neA cx.hr K) (ve_callK K D_joined_up cx.gd cx.hr (by decide) cx.tk rfl (va_cons (ve_var (pv 5)) va_nil)) (ve_var (pv 5))) (vw_or1 (vt_not (vt_truthK K (ve_callIoK K D__law_rules_right cx.gd cx.hr (by decide) cx.tk rfl (va_cons (ve_var (pv 3)) va_nil))))))) (vss_one (vs_ret ve_bl)) vss_nil)
    (vss_one (vs_if (vt_cmp (fo_neA cx.hr K) (ve_lc (n := 10) (own := [("_law_one", 8), ("_law_other", 9)]) rfl sc.nd (vi_zipK K rfl (ft_n_zip FF) (va_cons (ve_var (pv 5)) (va_cons (ve_slK K (ve_var (pv 5)) (vo_some ve_int) vo_none) va_nil))) (blkOk_by (by rfl)) (fun _ _ _ _ _ => (vg_tupK K rfl (vgs_cons (vg_name (i := 8) sc.nd rfl (by first | exact .inl rfl | exact .inr rfl) (by decide)) (vgs_cons (vg_name (i := 9) sc.nd rfl (by first | exact .inl rfl | exact .inr rfl) (by decide)) vgs_nil)))) (fun _ _ _ _ _ => (vts_one (vt_cmp fo_ge (ve_ixK K (ve_var (pv 8)) ve_int) (ve_ixK K (ve_var (pv 9)) ve_int)))) (fun _ _ _ _ _ => (ve_var (pv 8)))) (ve_lst va_nil)) (vss_one (vs_ret ve_bl)) vss_nil))))))))))
    (vss_one (vs_ret ve_bl)))⟩) (fun _ _ => rfl) (by decide)
def fns : List He.DefD := [
  ⟨("BadRules", some "__init__"), "__init__", "BadRules.__init__", defArgs si_BadRules, defBody si_BadRules, defScope si_BadRules, [], []⟩,
  ⟨("_law_mixed", none), "_law_mixed", "_law_mixed", defArgs st__law_mixed, defBody st__law_mixed, defScope st__law_mixed, [], []⟩,
  ⟨("_law_stream", none), "_law_stream", "_law_stream", defArgs st__law_stream, defBody st__law_stream, defScope st__law_stream, [], []⟩,
  ⟨("_law_take", none), "_law_take", "_law_take", defArgs st__law_take, defBody st__law_take, defScope st__law_take, [], []⟩,
  ⟨("_law_day_by", none), "_law_day_by", "_law_day_by", defArgs st__law_day_by, defBody st__law_day_by, defScope st__law_day_by, [], []⟩,
  ⟨("_law_stretch_by", none), "_law_stretch_by", "_law_stretch_by", defArgs st__law_stretch_by, defBody st__law_stretch_by, defScope st__law_stretch_by, [], []⟩,
  ⟨("_law_rows_by", none), "_law_rows_by", "_law_rows_by", defArgs st__law_rows_by, defBody st__law_rows_by, defScope st__law_rows_by, [], []⟩,
  ⟨("is_whole", none), "is_whole", "is_whole", defArgs st_is_whole, defBody st_is_whole, defScope st_is_whole, [], []⟩,
  ⟨("is_among", none), "is_among", "is_among", defArgs st_is_among, defBody st_is_among, defScope st_is_among, [], []⟩,
  ⟨("is_day", none), "is_day", "is_day", defArgs st_is_day, defBody st_is_day, defScope st_is_day, [], []⟩,
  ⟨("is_stretch", none), "is_stretch", "is_stretch", defArgs st_is_stretch, defBody st_is_stretch, defScope st_is_stretch, [], []⟩,
  ⟨("joined_up", none), "joined_up", "joined_up", defArgs st_joined_up, defBody st_joined_up, defScope st_joined_up, [], []⟩,
  ⟨("need_stretch", none), "need_stretch", "need_stretch", defArgs st_need_stretch, defBody st_need_stretch, defScope st_need_stretch, [], []⟩,
  ⟨("need_day", none), "need_day", "need_day", defArgs st_need_day, defBody st_need_day, defScope st_need_day, [], []⟩,
  ⟨("is_within", none), "is_within", "is_within", defArgs st_is_within, defBody st_is_within, defScope st_is_within, [], []⟩,
  ⟨("cut_at", none), "cut_at", "cut_at", defArgs st_cut_at, defBody st_cut_at, defScope st_cut_at, [], []⟩,
  ⟨("days_in", none), "days_in", "days_in", defArgs st_days_in, defBody st_days_in, defScope st_days_in, [], []⟩,
  ⟨("_law_days_right", none), "_law_days_right", "_law_days_right", defArgs st__law_days_right, defBody st__law_days_right, defScope st__law_days_right, [], []⟩,
  ⟨("shared_days", none), "shared_days", "shared_days", defArgs st_shared_days, defBody st_shared_days, defScope st_shared_days, [], []⟩,
  ⟨("_law_counts_right", none), "_law_counts_right", "_law_counts_right", defArgs st__law_counts_right, defBody st__law_counts_right, defScope st__law_counts_right, [], []⟩,
  ⟨("_law_name_by", none), "_law_name_by", "_law_name_by", defArgs st__law_name_by, defBody st__law_name_by, defScope st__law_name_by, [], []⟩,
  ⟨("_law_names_by", none), "_law_names_by", "_law_names_by", defArgs st__law_names_by, defBody st__law_names_by, defScope st__law_names_by, [], []⟩,
  ⟨("_law_rules_by", none), "_law_rules_by", "_law_rules_by", defArgs st__law_rules_by, defBody st__law_rules_by, defScope st__law_rules_by, [], []⟩,
  ⟨("is_eight", none), "is_eight", "is_eight", defArgs st_is_eight, defBody st_is_eight, defScope st_is_eight, [], []⟩,
  ⟨("is_name", none), "is_name", "is_name", defArgs st_is_name, defBody st_is_name, defScope st_is_name, [], []⟩,
  ⟨("is_share", none), "is_share", "is_share", defArgs st_is_share, defBody st_is_share, defScope st_is_share, [], []⟩,
  ⟨("are_shares", none), "are_shares", "are_shares", defArgs st_are_shares, defBody st_are_shares, defScope st_are_shares, [], []⟩,
  ⟨("is_part", none), "is_part", "is_part", defArgs st_is_part, defBody st_is_part, defScope st_is_part, [], []⟩,
  ⟨("wrong_part", none), "wrong_part", "wrong_part", defArgs st_wrong_part, defBody st_wrong_part, defScope st_wrong_part, [], []⟩,
  ⟨("need_rules", none), "need_rules", "need_rules", defArgs st_need_rules, defBody st_need_rules, defScope st_need_rules, [], []⟩,
  ⟨("with_part", none), "with_part", "with_part", defArgs st_with_part, defBody st_with_part, defScope st_with_part, [], []⟩,
  ⟨("need_name", none), "need_name", "need_name", defArgs st_need_name, defBody st_need_name, defScope st_need_name, [], []⟩,
  ⟨("share_of", none), "share_of", "share_of", defArgs st_share_of, defBody st_share_of, defScope st_share_of, [], []⟩,
  ⟨("_law_rules_right", none), "_law_rules_right", "_law_rules_right", defArgs st__law_rules_right, defBody st__law_rules_right, defScope st__law_rules_right, [], []⟩,
  ⟨("law", none), "law", "law", defArgs st_law, defBody st_law, defScope st_law, [], []⟩]
theorem all_ok {Pg : Program} {w : World} {K : PySem.W.Frag} {h base : Heap} {mg : Str → Option Value} (X : K.In h) (G : h.Ns mainGlobals mg) (c : SaysV (chkV fv) fns K) : DefOk Pg w K mg base "law" 12 1 false F_law := by
  have FF : FX fv K mg := FX.of X G c.ck
  obtain ⟨_, fi_BadRules⟩ := c.fun_ 0
  have J_BadRules : Init Pg w K mg base "BadRules" ["part"] := oki_BadRules FF fi_BadRules
  obtain ⟨_, fn__law_mixed⟩ := c.fun_ 1
  have D__law_mixed := ok__law_mixed (Pg := Pg) (w := w) (base := base) FF fn__law_mixed (ft_g__law_mixed FF)
  obtain ⟨_, fn__law_stream⟩ := c.fun_ 2
  have D__law_stream := ok__law_stream (Pg := Pg) (w := w) (base := base) FF D__law_mixed fn__law_stream (ft_g__law_stream FF)
  obtain ⟨_, fn__law_take⟩ := c.fun_ 3
  have D__law_take := ok__law_take (Pg := Pg) (w := w) (base := base) FF D__law_mixed fn__law_take (ft_g__law_take FF)
  obtain ⟨_, fn__law_day_by⟩ := c.fun_ 4
  have D__law_day_by := ok__law_day_by (Pg := Pg) (w := w) (base := base) FF D__law_take fn__law_day_by (ft_g__law_day_by FF)
  obtain ⟨_, fn__law_stretch_by⟩ := c.fun_ 5
  have D__law_stretch_by := ok__law_stretch_by (Pg := Pg) (w := w) (base := base) FF D__law_day_by D__law_take fn__law_stretch_by (ft_g__law_stretch_by FF)
  obtain ⟨_, fn__law_rows_by⟩ := c.fun_ 6
  have D__law_rows_by := ok__law_rows_by (Pg := Pg) (w := w) (base := base) FF D__law_take D__law_stretch_by fn__law_rows_by (ft_g__law_rows_by FF)
  obtain ⟨_, fn_is_whole⟩ := c.fun_ 7
  have D_is_whole := ok_is_whole (Pg := Pg) (w := w) (base := base) FF fn_is_whole (ft_g_is_whole FF)
  obtain ⟨_, fn_is_among⟩ := c.fun_ 8
  have D_is_among := ok_is_among (Pg := Pg) (w := w) (base := base) FF D_is_whole fn_is_among (ft_g_is_among FF)
  obtain ⟨_, fn_is_day⟩ := c.fun_ 9
  have D_is_day := ok_is_day (Pg := Pg) (w := w) (base := base) FF D_is_among fn_is_day (ft_g_is_day FF)
  obtain ⟨_, fn_is_stretch⟩ := c.fun_ 10
  have D_is_stretch := ok_is_stretch (Pg := Pg) (w := w) (base := base) FF D_is_day D_is_among fn_is_stretch (ft_g_is_stretch FF)
  obtain ⟨_, fn_joined_up⟩ := c.fun_ 11
  have D_joined_up := ok_joined_up (Pg := Pg) (w := w) (base := base) FF D_is_stretch fn_joined_up (ft_g_joined_up FF)
  obtain ⟨_, fn_need_stretch⟩ := c.fun_ 12
  have D_need_stretch := ok_need_stretch (Pg := Pg) (w := w) (base := base) FF D_is_stretch fn_need_stretch (ft_g_need_stretch FF)
  obtain ⟨_, fn_need_day⟩ := c.fun_ 13
  have D_need_day := ok_need_day (Pg := Pg) (w := w) (base := base) FF D_is_day fn_need_day (ft_g_need_day FF)
  obtain ⟨_, fn_is_within⟩ := c.fun_ 14
  have D_is_within := ok_is_within (Pg := Pg) (w := w) (base := base) FF D_need_stretch D_need_day fn_is_within (ft_g_is_within FF)
  obtain ⟨_, fn_cut_at⟩ := c.fun_ 15
  have D_cut_at := ok_cut_at (Pg := Pg) (w := w) (base := base) FF D_need_stretch D_is_among fn_cut_at (ft_g_cut_at FF)
  obtain ⟨_, fn_days_in⟩ := c.fun_ 16
  have D_days_in := ok_days_in (Pg := Pg) (w := w) (base := base) FF D_need_stretch fn_days_in (ft_g_days_in FF)
  obtain ⟨_, fn__law_days_right⟩ := c.fun_ 17
  have D__law_days_right := ok__law_days_right (Pg := Pg) (w := w) (base := base) FF D_is_within D_cut_at D_is_stretch D_days_in fn__law_days_right (ft_g__law_days_right FF)
  obtain ⟨_, fn_shared_days⟩ := c.fun_ 18
  have D_shared_days := ok_shared_days (Pg := Pg) (w := w) (base := base) FF D_need_stretch fn_shared_days (ft_g_shared_days FF)
  obtain ⟨_, fn__law_counts_right⟩ := c.fun_ 19
  have D__law_counts_right := ok__law_counts_right (Pg := Pg) (w := w) (base := base) FF D_days_in D_shared_days fn__law_counts_right (ft_g__law_counts_right FF)
  obtain ⟨_, fn__law_name_by⟩ := c.fun_ 20
  have D__law_name_by := ok__law_name_by (Pg := Pg) (w := w) (base := base) FF D__law_take fn__law_name_by (ft_g__law_name_by FF)
  obtain ⟨_, fn__law_names_by⟩ := c.fun_ 21
  have D__law_names_by := ok__law_names_by (Pg := Pg) (w := w) (base := base) FF D__law_take D__law_name_by fn__law_names_by (ft_g__law_names_by FF)
  obtain ⟨_, fn__law_rules_by⟩ := c.fun_ 22
  have D__law_rules_by := ok__law_rules_by (Pg := Pg) (w := w) (base := base) FF D__law_take fn__law_rules_by (ft_g__law_rules_by FF)
  obtain ⟨_, fn_is_eight⟩ := c.fun_ 23
  have D_is_eight := ok_is_eight (Pg := Pg) (w := w) (base := base) FF fn_is_eight (ft_g_is_eight FF)
  obtain ⟨_, fn_is_name⟩ := c.fun_ 24
  have D_is_name := ok_is_name (Pg := Pg) (w := w) (base := base) FF fn_is_name (ft_g_is_name FF)
  obtain ⟨_, fn_is_share⟩ := c.fun_ 25
  have D_is_share := ok_is_share (Pg := Pg) (w := w) (base := base) FF D_is_name D_is_among fn_is_share (ft_g_is_share FF)
  obtain ⟨_, fn_are_shares⟩ := c.fun_ 26
  have D_are_shares := ok_are_shares (Pg := Pg) (w := w) (base := base) FF D_is_share fn_are_shares (ft_g_are_shares FF)
  obtain ⟨_, fn_is_part⟩ := c.fun_ 27
  have D_is_part := ok_is_part (Pg := Pg) (w := w) (base := base) FF D_are_shares D_is_among fn_is_part (ft_g_is_part FF)
  obtain ⟨_, fn_wrong_part⟩ := c.fun_ 28
  have D_wrong_part := ok_wrong_part (Pg := Pg) (w := w) (base := base) FF D_is_part fn_wrong_part (ft_g_wrong_part FF)
  obtain ⟨_, fn_need_rules⟩ := c.fun_ 29
  have D_need_rules := ok_need_rules (Pg := Pg) (w := w) (base := base) FF J_BadRules D_is_eight D_wrong_part fn_need_rules (ft_g_need_rules FF)
  obtain ⟨_, fn_with_part⟩ := c.fun_ 30
  have D_with_part := ok_with_part (Pg := Pg) (w := w) (base := base) FF J_BadRules D_need_rules D_is_among D_is_part fn_with_part (ft_g_with_part FF)
  obtain ⟨_, fn_need_name⟩ := c.fun_ 31
  have D_need_name := ok_need_name (Pg := Pg) (w := w) (base := base) FF D_is_name fn_need_name (ft_g_need_name FF)
  obtain ⟨_, fn_share_of⟩ := c.fun_ 32
  have D_share_of := ok_share_of (Pg := Pg) (w := w) (base := base) FF D_need_rules D_need_name fn_share_of (ft_g_share_of FF)
  obtain ⟨_, fn__law_rules_right⟩ := c.fun_ 33
  have D__law_rules_right := ok__law_rules_right (Pg := Pg) (w := w) (base := base) FF D__law_names_by D__law_take D__law_rules_by D_with_part D_share_of fn__law_rules_right (ft_g__law_rules_right FF)
  obtain ⟨_, fn_law⟩ := c.fun_ 34
  have D_law := ok_law (Pg := Pg) (w := w) (base := base) FF D__law_stream D__law_rows_by D_joined_up D__law_day_by D__law_days_right D__law_counts_right D__law_rules_right fn_law (ft_g_law FF)
  exact D_law
def lo0 : List PySem.Str := ["BondError", "BadDay", "BadName", "BadRules", "BadStretch", "BadNumber", "LETTERS", "LONGEST", "LAST_DAY", "BEHIND", "BOUNDS", "SHARES", "MOST_SHARES", "WHOLE_SHARE", "is_whole"]
def lo1 : List PySem.Str := ["is_among", "is_name", "need_name", "is_day", "need_day", "is_stretch", "need_stretch", "days_in", "cut_at", "is_within", "shared_days", "joined_up", "is_share", "are_shares", "is_part"]
def lo2 : List PySem.Str := ["wrong_part", "is_eight", "need_rules", "share_of", "with_part", "_law_mixed", "_law_stream", "_law_take", "_law_name_by", "_law_names_by", "_law_rules_by", "_law_day_by", "_law_stretch_by", "_law_rows_by", "_law_days_right"]
def lo3 : List PySem.Str := ["_law_counts_right", "_law_rules_right"]
def loose : List PySem.Str := lo0 ++ lo1 ++ lo2 ++ lo3
abbrev R : PySem.W.OpenRow := PySem.W.OpenLaw.row PySem.Challenge.rw_bondyears_k08_whole_days_together
abbrev hk : PySem.W.Hook := hookV 5 (chkV fv) fns
def ob (s : PySem.W.SharedT) : AlV := obsVG 5 (chkV fv) fns (HandSHeadRun.getT s)
theorem ob_eq (s : PySem.W.SharedT) : ob s = hk.obs s.abs := obsVG_eq (HandSHeadRun.getT_eq s)
theorem run_top (w : World) : HandSHeadRun.RunEq R (PySem.W.view R.prog [52]) hk ob 8000 loose w := by
  intro os
  kernel_rfl
theorem row_holds (pure : ∀ ns : List Int, ns.length ≤ 63 → ∃ ts, F_law [.fro (.lst (ns.map D.int))] = some (.ok (.fro (.bl true)), ts)) : PySem.Challenge.rw_bondyears_k08_whole_days_together.Holds := by
  w_on; o_law
  refine HandSHeadRun.head_any (r := R) (q := PySem.W.view R.prog [52]) (H := hk) (ob := ob) (M := 8000) (loose := loose) (d := HandSHeadRun.topDef R.prog 52) (kwd := []) ob_eq
    (by kernel_rfl) (fun s => by kernel_rfl) run_top (by kernel_rfl) (by kernel_rfl) (by kernel_rfl) (by rfl) (by first | assumption | decide +kernel) (by decide +kernel) ⟨rfl, rfl, rfl, rfl, rfl, by decide +kernel⟩ ?hw ?hc
  case hw => w_witness2
  case hc =>
    refine walk_V (l := PySem.Challenge.rw_bondyears_k08_whole_days_together) (n := 63) (k := 12) rfl (by decide) (by kernel_rfl) ⟨rfl, by decide, by decide⟩ ?_
    rintro w mg fa h ⟨K, KX, c⟩ G hmg
    have en : (HandSHeadRun.topDef R.prog 52).name = ("law" : PySem.Str) := by kernel_rfl
    rw [en]
    exact ⟨K, F_law, KX, fun base KB GB => all_ok KB GB c, pure⟩

end bondyears_k08_whole_days_together

end
/-! VlW: what is wanted of an outcome, rule by rule: plain proofs go through a def's function from its begin to its end. -/
namespace Vl
open PySem PySem.Spec PyProof.Rows L2
/-- a mark that keeps what stands behind from being rewritten too early -/
@[reducible] def Tg {α β : Type} (_ : α) (_ : β) : Type := Unit
@[reducible] def Tp {α : Type} (_ : α) (_ _ _ : Prop) : Type := Unit
def WP {α : Type} (o : Out α) (K : α → Env → Prop) (E : Exn → Env → Prop) (_ : Tg K E := ()) : Prop :=
  match o with
  | none => False
  | some (.ok a, ρ) => K a ρ
  | some (.error x, ρ) => E x ρ
def OP {α : Type} (o : Option α) (k : α → Prop) (_ : Tg k k := ()) : Prop :=
  match o with
  | none => False
  | some a => k a
def WC (o : Option (Except Exn T × List T)) (K : T → Prop) (E : Exn → Prop) (_ : Tg K E := ()) : Prop :=
  match o with
  | some (.ok t, _) => K t
  | some (.error x, _) => E x
  | none => False
def WI (o : Option (Except Exn T × List T)) (K : T → T → Prop) (E : Exn → T → Prop) (_ : Tg K E := ()) : Prop :=
  match o with
  | some (.ok t, t1 :: _) => K t t1
  | some (.error x, t1 :: _) => E x t1
  | _ => False
def FlE (f : Fl) (nx bk ct : Prop) (rt : T → Prop) (_ : Tp rt nx bk ct := ()) : Prop :=
  match f with
  | .nx => nx
  | .bk => bk
  | .ct => ct
  | .rt t => rt t
def slot (ρ : Env) (i : Nat) : Option T := match ρ[i]? with
  | some (some t) => some t
  | _ => none
def avBl : AV → Option Bool
  | .tmp (.fro (.bl b)) => some b
  | _ => none
def avStr : AV → Option Str
  | .tmp (.fro (.str b)) => some b
  | _ => none
def avExc : AV → Option (Str × List (Str × D))
  | .tmp (.fro (.exc c fs)) => some (c, fs)
  | _ => none
def tInt : T → Option Int
  | .fro (.int i) => some i
  | _ => none
def dInt : D → Option Int
  | .int i => some i
  | _ => none
def dBl : D → Option Bool
  | .bl i => some i
  | _ => none
def dLst : D → Option (List D)
  | .lst i => some i
  | _ => none
def one1 {α : Type} : List α → Option α
  | [a] => some a
  | _ => none
def hdtl {α : Type} : List α → Option (α × List α)
  | a :: r => some (a, r)
  | [] => none
def two2 {α : Type} : List α → Option (α × α)
  | [t, u] => some (t, u)
  | _ => none
def thr3 {α : Type} : List α → Option (α × α × α)
  | [t, u, r] => some (t, u, r)
  | _ => none
def slL (o : Option (Option T)) : Option (List T) := match o with
  | some (some (.lst ts)) => some ts
  | _ => none
theorem avBl_bl {b : Bool} : avBl (.tmp (.fro (.bl b))) = some b := (rfl)
theorem avStr_str {b : Str} : avStr (.tmp (.fro (.str b))) = some b := (rfl)
theorem avExc_exc {c : Str} {fs : List (Str × D)} : avExc (.tmp (.fro (.exc c fs))) = some (c, fs) := (rfl)
theorem tInt_int {i : Int} : tInt (.fro (.int i)) = some i := (rfl)
theorem dInt_int {i : Int} : dInt (.int i) = some i := (rfl)
theorem dBl_bl {i : Bool} : dBl (.bl i) = some i := (rfl)
theorem dLst_lst {i : List D} : dLst (.lst i) = some i := (rfl)
theorem one1_one {α : Type} {a : α} : one1 [a] = some a := (rfl)
theorem hdtl_cons {α : Type} {a : α} {r : List α} : hdtl (a :: r) = some (a, r) := (rfl)
theorem two2_two {α : Type} {a b : α} : two2 [a, b] = some (a, b) := (rfl)
theorem thr3_thr {α : Type} {a b c : α} : thr3 [a, b, c] = some (a, b, c) := (rfl)
theorem slL_lst {ts : List T} : slL (some (some (.lst ts))) = some ts := (rfl)
section
variable {α β : Type} {K : α → Env → Prop} {E : Exn → Env → Prop} {ρ : Env}
theorem WP_ok {a : α} : WP (some (.ok a, ρ)) K E = K a ρ := (rfl)
theorem WP_er {x : Exn} : WP (some (.error x, ρ)) K E = E x ρ := (rfl)
theorem WP_no : WP (none : Out α) K E = False := (rfl)
theorem OP_some {a : α} {k : α → Prop} : OP (some a) k = k a := (rfl)
theorem OP_none {k : α → Prop} : OP none k = False := (rfl)
theorem WC_ok {t : T} {ts : List T} {K : T → Prop} {E : Exn → Prop} : WC (some (.ok t, ts)) K E = K t := (rfl)
theorem WC_er {x : Exn} {ts : List T} {K : T → Prop} {E : Exn → Prop} : WC (some (.error x, ts)) K E = E x := (rfl)
theorem WI_ok {t t1 : T} {ts : List T} {K : T → T → Prop} {E : Exn → T → Prop} : WI (some (.ok t, t1 :: ts)) K E = K t t1 := (rfl)
theorem WI_er {x : Exn} {t1 : T} {ts : List T} {K : T → T → Prop} {E : Exn → T → Prop} : WI (some (.error x, t1 :: ts)) K E = E x t1 := (rfl)
theorem FlE_nx {a b c : Prop} {d : T → Prop} : FlE .nx a b c d = a := (rfl)
theorem FlE_bk {a b c : Prop} {d : T → Prop} : FlE .bk a b c d = b := (rfl)
theorem FlE_ct {a b c : Prop} {d : T → Prop} : FlE .ct a b c d = c := (rfl)
theorem FlE_rt {a b c : Prop} {d : T → Prop} {t : T} : FlE (.rt t) a b c d = d t := (rfl)
theorem WP_ite {c : Prop} [Decidable c] {a b : Out α} : WP (if c then a else b) K E = if c then WP a K E else WP b K E := by split <;> rfl
theorem OP_ite {c : Prop} [Decidable c] {a b : Option α} {k : α → Prop} : OP (if c then a else b) k = if c then OP a k else OP b k := by split <;> rfl
theorem WPx {o : Out α} {K K' : α → Env → Prop} (h : ∀ a ρ, K a ρ = K' a ρ) : WP o K E = WP o K' E := by
  have e : K = K' := funext fun a => funext fun ρ => h a ρ
  subst e; rfl
theorem WP_obind {o : Out β} {k : β → Env → Out α} : WP (obind o k) K E = WP o (fun a ρ => WP (k a ρ) K E) E := by
  rcases o with _ | ⟨_ | a, ρ⟩ <;> rfl
theorem WP_sbind {o : Out β} {k : β → Env → Out Fl} {K : Fl → Env → Prop} : WP (sbind o k) K E = WP o (fun a ρ => WP (k a ρ) K E) E := by
  rcases o with _ | ⟨_ | a, ρ⟩ <;> rfl
theorem WP.mono {o : Out α} {K K' : α → Env → Prop} {E E' : Exn → Env → Prop} (h : WP o K E) (k : ∀ a ρ, K a ρ → K' a ρ) (e : ∀ x ρ, E x ρ → E' x ρ) : WP o K' E' := by
  rcases o with _ | ⟨_ | a, ρ⟩
  · exact h
  · exact e _ _ h
  · exact k _ _ h
theorem OP.intro {o : Option α} {z : α} {k : α → Prop} (h : o = some z) (hk : k z) : OP o k := by rw [h]; exact hk
theorem OP_map {o : Option α} {f : α → β} {k : β → Prop} : OP (o.map f) k = OP o fun a => k (f a) := by cases o <;> rfl
end
section
variable {K : AV → Env → Prop} {KB : Bool → Env → Prop} {KL : List AV → Env → Prop} {KD : List D → Env → Prop} {KF : Fl → Env → Prop} {KO : Option Int → Env → Prop} {E : Exn → Env → Prop} {ρ : Env} {m n l ma mb mc : Env → Out AV}
theorem W_mC {d : D} : WP (mC d ρ) K E = K (.tmp (.fro d)) ρ := (rfl)
def AVs (o : Option (Option T)) (i : Nat) (K : AV → Prop) (_ : Tg K K := ()) : Prop :=
  match o with
  | some (some (.fro d)) => K (.tmp (.fro d))
  | some (some _) => K (.loc i)
  | _ => False
theorem AVs_fro {d : D} {i : Nat} {K : AV → Prop} : AVs (some (some (.fro d))) i K = K (.tmp (.fro d)) := (rfl)
theorem AVs_lst {ts : List T} {i : Nat} {K : AV → Prop} : AVs (some (some (.lst ts))) i K = K (.loc i) := (rfl)
theorem AVs_dic {kvs : List (Key × T)} {i : Nat} {K : AV → Prop} : AVs (some (some (.dic kvs))) i K = K (.loc i) := (rfl)
theorem W_mV {i : Nat} : WP (mV i ρ) K E = AVs ρ[i]? i (fun av => K av ρ) := by
  unfold mV AVs
  rcases ρ[i]? with _ | _ | t
  · rfl
  · rfl
  · cases t <;> rfl
theorem slot_some {t : T} {i : Nat} (h : ρ[i]? = some (some t)) : slot ρ i = some t := by unfold slot; rw [h]
def slO (o : Option (Option T)) : Option T := match o with
  | some (some t) => some t
  | _ => none
theorem slot_eq {i : Nat} : slot ρ i = slO ρ[i]? := (rfl)
theorem slO_some {t : T} : slO (some (some t)) = some t := (rfl)
theorem get_tmp {t : T} : AV.get ρ (.tmp t) = some t := (rfl)
theorem get_loc {i : Nat} : AV.get ρ (.loc i) = slO ρ[i]? := by
  unfold AV.get slO
  rfl
theorem fz_tmp {t : T} : fz (.tmp t) ρ = some (t, ρ) := (rfl)
theorem fz_loc {i : Nat} : fz (.loc i) ρ = (slO ρ[i]?).map fun t => (.fro t.er, ρ.set i (some (.fro t.er))) := by
  unfold fz slO
  dsimp only
  rcases ρ[i]? with _ | _ | t <;> rfl
theorem W_mT : WP (mT m ρ) KB E = WP (m ρ) (fun av ρ1 => OP (av.get ρ1) fun t => OP (truD t.er) fun b => KB b ρ1) E := by
  unfold mT; rw [WP_obind]; refine WPx fun av ρ1 => ?_
  cases av.get ρ1 with
  | none => rfl
  | some t => dsimp only [OP]; cases truD t.er <;> rfl
theorem W_mAndT {a b : Env → Out Bool} : WP (mAndT a b ρ) KB E = WP (a ρ) (fun x ρ1 => if x = true then WP (b ρ1) KB E else KB false ρ1) E := by
  unfold mAndT; rw [WP_obind]; refine WPx fun x ρ1 => ?_; cases x <;> rfl
theorem W_mOrT {a b : Env → Out Bool} : WP (mOrT a b ρ) KB E = WP (a ρ) (fun x ρ1 => if x = true then KB true ρ1 else WP (b ρ1) KB E) E := by
  unfold mOrT; rw [WP_obind]; refine WPx fun x ρ1 => ?_; cases x <;> rfl
theorem W_mNotT {a : Env → Out Bool} : WP (mNotT a ρ) KB E = WP (a ρ) (fun x ρ1 => KB (!x) ρ1) E := by
  unfold mNotT; rw [WP_obind]; rfl
theorem W_mAnd : WP (mAnd m n ρ) K E = WP (m ρ) (fun av ρ1 => OP (av.get ρ1) fun t => OP (truD t.er) fun b => if b = true then WP (n ρ1) K E else K av ρ1) E := by
  unfold mAnd; rw [WP_obind]; refine WPx fun av ρ1 => ?_
  cases av.get ρ1 with
  | none => rfl
  | some t =>
    dsimp only [OP]
    cases truD t.er with
    | none => rfl
    | some b => cases b <;> rfl
theorem W_mOr : WP (mOr m n ρ) K E = WP (m ρ) (fun av ρ1 => OP (av.get ρ1) fun t => OP (truD t.er) fun b => if b = true then K av ρ1 else WP (n ρ1) K E) E := by
  unfold mOr; rw [WP_obind]; refine WPx fun av ρ1 => ?_
  cases av.get ρ1 with
  | none => rfl
  | some t =>
    dsimp only [OP]
    cases truD t.er with
    | none => rfl
    | some b => cases b <;> rfl
theorem W_mIf {c : Env → Out Bool} : WP (mIf c m n ρ) K E = WP (c ρ) (fun b ρ1 => if b = true then WP (m ρ1) K E else WP (n ρ1) K E) E := by
  unfold mIf; rw [WP_obind]; refine WPx fun x ρ1 => ?_; cases x <;> rfl
theorem W_mB : WP (mB m ρ) KB E = WP (m ρ) (fun av ρ1 => OP (avBl av) fun b => KB b ρ1) E := by
  unfold mB; rw [WP_obind]; refine WPx fun av ρ1 => ?_
  cases av with
  | loc i => rfl
  | tmp t =>
    cases t with
    | fro d => cases d <;> rfl
    | _ => rfl
def chT (g' : D → D → Option D) (mc : Env → Out AV) (z : D) (bv : AV) (K : AV → Env → Prop) (E : Exn → Env → Prop) (ρ2 : Env) (_ : Tg K E := ()) : Prop :=
  match z, bv with
  | .bl true, .tmp (.fro e) => flat e = true ∧ WP (mc ρ2) (fun cv ρ3 => OP (cv.get ρ3) fun w => OP (g' e w.er) fun y => OP (dBl y) fun b => K (.tmp (.fro (.bl b))) ρ3) E
  | .bl false, _ => K (.tmp (.fro (.bl false))) ρ2
  | _, _ => False
theorem chT_ff {g' : D → D → Option D} {bv : AV} : chT g' mc (.bl false) bv K E ρ = K (.tmp (.fro (.bl false))) ρ := by unfold chT; rfl
theorem chT_tt {g' : D → D → Option D} {e : D} : chT g' mc (.bl true) (.tmp (.fro e)) K E ρ = (flat e = true ∧ WP (mc ρ) (fun cv ρ3 => OP (cv.get ρ3) fun w => OP (g' e w.er) fun y => OP (dBl y) fun b => K (.tmp (.fro (.bl b))) ρ3) E) := (rfl)
theorem chT_dec {g' : D → D → Option D} {e : D} {p : Prop} [Decidable p] : chT g' mc (.bl (decide p)) (.tmp (.fro e)) K E ρ = if p then chT g' mc (.bl true) (.tmp (.fro e)) K E ρ else K (.tmp (.fro (.bl false))) ρ := by
  by_cases h : p <;> simp [h, chT]
theorem W_mCh {g g' : D → D → Option D} : WP (mCh g g' ma mb mc ρ) K E = WP (ma ρ) (fun av ρ1 => WP (mb ρ1) (fun bv ρ2 => OP (av.get ρ2) fun t => OP (bv.get ρ2) fun u => OP (g t.er u.er) fun z => chT g' mc z bv K E ρ2) E) E := by
  unfold mCh; rw [WP_obind]; refine WPx fun av ρ1 => ?_; rw [WP_obind]; refine WPx fun bv ρ2 => ?_
  unfold chTail
  cases av.get ρ2 with
  | none => rfl
  | some t =>
    cases hb : bv.get ρ2 with
    | none => rfl
    | some u =>
      dsimp only [OP]
      cases hg : g t.er u.er with
      | none => rfl
      | some z =>
        cases z with
        | bl b =>
          cases b with
          | false => cases bv <;> rfl
          | true =>
            cases bv with
            | loc i => rfl
            | tmp t' =>
              cases t' with
              | fro e =>
                dsimp only [chT]
                by_cases hf : flat e = true
                · rw [if_pos hf, WP_obind]
                  simp only [hf, true_and]
                  refine WPx fun cv ρ3 => ?_
                  cases cv.get ρ3 with
                  | none => rfl
                  | some w =>
                    dsimp only [OP]
                    cases g' e w.er with
                    | none => rfl
                    | some y => cases y <;> rfl
                · rw [if_neg hf]; simp [hf, WP]
              | _ => rfl
        | _ => rfl
theorem W_mCons {n : Env → Out (List AV)} : WP (mCons m n ρ) KL E = WP (m ρ) (fun av ρ1 => WP (n ρ1) (fun avs ρ2 => KL (av :: avs) ρ2) E) E := by
  unfold mCons; rw [WP_obind]; refine WPx fun av ρ1 => ?_; rw [WP_obind]; rfl
theorem W_mNil : WP (mNil ρ) KL E = KL [] ρ := (rfl)
theorem W_mLst {ma : Env → Out (List AV)} : WP (mLst ma ρ) K E = WP (ma ρ) (fun avs ρ1 => OP (nrm avs ρ1) fun p => p.1.length ≤ 1000000 ∧ K (.tmp (.lst p.1)) p.2) E := by
  unfold mLst; rw [WP_obind]; refine WPx fun avs ρ1 => ?_
  cases nrm avs ρ1 with
  | none => rfl
  | some p =>
    obtain ⟨ts, ρ2⟩ := p
    dsimp only [OP]
    by_cases h : ts.length ≤ 1000000 <;> simp [h, WP]
theorem W_mTup {ma : Env → Out (List AV)} : WP (mTup ma ρ) K E = WP (ma ρ) (fun avs ρ1 => OP (nrm avs ρ1) fun p => p.1.length ≤ 1000000 ∧ K (.tmp (.fro (.tup (T.erL p.1)))) p.2) E := by
  unfold mTup; rw [WP_obind]; refine WPx fun avs ρ1 => ?_
  cases nrm avs ρ1 with
  | none => rfl
  | some p =>
    obtain ⟨ts, ρ2⟩ := p
    dsimp only [OP]
    by_cases h : ts.length ≤ 1000000 <;> simp [h, WP]
theorem W_m1 {g : D → Option D} : WP (m1 g ma ρ) K E = WP (ma ρ) (fun av ρ1 => OP (av.get ρ1) fun t => OP (g t.er) fun z => K (.tmp (.fro z)) ρ1) E := by
  unfold m1; rw [WP_obind]; refine WPx fun av ρ1 => ?_
  cases av.get ρ1 with
  | none => rfl
  | some t => dsimp only [OP]; cases g t.er <;> rfl
theorem W_m2 {g : D → D → Option D} : WP (m2 g ma mb ρ) K E = WP (ma ρ) (fun av ρ1 => WP (mb ρ1) (fun bv ρ2 => OP (av.get ρ2) fun t => OP (bv.get ρ2) fun u => OP (g t.er u.er) fun z => K (.tmp (.fro z)) ρ2) E) E := by
  unfold m2; rw [WP_obind]; refine WPx fun av ρ1 => ?_; rw [WP_obind]; refine WPx fun bv ρ2 => ?_
  cases av.get ρ2 with
  | none => rfl
  | some t =>
    cases bv.get ρ2 with
    | none => rfl
    | some u => dsimp only [OP]; cases g t.er u.er <;> rfl
theorem W_m2s {g : D → D → Option D} : WP (m2s g ma mb ρ) K E = WP (ma ρ) (fun av ρ1 => WP (mb ρ1) (fun bv ρ2 => OP (av.get ρ2) fun t => OP (bv.get ρ2) fun u => OP (g t.er u.er) fun z => if flat z = true then K (.tmp (.fro z)) ρ2 else OP (nrm [av, bv] ρ2) fun p => K (.tmp (tr z)) p.2) E) E := by
  unfold m2s; rw [WP_obind, WP_obind]; refine WPx fun av ρ1 => ?_; rw [WP_obind]; refine WPx fun bv ρ2 => ?_
  rw [WP_ok]
  cases av.get ρ2 with
  | none => rfl
  | some t =>
    cases bv.get ρ2 with
    | none => rfl
    | some u =>
      dsimp only [OP]
      cases g t.er u.er with
      | none => rfl
      | some z =>
        dsimp only
        by_cases h : flat z = true
        · simp [h, WP]
        · simp only [h, if_false]
          cases nrm [av, bv] ρ2 <;> rfl
theorem W_mIx : WP (mIx ma mb ρ) K E = WP (ma ρ) (fun av ρ1 => WP (mb ρ1) (fun bv ρ2 => OP (bv.get ρ2) fun u => OP (vw av ρ2) fun p => OP (gIx p.1 u.er) fun z => K (.tmp (.fro z)) p.2) E) E := by
  unfold mIx; rw [WP_obind, WP_obind]; refine WPx fun av ρ1 => ?_; rw [WP_obind]; refine WPx fun bv ρ2 => ?_
  rw [WP_ok]
  cases bv.get ρ2 with
  | none => rfl
  | some u =>
    dsimp only [OP]
    cases vw av ρ2 with
    | none => rfl
    | some p =>
      obtain ⟨d, ρ3⟩ := p
      dsimp only
      cases gIx d u.er <;> rfl
theorem W_mPart : WP (mPart m ρ) KO E = WP (m ρ) (fun av ρ1 => OP (av.get ρ1) fun t => OP (tInt t) fun i => KO (some i) ρ1) E := by
  unfold mPart; rw [WP_obind]; refine WPx fun av ρ1 => ?_
  cases av.get ρ1 with
  | none => rfl
  | some t =>
    cases t with
    | fro d => cases d <;> rfl
    | _ => rfl
theorem W_mNoP : WP (mNoP ρ) KO E = KO none ρ := (rfl)
theorem W_mSl {ml mh : Env → Out (Option Int)} : WP (mSl ma ml mh ρ) K E = WP (ma ρ) (fun av ρ1 => WP (ml ρ1) (fun lo ρ2 => WP (mh ρ2) (fun hi ρ3 => OP (vw av ρ3) fun p => OP (gSl p.1 lo hi) fun z => K (.tmp (tr z)) p.2) E) E) E := by
  unfold mSl; rw [WP_obind]; refine WPx fun av ρ1 => ?_; rw [WP_obind]; refine WPx fun lo ρ2 => ?_; rw [WP_obind]; refine WPx fun hi ρ3 => ?_
  cases vw av ρ3 with
  | none => rfl
  | some p =>
    obtain ⟨d, ρ4⟩ := p
    dsimp only [OP]
    cases gSl d lo hi <;> rfl
theorem W_mRev : WP (mRev m ρ) K E = WP (m ρ) (fun av ρ1 => OP (vw av ρ1) fun p => OP (dLst p.1) fun xs => K (.tmp (tr (.lst xs.reverse))) p.2) E := by
  unfold mRev; rw [WP_obind]; refine WPx fun av ρ1 => ?_
  cases vw av ρ1 with
  | none => rfl
  | some p =>
    obtain ⟨d, ρ2⟩ := p
    cases d <;> rfl
theorem W_mStp {i : Int} {ml mh : Env → Out (Option Int)} : WP (mStp i ma ml mh ρ) K E = WP (ma ρ) (fun av ρ1 => WP (ml ρ1) (fun lo ρ2 => WP (mh ρ2) (fun hi ρ3 => OP (vw av ρ3) fun p => OP (dLst p.1) fun xs => K (.tmp (tr (.lst (pickG xs lo hi i)))) p.2) E) E) E := by
  unfold mStp; rw [WP_obind]; refine WPx fun av ρ1 => ?_; rw [WP_obind]; refine WPx fun lo ρ2 => ?_; rw [WP_obind]; refine WPx fun hi ρ3 => ?_
  cases vw av ρ3 with
  | none => rfl
  | some p =>
    obtain ⟨d, ρ4⟩ := p
    cases d <;> rfl
def revD : D → Option D
  | .lst xs => some (.lst xs.reverse)
  | .tup xs => some (.tup xs.reverse)
  | _ => none
theorem W_mRevX : WP (mRevX m ρ) K E = WP (m ρ) (fun av ρ1 => OP (vw av ρ1) fun p => OP (revD p.1) fun z => K (.tmp (tr z)) p.2) E := by
  unfold mRevX; rw [WP_obind]; refine WPx fun av ρ1 => ?_
  cases vw av ρ1 with
  | none => rfl
  | some p =>
    obtain ⟨d, ρ2⟩ := p
    cases d <;> rfl
theorem revD_lst {xs : List D} : revD (.lst xs) = some (.lst xs.reverse) := (rfl)
theorem revD_tup {xs : List D} : revD (.tup xs) = some (.tup xs.reverse) := (rfl)
theorem W_mFC {g : List D → Option D} {ma : Env → Out (List AV)} : WP (mFC g ma ρ) K E = WP (ma ρ) (fun avs ρ1 => OP (peekAll ρ1 avs) fun ds => OP (g ds) fun z => K (.tmp (.fro z)) ρ1) E := by
  unfold mFC; rw [WP_obind]; refine WPx fun avs ρ1 => ?_
  cases peekAll ρ1 avs with
  | none => rfl
  | some ds => dsimp only [OP]; cases g ds <;> rfl
theorem W_mSC {g : List D → Option D} {ma : Env → Out (List AV)} : WP (mSC g ma ρ) K E = WP (ma ρ) (fun avs ρ1 => OP (nrm avs ρ1) fun p => OP (g (T.erL p.1)) fun z => K (.tmp (tr z)) p.2) E := by
  unfold mSC; rw [WP_obind]; refine WPx fun avs ρ1 => ?_
  cases nrm avs ρ1 with
  | none => rfl
  | some p =>
    obtain ⟨ts, ρ2⟩ := p
    dsimp only [OP]; cases g (T.erL ts) <;> rfl
theorem W_mJoin : WP (mJoin m n ρ) K E = WP (m ρ) (fun av ρ1 => OP (avStr av) fun a => WP (m1 (gJoin a) n ρ1) K E) E := by
  unfold mJoin; rw [WP_obind]; refine WPx fun av ρ1 => ?_
  cases av with
  | loc i => rfl
  | tmp t =>
    cases t with
    | fro d => cases d <;> rfl
    | _ => rfl
theorem W_mDic0 : WP (mDic0 ρ) K E = K (.tmp (.dic [])) ρ := (rfl)
theorem W_mXA {a : Str} {al : List Str} : WP (mXA a al m ρ) K E = WP (m ρ) (fun av ρ1 => OP (avExc av) fun q => al.contains q.1 = true ∧ OP (q.2.lookup a) fun d => K (.tmp (.fro d)) ρ1) E := by
  unfold mXA; rw [WP_obind]; refine WPx fun av ρ1 => ?_
  cases av with
  | loc i => rfl
  | tmp t =>
    cases t with
    | fro d =>
      cases d with
      | exc c fs =>
        dsimp only [OP, avExc]
        by_cases h : al.contains c = true
        · rw [if_pos h]; simp only [h, true_and]
          cases fs.lookup a <;> rfl
        · rw [if_neg h]; exact (propext ⟨fun q => q.elim, fun q => h q.1⟩)
      | _ => rfl
    | _ => rfl
theorem W_mExc {c : Str} : WP (mExc c m ρ) K E = WP (m ρ) (fun _ ρ1 => K (.tmp (.fro (.exc c []))) ρ1) E := by
  unfold mExc; rw [WP_obind]; rfl
theorem W_mExcI {c : Str} {fl : List Str} {ma : Env → Out (List AV)} : WP (mExcI c fl ma ρ) K E = WP (ma ρ) (fun avs ρ1 => OP (nrm avs ρ1) fun p => (p.1.length = fl.length ∧ p.1.length ≤ 100) ∧ K (.tmp (.fro (.exc c (fl.zip (T.erL p.1)).reverse))) p.2) E := by
  unfold mExcI; rw [WP_obind]; refine WPx fun avs ρ1 => ?_
  cases nrm avs ρ1 with
  | none => rfl
  | some p =>
    obtain ⟨ts, ρ2⟩ := p
    dsimp only [OP]
    by_cases h : ts.length = fl.length ∧ ts.length ≤ 100
    · rw [if_pos h]; exact (propext ⟨fun q => ⟨h, q⟩, fun q => q.2⟩)
    · rw [if_neg h]; simp [h, WP]
/-- the frame behind a call that gave t -/
def cEnv (t : T) (avs : List AV) (ρ : Env) : Option Env := if t.noRef = true then some ρ else (nrm avs ρ).map (·.2)
theorem cEnv_eq {t : T} {avs : List AV} {ρ : Env} : cEnv t avs ρ = if t.noRef = true then some ρ else (nrm avs ρ).map (·.2) := (rfl)
theorem W_mCall {F : FSem} {ma : Env → Out (List AV)} : WP (mCall F ma ρ) K E = WP (ma ρ) (fun avs ρ1 => OP (peekAll ρ1 avs) fun ds => WC (F (ds.map .fro)) (fun t => OP (cEnv t avs ρ1) fun ρ2 => K (.tmp t) ρ2) (fun x => OP (nrm avs ρ1) fun p => E x p.2)) E := by
  unfold mCall; rw [WP_obind]; refine WPx fun avs ρ1 => ?_
  cases peekAll ρ1 avs with
  | none => rfl
  | some ds =>
    dsimp only [OP]
    rcases F (ds.map .fro) with _ | ⟨_ | t, ts⟩
    · rfl
    · dsimp only [WC]; cases nrm avs ρ1 <;> rfl
    · dsimp only [WC, cEnv]
      by_cases h : t.noRef = true
      · simp only [h, if_true]; rfl
      · simp only [h, if_false]; cases nrm avs ρ1 <;> rfl
theorem W_mCall0 {F : FSem} : WP (mCall0 F ρ) K E = WC (F []) (fun t => K (.tmp t) ρ) (fun x => E x ρ) := by
  unfold mCall0
  rcases F [] with _ | ⟨_ | t, ts⟩ <;> rfl
theorem W_mCallIo {F : FSem} {ma : Env → Out (List AV)} : WP (mCallIo F ma ρ) K E = WP (ma ρ) (fun avs ρ1 => OP (hdtl avs) fun q => OP (nrm q.2 ρ1) fun p => WP (ioTail F q.1 p.1 p.2) K E) E := by
  unfold mCallIo; rw [WP_obind]; refine WPx fun avs ρ1 => ?_
  cases avs with
  | nil => rfl
  | cons a r =>
    dsimp only [OP, hdtl]
    cases nrm r ρ1 <;> rfl
theorem W_ioTmp {F : FSem} {t0 : T} {ts : List T} : WP (ioTail F (.tmp t0) ts ρ) K E = WI (F (t0 :: (T.erL ts).map .fro)) (fun t _ => K (.tmp t) ρ) (fun x _ => E x ρ) := by
  unfold ioTail
  dsimp only
  rcases F (t0 :: (T.erL ts).map .fro) with _ | ⟨_ | t, _ | ⟨_, _⟩⟩ <;> rfl
theorem W_ioLoc {F : FSem} {i : Nat} {ts : List T} : WP (ioTail F (.loc i) ts ρ) K E = OP (slO ρ[i]?) fun t0 => WI (F (t0 :: (T.erL ts).map .fro)) (fun t t1 => K (.tmp t) (ρ.set i (some t1))) (fun x t1 => E x (ρ.set i (some t1))) := by
  unfold ioTail slO
  dsimp only
  rcases ρ[i]? with _ | _ | t0
  · rfl
  · rfl
  · dsimp only [OP]
    rcases F (t0 :: (T.erL ts).map .fro) with _ | ⟨_ | t, _ | ⟨_, _⟩⟩ <;> rfl
theorem W_mApp {i : Nat} : WP (mApp i m ρ) K E = OP (slL ρ[i]?) fun _ => WP (m ρ) (fun av ρ1 => OP (fz av ρ1) fun p => OP (slL p.2[i]?) fun ts => ts.length < 1000000 ∧ K (.tmp (.fro .non)) (p.2.set i (some (.lst (ts ++ [p.1]))))) E := by
  unfold mApp
  cases h : ρ[i]? with
  | none => rfl
  | some o =>
    cases o with
    | none => rfl
    | some t =>
      cases t with
      | lst xs =>
        dsimp only [OP]
        rw [WP_obind]; refine WPx fun av ρ1 => ?_
        cases fz av ρ1 with
        | none => rfl
        | some p =>
          obtain ⟨t, ρ2⟩ := p
          dsimp only [OP]
          cases ρ2[i]? with
          | none => rfl
          | some o =>
            cases o with
            | none => rfl
            | some u =>
              cases u with
              | lst ts =>
                dsimp only [slL]
                by_cases h : ts.length < 1000000 <;> simp [h, WP]
              | _ => rfl
      | _ => rfl
/-! ### statements -/
theorem W_mSkip : WP (mSkip ρ) KF E = KF .nx ρ := (rfl)
theorem W_mBreak : WP (mBreak ρ) KF E = KF .bk ρ := (rfl)
theorem W_mCont : WP (mCont ρ) KF E = KF .ct ρ := (rfl)
theorem W_mRetN : WP (mRetN ρ) KF E = KF (.rt (.fro .non)) ρ := (rfl)
theorem W_mYes : WP (mYes ρ) KB E = KB true ρ := (rfl)
theorem W_mSeq {a b : Env → Out Fl} : WP (mSeq a b ρ) KF E = WP (a ρ) (fun f ρ1 => FlE f (WP (b ρ1) KF E) (KF .bk ρ1) (KF .ct ρ1) (fun t => KF (.rt t) ρ1)) E := by
  unfold mSeq
  rcases a ρ with _ | ⟨_ | f, ρ1⟩
  · rfl
  · rfl
  · cases f <;> rfl
theorem W_mIfS {c : Env → Out Bool} {a b : Env → Out Fl} : WP (mIfS c a b ρ) KF E = WP (c ρ) (fun x ρ1 => if x = true then WP (a ρ1) KF E else WP (b ρ1) KF E) E := by
  unfold mIfS; rw [WP_sbind]; refine WPx fun x ρ1 => ?_; cases x <;> rfl
theorem W_mExpr : WP (mExpr m ρ) KF E = WP (m ρ) (fun _ ρ1 => KF .nx ρ1) E := by
  unfold mExpr; rw [WP_sbind]; rfl
theorem W_mSet {i : Nat} : WP (mSet i m ρ) KF E = WP (m ρ) (fun av ρ1 => OP (fz av ρ1) fun p => KF .nx (p.2.set i (some p.1))) E := by
  unfold mSet; rw [WP_sbind]; refine WPx fun av ρ1 => ?_
  cases fz av ρ1 with
  | none => rfl
  | some p => rfl
def rtP (P : List Nat) (av : AV) (ρ : Env) (K : T → Env → Prop) (_ : Tg K K := ()) : Prop :=
  match av with
  | .tmp t => K t ρ
  | .loc i => if i ∈ P then False else OP (slO ρ[i]?) fun t => K t (ρ.set i none)
theorem rtP_tmp {P : List Nat} {t : T} {K : T → Env → Prop} : rtP P (.tmp t) ρ K = K t ρ := (rfl)
theorem rtP_loc {P : List Nat} {i : Nat} {K : T → Env → Prop} : rtP P (.loc i) ρ K = if i ∈ P then False else OP (slO ρ[i]?) fun t => K t (ρ.set i none) := (rfl)
theorem W_mRet {P : List Nat} : WP (mRet P m ρ) KF E = WP (m ρ) (fun av ρ1 => rtP P av ρ1 fun t ρ2 => KF (.rt t) ρ2) E := by
  unfold mRet; rw [WP_sbind]; refine WPx fun av ρ1 => ?_
  cases av with
  | tmp t => rfl
  | loc i =>
    dsimp only [rtP]
    by_cases h : i ∈ P
    · rw [if_pos h, if_pos h]; rfl
    · rw [if_neg h, if_neg h]
      unfold slO
      rcases ρ1[i]? with _ | _ | t <;> rfl
theorem W_mRaise {c : Str} : WP (mRaise c ρ) KF E = E ⟨c, []⟩ ρ := (rfl)
theorem W_mRaiseI {c : Str} {fl : List Str} {ma : Env → Out (List AV)} : WP (mRaiseI c fl ma ρ) KF E = WP (ma ρ) (fun avs ρ1 => OP (nrm avs ρ1) fun p => (p.1.length = fl.length ∧ p.1.length ≤ 100) ∧ E ⟨c, (fl.zip (T.erL p.1)).reverse⟩ p.2) E := by
  unfold mRaiseI; rw [WP_sbind]; refine WPx fun avs ρ1 => ?_
  cases nrm avs ρ1 with
  | none => rfl
  | some p =>
    obtain ⟨ts, ρ2⟩ := p
    dsimp only [OP]
    by_cases h : ts.length = fl.length ∧ ts.length ≤ 100
    · rw [if_pos h]; exact (propext ⟨fun q => ⟨h, q⟩, fun q => q.2⟩)
    · rw [if_neg h]; simp [h, WP]
theorem W_mTry {i j : Nat} {ex : Str → Option Bool} {a : Env → Out Fl} : WP (mTry i j ex a ρ) KF E = WP (a ρ) KF (fun x ρ1 => OP (ex x.c) fun b => if b = true then KF .nx (((ρ1.set i (some (.fro (.exc x.c x.fs)))).set j (some (.fro (.exc x.c x.fs)))).set i none) else E x ρ1) := by
  unfold mTry
  rcases a ρ with _ | ⟨x | f, ρ1⟩
  · rfl
  · dsimp only [WP]
    cases ex x.c with
    | none => rfl
    | some b => cases b <;> rfl
  · rfl
theorem W_mSetIx {j : Nat} : WP (mSetIx j m n ρ) KF E = WP (m ρ) (fun av ρ1 => OP (fz av ρ1) fun p => OP (slL p.2[j]?) fun _ => WP (n p.2) (fun bv ρ3 => OP (bv.get ρ3) fun u => OP (slL ρ3[j]?) fun ts =>
    OP (dInt u.er) fun k => OP (ixN ts.length k) fun q => KF .nx (ρ3.set j (some (.lst (ts.set q p.1))))) E) E := by
  unfold mSetIx; rw [WP_sbind]; refine WPx fun av ρ1 => ?_
  cases fz av ρ1 with
  | none => rfl
  | some p =>
    obtain ⟨t, ρ2⟩ := p
    dsimp only [OP]
    cases h : ρ2[j]? with
    | none => rfl
    | some o =>
      cases o with
      | none => rfl
      | some t0 =>
        cases t0 with
        | lst ts0 =>
          dsimp only
          rw [WP_sbind]; refine WPx fun bv ρ3 => ?_
          cases bv.get ρ3 with
          | none => rfl
          | some u =>
            dsimp only
            cases ρ3[j]? with
            | none => rfl
            | some o =>
              cases o with
              | none => rfl
              | some t1 =>
                cases t1 with
                | lst ts =>
                  dsimp only
                  cases u.er with
                  | int k => dsimp only [slL, dInt]; cases ixN ts.length k <;> rfl
                  | _ => rfl
                | _ => rfl
        | _ => rfl
theorem W_mAsg {tgt : D → Env → Option Env} : WP (mAsg tgt m ρ) KF E = WP (m ρ) (fun av ρ1 => OP (fz av ρ1) fun p => OP (tgt p.1.er p.2) fun ρ3 => KF .nx ρ3) E := by
  unfold mAsg; rw [WP_sbind]; refine WPx fun av ρ1 => ?_
  cases fz av ρ1 with
  | none => rfl
  | some p =>
    obtain ⟨t, ρ2⟩ := p
    dsimp only [OP]
    cases tgt t.er ρ2 <;> rfl
theorem W_mPar {i j : Nat} {ma : Env → Out (List AV)} : WP (mPar i j ma ρ) KF E = WP (ma ρ) (fun avs ρ1 => OP (nrm avs ρ1) fun p => OP (two2 p.1) fun q => KF .nx ((p.2.set i (some q.1)).set j (some q.2))) E := by
  unfold mPar; rw [WP_sbind]; refine WPx fun avs ρ1 => ?_
  cases nrm avs ρ1 with
  | none => rfl
  | some p =>
    obtain ⟨ts, ρ2⟩ := p
    rcases ts with _ | ⟨t, _ | ⟨u, _ | ⟨r, l⟩⟩⟩ <;> rfl
theorem W_mPar3 {i j l : Nat} {ma : Env → Out (List AV)} : WP (mPar3 i j l ma ρ) KF E = WP (ma ρ) (fun avs ρ1 => OP (nrm avs ρ1) fun p => OP (thr3 p.1) fun q => KF .nx (((p.2.set i (some q.1)).set j (some q.2.1)).set l (some q.2.2))) E := by
  unfold mPar3; rw [WP_sbind]; refine WPx fun avs ρ1 => ?_
  cases nrm avs ρ1 with
  | none => rfl
  | some p =>
    obtain ⟨ts, ρ2⟩ := p
    rcases ts with _ | ⟨t, _ | ⟨u, _ | ⟨r, _ | ⟨s, l⟩⟩⟩⟩ <;> rfl
/-! ### loops -/
theorem W_mIt : WP (mIt m ρ) KD E = WP (m ρ) (fun av ρ1 => OP (fz av ρ1) fun p => OP (itemsD p.1.er) fun ds => KD ds p.2) E := by
  unfold mIt; rw [WP_obind]; refine WPx fun av ρ1 => ?_
  cases fz av ρ1 with
  | none => rfl
  | some p =>
    obtain ⟨t, ρ2⟩ := p
    dsimp only [OP]
    cases itemsD t.er <;> rfl
def rngA : List D → Option (List D)
  | [.int j] => if j ≤ 1000000 ∧ -1000000 ≤ j then some (rngD 0 j) else none
  | [.int i, .int j] => if (j ≤ 1000000 ∧ -1000000 ≤ j) ∧ (i ≤ 1000000 ∧ -1000000 ≤ i) then some (rngD i j) else none
  | _ => none
theorem W_mRng {ma : Env → Out (List AV)} : WP (mRng ma ρ) KD E = WP (ma ρ) (fun avs ρ1 => OP (peekAll ρ1 avs) fun ds => OP (rngA ds) fun r => KD r ρ1) E := by
  unfold mRng; rw [WP_obind]; refine WPx fun avs ρ1 => ?_
  cases peekAll ρ1 avs with
  | none => rfl
  | some ds =>
    dsimp only [OP]
    rcases ds with _ | ⟨d, _ | ⟨e, _ | ⟨f, l⟩⟩⟩
    · rfl
    · cases d <;> try rfl
      rename_i j
      dsimp only [rngA]
      split <;> rfl
    · cases d <;> try rfl
      cases e <;> try rfl
      dsimp only [rngA]
      split <;> rfl
    · cases d <;> try rfl
      cases e <;> rfl
theorem W_mEnum {ma : Env → Out (List AV)} : WP (mEnum ma ρ) KD E = WP (ma ρ) (fun avs ρ1 => OP (nrm avs ρ1) fun p => OP (one1 (T.erL p.1)) fun d => OP (dLst d) fun ds => KD (enD ds) p.2) E := by
  unfold mEnum; rw [WP_obind]; refine WPx fun avs ρ1 => ?_
  cases nrm avs ρ1 with
  | none => rfl
  | some p =>
    obtain ⟨ts, ρ2⟩ := p
    dsimp only [OP]
    rcases T.erL ts with _ | ⟨d, _ | ⟨e, l⟩⟩
    · rfl
    · cases d <;> rfl
    · cases d <;> rfl
def enA : List D → Option (List D)
  | [.lst ds] => some (enD ds)
  | [.tup ds] => some (enD ds)
  | _ => none
theorem enA_lst {ds : List D} : enA [.lst ds] = some (enD ds) := (rfl)
theorem enA_tup {ds : List D} : enA [.tup ds] = some (enD ds) := (rfl)
theorem W_mEnumX {ma : Env → Out (List AV)} : WP (mEnumX ma ρ) KD E = WP (ma ρ) (fun avs ρ1 => OP (nrm avs ρ1) fun p => OP (enA (T.erL p.1)) fun ds => KD ds p.2) E := by
  unfold mEnumX; rw [WP_obind]; refine WPx fun avs ρ1 => ?_
  cases nrm avs ρ1 with
  | none => rfl
  | some p =>
    obtain ⟨ts, ρ2⟩ := p
    dsimp only [OP]
    rcases T.erL ts with _ | ⟨d, _ | ⟨e, l⟩⟩
    · rfl
    · cases d <;> rfl
    · cases d <;> rfl
def zipA : List D → Option (List D)
  | [.lst ds, .lst es] => some (zipD ds es)
  | [.tup ds, .tup es] => some (zipD ds es)
  | _ => none
theorem W_mZip {ma : Env → Out (List AV)} : WP (mZip ma ρ) KD E = WP (ma ρ) (fun avs ρ1 => OP (nrm avs ρ1) fun p => OP (zipA (T.erL p.1)) fun ds => KD ds p.2) E := by
  unfold mZip; rw [WP_obind]; refine WPx fun avs ρ1 => ?_
  cases nrm avs ρ1 with
  | none => rfl
  | some p =>
    obtain ⟨ts, ρ2⟩ := p
    dsimp only [OP]
    rcases T.erL ts with _ | ⟨d, _ | ⟨e, _ | ⟨f, l⟩⟩⟩
    · rfl
    · cases d <;> rfl
    · cases d <;> cases e <;> rfl
    · cases d <;> cases e <;> rfl
theorem W_mFor {mi : Env → Out (List D)} {tgt : D → Env → Option Env} {b : Env → Out Fl} : WP (mFor mi tgt b ρ) KF E = WP (mi ρ) (fun ds ρ1 => WP (loopD tgt b ds ρ1) KF E) E := by
  unfold mFor; rw [WP_sbind]
theorem W_loop_nil {tgt : D → Env → Option Env} {b : Env → Out Fl} : WP (loopD tgt b [] ρ) KF E = KF .nx ρ := (rfl)
theorem W_loop_cons {tgt : D → Env → Option Env} {b : Env → Out Fl} {d : D} {ds : List D} : WP (loopD tgt b (d :: ds) ρ) KF E = OP (tgt d ρ) fun ρ1 => WP (b ρ1) (fun f ρ2 => FlE f (WP (loopD tgt b ds ρ2) KF E) (KF .nx ρ2) (WP (loopD tgt b ds ρ2) KF E) (fun t => KF (.rt t) ρ2)) E := by
  rw [show loopD tgt b (d :: ds) ρ = match tgt d ρ with
    | none => none
    | some ρ' => match b ρ' with
      | some (.ok .nx, ρ2) => loopD tgt b ds ρ2
      | some (.ok .ct, ρ2) => loopD tgt b ds ρ2
      | some (.ok .bk, ρ2) => some (.ok .nx, ρ2)
      | o => o from rfl]
  cases tgt d ρ with
  | none => rfl
  | some ρ1 =>
    dsimp only [OP]
    rcases b ρ1 with _ | ⟨_ | f, ρ2⟩
    · rfl
    · rfl
    · cases f <;> rfl
/-- a loop by an invariant -/
theorem W_loop {tgt : D → Env → Option Env} {b : Env → Out Fl} (I : Env → Prop) : ∀ {ds : List D} {ρ : Env}, I ρ → (∀ d ∈ ds, ∀ ρ, I ρ → OP (tgt d ρ) fun ρ1 => WP (b ρ1) (fun f ρ2 => FlE f (I ρ2) (KF .nx ρ2) (I ρ2) (fun t => KF (.rt t) ρ2)) E) →
    (∀ ρ, I ρ → KF .nx ρ) → WP (loopD tgt b ds ρ) KF E
  | [], ρ, h, _, k => k ρ h
  | d :: ds, ρ, h, st, k => by
    rw [W_loop_cons]
    have q := st d List.mem_cons_self ρ h
    cases e : tgt d ρ with
    | none => rw [e] at q; exact q
    | some ρ1 =>
      rw [e] at q
      refine WP.mono q (fun f ρ2 h2 => ?_) fun _ _ h => h
      cases f with
      | nx => exact W_loop I h2 (fun d hd => st d (List.mem_cons_of_mem _ hd)) k
      | ct => exact W_loop I h2 (fun d hd => st d (List.mem_cons_of_mem _ hd)) k
      | bk => exact h2
      | rt t => exact h2
/-- a loop by an invariant that tells what is done and what is left -/
theorem W_loopI {tgt : D → Env → Option Env} {b : Env → Out Fl} (I : List D → List D → Env → Prop) : ∀ {ds pre : List D} {ρ : Env}, I pre ds ρ → (∀ pre d post ρ, I pre (d :: post) ρ → OP (tgt d ρ) fun ρ1 => WP (b ρ1) (fun f ρ2 => FlE f (I (pre ++ [d]) post ρ2) (KF .nx ρ2) (I (pre ++ [d]) post ρ2) (fun t => KF (.rt t) ρ2)) E) →
    (∀ pre ρ, I pre [] ρ → KF .nx ρ) → WP (loopD tgt b ds ρ) KF E
  | [], pre, ρ, h, _, k => k pre ρ h
  | d :: ds, pre, ρ, h, st, k => by
    rw [W_loop_cons]
    have q := st pre d ds ρ h
    cases e : tgt d ρ with
    | none => rw [e] at q; exact q
    | some ρ1 =>
      rw [e] at q
      refine WP.mono q (fun f ρ2 h2 => ?_) fun _ _ h => h
      cases f with
      | nx => exact W_loopI I h2 st k
      | ct => exact W_loopI I h2 st k
      | bk => exact h2
      | rt t => exact h2
/-! ### comprehensions -/
theorem W_mLc {n : Nat} {vs : List Nat} {mi : Env → Out (List D)} {tgt : D → Env → Option Env} {mt : Env → Out Bool} {me : Env → Out AV} : WP (mLc n vs mi tgt mt me ρ) K E = WP (mi ρ) (fun ds ρ1 => ρ1.length = n ∧ WP (lcLoop vs tgt mt me ds [] (wipeE ρ1 vs)) (fun ts ρ2 => K (.tmp (.lst ts)) ρ2) (fun _ _ => False)) E := by
  unfold mLc; rw [WP_obind]; refine WPx fun ds ρ1 => ?_
  by_cases h : ρ1.length = n
  · rw [if_pos h]
    simp only [h, true_and]
    rcases lcLoop vs tgt mt me ds [] (wipeE ρ1 vs) with _ | ⟨_ | ts, ρ2⟩ <;> rfl
  · rw [if_neg h]; simp [h, WP]
theorem W_lc_nil {vs : List Nat} {tgt : D → Env → Option Env} {mt : Env → Out Bool} {me : Env → Out AV} {acc : List T} {KT : List T → Env → Prop} {E : Exn → Env → Prop} : WP (lcLoop vs tgt mt me [] acc ρ) KT E = KT acc ρ := (rfl)
theorem W_lc_cons {vs : List Nat} {tgt : D → Env → Option Env} {mt : Env → Out Bool} {me : Env → Out AV} {d : D} {ds : List D} {acc : List T} {KT : List T → Env → Prop} {E : Exn → Env → Prop} : WP (lcLoop vs tgt mt me (d :: ds) acc ρ) KT E = OP (tgt d ρ) fun ρ1 => WP (mt ρ1) (fun b ρ2 => if b = true then
      WP (me ρ2) (fun av ρ3 => OP (fz av ρ3) fun p => acc.length < 1000000 ∧ WP (lcLoop vs tgt mt me ds (acc ++ [p.1]) (wipeE p.2 vs)) KT E) (fun _ _ => False)
    else WP (lcLoop vs tgt mt me ds acc (wipeE ρ2 vs)) KT E) (fun _ _ => False) := by
  rw [show lcLoop vs tgt mt me (d :: ds) acc ρ = match tgt d ρ with
    | none => none
    | some ρ1 => match mt ρ1 with
      | some (.ok false, ρ2) => lcLoop vs tgt mt me ds acc (wipeE ρ2 vs)
      | some (.ok true, ρ2) => match me ρ2 with
        | some (.ok av, ρ3) => match fz av ρ3 with
          | some (t, ρ4) => if acc.length < 1000000 then lcLoop vs tgt mt me ds (acc ++ [t]) (wipeE ρ4 vs) else none
          | none => none
        | _ => none
      | _ => none from rfl]
  cases tgt d ρ with
  | none => rfl
  | some ρ1 =>
    dsimp only [OP]
    rcases mt ρ1 with _ | ⟨_ | b, ρ2⟩
    · rfl
    · rfl
    · cases b with
      | false => rfl
      | true =>
        dsimp only [WP]
        rcases me ρ2 with _ | ⟨_ | av, ρ3⟩
        · rfl
        · rfl
        · dsimp only
          cases fz av ρ3 with
          | none => rfl
          | some p =>
            dsimp only [OP]
            by_cases h : acc.length < 1000000
            · rw [if_pos h]; simp [h]
            · rw [if_neg h]; simp [h]
/-- a comprehension whose steps leave the frame as it is: what it filters and makes -/
theorem W_lc_map {vs : List Nat} {tgt : D → Env → Option Env} {mt : Env → Out Bool} {me : Env → Out AV} {KT : List T → Env → Prop} {E : Exn → Env → Prop} (p : D → Bool) (f : D → T) {ρ : Env} : ∀ {ds : List D} {acc : List T}, acc.length + ds.length ≤ 1000000 →
    (∀ d ∈ ds, OP (tgt d ρ) fun ρ1 => WP (mt ρ1) (fun b ρ2 => b = p d ∧ if p d = true then WP (me ρ2) (fun av ρ3 => OP (fz av ρ3) fun q => q.1 = f d ∧ wipeE q.2 vs = ρ) (fun _ _ => False) else wipeE ρ2 vs = ρ) (fun _ _ => False)) →
    KT (acc ++ (ds.filter p).map f) ρ → WP (lcLoop vs tgt mt me ds acc ρ) KT E
  | [], acc, _, _, k => by simpa [W_lc_nil] using k
  | d :: ds, acc, hl, st, k => by
    rw [W_lc_cons]
    have q := st d List.mem_cons_self
    have hl' : acc.length + (ds.length + 1) ≤ 1000000 := hl
    cases e : tgt d ρ with
    | none => rw [e] at q; exact q
    | some ρ1 =>
      rw [e] at q
      refine WP.mono q (fun b ρ2 h2 => ?_) fun _ _ h => h
      obtain ⟨rfl, h3⟩ := h2
      cases hp : p d with
      | true =>
        rw [if_pos rfl]
        rw [hp, if_pos rfl] at h3
        refine WP.mono h3 (fun av ρ3 h4 => ?_) fun _ _ h => h
        cases e2 : fz av ρ3 with
        | none => rw [e2] at h4; exact h4
        | some t =>
          rw [e2] at h4
          obtain ⟨h5, h6⟩ := h4
          refine ⟨by omega, ?_⟩
          rw [h5, h6]
          refine W_lc_map p f (by simp; omega) (fun d hd => st d (List.mem_cons_of_mem _ hd)) ?_
          rw [List.filter_cons_of_pos hp] at k
          simpa using k
      | false =>
        rw [if_neg (by simp)]
        rw [hp, if_neg (by simp)] at h3
        rw [h3]
        refine W_lc_map p f (by omega) (fun d hd => st d (List.mem_cons_of_mem _ hd)) ?_
        rw [List.filter_cons_of_neg (by simp [hp])] at k
        exact k
/-- a comprehension by an invariant -/
theorem W_lcI {vs : List Nat} {tgt : D → Env → Option Env} {mt : Env → Out Bool} {me : Env → Out AV} {KT : List T → Env → Prop} {E : Exn → Env → Prop} (I : List D → List D → List T → Env → Prop) : ∀ {ds pre : List D} {acc : List T} {ρ : Env}, I pre ds acc ρ →
    (∀ pre d post acc ρ, I pre (d :: post) acc ρ → OP (tgt d ρ) fun ρ1 => WP (mt ρ1) (fun b ρ2 => if b = true then WP (me ρ2) (fun av ρ3 => OP (fz av ρ3) fun q => acc.length < 1000000 ∧ I (pre ++ [d]) post (acc ++ [q.1]) (wipeE q.2 vs)) (fun _ _ => False) else I (pre ++ [d]) post acc (wipeE ρ2 vs)) (fun _ _ => False)) →
    (∀ pre acc ρ, I pre [] acc ρ → KT acc ρ) → WP (lcLoop vs tgt mt me ds acc ρ) KT E
  | [], pre, acc, ρ, h, _, k => k pre acc ρ h
  | d :: ds, pre, acc, ρ, h, st, k => by
    rw [W_lc_cons]
    have q := st pre d ds acc ρ h
    cases e : tgt d ρ with
    | none => rw [e] at q; exact q
    | some ρ1 =>
      rw [e] at q
      refine WP.mono q (fun b ρ2 h2 => ?_) fun _ _ h => h
      cases b with
      | true =>
        rw [if_pos rfl] at h2 ⊢
        refine WP.mono h2 (fun av ρ3 h4 => ?_) fun _ _ h => h
        cases e2 : fz av ρ3 with
        | none => rw [e2] at h4; exact h4
        | some t =>
          rw [e2] at h4
          exact ⟨h4.1, W_lcI I h4.2 st k⟩
      | false =>
        rw [if_neg (by simp)] at h2 ⊢
        exact W_lcI I h2 st k
/-! ### a def's function -/
theorem W_runC {n : Nat} {m : Env → Out Fl} {ts : List T} {K : T → Prop} {E : Exn → Prop} : WC (runF false n m ts) K E = WP (m (ts.map some ++ List.replicate (n - ts.length) none)) (fun f _ => FlE f (K (.fro .non)) False False K) (fun x _ => E x) := by
  unfold runF
  rcases m (ts.map some ++ List.replicate (n - ts.length) none) with _ | ⟨_ | f, ρ⟩
  · rfl
  · rfl
  · cases f <;> rfl
theorem W_runI {n : Nat} {m : Env → Out Fl} {ts : List T} {K : T → T → Prop} {E : Exn → T → Prop} : WI (runF true n m ts) K E = WP (m (ts.map some ++ List.replicate (n - ts.length) none)) (fun f ρ => OP (slO ρ[0]?) fun t1 => FlE f (K (.fro .non) t1) False False (fun t => K t t1)) (fun x ρ => OP (slO ρ[0]?) fun t1 => E x t1) := by
  unfold runF
  rcases m (ts.map some ++ List.replicate (n - ts.length) none) with _ | ⟨_ | f, ρ⟩
  · rfl
  · dsimp only [WP]
    unfold slO
    rcases ρ[0]? with _ | _ | t <;> rfl
  · unfold slO
    cases f
    · dsimp only [WP]; rcases ρ[0]? with _ | _ | t <;> rfl
    · dsimp only [WP]; rcases ρ[0]? with _ | _ | t <;> rfl
    · dsimp only [WP]; rcases ρ[0]? with _ | _ | t <;> rfl
    · dsimp only [WP]; rcases ρ[0]? with _ | _ | t <;> rfl
end
theorem WC.mono {o : Option (Except Exn T × List T)} {K K' : T → Prop} {E E' : Exn → Prop} (h : WC o K E) (k : ∀ t, K t → K' t) (e : ∀ x, E x → E' x) : WC o K' E' := by
  rcases o with _ | ⟨_ | a, ρ⟩
  · exact h
  · exact e _ h
  · exact k _ h
theorem WI.mono {o : Option (Except Exn T × List T)} {K K' : T → T → Prop} {E E' : Exn → T → Prop} (h : WI o K E) (k : ∀ t s, K t s → K' t s) (e : ∀ x s, E x s → E' x s) : WI o K' E' := by
  rcases o with _ | ⟨_ | a, _ | ⟨t1, ts⟩⟩
  · exact h
  · exact h
  · exact e _ _ h
  · exact h
  · exact k _ _ h
/-- a call that ends well with the value t, without more -/
theorem WC_eq {F : FSem} {ts : List T} {t : T} (h : ∀ K E, K t → WC (F ts) K E) : ∃ us, F ts = some (.ok t, us) := by
  have q := h (fun u => u = t) (fun _ => False) rfl
  rcases e : F ts with _ | ⟨_ | a, us⟩
  · rw [e] at q; exact q.elim
  · rw [e] at q; exact q.elim
  · rw [e] at q
    have q' : a = t := q
    exact ⟨us, by rw [q']⟩
end Vl

/-! VlE: small evaluations for plain proofs. -/
namespace Vl
open PySem PySem.Spec PyProof.Rows L2
section
variable {i j : Int} {a b : Bool} {x y : Str} {d e : D} {ds es : List D} {ts us : List T} {ρ : Env} {n : Nat} {av : AV} {avs : List AV}
theorem nrm_nil : nrm [] ρ = some ([], ρ) := (rfl)
theorem nrm_tmp {t : T} : nrm (.tmp t :: avs) ρ = (nrm avs ρ).map fun p => (t :: p.1, p.2) := by
  simp only [nrm]
  cases nrm avs ρ <;> rfl
theorem nrm_loc : nrm (.loc n :: avs) ρ = (slO ρ[n]?).bind fun t => (nrm avs (ρ.set n (some (.fro t.er)))).map fun p => (.fro t.er :: p.1, p.2) := by
  simp only [nrm]
  unfold slO
  rcases ρ[n]? with _ | _ | t
  · rfl
  · rfl
  · dsimp only [Option.bind_some]
    cases nrm avs (ρ.set n (some (.fro t.er))) <;> rfl
theorem pk_nil : peekAll ρ [] = some [] := (rfl)
theorem pk_cons : peekAll ρ (av :: avs) = (av.get ρ).bind fun t => (peekAll ρ avs).map fun ds => t.er :: ds := by
  simp only [peekAll]
  cases av.get ρ with
  | none => rfl
  | some t => cases peekAll ρ avs <;> rfl
theorem er_fro : T.er (.fro d) = d := by rw [T.er]
theorem er_lst : T.er (.lst ts) = .lst (T.erL ts) := by rw [T.er]
theorem er_dic0 : T.er (.dic []) = .dic [] := (rfl)
theorem erL_nil : T.erL [] = [] := (rfl)
theorem erL_cons {t : T} : T.erL (t :: ts) = t.er :: T.erL ts := by rw [T.erL]
theorem erL_app : ∀ {ts us : List T}, T.erL (ts ++ us) = T.erL ts ++ T.erL us
  | [], us => rfl
  | t :: ts, us => by rw [List.cons_append, T.erL, T.erL, erL_app]; rfl
theorem erL_map : T.erL (ds.map T.fro) = ds := T.erL_fro ds
theorem nr_fro : T.noRef (.fro d) = hard d := (rfl)
theorem hd_non : hard .non = true := (rfl)
theorem hd_bl : hard (.bl b) = true := (rfl)
theorem hd_int : hard (.int i) = true := (rfl)
theorem hd_str : hard (.str x) = true := (rfl)
theorem hd_tup : hard (.tup ds) = hardL ds := by rw [hard]
theorem hd_lst : hard (.lst ds) = false := (rfl)
theorem hd_dic {k : List (Key × D)} : hard (.dic k) = false := (rfl)
theorem hd_exc {c : Str} {fs : List (Str × D)} : hard (.exc c fs) = false := (rfl)
theorem hdL_nil : hardL [] = true := (rfl)
theorem hdL_cons : hardL (d :: ds) = (hard d && hardL ds) := by rw [hardL]
theorem hdL_app : ∀ {ds es : List D}, hardL (ds ++ es) = (hardL ds && hardL es)
  | [], es => by rw [hdL_nil]; rfl
  | d :: ds, es => by rw [List.cons_append, hdL_cons, hdL_cons, hdL_app (ds := ds), Bool.and_assoc]
theorem nrL_fro : ∀ {ds : List D}, T.noRefL (ds.map .fro) = hardL ds
  | [] => rfl
  | d :: ds => by rw [List.map_cons, hdL_cons, ← nrL_fro (ds := ds)]; rfl
theorem hardL_mem : ∀ {ds : List D}, hardL ds = true ↔ ∀ d ∈ ds, hard d = true
  | [] => by simp [hdL_nil]
  | d :: ds => by rw [hdL_cons, Bool.and_eq_true, hardL_mem (ds := ds)]; simp
theorem nr_lst : T.noRef (.lst ts) = T.noRefL ts := (rfl)
theorem nr_dic {k : List (Key × T)} : T.noRef (.dic k) = false := (rfl)
theorem nrL_nil : T.noRefL [] = true := (rfl)
theorem nrL_cons {t : T} : T.noRefL (t :: ts) = (t.noRef && T.noRefL ts) := (rfl)
theorem fl_non : flat .non = true := (rfl)
theorem fl_bl : flat (.bl b) = true := (rfl)
theorem fl_int : flat (.int i) = true := (rfl)
theorem fl_str : flat (.str x) = true := (rfl)
theorem fl_tup : flat (.tup ds) = false := (rfl)
theorem fl_lst : flat (.lst ds) = false := (rfl)
theorem fl_dic {k : List (Key × D)} : flat (.dic k) = false := (rfl)
theorem fl_exc {c : Str} {fs : List (Str × D)} : flat (.exc c fs) = false := (rfl)
theorem tru_non : truD .non = some false := (rfl)
theorem tru_bl : truD (.bl b) = some b := (rfl)
theorem tru_int : truD (.int i) = some (i != 0) := (rfl)
theorem tru_tup : truD (.tup ds) = some (!ds.isEmpty) := (rfl)
theorem tru_lst : truD (.lst ds) = some (!ds.isEmpty) := (rfl)
theorem not_bl : gNot (.bl b) = some (.bl (!b)) := (rfl)
theorem not_non : gNot .non = some (.bl true) := (rfl)
theorem neg_int : gNeg (.int i) = some (.int (-i)) := (rfl)
theorem le_int : gLe (.int i) (.int j) = some (.bl (decide (i ≤ j))) := (rfl)
theorem lt_int : gLt (.int i) (.int j) = some (.bl (decide (i < j))) := (rfl)
theorem ge_int : gGe (.int i) (.int j) = some (.bl (decide (j ≤ i))) := (rfl)
theorem gt_int : gGt (.int i) (.int j) = some (.bl (decide (j < i))) := (rfl)
theorem lt_str : gLt (.str x) (.str y) = some (.bl (decide (x.cps.toList < y.cps.toList))) := (rfl)
theorem le_str : gLe (.str x) (.str y) = some (.bl (!decide (y.cps.toList < x.cps.toList))) := (rfl)
theorem gt_str : gGt (.str x) (.str y) = some (.bl (decide (y.cps.toList < x.cps.toList))) := (rfl)
theorem ge_str : gGe (.str x) (.str y) = some (.bl (!decide (x.cps.toList < y.cps.toList))) := (rfl)
theorem sub_int : gSub_ (.int i) (.int j) = some (.int (i - j)) := (rfl)
theorem mod_int : gMod_ (.int i) (.int j) = if cMod i j = true then some (.int (i % j)) else none := (rfl)
theorem div_int : gDiv_ (.int i) (.int j) = if cDiv i j = true then some (.int (i / j)) else none := (rfl)
theorem pow_int : gPow_ (.int i) (.int j) = if cPow i j = true then some (.int (i ^ j.toNat)) else none := (rfl)
theorem mul_int : gMulX (.int i) (.int j) = if cMul i j = true then some (.int (i * j)) else none := (rfl)
theorem mul_lst : gMulX (.lst ds) (.int j) = if 0 ≤ j ∧ j ≤ 1000 ∧ ds.length ≤ 1000 then some (.lst (List.replicate j.toNat ds).flatten) else none := (rfl)
theorem mul_str : gMulX (.str x) (.int j) = if 0 ≤ j ∧ j ≤ 1000 ∧ x.length ≤ 1000 then some (.str (Txt.mul x j)) else none := (rfl)
theorem add_int : gAdd (.int i) (.int j) = some (.int (i + j)) := (rfl)
theorem add_str : gAdd (.str x) (.str y) = if x.length + y.length ≤ sizeLine then some (.str (x ++ y)) else none := (rfl)
theorem add_lst : gAdd (.lst ds) (.lst es) = if ds.length + es.length ≤ 1000000 then some (.lst (ds ++ es)) else none := (rfl)
theorem add_tup : gAdd (.tup ds) (.tup es) = if ds.length + es.length ≤ 1000000 then some (.tup (ds ++ es)) else none := (rfl)
theorem is_non : gIsN false .non .non = some (.bl true) := (rfl)
theorem is_bl : gIsN false (.bl b) .non = some (.bl false) := (rfl)
theorem is_int : gIsN false (.int i) .non = some (.bl false) := (rfl)
theorem is_str : gIsN false (.str x) .non = some (.bl false) := (rfl)
theorem is_tup : gIsN false (.tup ds) .non = some (.bl false) := (rfl)
theorem is_lst : gIsN false (.lst ds) .non = some (.bl false) := (rfl)
theorem is_exc {c : Str} {fs : List (Str × D)} : gIsN false (.exc c fs) .non = some (.bl false) := (rfl)
theorem isn_non : gIsN true .non .non = some (.bl false) := (rfl)
theorem isn_bl : gIsN true (.bl b) .non = some (.bl true) := (rfl)
theorem isn_int : gIsN true (.int i) .non = some (.bl true) := (rfl)
theorem isn_str : gIsN true (.str x) .non = some (.bl true) := (rfl)
theorem isn_tup : gIsN true (.tup ds) .non = some (.bl true) := (rfl)
theorem isn_lst : gIsN true (.lst ds) .non = some (.bl true) := (rfl)
theorem isn_exc {c : Str} {fs : List (Str × D)} : gIsN true (.exc c fs) .non = some (.bl true) := (rfl)
theorem shaped_flat {d : D} (h : flat d = true) (k : ∀ x, d = .str x → False) : ∃ p, d.py = some p ∧ SeqAt.shaped p = true := by
  cases d with
  | non => exact ⟨_, rfl, by decide⟩
  | bl b => exact ⟨_, rfl, by cases b <;> decide⟩
  | int i => exact ⟨_, rfl, rfl⟩
  | str x => exact (k x rfl).elim
  | _ => cases h
theorem eq_int : gEqX (.int i) (.int j) = some (.bl (i == j)) := (rfl)
theorem ne_int : gNe (.int i) (.int j) = some (.bl (!(i == j))) := (rfl)
theorem eq_str : gEqX (.str x) (.str y) = some (.bl (decide (x = y))) := (rfl)
theorem ne_str : gNe (.str x) (.str y) = some (.bl (!decide (x = y))) := (rfl)
theorem eq_bl : gEqX (.bl a) (.bl b) = some (.bl (a == b)) := by cases a <;> cases b <;> rfl
theorem eq_tup0 : gEqX (.tup ds) (.tup []) = some (.bl ds.isEmpty) := by cases ds <;> rfl
theorem len_lst : gLen [.lst ds] = some (.int ds.length) := (rfl)
theorem len_tup : gLen [.tup ds] = some (.int ds.length) := (rfl)
theorem len_str : gLen [.str x] = if x.length ≤ sizeLine then some (.int x.length) else none := (rfl)
theorem min_int : gMin [.int i, .int j] = some (.int (if j < i then j else i)) := (rfl)
theorem max_int : gMax [.int i, .int j] = some (.int (if j > i then j else i)) := (rfl)
theorem abs_int : gAbs [.int i] = some (.int (if i < 0 then -i else i)) := (rfl)
theorem all_lst : gAll [.lst ds] = (blsOf ds).map fun bs => .bl (bs.all id) := (rfl)
theorem any_lst : gAny [.lst ds] = (blsOf ds).map fun bs => .bl (bs.any id) := (rfl)
theorem sum_lst : gSum [.lst ds] = (intsOf ds).map fun bs => .int bs.sum := (rfl)
theorem lof_lst : gListOf [.lst ds] = some (.lst ds) := (rfl)
theorem lof_tup : gListOf [.tup ds] = some (.lst ds) := (rfl)
theorem tof_lst : gTupOf [.lst ds] = some (.tup ds) := (rfl)
theorem tof_tup : gTupOf [.tup ds] = some (.tup ds) := (rfl)
theorem ix_lst : gIx (.lst ds) (.int i) = atI ds i := (rfl)
theorem ix_tup : gIx (.tup ds) (.int i) = atI ds i := (rfl)
theorem sl_lst {lo hi : Option Int} : gSl (.lst ds) lo hi = some (.lst (cutD ds lo hi)) := (rfl)
theorem sl_tup {lo hi : Option Int} : gSl (.tup ds) lo hi = some (.tup (cutD ds lo hi)) := (rfl)
theorem sl_str {lo hi : Option Int} : gSl (.str x) lo hi = if x.length ≤ sizeLine then some (.str (cutS x lo hi)) else none := (rfl)
theorem at_0 {α : Type} {a : α} {l : List α} : atI (a :: l) 0 = some a := by
  have h : (0 : Int) < ((a :: l).length : Nat) := by simp only [List.length_cons]; omega
  simp [atI, ixN, h]
theorem at_suc {α : Type} {a : α} {l : List α} {k : Int} (h : 0 ≤ k) : atI (a :: l) (k + 1) = atI l k := by
  have h1 : 0 ≤ k + 1 := by omega
  simp only [atI, ixN, h, h1, if_true, List.length_cons]
  by_cases q : k < (l.length : Int)
  · have q2 : k + 1 < ((l.length + 1 : Nat) : Int) := by omega
    rw [if_pos q, if_pos q2, Option.bind_some, Option.bind_some]
    have : (k + 1).toNat = k.toNat + 1 := by omega
    rw [this, List.getElem?_cons_succ]
  · have q2 : ¬ k + 1 < ((l.length + 1 : Nat) : Int) := by omega
    rw [if_neg q, if_neg q2]; rfl
theorem at_1 {α : Type} {a : α} {l : List α} : atI (a :: l) 1 = atI l 0 := at_suc (k := 0) (by omega)
theorem at_2 {α : Type} {a : α} {l : List α} : atI (a :: l) 2 = atI l 1 := at_suc (k := 1) (by omega)
theorem at_3 {α : Type} {a : α} {l : List α} : atI (a :: l) 3 = atI l 2 := at_suc (k := 2) (by omega)
theorem at_4 {α : Type} {a : α} {l : List α} : atI (a :: l) 4 = atI l 3 := at_suc (k := 3) (by omega)
theorem at_5 {α : Type} {a : α} {l : List α} : atI (a :: l) 5 = atI l 4 := at_suc (k := 4) (by omega)
theorem at_6 {α : Type} {a : α} {l : List α} : atI (a :: l) 6 = atI l 5 := at_suc (k := 5) (by omega)
theorem at_7 {α : Type} {a : α} {l : List α} : atI (a :: l) 7 = atI l 6 := at_suc (k := 6) (by omega)
theorem at_8 {α : Type} {a : α} {l : List α} : atI (a :: l) 8 = atI l 7 := at_suc (k := 7) (by omega)
/-- what an index finds -/
theorem at_ok {α : Type} {l : List α} {k : Int} (h0 : 0 ≤ k) (h1 : k < l.length) : ∃ d, atI l k = some d ∧ l[k.toNat]? = some d := by
  have hl : k.toNat < l.length := by omega
  refine ⟨l[k.toNat], ?_, List.getElem?_eq_getElem hl⟩
  simp only [atI, ixN, h0, h1, if_true, Option.bind_some, List.getElem?_eq_getElem hl]
theorem at_mem {α : Type} {l : List α} {k : Int} (h0 : 0 ≤ k) (h1 : k < l.length) : ∃ d, atI l k = some d ∧ d ∈ l := by
  obtain ⟨d, e1, e2⟩ := at_ok h0 h1
  exact ⟨d, e1, List.mem_of_getElem? e2⟩
theorem vw_fro : vw (.tmp (.fro d)) ρ = some (d, ρ) := (rfl)
theorem vw_lst : vw (.tmp (.lst ts)) ρ = some (.lst (T.erL ts), ρ) := by
  unfold vw
  dsimp only [AV.get, view]
  cases froAll ts <;> simp [fz, er_lst]
def vwT (n : Nat) (ρ : Env) : T → Option (D × Env)
  | .fro d => some (d, ρ)
  | .lst ts => if froAll ts then some (.lst (T.erL ts), ρ) else some (.lst (T.erL ts), ρ.set n (some (.fro (.lst (T.erL ts)))))
  | t => some (t.er, ρ.set n (some (.fro t.er)))
theorem vw_loc : vw (.loc n) ρ = (slO ρ[n]?).bind (vwT n ρ) := by
  unfold vw
  rw [get_loc]
  cases h : slO ρ[n]? with
  | none => rfl
  | some t =>
    cases t with
    | fro d => rfl
    | lst ts =>
      dsimp only [view, vwT, Option.bind_some]
      cases hf : froAll ts with
      | true => rfl
      | false =>
        rw [if_neg (by simp), if_neg (by simp), fz_loc, h]
        simp [er_lst]
    | dic k =>
      dsimp only [view, vwT, Option.bind_some]
      rw [fz_loc, h]
      simp [er_fro]
    | dit k =>
      dsimp only [view, vwT, Option.bind_some]
      rw [fz_loc, h]
      simp [er_fro]
theorem vwT_fro : vwT n ρ (.fro d) = some (d, ρ) := (rfl)
theorem vwT_lst : vwT n ρ (.lst ts) = if froAll ts then some (.lst (T.erL ts), ρ) else some (.lst (T.erL ts), ρ.set n (some (.fro (.lst (T.erL ts))))) := (rfl)
theorem fa_nil : froAll [] = true := (rfl)
theorem fa_cons : froAll (.fro d :: ts) = froAll ts := (rfl)
theorem fa_lst : froAll (.lst us :: ts) = false := (rfl)
theorem fa_map : ∀ {ds : List D}, froAll (ds.map T.fro) = true
  | [] => rfl
  | d :: ds => by rw [List.map_cons]; exact fa_map (ds := ds)
theorem fa_app : ∀ {ts us : List T}, froAll (ts ++ us) = (froAll ts && froAll us)
  | [], us => rfl
  | t :: ts, us => by cases t <;> simp [froAll, fa_app (ts := ts)]
theorem its_lst : itemsD (.lst ds) = some ds := (rfl)
theorem its_tup : itemsD (.tup ds) = some ds := (rfl)
theorem its_str : itemsD (.str x) = some (x.cps.toList.map fun c => .str ⟨#[c]⟩) := (rfl)
theorem tr_lst : tr (.lst ds) = .lst (ds.map .fro) := (rfl)
theorem tr_tup : tr (.tup ds) = .fro (.tup ds) := (rfl)
theorem tr_str : tr (.str x) = .fro (.str x) := (rfl)
theorem tr_int : tr (.int i) = .fro (.int i) := (rfl)
theorem tr_bl : tr (.bl b) = .fro (.bl b) := (rfl)
theorem tr_non : tr .non = .fro .non := (rfl)
theorem tgN_eq : tgN n d ρ = some (ρ.set n (some (.fro d))) := (rfl)
theorem tgT_eq {k : Nat} {f : List D → Env → Option Env} : tgT f k (.tup ds) ρ = if ds.length = k then f ds ρ else none := (rfl)
theorem tgC_eq {m : D → Env → Option Env} {f : List D → Env → Option Env} : tgC m f (d :: ds) ρ = (m d ρ).bind fun ρ1 => f ds ρ1 := by
  simp only [tgC]; cases m d ρ <;> rfl
theorem tgNil_eq : tgNil [] ρ = some ρ := (rfl)
theorem wipe_nil : wipeE ρ [] = ρ := (rfl)
theorem wipe_cons {vs : List Nat} : wipeE ρ (n :: vs) = (wipeE ρ vs).set n none := (rfl)
theorem bls_nil : blsOf [] = some [] := (rfl)
theorem bls_cons : blsOf (.bl b :: ds) = (blsOf ds).map (b :: ·) := (rfl)
theorem bls_map {α : Type} {f : α → Bool} : ∀ {l : List α}, blsOf (l.map fun x => .bl (f x)) = some (l.map f)
  | [] => rfl
  | a :: l => by rw [List.map_cons, bls_cons, bls_map]; rfl
theorem ints_map : ∀ {l : List Int}, intsOf (l.map .int) = some l
  | [] => rfl
  | a :: l => by rw [List.map_cons]; show (intsOf (l.map .int)).map (a :: ·) = _; rw [ints_map]; rfl
theorem strs_map : ∀ {l : List Str}, strsOf (l.map .str) = some l
  | [] => rfl
  | a :: l => by rw [List.map_cons]; show (strsOf (l.map .str)).map (a :: ·) = _; rw [strs_map]; rfl
theorem map_push : (ds.map T.fro) ++ [T.fro d] = (ds ++ [d]).map T.fro := by simp
theorem obnd_some {α β : Type} {a : α} {f : α → Option β} : (some a).bind f = f a := (rfl)
theorem rng1 : rngA [.int j] = if j ≤ 1000000 ∧ -1000000 ≤ j then some (rngD 0 j) else none := (rfl)
theorem rng2 : rngA [.int i, .int j] = if (j ≤ 1000000 ∧ -1000000 ≤ j) ∧ (i ≤ 1000000 ∧ -1000000 ≤ i) then some (rngD i j) else none := (rfl)
theorem zip_lst : zipA [.lst ds, .lst es] = some (zipD ds es) := (rfl)
theorem zip_tup : zipA [.tup ds, .tup es] = some (zipD ds es) := (rfl)
theorem nd_tup {l : List NV} : NV.d (.tup l) = .tup (NV.dL l) := by rw [NV.d]
theorem nd_int : NV.d (.int i) = .int i := by rw [NV.d]
theorem nd_str : NV.d (.str x) = .str x := by rw [NV.d]
theorem ndL_nil : NV.dL [] = [] := (rfl)
theorem ndL_cons {v : NV} {l : List NV} : NV.dL (v :: l) = v.d :: NV.dL l := by rw [NV.dL]
theorem dv_int : dvD (.int i) = .int i := (rfl)
theorem dv_str : dvD (.str x) = .str x := (rfl)
theorem cMod_pos (h : 0 < j) : cMod i j = true := by simp only [cMod, decide_eq_true_eq]; omega
theorem cDiv_pos (h : 0 < j) (h2 : j < 1073741824) : cDiv i j = true := by simp only [cDiv, decide_eq_true_eq]; omega
theorem cMul_l (h : -(2 ^ 64) < i ∧ i < 2 ^ 64) : cMul i j = true := by simp only [cMul, decide_eq_true_eq]; exact .inl h
theorem cMul_r (h : -(2 ^ 64) < j ∧ j < 2 ^ 64) : cMul i j = true := by simp only [cMul, decide_eq_true_eq]; exact .inr h
end
theorem ixn_1_0 : ixN 1 0 = some 0 := (rfl)
theorem ixn_2_0 : ixN 2 0 = some 0 := (rfl)
theorem ixn_2_1 : ixN 2 1 = some 1 := (rfl)
theorem ixn_3_0 : ixN 3 0 = some 0 := (rfl)
theorem ixn_3_1 : ixN 3 1 = some 1 := (rfl)
theorem ixn_3_2 : ixN 3 2 = some 2 := (rfl)
theorem ixn_4_0 : ixN 4 0 = some 0 := (rfl)
theorem ixn_4_1 : ixN 4 1 = some 1 := (rfl)
theorem ixn_4_2 : ixN 4 2 = some 2 := (rfl)
theorem ixn_4_3 : ixN 4 3 = some 3 := (rfl)
theorem ixn_5_0 : ixN 5 0 = some 0 := (rfl)
theorem ixn_5_1 : ixN 5 1 = some 1 := (rfl)
theorem ixn_5_2 : ixN 5 2 = some 2 := (rfl)
theorem ixn_5_3 : ixN 5 3 = some 3 := (rfl)
theorem ixn_5_4 : ixN 5 4 = some 4 := (rfl)
theorem ixn_6_0 : ixN 6 0 = some 0 := (rfl)
theorem ixn_6_1 : ixN 6 1 = some 1 := (rfl)
theorem ixn_6_2 : ixN 6 2 = some 2 := (rfl)
theorem ixn_6_3 : ixN 6 3 = some 3 := (rfl)
theorem ixn_6_4 : ixN 6 4 = some 4 := (rfl)
theorem ixn_6_5 : ixN 6 5 = some 5 := (rfl)
theorem ixn_7_0 : ixN 7 0 = some 0 := (rfl)
theorem ixn_7_1 : ixN 7 1 = some 1 := (rfl)
theorem ixn_7_2 : ixN 7 2 = some 2 := (rfl)
theorem ixn_7_3 : ixN 7 3 = some 3 := (rfl)
theorem ixn_7_4 : ixN 7 4 = some 4 := (rfl)
theorem ixn_7_5 : ixN 7 5 = some 5 := (rfl)
theorem ixn_7_6 : ixN 7 6 = some 6 := (rfl)
theorem ixn_8_0 : ixN 8 0 = some 0 := (rfl)
theorem ixn_8_1 : ixN 8 1 = some 1 := (rfl)
theorem ixn_8_2 : ixN 8 2 = some 2 := (rfl)
theorem ixn_8_3 : ixN 8 3 = some 3 := (rfl)
theorem ixn_8_4 : ixN 8 4 = some 4 := (rfl)
theorem ixn_8_5 : ixN 8 5 = some 5 := (rfl)
theorem ixn_8_6 : ixN 8 6 = some 6 := (rfl)
theorem ixn_8_7 : ixN 8 7 = some 7 := (rfl)
theorem ixn_9_0 : ixN 9 0 = some 0 := (rfl)
theorem ixn_9_1 : ixN 9 1 = some 1 := (rfl)
theorem ixn_9_2 : ixN 9 2 = some 2 := (rfl)
theorem ixn_9_3 : ixN 9 3 = some 3 := (rfl)
theorem ixn_9_4 : ixN 9 4 = some 4 := (rfl)
theorem ixn_9_5 : ixN 9 5 = some 5 := (rfl)
theorem ixn_9_6 : ixN 9 6 = some 6 := (rfl)
theorem ixn_9_7 : ixN 9 7 = some 7 := (rfl)
theorem ixn_9_8 : ixN 9 8 = some 8 := (rfl)
theorem ixn_10_0 : ixN 10 0 = some 0 := (rfl)
theorem ixn_10_1 : ixN 10 1 = some 1 := (rfl)
theorem ixn_10_2 : ixN 10 2 = some 2 := (rfl)
theorem ixn_10_3 : ixN 10 3 = some 3 := (rfl)
theorem ixn_10_4 : ixN 10 4 = some 4 := (rfl)
theorem ixn_10_5 : ixN 10 5 = some 5 := (rfl)
theorem ixn_10_6 : ixN 10 6 = some 6 := (rfl)
theorem ixn_10_7 : ixN 10 7 = some 7 := (rfl)
theorem ixn_10_8 : ixN 10 8 = some 8 := (rfl)
theorem ixn_10_9 : ixN 10 9 = some 9 := (rfl)
theorem ixn_11_0 : ixN 11 0 = some 0 := (rfl)
theorem ixn_11_1 : ixN 11 1 = some 1 := (rfl)
theorem ixn_11_2 : ixN 11 2 = some 2 := (rfl)
theorem ixn_11_3 : ixN 11 3 = some 3 := (rfl)
theorem ixn_11_4 : ixN 11 4 = some 4 := (rfl)
theorem ixn_11_5 : ixN 11 5 = some 5 := (rfl)
theorem ixn_11_6 : ixN 11 6 = some 6 := (rfl)
theorem ixn_11_7 : ixN 11 7 = some 7 := (rfl)
theorem ixn_11_8 : ixN 11 8 = some 8 := (rfl)
theorem ixn_11_9 : ixN 11 9 = some 9 := (rfl)
theorem ixn_11_10 : ixN 11 10 = some 10 := (rfl)
theorem ixn_12_0 : ixN 12 0 = some 0 := (rfl)
theorem ixn_12_1 : ixN 12 1 = some 1 := (rfl)
theorem ixn_12_2 : ixN 12 2 = some 2 := (rfl)
theorem ixn_12_3 : ixN 12 3 = some 3 := (rfl)
theorem ixn_12_4 : ixN 12 4 = some 4 := (rfl)
theorem ixn_12_5 : ixN 12 5 = some 5 := (rfl)
theorem ixn_12_6 : ixN 12 6 = some 6 := (rfl)
theorem ixn_12_7 : ixN 12 7 = some 7 := (rfl)
theorem ixn_12_8 : ixN 12 8 = some 8 := (rfl)
theorem ixn_12_9 : ixN 12 9 = some 9 := (rfl)
theorem ixn_12_10 : ixN 12 10 = some 10 := (rfl)
theorem ixn_12_11 : ixN 12 11 = some 11 := (rfl)
end Vl

/-! VlR: data that may be shown. -/
namespace Vl
open PySem PySem.Spec PyProof.Rows L2
mutual
/-- no exception in it; ints of at most forty figures, texts of signs -/
def okD : D → Bool
  | .non => true
  | .bl _ => true
  | .int i => decide (i.natAbs < 10 ^ 40)
  | .str x => x.cps.toList.all fun c => decide (c < 1114112)
  | .tup xs => okL xs
  | .lst xs => okL xs
  | .dic kvs => kvs.isEmpty
  | .dit _ => false
  | .exc _ _ => false
def okL : List D → Bool
  | [] => true
  | x :: xs => okD x && okL xs
end
mutual
def dpt : D → Nat
  | .tup xs => dptL xs + 1
  | .lst xs => dptL xs + 1
  | .dic _ => 1
  | _ => 0
def dptL : List D → Nat
  | [] => 0
  | x :: xs => max (dpt x) (dptL xs)
end
mutual
def wt : D → Nat
  | .int i => if i.natAbs < 10 ^ 12 then 5 else 20
  | .str x => 1 + x.length
  | .tup xs => 1 + wtL xs
  | .lst xs => 1 + wtL xs
  | _ => 1
def wtL : List D → Nat
  | [] => 0
  | x :: xs => wt x + 1 + wtL xs
end
/-- no exception itself -/
def plain : D → Bool
  | .exc _ _ => false
  | .dit _ => false
  | _ => true
theorem okD_plain {d : D} (h : okD d = true) : plain d = true := by cases d <;> first | rfl | (rw [okD] at h; cases h)
def rp (d : D) : Str := match d.pyx with
  | some p => p.shown
  | none => ""
mutual
theorem py_ok : ∀ {d : D}, okD d = true → ∃ p, d.pyx = some p ∧ p.showable = true ∧ p.leavesShort 42 = true ∧ p.depth ≤ dpt d ∧ p.weight ≤ 8 * wt d
  | .non, _ => ⟨_, rfl, rfl, rfl, by simp [PyData.depth], by simp [PyData.weight, wt]⟩
  | .bl b, _ => ⟨_, rfl, rfl, rfl, by simp [PyData.depth], by simp [PyData.weight, wt]⟩
  | .int i, h => by
    rw [okD, decide_eq_true_eq] at h
    refine ⟨_, rfl, ?_, ?_, by simp [PyData.depth], ?_⟩
    · simp only [PyData.showable, decide_eq_true_eq]
      by_cases hz : i.natAbs = 0
      · rw [hz]; decide
      · have := (Nat.log2_lt hz (k := 1920)).mpr (Nat.lt_trans h (by decide +kernel))
        exact this
    · simp only [PyData.leavesShort, decide_eq_true_eq]
      have e := int_text_length_le10 (k := 40) (by decide) h
      show (Str.ofString (toString i)).length ≤ 42
      rw [PySem.ofString_length]
      omega
    · simp only [PyData.weight, wt]
      by_cases hz : i.natAbs = 0
      · have : i = 0 := by omega
        subst this
        decide
      · have hi : (i == 0) = false := by simp; omega
        rw [hi]
        simp only [Bool.false_eq_true, if_false]
        split
        · rename_i q
          have := (Nat.log2_lt hz (k := 40)).mpr (Nat.lt_trans q (by decide +kernel))
          omega
        · have := (Nat.log2_lt hz (k := 133)).mpr (Nat.lt_trans h (by decide +kernel))
          omega
  | .str x, h => by
    rw [okD] at h
    refine ⟨_, rfl, rfl, ?_, by simp [PyData.depth], ?_⟩
    · simp only [PyData.leavesShort, List.all_eq_true, decide_eq_true_eq] at h ⊢
      intro c hc
      have := h c hc
      omega
    · simp only [PyData.weight, wt]
      have : x.cps.size = x.length := rfl
      omega
  | .tup xs, h => by
    rw [okD] at h
    obtain ⟨ps, e1, e2, e3, e4, e5⟩ := pyL_ok h
    refine ⟨.tuple ps, by rw [D.pyx, e1]; rfl, by simpa [PyData.showable] using e2, by simpa [PyData.leavesShort] using e3, ?_, ?_⟩
    · simp only [PyData.depth, dpt]; omega
    · simp only [PyData.weight, wt]; omega
  | .lst xs, h => by
    rw [okD] at h
    obtain ⟨ps, e1, e2, e3, e4, e5⟩ := pyL_ok h
    refine ⟨.list ps, by rw [D.pyx, e1]; rfl, by simpa [PyData.showable] using e2, by simpa [PyData.leavesShort] using e3, ?_, ?_⟩
    · simp only [PyData.depth, dpt]; omega
    · simp only [PyData.weight, wt]; omega
  | .dic [], _ => ⟨.dict [], rfl, rfl, rfl, by simp [PyData.depth, PyData.depthKv, dpt], by simp [PyData.weight, PyData.weightKv, wt]⟩
  | .dic (_ :: _), h => by rw [okD] at h; cases h
  | .dit _, h => by rw [okD] at h; cases h
  | .exc _ _, h => by rw [okD] at h; cases h
theorem pyL_ok : ∀ {ds : List D}, okL ds = true → ∃ ps, D.pyxL ds = some ps ∧ PyData.showableAll ps = true ∧ PyData.leavesShortAll 42 ps = true ∧ PyData.depthAll ps ≤ dptL ds ∧ PyData.weightAll ps ≤ 8 * wtL ds
  | [], _ => ⟨[], rfl, rfl, rfl, by simp [PyData.depthAll], by simp [PyData.weightAll]⟩
  | d :: ds, h => by
    rw [okL, Bool.and_eq_true] at h
    obtain ⟨p, e1, e2, e3, e4, e5⟩ := py_ok h.1
    obtain ⟨ps, f1, f2, f3, f4, f5⟩ := pyL_ok h.2
    refine ⟨p :: ps, by rw [D.pyxL, e1, f1], by simp [PyData.showableAll, e2, f2], by simp [PyData.leavesShortAll, e3, f3], ?_, ?_⟩
    · simp only [PyData.depthAll, dptL]; omega
    · simp only [PyData.weightAll, wtL]; omega
end
/-- good data of some weight and depth -/
def Tm (w k : Nat) (d : D) : Prop := okD d = true ∧ wt d ≤ w ∧ dpt d ≤ k
theorem Tm.mono {w w' k k' : Nat} {d : D} (h : Tm w k d) (hw : w ≤ w') (hk : k ≤ k') : Tm w' k' d := ⟨h.1, Nat.le_trans h.2.1 hw, Nat.le_trans h.2.2 hk⟩
theorem Tm.pl {w k : Nat} {d : D} (h : Tm w k d) : plain d = true := okD_plain h.1
theorem repr_ok {w k : Nat} {d : D} (h : Tm w k d) (hw : w ≤ 40000) (hk : k ≤ 55) : gReprX [d] = some (.str (rp d)) := by
  obtain ⟨h1, h2, h3⟩ := h
  obtain ⟨p, e1, e2, e3, e4, e5⟩ := py_ok h1
  have h := PyData.shown_le 42 (by decide) p e3
  have hl : p.shown.length ≤ sizeLine := by
    rw [sizeLine_eq]
    have : (42 + 2) * p.weight ≤ 44 * 320000 := Nat.mul_le_mul (by omega) (by omega)
    omega
  unfold gReprX rp
  simp only [e1]
  rw [if_pos ⟨e2, hl, by omega⟩]
theorem Tm_non : Tm 1 0 .non := ⟨rfl, by decide, by decide⟩
theorem Tm_bl {b : Bool} : Tm 1 0 (.bl b) := ⟨rfl, by simp [wt], by simp [dpt]⟩
theorem Tm_int {i : Int} (h : i.natAbs < 10 ^ 12) : Tm 5 0 (.int i) := ⟨by rw [okD, decide_eq_true_eq]; omega, by rw [wt, if_pos h]; omega, by simp [dpt]⟩
theorem Tm_intL {i : Int} (h : i.natAbs < 10 ^ 40) : Tm 20 0 (.int i) := ⟨by rw [okD, decide_eq_true_eq]; omega, by rw [wt]; split <;> omega, by simp [dpt]⟩
theorem Tm_str {x : Str} {n : Nat} (h : x.length ≤ n) (hc : ∀ c ∈ x.cps.toList, c < 1114112) : Tm (n + 1) 0 (.str x) := ⟨by rw [okD]; exact List.all_eq_true.mpr fun c h => decide_eq_true (hc c h), by rw [wt]; omega, by simp [dpt]⟩
theorem Tm_tup0 : Tm 1 1 (.tup []) := ⟨rfl, by decide, by decide⟩
theorem Tm_lst0 : Tm 1 1 (.lst []) := ⟨rfl, by decide, by decide⟩
theorem Tm_dic0 : Tm 1 1 (.dic []) := ⟨rfl, by decide, by decide⟩
theorem Tm_tcons {w v k : Nat} {d : D} {ds : List D} (h : Tm w k d) (hs : Tm v (k + 1) (.tup ds)) : Tm (v + w + 1) (k + 1) (.tup (d :: ds)) := by
  obtain ⟨h1, h2, h3⟩ := h
  obtain ⟨g1, g2, g3⟩ := hs
  rw [okD] at g1
  simp only [wt, dpt] at g2 g3
  refine ⟨by rw [okD, okL, h1, g1]; rfl, ?_, ?_⟩
  · simp only [wt, wtL]; omega
  · simp only [dpt, dptL]; omega
theorem Tm_lcons {w v k : Nat} {d : D} {ds : List D} (h : Tm w k d) (hs : Tm v (k + 1) (.lst ds)) : Tm (v + w + 1) (k + 1) (.lst (d :: ds)) := by
  obtain ⟨h1, h2, h3⟩ := h
  obtain ⟨g1, g2, g3⟩ := hs
  rw [okD] at g1
  simp only [wt, dpt] at g2 g3
  refine ⟨by rw [okD, okL, h1, g1]; rfl, ?_, ?_⟩
  · simp only [wt, wtL]; omega
  · simp only [dpt, dptL]; omega
theorem repr_bl {b : Bool} : gReprX [.bl b] = some (.str (rp (.bl b))) := repr_ok (Tm_bl (b := b)) (by decide) (by decide)
theorem repr_non : gReprX [.non] = some (.str (rp .non)) := repr_ok Tm_non (by decide) (by decide)
theorem okL_mem {ds : List D} : okL ds = true ↔ ∀ d ∈ ds, okD d = true := by
  induction ds with
  | nil => simp [okL]
  | cons d ds ih => simp [okL, ih]
theorem dptL_le {ds : List D} {k : Nat} : dptL ds ≤ k ↔ ∀ d ∈ ds, dpt d ≤ k := by
  induction ds with
  | nil => simp [dptL]
  | cons d ds ih => simp only [dptL, List.mem_cons, forall_eq_or_imp]; rw [← ih]; omega
theorem wtL_app {ds es : List D} : wtL (ds ++ es) = wtL ds + wtL es := by
  induction ds with
  | nil => simp [wtL]
  | cons d ds ih => simp only [List.cons_append, wtL, ih]; omega
theorem wtL_take {ds : List D} {n : Nat} : wtL (ds.take n) ≤ wtL ds := by
  have h := wtL_app (ds := ds.take n) (es := ds.drop n)
  rw [List.take_append_drop] at h
  omega
theorem wtL_drop {ds : List D} {n : Nat} : wtL (ds.drop n) ≤ wtL ds := by
  have h := wtL_app (ds := ds.take n) (es := ds.drop n)
  rw [List.take_append_drop] at h
  omega
theorem wt_mem {ds : List D} {d : D} (h : d ∈ ds) : wt d + 1 ≤ wtL ds := by
  induction ds with
  | nil => cases h
  | cons e ds ih =>
    rcases List.mem_cons.mp h with rfl | h
    · simp only [wtL]; omega
    · have := ih h
      simp only [wtL]; omega
theorem OP_at {α : Type} {l : List α} {r : Int} {k : α → Prop} (h0 : 0 ≤ r) (h1 : r < l.length) (h : ∀ d ∈ l, k d) : OP (atI l r) k := by
  obtain ⟨d, e, hm⟩ := at_mem h0 h1
  exact OP.intro e (h d hm)
theorem cut_lo {ds : List D} {r : Int} (h0 : 0 ≤ r) (h1 : r ≤ ds.length) : Vl.cutD ds none (some r) = ds.take r.toNat := by
  unfold Vl.cutD HT.sIx
  have : ¬ r < 0 := by omega
  simp [this]
  try omega
theorem cut_hi {ds : List D} {r : Int} (h0 : 0 ≤ r) (h1 : r ≤ ds.length) : Vl.cutD ds (some r) none = ds.drop r.toNat := by
  unfold Vl.cutD HT.sIx
  have : ¬ r < 0 := by omega
  simp [this]
  have e : min r.toNat ds.length = r.toNat := by omega
  rw [e]
  exact List.take_of_length_le (by rw [List.length_drop]; omega)
theorem len_wtL {ds : List D} : ds.length ≤ wtL ds := by
  induction ds with
  | nil => simp [wtL]
  | cons d ds ih => simp only [List.length_cons, wtL]; omega
theorem Tm_tup {w k : Nat} {ds : List D} (h : ∀ d ∈ ds, okD d = true ∧ dpt d ≤ k) (hw : wtL ds + 1 ≤ w) : Tm w (k + 1) (.tup ds) := by
  refine ⟨by rw [okD]; exact okL_mem.mpr fun d hd => (h d hd).1, by rw [wt]; omega, ?_⟩
  rw [dpt]
  have := dptL_le.mpr fun d hd => (h d hd).2
  omega
theorem Tm_lst {w k : Nat} {ds : List D} (h : ∀ d ∈ ds, okD d = true ∧ dpt d ≤ k) (hw : wtL ds + 1 ≤ w) : Tm w (k + 1) (.lst ds) := by
  refine ⟨by rw [okD]; exact okL_mem.mpr fun d hd => (h d hd).1, by rw [wt]; omega, ?_⟩
  rw [dpt]
  have := dptL_le.mpr fun d hd => (h d hd).2
  omega
theorem Tm.items {w k : Nat} {ds : List D} (h : Tm w k (.tup ds)) : 1 ≤ k ∧ wtL ds + 1 ≤ w ∧ ∀ d ∈ ds, okD d = true ∧ dpt d ≤ k - 1 ∧ wt d + 2 ≤ w := by
  obtain ⟨h1, h2, h3⟩ := h
  rw [okD] at h1
  rw [wt] at h2
  rw [dpt] at h3
  refine ⟨by omega, by omega, fun d hd => ⟨okL_mem.mp h1 d hd, dptL_le.mp (by omega) d hd, ?_⟩⟩
  have := wt_mem hd
  omega
/-- a value that is one thing, or a list of things -/
def Vt (t : T) : Prop := (∃ d, t = .fro d) ∨ ∃ ds : List D, t = .lst (ds.map .fro)
theorem OP_ix {α : Type} {l : List α} {r : Int} {k : α → Prop} (h0 : 0 ≤ r) (h1 : r < l.length) (h : ∀ d, l[r.toNat]? = some d → k d) : OP (atI l r) k := by
  obtain ⟨d, e, hm⟩ := at_ok h0 h1
  exact OP.intro e (h d hm)
theorem drop_at {α : Type} {l : List α} {n : Nat} {d : α} (h : l[n]? = some d) : l.drop n = d :: l.drop (n + 1) := by
  obtain ⟨hl, e⟩ := List.getElem?_eq_some_iff.mp h
  rw [List.drop_eq_getElem_cons hl, e]
theorem set_self {ρ : Env} {i : Nat} : ∃ y, ρ = ρ.set i y := by
  refine ⟨(ρ[i]?).getD none, ?_⟩
  apply List.ext_getElem?
  intro n
  rw [List.getElem?_set]
  by_cases h : i = n
  · subst h
    rw [if_pos rfl]
    cases e : ρ[i]? with
    | none =>
      have := List.getElem?_eq_none_iff.mp e
      rw [if_neg (by omega)]
    | some x =>
      obtain ⟨hl, _⟩ := List.getElem?_eq_some_iff.mp e
      rw [if_pos hl]; rfl
  · rw [if_neg h]
/-- a loop in which but some slots stay as they are -/
theorem W_loop1 (i : Nat) {tgt : D → Env → Option Env} {b : Env → Out Fl} {KF : Fl → Env → Prop} {E : Exn → Env → Prop} {ds : List D} {ρ : Env} (st : ∀ d ∈ ds, ∀ y, OP (tgt d (ρ.set i y)) fun ρ1 => WP (b ρ1) (fun f ρ2 => FlE f (∃ y, ρ2 = ρ.set i y) (KF .nx ρ2) (∃ y, ρ2 = ρ.set i y) (fun t => KF (.rt t) ρ2)) E)
    (k : ∀ y, KF .nx (ρ.set i y)) : WP (loopD tgt b ds ρ) KF E :=
  W_loop (fun ρ' => ∃ y, ρ' = ρ.set i y) set_self (fun d hd ρ' h => by obtain ⟨y, rfl⟩ := h; exact st d hd y) fun ρ' h => by obtain ⟨y, rfl⟩ := h; exact k y
theorem W_loop2 (i j : Nat) {tgt : D → Env → Option Env} {b : Env → Out Fl} {KF : Fl → Env → Prop} {E : Exn → Env → Prop} {ds : List D} {ρ : Env} (st : ∀ d ∈ ds, ∀ y z, OP (tgt d ((ρ.set i y).set j z)) fun ρ1 => WP (b ρ1) (fun f ρ2 => FlE f (∃ y z, ρ2 = (ρ.set i y).set j z) (KF .nx ρ2) (∃ y z, ρ2 = (ρ.set i y).set j z) (fun t => KF (.rt t) ρ2)) E)
    (k : ∀ y z, KF .nx ((ρ.set i y).set j z)) : WP (loopD tgt b ds ρ) KF E :=
  W_loop (fun ρ' => ∃ y z, ρ' = (ρ.set i y).set j z) (by
    obtain ⟨y, e⟩ := set_self (ρ := ρ) (i := i)
    obtain ⟨z, e2⟩ := set_self (ρ := ρ.set i y) (i := j)
    exact ⟨y, z, e.trans e2⟩) (fun d hd ρ' h => by obtain ⟨y, z, rfl⟩ := h; exact st d hd y z) fun ρ' h => by obtain ⟨y, z, rfl⟩ := h; exact k y z
theorem W_loop3 (i j l : Nat) {tgt : D → Env → Option Env} {b : Env → Out Fl} {KF : Fl → Env → Prop} {E : Exn → Env → Prop} {ds : List D} {ρ : Env} (st : ∀ d ∈ ds, ∀ y z w, OP (tgt d (((ρ.set i y).set j z).set l w)) fun ρ1 => WP (b ρ1) (fun f ρ2 => FlE f (∃ y z w, ρ2 = ((ρ.set i y).set j z).set l w) (KF .nx ρ2) (∃ y z w, ρ2 = ((ρ.set i y).set j z).set l w) (fun t => KF (.rt t) ρ2)) E)
    (k : ∀ y z w, KF .nx (((ρ.set i y).set j z).set l w)) : WP (loopD tgt b ds ρ) KF E :=
  W_loop (fun ρ' => ∃ y z w, ρ' = ((ρ.set i y).set j z).set l w) (by
    obtain ⟨y, e⟩ := set_self (ρ := ρ) (i := i)
    obtain ⟨z, e2⟩ := set_self (ρ := ρ.set i y) (i := j)
    obtain ⟨w, e3⟩ := set_self (ρ := (ρ.set i y).set j z) (i := l)
    exact ⟨y, z, w, (e.trans e2).trans e3⟩) (fun d hd ρ' h => by obtain ⟨y, z, w, rfl⟩ := h; exact st d hd y z w) fun ρ' h => by obtain ⟨y, z, w, rfl⟩ := h; exact k y z w
theorem W_loop4 (i0 i1 i2 i3 : Nat) {tgt : D → Env → Option Env} {b : Env → Out Fl} {KF : Fl → Env → Prop} {E : Exn → Env → Prop} {ds : List D} {ρ : Env} (st : ∀ d ∈ ds, ∀ y0 y1 y2 y3, OP (tgt d ((((ρ.set i0 y0).set i1 y1).set i2 y2).set i3 y3)) fun ρ1 => WP (b ρ1) (fun f ρ2 => FlE f (∃ y0 y1 y2 y3, ρ2 = (((ρ.set i0 y0).set i1 y1).set i2 y2).set i3 y3) (KF .nx ρ2) (∃ y0 y1 y2 y3, ρ2 = (((ρ.set i0 y0).set i1 y1).set i2 y2).set i3 y3) (fun t => KF (.rt t) ρ2)) E)
    (k : ∀ y0 y1 y2 y3, KF .nx ((((ρ.set i0 y0).set i1 y1).set i2 y2).set i3 y3)) : WP (loopD tgt b ds ρ) KF E :=
  W_loop (fun ρ' => ∃ y0 y1 y2 y3, ρ' = (((ρ.set i0 y0).set i1 y1).set i2 y2).set i3 y3) (by
    obtain ⟨y0, e0⟩ := set_self (ρ := ρ) (i := i0)
    obtain ⟨y1, e1⟩ := set_self (ρ := (ρ.set i0 y0)) (i := i1)
    obtain ⟨y2, e2⟩ := set_self (ρ := ((ρ.set i0 y0).set i1 y1)) (i := i2)
    obtain ⟨y3, e3⟩ := set_self (ρ := (((ρ.set i0 y0).set i1 y1).set i2 y2)) (i := i3)
    exact ⟨y0, y1, y2, y3, (((e0.trans e1).trans e2).trans e3)⟩) (fun d hd ρ' h => by obtain ⟨y0, y1, y2, y3, rfl⟩ := h; exact st d hd y0 y1 y2 y3) fun ρ' h => by obtain ⟨y0, y1, y2, y3, rfl⟩ := h; exact k y0 y1 y2 y3
theorem W_loop5 (i0 i1 i2 i3 i4 : Nat) {tgt : D → Env → Option Env} {b : Env → Out Fl} {KF : Fl → Env → Prop} {E : Exn → Env → Prop} {ds : List D} {ρ : Env} (st : ∀ d ∈ ds, ∀ y0 y1 y2 y3 y4, OP (tgt d (((((ρ.set i0 y0).set i1 y1).set i2 y2).set i3 y3).set i4 y4)) fun ρ1 => WP (b ρ1) (fun f ρ2 => FlE f (∃ y0 y1 y2 y3 y4, ρ2 = ((((ρ.set i0 y0).set i1 y1).set i2 y2).set i3 y3).set i4 y4) (KF .nx ρ2) (∃ y0 y1 y2 y3 y4, ρ2 = ((((ρ.set i0 y0).set i1 y1).set i2 y2).set i3 y3).set i4 y4) (fun t => KF (.rt t) ρ2)) E)
    (k : ∀ y0 y1 y2 y3 y4, KF .nx (((((ρ.set i0 y0).set i1 y1).set i2 y2).set i3 y3).set i4 y4)) : WP (loopD tgt b ds ρ) KF E :=
  W_loop (fun ρ' => ∃ y0 y1 y2 y3 y4, ρ' = ((((ρ.set i0 y0).set i1 y1).set i2 y2).set i3 y3).set i4 y4) (by
    obtain ⟨y0, e0⟩ := set_self (ρ := ρ) (i := i0)
    obtain ⟨y1, e1⟩ := set_self (ρ := (ρ.set i0 y0)) (i := i1)
    obtain ⟨y2, e2⟩ := set_self (ρ := ((ρ.set i0 y0).set i1 y1)) (i := i2)
    obtain ⟨y3, e3⟩ := set_self (ρ := (((ρ.set i0 y0).set i1 y1).set i2 y2)) (i := i3)
    obtain ⟨y4, e4⟩ := set_self (ρ := ((((ρ.set i0 y0).set i1 y1).set i2 y2).set i3 y3)) (i := i4)
    exact ⟨y0, y1, y2, y3, y4, ((((e0.trans e1).trans e2).trans e3).trans e4)⟩) (fun d hd ρ' h => by obtain ⟨y0, y1, y2, y3, y4, rfl⟩ := h; exact st d hd y0 y1 y2 y3 y4) fun ρ' h => by obtain ⟨y0, y1, y2, y3, y4, rfl⟩ := h; exact k y0 y1 y2 y3 y4
theorem W_loop6 (i0 i1 i2 i3 i4 i5 : Nat) {tgt : D → Env → Option Env} {b : Env → Out Fl} {KF : Fl → Env → Prop} {E : Exn → Env → Prop} {ds : List D} {ρ : Env} (st : ∀ d ∈ ds, ∀ y0 y1 y2 y3 y4 y5, OP (tgt d ((((((ρ.set i0 y0).set i1 y1).set i2 y2).set i3 y3).set i4 y4).set i5 y5)) fun ρ1 => WP (b ρ1) (fun f ρ2 => FlE f (∃ y0 y1 y2 y3 y4 y5, ρ2 = (((((ρ.set i0 y0).set i1 y1).set i2 y2).set i3 y3).set i4 y4).set i5 y5) (KF .nx ρ2) (∃ y0 y1 y2 y3 y4 y5, ρ2 = (((((ρ.set i0 y0).set i1 y1).set i2 y2).set i3 y3).set i4 y4).set i5 y5) (fun t => KF (.rt t) ρ2)) E)
    (k : ∀ y0 y1 y2 y3 y4 y5, KF .nx ((((((ρ.set i0 y0).set i1 y1).set i2 y2).set i3 y3).set i4 y4).set i5 y5)) : WP (loopD tgt b ds ρ) KF E :=
  W_loop (fun ρ' => ∃ y0 y1 y2 y3 y4 y5, ρ' = (((((ρ.set i0 y0).set i1 y1).set i2 y2).set i3 y3).set i4 y4).set i5 y5) (by
    obtain ⟨y0, e0⟩ := set_self (ρ := ρ) (i := i0)
    obtain ⟨y1, e1⟩ := set_self (ρ := (ρ.set i0 y0)) (i := i1)
    obtain ⟨y2, e2⟩ := set_self (ρ := ((ρ.set i0 y0).set i1 y1)) (i := i2)
    obtain ⟨y3, e3⟩ := set_self (ρ := (((ρ.set i0 y0).set i1 y1).set i2 y2)) (i := i3)
    obtain ⟨y4, e4⟩ := set_self (ρ := ((((ρ.set i0 y0).set i1 y1).set i2 y2).set i3 y3)) (i := i4)
    obtain ⟨y5, e5⟩ := set_self (ρ := (((((ρ.set i0 y0).set i1 y1).set i2 y2).set i3 y3).set i4 y4)) (i := i5)
    exact ⟨y0, y1, y2, y3, y4, y5, (((((e0.trans e1).trans e2).trans e3).trans e4).trans e5)⟩) (fun d hd ρ' h => by obtain ⟨y0, y1, y2, y3, y4, y5, rfl⟩ := h; exact st d hd y0 y1 y2 y3 y4 y5) fun ρ' h => by obtain ⟨y0, y1, y2, y3, y4, y5, rfl⟩ := h; exact k y0 y1 y2 y3 y4 y5
theorem tm_put {w k v j a b : Nat} {ds : List D} {x : D} (h : Tm w k (.tup ds)) (hx : Tm v j x) (hab : a ≤ b) : Tm (w + v + 2) (max k (j + 1)) (.tup (ds.take a ++ x :: ds.drop b)) := by
  obtain ⟨k1, w1, im⟩ := h.items
  have e : max k (j + 1) = max (k - 1) j + 1 := by omega
  rw [e]
  refine Tm_tup (fun d hd => ?_) ?_
  · rcases List.mem_append.mp hd with q | q
    · have := im d (List.mem_of_mem_take q); exact ⟨this.1, by omega⟩
    · rcases List.mem_cons.mp q with rfl | q
      · exact ⟨hx.1, by have := hx.2.2; omega⟩
      · have := im d (List.mem_of_mem_drop q); exact ⟨this.1, by omega⟩
  · have h1 := wtL_app (ds := ds.take a) (es := ds.drop a)
    rw [List.take_append_drop] at h1
    have h2 : wtL (ds.drop b) ≤ wtL (ds.drop a) := by
      have : ds.drop b = (ds.drop a).drop (b - a) := by rw [List.drop_drop]; congr 1; omega
      rw [this]; exact wtL_drop
    have h3 := hx.2.1
    rw [wtL_app, wtL]
    omega
theorem tm_cut {w k a b : Nat} {ds : List D} (h : Tm w k (.tup ds)) (hab : a ≤ b) : Tm w k (.tup (ds.take a ++ ds.drop b)) := by
  obtain ⟨k1, w1, im⟩ := h.items
  have e : k = (k - 1) + 1 := by omega
  rw [e]
  refine Tm_tup (fun d hd => ?_) ?_
  · rcases List.mem_append.mp hd with q | q
    · have := im d (List.mem_of_mem_take q); exact ⟨this.1, by omega⟩
    · have := im d (List.mem_of_mem_drop q); exact ⟨this.1, by omega⟩
  · have h1 := wtL_app (ds := ds.take a) (es := ds.drop a)
    rw [List.take_append_drop] at h1
    have h2 : wtL (ds.drop b) ≤ wtL (ds.drop a) := by
      have : ds.drop b = (ds.drop a).drop (b - a) := by rw [List.drop_drop]; congr 1; omega
      rw [this]; exact wtL_drop
    rw [wtL_app]
    omega
theorem wtL_le {ds : List D} {w : Nat} (h : ∀ d ∈ ds, wt d ≤ w) : wtL ds ≤ (w + 1) * ds.length := by
  induction ds with
  | nil => simp [wtL]
  | cons d ds ih =>
    have h1 := h d List.mem_cons_self
    have h2 := ih fun e he => h e (List.mem_cons_of_mem _ he)
    simp only [wtL, List.length_cons, Nat.mul_add, Nat.mul_one]
    omega
theorem OP_ixN {n : Nat} {k : Int} {K : Nat → Prop} (h0 : 0 ≤ k) (h1 : k < n) (h : K k.toNat) : OP (ixN n k) K := by
  unfold ixN
  rw [if_pos h0, if_pos h1]
  exact h
theorem fro_set {ds : List D} {n : Nat} {d : D} : (ds.map T.fro).set n (T.fro d) = (ds.set n d).map T.fro := by rw [List.map_set]
theorem cut_lo' {ds : List D} {r : Int} (h0 : 0 ≤ r) : Vl.cutD ds none (some r) = ds.take r.toNat := by
  by_cases h : r ≤ ds.length
  · exact cut_lo h0 h
  · unfold Vl.cutD HT.sIx
    have h2 : ¬ r < 0 := by omega
    simp only [h2, if_false, List.drop_zero, Nat.sub_zero]
    rw [List.take_of_length_le (by omega), List.take_of_length_le (by omega)]
theorem cut_hi' {ds : List D} {r : Int} (h0 : 0 ≤ r) : Vl.cutD ds (some r) none = ds.drop r.toNat := by
  by_cases h : r ≤ ds.length
  · exact cut_hi h0 h
  · unfold Vl.cutD HT.sIx
    have h2 : ¬ r < 0 := by omega
    simp only [h2, if_false]
    have e : min r.toNat ds.length = ds.length := by omega
    rw [e, List.drop_of_length_le (Nat.le_refl _), List.drop_of_length_le (by omega), List.take_nil]
end Vl

/-! VlQ: equality of data. -/
namespace Vl
open PySem PySem.Spec PyProof.Rows L2
mutual
/-- no truths, dicts or exceptions in it -/
def nb : D → Bool
  | .non => true
  | .int _ => true
  | .str x => PyData.strOk x
  | .tup xs => nbL xs
  | .lst xs => nbL xs
  | .bl _ => false
  | .dic _ => false
  | .dit _ => false
  | .exc _ _ => false
def nbL : List D → Bool
  | [] => true
  | x :: xs => nb x && nbL xs
end
mutual
/-- no dicts or exceptions in it -/
def nd : D → Bool
  | .non => true
  | .bl _ => true
  | .int _ => true
  | .str x => PyData.strOk x
  | .tup xs => ndL xs
  | .lst xs => ndL xs
  | .dic _ => false
  | .dit _ => false
  | .exc _ _ => false
def ndL : List D → Bool
  | [] => true
  | x :: xs => nd x && ndL xs
end
mutual
theorem nb_nd : ∀ {d : D}, nb d = true → nd d = true
  | .non, _ => rfl
  | .bl _, h => by rw [nb] at h; cases h
  | .int _, _ => rfl
  | .str x, h => by rw [nb] at h; rw [nd]; exact h
  | .tup xs, h => by rw [nb] at h; rw [nd]; exact nbL_ndL h
  | .lst xs, h => by rw [nb] at h; rw [nd]; exact nbL_ndL h
  | .dic _, h => by rw [nb] at h; cases h
  | .dit _, h => by rw [nb] at h; cases h
  | .exc _ _, h => by rw [nb] at h; cases h
theorem nbL_ndL : ∀ {ds : List D}, nbL ds = true → ndL ds = true
  | [], _ => rfl
  | d :: ds, h => by
    rw [nbL, Bool.and_eq_true] at h
    rw [ndL, nb_nd h.1, nbL_ndL h.2]; rfl
end
mutual
theorem nd_py : ∀ {d : D}, nd d = true → ∃ p, d.py = some p ∧ p.canLay0 = true ∧ p.depth ≤ dpt d
  | .non, _ => ⟨_, rfl, rfl, by simp [PyData.depth]⟩
  | .bl _, _ => ⟨_, rfl, rfl, by simp [PyData.depth]⟩
  | .int _, _ => ⟨_, rfl, rfl, by simp [PyData.depth]⟩
  | .str x, h => ⟨_, rfl, by rw [nd] at h; rw [PyData.canLay0]; exact h, by simp [PyData.depth]⟩
  | .tup xs, h => by
    rw [nd] at h
    obtain ⟨ps, e1, e2, e3⟩ := ndL_py h
    exact ⟨.tuple ps, by rw [D.py, e1]; rfl, by rw [PyData.canLay0]; exact e2, by rw [PyData.depth, dpt]; omega⟩
  | .lst xs, h => by
    rw [nd] at h
    obtain ⟨ps, e1, e2, e3⟩ := ndL_py h
    exact ⟨.list ps, by rw [D.py, e1]; rfl, by rw [PyData.canLay0]; exact e2, by rw [PyData.depth, dpt]; omega⟩
  | .dic _, h => by rw [nd] at h; cases h
  | .dit _, h => by rw [nd] at h; cases h
  | .exc _ _, h => by rw [nd] at h; cases h
theorem ndL_py : ∀ {ds : List D}, ndL ds = true → ∃ ps, D.pyL ds = some ps ∧ PyData.canLayAll0 ps = true ∧ PyData.depthAll ps ≤ dptL ds
  | [], _ => ⟨[], rfl, rfl, by simp [PyData.depthAll]⟩
  | d :: ds, h => by
    rw [ndL, Bool.and_eq_true] at h
    obtain ⟨p, e1, e2, e3⟩ := nd_py h.1
    obtain ⟨ps, f1, f2, f3⟩ := ndL_py h.2
    exact ⟨p :: ps, by rw [D.pyL, e1, f1], by rw [PyData.canLayAll0, e2, f2]; rfl, by rw [PyData.depthAll, dptL]; omega⟩
end
mutual
theorem nb_eqv : ∀ {d e : D} {p q : PyData}, d.py = some p → e.py = some q → nb d = true → nb e = true → PyData.eqv p q = true → d = e
  | .non, e, p, q, h1, h2, _, n2, h => by
    rw [D.py] at h1; cases h1
    cases e with
    | non => rfl
    | int => rw [D.py] at h2; cases h2; cases h
    | str => rw [D.py] at h2; cases h2; cases h
    | tup xs => rw [D.py] at h2; obtain ⟨ps, _, rfl⟩ := Option.map_eq_some_iff.mp h2; cases h
    | lst xs => rw [D.py] at h2; obtain ⟨ps, _, rfl⟩ := Option.map_eq_some_iff.mp h2; cases h
    | _ => rw [nb] at n2; cases n2
  | .int i, e, p, q, h1, h2, _, n2, h => by
    rw [D.py] at h1; cases h1
    cases e with
    | non => rw [D.py] at h2; cases h2; cases h
    | int => rw [D.py] at h2; cases h2; rw [PyData.eqv] at h; rw [eq_of_beq h]
    | str => rw [D.py] at h2; cases h2; cases h
    | tup xs => rw [D.py] at h2; obtain ⟨ps, _, rfl⟩ := Option.map_eq_some_iff.mp h2; cases h
    | lst xs => rw [D.py] at h2; obtain ⟨ps, _, rfl⟩ := Option.map_eq_some_iff.mp h2; cases h
    | _ => rw [nb] at n2; cases n2
  | .str x, e, p, q, h1, h2, _, n2, h => by
    rw [D.py] at h1; cases h1
    cases e with
    | non => rw [D.py] at h2; cases h2; cases h
    | int => rw [D.py] at h2; cases h2; cases h
    | str => rw [D.py] at h2; cases h2; rw [PyData.eqv] at h; rw [eq_of_beq h]
    | tup xs => rw [D.py] at h2; obtain ⟨ps, _, rfl⟩ := Option.map_eq_some_iff.mp h2; cases h
    | lst xs => rw [D.py] at h2; obtain ⟨ps, _, rfl⟩ := Option.map_eq_some_iff.mp h2; cases h
    | _ => rw [nb] at n2; cases n2
  | .tup xs, e, p, q, h1, h2, n1, n2, h => by
    rw [D.py] at h1; obtain ⟨ps, e1, rfl⟩ := Option.map_eq_some_iff.mp h1
    cases e with
    | non => rw [D.py] at h2; cases h2; cases h
    | int => rw [D.py] at h2; cases h2; cases h
    | str => rw [D.py] at h2; cases h2; cases h
    | tup ys =>
      rw [D.py] at h2; obtain ⟨qs, e2, rfl⟩ := Option.map_eq_some_iff.mp h2
      rw [nb] at n1 n2
      rw [PyData.eqv] at h
      rw [nbL_eqv e1 e2 n1 n2 h]
    | lst xs => rw [D.py] at h2; obtain ⟨ps, _, rfl⟩ := Option.map_eq_some_iff.mp h2; cases h
    | _ => rw [nb] at n2; cases n2
  | .lst xs, e, p, q, h1, h2, n1, n2, h => by
    rw [D.py] at h1; obtain ⟨ps, e1, rfl⟩ := Option.map_eq_some_iff.mp h1
    cases e with
    | non => rw [D.py] at h2; cases h2; cases h
    | int => rw [D.py] at h2; cases h2; cases h
    | str => rw [D.py] at h2; cases h2; cases h
    | lst ys =>
      rw [D.py] at h2; obtain ⟨qs, e2, rfl⟩ := Option.map_eq_some_iff.mp h2
      rw [nb] at n1 n2
      rw [PyData.eqv] at h
      rw [nbL_eqv e1 e2 n1 n2 h]
    | tup xs => rw [D.py] at h2; obtain ⟨ps, _, rfl⟩ := Option.map_eq_some_iff.mp h2; cases h
    | _ => rw [nb] at n2; cases n2
  | .bl _, _, _, _, _, _, n, _, _ => by rw [nb] at n; cases n
  | .dic _, _, _, _, _, _, n, _, _ => by rw [nb] at n; cases n
  | .dit _, _, _, _, _, _, n, _, _ => by rw [nb] at n; cases n
  | .exc _ _, _, _, _, _, _, n, _, _ => by rw [nb] at n; cases n
theorem nbL_eqv : ∀ {ds es : List D} {ps qs : List PyData}, D.pyL ds = some ps → D.pyL es = some qs → nbL ds = true → nbL es = true → PyData.eqvAll ps qs = true → ds = es
  | [], es, ps, qs, h1, h2, _, _, h => by
    rw [D.pyL] at h1; cases h1
    cases es with
    | nil => rfl
    | cons e es =>
      rw [D.pyL] at h2
      cases x : e.py <;> cases y : D.pyL es <;> rw [x, y] at h2 <;> cases h2
      cases h
  | d :: ds, es, ps, qs, h1, h2, n1, n2, h => by
    rw [D.pyL] at h1
    cases x : d.py with
    | none => rw [x] at h1; cases h1
    | some p =>
      cases y : D.pyL ds with
      | none => rw [x, y] at h1; cases h1
      | some ps' =>
        rw [x, y] at h1; cases h1
        cases es with
        | nil => rw [D.pyL] at h2; cases h2; cases h
        | cons e es =>
          rw [D.pyL] at h2
          cases x2 : e.py with
          | none => rw [x2] at h2; cases h2
          | some q =>
            cases y2 : D.pyL es with
            | none => rw [x2, y2] at h2; cases h2
            | some qs' =>
              rw [x2, y2] at h2; cases h2
              rw [nbL, Bool.and_eq_true] at n1 n2
              rw [PyData.eqvAll, Bool.and_eq_true] at h
              rw [nb_eqv x x2 n1.1 n2.1 h.1, nbL_eqv y y2 n1.2 n2.2 h.2]
end
theorem eqD_def {d e : D} (h : ∀ a b, ¬ (d = .str a ∧ e = .str b)) : eqD d e = match d.py, e.py with
    | some p, some q => if SeqAt.shaped p && SeqAt.shaped q then some (PyData.eqv p q) else none
    | _, _ => none := by
  unfold eqD
  split
  · rename_i a b
    exact absurd ⟨rfl, rfl⟩ (h a b)
  · rfl
theorem sh_of {p : PyData} (h1 : p.canLay0 = true) (h2 : p.depth ≤ 60) : SeqAt.shaped p = true := by
  unfold SeqAt.shaped
  rw [h1, Bool.true_and, decide_eq_true_eq]
  omega
theorem eqD_self {d : D} (h : nd d = true) (k : dpt d ≤ 60) : eqD d d = some true := by
  by_cases hs : ∃ a, d = .str a
  · obtain ⟨a, rfl⟩ := hs
    show some (decide (a = a)) = some true
    simp
  · rw [eqD_def fun a b ⟨e, _⟩ => hs ⟨a, e⟩]
    obtain ⟨p, e1, e2, e3⟩ := nd_py h
    rw [e1]
    dsimp only
    rw [sh_of e2 (by omega)]
    rw [SeqAt.eqv_refl p e2]
    rfl
theorem eqD_ne {d e : D} (h : nb d = true) (h' : nb e = true) (k : dpt d ≤ 60) (k' : dpt e ≤ 60) (n : d ≠ e) : eqD d e = some false := by
  by_cases hs : ∃ a b, d = .str a ∧ e = .str b
  · obtain ⟨a, b, rfl, rfl⟩ := hs
    show some (decide (a = b)) = some false
    have : a ≠ b := fun q => n (by rw [q])
    simp [this]
  · rw [eqD_def fun a b q => hs ⟨a, b, q⟩]
    obtain ⟨p, e1, e2, e3⟩ := nd_py (nb_nd h)
    obtain ⟨q, f1, f2, f3⟩ := nd_py (nb_nd h')
    rw [e1, f1]
    dsimp only
    rw [sh_of e2 (by omega), sh_of f2 (by omega)]
    cases hq : PyData.eqv p q with
    | true => exact absurd (nb_eqv e1 f1 h h' hq) n
    | false => rfl
theorem gNe_self {d : D} (h : nd d = true) (k : dpt d ≤ 60) : gNe d d = some (.bl false) := by unfold gNe; rw [eqD_self h k]; rfl
theorem gNe_ne {d e : D} (h : nb d = true) (h' : nb e = true) (k : dpt d ≤ 60) (k' : dpt e ≤ 60) (n : d ≠ e) : gNe d e = some (.bl true) := by unfold gNe; rw [eqD_ne h h' k k' n]; rfl
theorem gEqX_def {d e : D} : gEqX d e = (eqD d e).map .bl ∨ ∃ xs, d = .tup xs ∧ e = .tup [] := by
  cases d with
  | tup ds =>
    cases e with
    | tup es =>
      cases es with
      | nil => exact .inr ⟨ds, rfl, rfl⟩
      | cons => exact .inl rfl
    | _ => exact .inl rfl
  | _ => exact .inl rfl
theorem gEqX_self {d : D} (h : nd d = true) (k : dpt d ≤ 60) : gEqX d d = some (.bl true) := by
  rcases gEqX_def (d := d) (e := d) with e | ⟨xs, rfl, e⟩
  · rw [e, eqD_self h k]; rfl
  · rw [e]; rfl
theorem gEqX_ne {d e : D} (h : nb d = true) (h' : nb e = true) (k : dpt d ≤ 60) (k' : dpt e ≤ 60) (n : d ≠ e) : gEqX d e = some (.bl false) := by
  rcases gEqX_def (d := d) (e := e) with q | ⟨xs, rfl, rfl⟩
  · rw [q, eqD_ne h h' k k' n]; rfl
  · cases xs with
    | nil => exact absurd rfl n
    | cons => rfl
theorem strOk_of {x : Str} (h : okD (.str x) = true) : PyData.strOk x = true := by
  rw [okD] at h
  unfold PyData.strOk
  rw [List.all_eq_true] at h
  refine Array.all_eq_true_iff_forall_mem.mpr fun c hc => ?_
  exact h c (Array.mem_toList_iff.mpr hc)
theorem eqX_nil {ds : List D} (h : ndL ds = true) (k : dptL ds ≤ 50) : gEqX (.lst ds) (.lst []) = some (.bl ds.isEmpty) := by
  have e : gEqX (.lst ds) (.lst []) = (eqD (.lst ds) (.lst [])).map .bl := rfl
  rw [e, eqD_def fun a b q => by cases q.1]
  obtain ⟨ps, e1, e2, e3⟩ := ndL_py h
  have e4 : D.py (.lst ds) = some (.list ps) := by rw [D.py, e1]; rfl
  have e5 : D.py (.lst []) = some (.list []) := rfl
  rw [e4, e5]
  dsimp only
  rw [sh_of (p := .list ps) (by rw [PyData.canLay0]; exact e2) (by rw [PyData.depth]; omega), sh_of (p := .list []) rfl (by decide)]
  cases ds with
  | nil => rw [D.pyL] at e1; cases e1; rfl
  | cons d ds =>
    rw [D.pyL] at e1
    cases x : d.py with
    | none => rw [x] at e1; cases e1
    | some p =>
      cases y : D.pyL ds with
      | none => rw [x, y] at e1; cases e1
      | some ps' => rw [x, y] at e1; cases e1; rfl
theorem neX_nil {ds : List D} (h : ndL ds = true) (k : dptL ds ≤ 50) : gNe (.lst ds) (.lst []) = some (.bl (!ds.isEmpty)) := by
  have e : gEqX (.lst ds) (.lst []) = (eqD (.lst ds) (.lst [])).map .bl := rfl
  have q := eqX_nil h k
  rw [e] at q
  unfold gNe
  cases x : eqD (.lst ds) (.lst []) with
  | none => rw [x] at q; cases q
  | some b => rw [x] at q; cases q; rfl
theorem ndL_mem {ds : List D} : ndL ds = true ↔ ∀ d ∈ ds, nd d = true := by
  induction ds with
  | nil => simp [ndL]
  | cons d ds ih => simp [ndL, ih]
theorem one_nd {c : Nat} (h : c < 1114112) : nd (.str ⟨#[c]⟩) = true := by
  rw [nd]
  exact strOk_of (by rw [okD]; simp [h])
end Vl

/-! VlT: texts, names. -/
namespace Vl
open PySem PySem.Spec PyProof.Rows L2
abbrev LETS : Str := "abcdefghijklmnopqrstuvwxyz"
def inL (c : Nat) : Bool := decide (c ∈ LETS.cps.toList)
def isNm : D → Bool
  | .str x => decide (1 ≤ x.length) && (decide (x.length ≤ 8) && x.cps.toList.all inL)
  | _ => false
theorem in_one {c : Nat} {x : Str} : gIn false (.str ⟨#[c]⟩) (.str x) = some (.bl (decide (c ∈ x.cps.toList))) := rfl
theorem nin_one {c : Nat} {x : Str} : gIn true (.str ⟨#[c]⟩) (.str x) = some (.bl (!decide (c ∈ x.cps.toList))) := rfl
theorem str_len (x : Str) : x.cps.toList.length = x.length := by simp [Str.length]
/-- a name -/
def NameS (x : Str) : Prop := 1 ≤ x.length ∧ x.length ≤ 8 ∧ ∀ c ∈ x.cps.toList, inL c = true
theorem NameS.nm {x : Str} (h : NameS x) : isNm (.str x) = true := by
  obtain ⟨h1, h2, h3⟩ := h
  simp only [isNm, h1, h2, decide_true, Bool.true_and, List.all_eq_true]
  exact h3
theorem NameS.of {x : Str} (h : isNm (.str x) = true) : NameS x := by
  simp only [isNm, Bool.and_eq_true, decide_eq_true_eq, List.all_eq_true] at h
  exact ⟨h.1, h.2.1, h.2.2⟩
theorem inL_lt {c : Nat} (h : inL c = true) : c < 1114112 := by
  have : ∀ c ∈ LETS.cps.toList, c < 1114112 := by decide
  exact this c (of_decide_eq_true h)
theorem NameS.tm {x : Str} (h : NameS x) : Tm 9 0 (.str x) := Tm_str h.2.1 fun c hc => inL_lt (h.2.2 c hc)
theorem isNm_str {d : D} (h : isNm d = true) : ∃ x, d = .str x ∧ NameS x := by
  cases d with
  | str x => exact ⟨x, rfl, .of h⟩
  | _ => cases h
theorem OP_let {r : Int} {k : D → Prop} (h0 : 0 ≤ r) (h1 : r < 26) (h : ∀ c, inL c = true → k (.str ⟨#[c]⟩)) : OP (gIx (.str LETS) (.int r)) k := by
  have hl : (LETS.cps.toList.length : Int) = 26 := by decide
  have hz : LETS.length ≤ sizeLine := by rw [sizeLine_eq]; decide
  obtain ⟨c, e, hm⟩ := at_mem (l := LETS.cps.toList) h0 (by omega)
  refine OP.intro (z := .str ⟨#[c]⟩) ?_ (h c (decide_eq_true hm))
  show (if LETS.length ≤ sizeLine then (atI LETS.cps.toList r).map fun c => D.str ⟨#[c]⟩ else none) = _
  rw [if_pos hz, e]; rfl
theorem fold_one : ∀ (l : List Nat) (acc : Array Nat), ((l.map fun c => (⟨#[c]⟩ : Str)).foldl (fun acc p => acc ++ ("" : Str).cps ++ p.cps) acc).toList = acc.toList ++ l
  | [], acc => by simp
  | c :: l, acc => by
    rw [List.map_cons, List.foldl_cons, fold_one l]
    have e : ("" : Str).cps = #[] := rfl
    rw [e]
    simp
theorem join_one (cs : List Nat) : (Txt.join "" (cs.map fun c => (⟨#[c]⟩ : Str))).cps.toList = cs := by
  cases cs with
  | nil => rfl
  | cons c l =>
    have q := fold_one l #[c]
    show (((((c :: l).map fun c => (⟨#[c]⟩ : Str)).drop 1).foldl (fun acc p => acc ++ ("" : Str).cps ++ p.cps) #[c])).toList = _
    rw [List.map_cons, List.drop_succ_cons, List.drop_zero, q]
    simp
def oneD (c : Nat) : D := .str ⟨#[c]⟩
theorem strs_one : ∀ cs : List Nat, strsOf (cs.map oneD) = some (cs.map fun c => (⟨#[c]⟩ : Str))
  | [] => rfl
  | c :: cs => by simp [strsOf, oneD, strs_one cs]
theorem sum_one : ∀ cs : List Nat, ((cs.map fun c => (⟨#[c]⟩ : Str)).map (·.length)).sum = cs.length
  | [] => rfl
  | c :: cs => by
    rw [List.map_cons, List.map_cons, List.sum_cons, sum_one cs]
    simp [Str.length]
    omega
theorem join_gen (cs : List Nat) (h : cs.length ≤ 1000000) : gJoin "" (.lst (cs.map oneD)) = some (.str (Txt.join "" (cs.map fun c => (⟨#[c]⟩ : Str)))) := by
  have e := sum_one cs
  unfold gJoin
  simp only [strs_one]
  rw [if_pos (by rw [e]; have e2 : ("" : Str).length = 0 := rfl; rw [e2]; omega)]
theorem ltCps_eq : ∀ a b : List Nat, ltCps a b = decide (a < b)
  | [], [] => by simp [ltCps]
  | [], y :: b => by simp [ltCps]
  | x :: a, [] => by simp [ltCps]
  | x :: a, y :: b => by
    have ih := ltCps_eq a b
    simp only [ltCps, ih, List.cons_lt_cons_iff]
    by_cases h1 : x < y
    · simp [h1]
    · by_cases h2 : x = y
      · subst h2; simp
      · simp [h1, h2]
theorem cut_toList {x : Str} {lo hi : Option Int} : (cutS x lo hi).cps.toList = (x.cps.toList.drop (HT.sIx x.length 0 lo)).take (HT.sIx x.length x.length hi - HT.sIx x.length 0 lo) := by
  unfold cutS
  simp
theorem app_toList (x y : Str) : (x ++ y).cps.toList = x.cps.toList ++ y.cps.toList := TL.tl_append x y
theorem app_len (x y : Str) : (x ++ y).length = x.length + y.length := by rw [← str_len, app_toList, List.length_append, str_len, str_len]
theorem foldl_app (l : List (Array Nat)) : ∀ acc : Array Nat, (l.foldl (· ++ ·) acc).toList = acc.toList ++ (l.map Array.toList).flatten := by
  induction l with
  | nil => intro acc; simp
  | cons a l ih => intro acc; rw [List.foldl_cons, ih]; simp
theorem mul_toList {x : Str} {n : Int} (hn : 1 ≤ n) : (Txt.mul x n).cps.toList = (List.replicate n.toNat x.cps.toList).flatten := by
  unfold Txt.mul
  rw [if_neg (by omega)]
  by_cases h : (n == 1 || x.length == 0) = true
  · rw [if_pos h]
    simp only [Bool.or_eq_true, beq_iff_eq] at h
    rcases h with h | h
    · subst h
      show _ = (List.replicate 1 x.cps.toList).flatten
      simp
    · have e : x.cps.toList = [] := List.length_eq_zero_iff.mp (by rw [str_len]; exact h)
      rw [e]
      clear h hn
      induction n.toNat with
      | zero => rfl
      | succ k ih => rw [List.replicate_succ, List.flatten_cons, ← ih]; rfl
  · rw [if_neg h, foldl_app]
    simp
theorem cut_all {ds : List D} {r : Int} (h : (ds.length : Int) ≤ r) : Vl.cutD ds none (some r) = ds := by
  unfold Vl.cutD HT.sIx
  have h2 : ¬ r < 0 := by omega
  simp only [h2, if_false, List.drop_zero, Nat.sub_zero]
  exact List.take_of_length_le (by omega)
theorem strOk_name {x : Str} (h : NameS x) : PyData.strOk x = true := strOk_of h.tm.1
theorem pyL_strs : ∀ zs : List Str, D.pyL (zs.map D.str) = some (zs.map PyData.str)
  | [] => rfl
  | z :: zs => by rw [List.map_cons, D.pyL, pyL_strs zs]; rfl
theorem lay_strs : ∀ zs : List Str, (∀ z ∈ zs, PyData.strOk z = true) → PyData.canLayAll0 (zs.map PyData.str) = true
  | [], _ => rfl
  | z :: zs, h => by
    rw [List.map_cons, PyData.canLayAll0, PyData.canLay0, h z List.mem_cons_self, lay_strs zs fun y hy => h y (List.mem_cons_of_mem _ hy)]
    rfl
theorem depth_strs : ∀ zs : List Str, PyData.depthAll (zs.map PyData.str) = 0
  | [] => rfl
  | z :: zs => by simp [PyData.depthAll, PyData.depth, depth_strs zs]
theorem in_strs {z : Str} {zs : List Str} (hz : PyData.strOk z = true) (hs : ∀ y ∈ zs, PyData.strOk y = true) (neg : Bool) : gIn neg (.str z) (.lst (zs.map .str)) = some (.bl (if neg then !decide (z ∈ zs) else decide (z ∈ zs))) := by
  have e : inD (.str z) (.lst (zs.map .str)) = some (decide (z ∈ zs)) := by
    show (match D.py (.str z), D.pyL (zs.map D.str) with
      | some p, some ps => if SeqAt.shaped p && SeqAt.shaped (.list ps) then some (ps.any fun z => PyData.eqv z p) else none
      | _, _ => none) = _
    rw [pyL_strs]
    have s1 : SeqAt.shaped (PyData.str z) = true := sh_of (by rw [PyData.canLay0]; exact hz) (by simp [PyData.depth])
    have s2 : SeqAt.shaped (.list (zs.map PyData.str)) = true := sh_of (by rw [PyData.canLay0]; exact lay_strs zs hs) (by rw [PyData.depth, depth_strs]; decide)
    show (if SeqAt.shaped (PyData.str z) && SeqAt.shaped (.list (zs.map PyData.str)) then some ((zs.map PyData.str).any fun q => PyData.eqv q (.str z)) else none) = _
    rw [s1, s2]
    show some ((zs.map PyData.str).any fun q => PyData.eqv q (.str z)) = _
    congr 1
    rw [List.any_map, Bool.eq_iff_iff, List.any_eq_true, decide_eq_true_eq]
    constructor
    · rintro ⟨y, hy, h⟩
      have h' : (y == z) = true := h
      rw [← eq_of_beq h']; exact hy
    · intro h
      exact ⟨z, h, by show (z == z) = true; simp⟩
  unfold gIn
  rw [e]; rfl
theorem name_cut {x : Str} {m : Int} (h : NameS x) (h0 : 1 ≤ m) (h1 : m ≤ 8) : NameS (cutS (Txt.mul x 8) none (some m)) := by
  have hl : (Txt.mul x 8).length = 8 * x.length := by
    rw [← str_len, mul_toList (by decide), List.length_flatten, List.map_replicate, List.sum_replicate_nat, str_len]
    rfl
  have e : (cutS (Txt.mul x 8) none (some m)).cps.toList = (List.replicate 8 x.cps.toList).flatten.take m.toNat := by
    rw [cut_toList, mul_toList (by decide)]
    have : ¬ m < 0 := by omega
    simp only [HT.sIx, this, if_false, hl, List.drop_zero, Nat.sub_zero]
    have e2 : min m.toNat (8 * x.length) = m.toNat := by have := h.1; omega
    rw [e2]; rfl
  have hlen : (cutS (Txt.mul x 8) none (some m)).length = m.toNat := by
    rw [← str_len, e, List.length_take]
    have : ((List.replicate 8 x.cps.toList).flatten).length = 8 * x.length := by rw [List.length_flatten, List.map_replicate, List.sum_replicate_nat, str_len]
    have := h.1
    omega
  refine ⟨by omega, by omega, fun c hc => ?_⟩
  rw [e] at hc
  have hc2 := List.mem_of_mem_take hc
  obtain ⟨l, hl, hcl⟩ := List.mem_flatten.mp hc2
  rw [(List.mem_replicate.mp hl).2] at hcl
  exact h.2.2 c hcl
theorem name_put {x : Str} {a : Int} {c : Nat} (h : NameS x) (h0 : 0 ≤ a) (h1 : a < x.length) (hc : inL c = true) : NameS (cutS x none (some a) ++ ⟨#[c]⟩ ++ cutS x (some (a + 1)) none) := by
  have e : (cutS x none (some a) ++ ⟨#[c]⟩ ++ cutS x (some (a + 1)) none).cps.toList = x.cps.toList.take a.toNat ++ [c] ++ x.cps.toList.drop (a.toNat + 1) := by
    rw [app_toList, app_toList, cut_toList, cut_toList]
    have n1 : ¬ a < 0 := by omega
    have n2 : ¬ a + 1 < 0 := by omega
    simp only [HT.sIx, n1, n2, if_false, List.drop_zero, Nat.sub_zero]
    have e1 : min a.toNat x.length = a.toNat := by omega
    have e2 : min (a + 1).toNat x.length = a.toNat + 1 := by omega
    rw [e1, e2]
    have e3 : (x.cps.toList.drop (a.toNat + 1)).take (x.length - (a.toNat + 1)) = x.cps.toList.drop (a.toNat + 1) := List.take_of_length_le (by rw [List.length_drop, str_len]; omega)
    rw [e3]
  have hlen : (cutS x none (some a) ++ ⟨#[c]⟩ ++ cutS x (some (a + 1)) none).length = x.length := by
    rw [← str_len, e]
    simp only [List.length_append, List.length_take, List.length_drop, List.length_cons, List.length_nil, str_len]
    omega
  refine ⟨by rw [hlen]; exact h.1, by rw [hlen]; exact h.2.1, fun d hd => ?_⟩
  rw [e] at hd
  rcases List.mem_append.mp hd with q | q
  · rcases List.mem_append.mp q with q | q
    · exact h.2.2 d (List.mem_of_mem_take q)
    · rw [List.mem_singleton.mp q]; exact hc
  · exact h.2.2 d (List.mem_of_mem_drop q)
end Vl

namespace bondyears_k08_whole_days_together
open PySem PySem.Spec PyProof.Rows L2 Vl
theorem e_isi0_non : g_isi0 (.non) = some (.bl false) := (rfl)
theorem e_isi0_bl {b : Bool} : g_isi0 (.bl b) = some (.bl true) := (rfl)
theorem e_isi0_int {b : Int} : g_isi0 (.int b) = some (.bl true) := (rfl)
theorem e_isi0_str {b : Str} : g_isi0 (.str b) = some (.bl false) := (rfl)
theorem e_isi0_tup {b : List D} : g_isi0 (.tup b) = some (.bl false) := (rfl)
theorem e_isi0_lst {b : List D} : g_isi0 (.lst b) = some (.bl false) := (rfl)
theorem e_isi0_dic {b : List (Key × D)} : g_isi0 (.dic b) = some (.bl false) := (rfl)
theorem e_isi1_non : g_isi1 (.non) = some (.bl false) := (rfl)
theorem e_isi1_bl {b : Bool} : g_isi1 (.bl b) = some (.bl true) := (rfl)
theorem e_isi1_int {b : Int} : g_isi1 (.int b) = some (.bl false) := (rfl)
theorem e_isi1_str {b : Str} : g_isi1 (.str b) = some (.bl false) := (rfl)
theorem e_isi1_tup {b : List D} : g_isi1 (.tup b) = some (.bl false) := (rfl)
theorem e_isi1_lst {b : List D} : g_isi1 (.lst b) = some (.bl false) := (rfl)
theorem e_isi1_dic {b : List (Key × D)} : g_isi1 (.dic b) = some (.bl false) := (rfl)
theorem e_isi2_non : g_isi2 (.non) = some (.bl false) := (rfl)
theorem e_isi2_bl {b : Bool} : g_isi2 (.bl b) = some (.bl false) := (rfl)
theorem e_isi2_int {b : Int} : g_isi2 (.int b) = some (.bl false) := (rfl)
theorem e_isi2_str {b : Str} : g_isi2 (.str b) = some (.bl true) := (rfl)
theorem e_isi2_tup {b : List D} : g_isi2 (.tup b) = some (.bl false) := (rfl)
theorem e_isi2_lst {b : List D} : g_isi2 (.lst b) = some (.bl false) := (rfl)
theorem e_isi2_dic {b : List (Key × D)} : g_isi2 (.dic b) = some (.bl false) := (rfl)
theorem e_isi3_non : g_isi3 (.non) = some (.bl false) := (rfl)
theorem e_isi3_bl {b : Bool} : g_isi3 (.bl b) = some (.bl false) := (rfl)
theorem e_isi3_int {b : Int} : g_isi3 (.int b) = some (.bl false) := (rfl)
theorem e_isi3_str {b : Str} : g_isi3 (.str b) = some (.bl false) := (rfl)
theorem e_isi3_tup {b : List D} : g_isi3 (.tup b) = some (.bl true) := (rfl)
theorem e_isi3_lst {b : List D} : g_isi3 (.lst b) = some (.bl false) := (rfl)
theorem e_isi3_dic {b : List (Key × D)} : g_isi3 (.dic b) = some (.bl false) := (rfl)
theorem e_isi4_non : g_isi4 (.non) = some (.bl false) := (rfl)
theorem e_isi4_bl {b : Bool} : g_isi4 (.bl b) = some (.bl false) := (rfl)
theorem e_isi4_int {b : Int} : g_isi4 (.int b) = some (.bl false) := (rfl)
theorem e_isi4_str {b : Str} : g_isi4 (.str b) = some (.bl false) := (rfl)
theorem e_isi4_tup {b : List D} : g_isi4 (.tup b) = some (.bl true) := (rfl)
theorem e_isi4_lst {b : List D} : g_isi4 (.lst b) = some (.bl true) := (rfl)
theorem e_isi4_dic {b : List (Key × D)} : g_isi4 (.dic b) = some (.bl false) := (rfl)
theorem exa_BondError : exAll.contains "BondError" = true := (rfl)
theorem exa_BadDay : exAll.contains "BadDay" = true := (rfl)
theorem exa_BadName : exAll.contains "BadName" = true := (rfl)
theorem exa_BadRules : exAll.contains "BadRules" = true := (rfl)
theorem exa_BadStretch : exAll.contains "BadStretch" = true := (rfl)
theorem exa_BadNumber : exAll.contains "BadNumber" = true := (rfl)
theorem lk_part_0 {d0 : D} : ([("part", d0)] : List (Str × D)).lookup ("part" : Str) = some d0 := (rfl)

local macro_rules | `(tactic| k_places) => `(tactic| try simp only [Vl.WP_ok, Vl.WP_er, Vl.OP_some, Vl.WC_ok, Vl.WC_er, Vl.WI_ok, Vl.WI_er, Vl.FlE_nx, Vl.FlE_bk, Vl.FlE_ct, Vl.FlE_rt, Vl.WP_ite, Vl.OP_ite, Vl.WP_obind, Vl.WP_sbind, Vl.OP_map, Vl.cEnv_eq, Vl.W_mC, Vl.W_mV, Vl.AVs_fro, Vl.AVs_lst, Vl.AVs_dic, Vl.slO_some, Vl.get_tmp, Vl.get_loc, Vl.fz_tmp, Vl.fz_loc, Vl.W_mT, Vl.W_mAndT, Vl.W_mOrT, Vl.W_mNotT, Vl.W_mAnd, Vl.W_mOr, Vl.W_mIf, Vl.W_mB, Vl.chT_ff, Vl.chT_tt, Vl.chT_dec, Vl.W_mCh, Vl.W_mCons, Vl.W_mNil, Vl.W_mLst, Vl.W_mTup, Vl.W_m1, Vl.W_m2, Vl.W_m2s, Vl.W_mIx, Vl.W_mPart, Vl.W_mNoP, Vl.W_mSl, Vl.W_mRev, Vl.W_mRevX, Vl.W_mStp, Vl.revD_lst, Vl.revD_tup, Vl.W_mFC, Vl.W_mSC, Vl.W_mJoin, Vl.W_mDic0, Vl.W_mXA, Vl.W_mExc, Vl.W_mExcI, Vl.W_mCall, Vl.W_mCall0, Vl.W_mCallIo, Vl.W_ioTmp, Vl.W_ioLoc, Vl.W_mApp, Vl.W_mSkip, Vl.W_mBreak, Vl.W_mCont, Vl.W_mRetN, Vl.W_mYes, Vl.W_mSeq, Vl.W_mIfS, Vl.W_mExpr, Vl.W_mSet, Vl.rtP_tmp, Vl.rtP_loc, Vl.W_mRet, Vl.W_mRaiseI, Vl.W_mTry, Vl.W_mSetIx, Vl.W_mAsg, Vl.W_mPar, Vl.W_mPar3, Vl.W_mIt, Vl.W_mRng, Vl.W_mEnum, Vl.W_mEnumX, Vl.enA_lst, Vl.enA_tup, Vl.W_mZip, Vl.W_mFor, Vl.W_mLc, Vl.W_runC, Vl.W_runI, Vl.avBl_bl, Vl.avStr_str, Vl.avExc_exc, Vl.tInt_int, Vl.dInt_int, Vl.dBl_bl, Vl.dLst_lst, Vl.one1_one, Vl.hdtl_cons, Vl.two2_two, Vl.thr3_thr, Vl.slL_lst, Vl.nrm_nil, Vl.nrm_tmp, Vl.nrm_loc, Vl.pk_nil, Vl.pk_cons, Vl.er_fro, Vl.er_lst, Vl.er_dic0, Vl.erL_nil, Vl.erL_cons, Vl.erL_app, Vl.erL_map, Vl.nr_fro, Vl.nr_lst, Vl.nr_dic, Vl.nrL_nil, Vl.nrL_cons, Vl.nrL_fro, Vl.hd_non, Vl.hd_bl, Vl.hd_int, Vl.hd_str, Vl.hd_tup, Vl.hd_lst, Vl.hd_dic, Vl.hd_exc, Vl.hdL_nil, Vl.hdL_cons, Vl.hdL_app, Vl.fl_non, Vl.fl_bl, Vl.fl_int, Vl.fl_str, Vl.fl_tup, Vl.fl_lst, Vl.fl_dic, Vl.fl_exc, Vl.tru_non, Vl.tru_bl, Vl.tru_int, Vl.tru_tup, Vl.tru_lst, Vl.not_bl, Vl.not_non, Vl.neg_int, Vl.le_int, Vl.lt_int, Vl.ge_int, Vl.gt_int, Vl.lt_str, Vl.le_str, Vl.gt_str, Vl.ge_str, Vl.sub_int, Vl.mod_int, Vl.div_int, Vl.pow_int, Vl.mul_int, Vl.mul_lst, Vl.mul_str, Vl.add_int, Vl.add_str, Vl.add_lst, Vl.add_tup, Vl.is_non, Vl.is_bl, Vl.is_int, Vl.is_str, Vl.is_tup, Vl.is_lst, Vl.is_exc, Vl.isn_non, Vl.isn_bl, Vl.isn_int, Vl.isn_str, Vl.isn_tup, Vl.isn_lst, Vl.isn_exc, Vl.eq_int, Vl.ne_int, Vl.eq_str, Vl.ne_str, Vl.eq_bl, Vl.eq_tup0, Vl.len_lst, Vl.len_tup, Vl.len_str, Vl.min_int, Vl.max_int, Vl.abs_int, Vl.all_lst, Vl.any_lst, Vl.sum_lst, Vl.lof_lst, Vl.lof_tup, Vl.tof_lst, Vl.tof_tup, Vl.ix_lst, Vl.ix_tup, Vl.sl_lst, Vl.sl_tup, Vl.sl_str, Vl.at_0, Vl.at_1, Vl.at_2, Vl.at_3, Vl.at_4, Vl.at_5, Vl.at_6, Vl.at_7, Vl.at_8, Vl.vw_fro, Vl.vw_lst, Vl.vw_loc, Vl.vwT_fro, Vl.vwT_lst, Vl.fa_nil, Vl.fa_cons, Vl.fa_lst, Vl.fa_map, Vl.fa_app, Vl.its_lst, Vl.its_tup, Vl.its_str, Vl.tr_lst, Vl.tr_tup, Vl.tr_str, Vl.tr_int, Vl.tr_bl, Vl.tr_non, Vl.tgN_eq, Vl.tgT_eq, Vl.tgC_eq, Vl.tgNil_eq, Vl.wipe_nil, Vl.wipe_cons, Vl.bls_nil, Vl.bls_cons, Vl.bls_map, Vl.ints_map, Vl.strs_map, Vl.obnd_some, Vl.rng1, Vl.rng2, Vl.zip_lst, Vl.zip_tup, Vl.nd_tup, Vl.nd_int, Vl.nd_str, Vl.ndL_nil, Vl.ndL_cons, Vl.dv_int, Vl.dv_str, Vl.mRaiseA, Vl.W_mRaise, Vl.repr_bl, Vl.repr_non, List.flatten_cons, List.flatten_nil, List.append_nil, List.map_cons, List.map_nil, List.getElem?_cons_zero, List.getElem?_cons_succ, List.set_cons_zero, List.set_cons_succ, List.length_cons, List.length_nil, List.replicate_succ, List.replicate_zero, List.cons_append, List.nil_append, List.append_assoc, List.not_mem_nil, List.length_map, List.isEmpty_cons, List.isEmpty_nil, List.all_cons, List.all_nil, List.any_cons, List.any_nil, Bool.not_true, Bool.not_false, Bool.not_not, Bool.true_and, Bool.and_true, Bool.false_and, Bool.and_false, Bool.true_or, Bool.false_or, id_eq, if_true, if_false, ↓reduceIte, Bool.false_eq_true, Option.map_some, Option.map_none, Option.bind_some, decide_eq_true_eq, decide_true, decide_false, true_and, and_true, and_self, not_true_eq_false, not_false_eq_true, Nat.reduceAdd, Nat.reduceSub, Nat.reduceLeDiff, Nat.reduceLT, Nat.reduceEqDiff, Nat.reduceBEq, Int.reduceAdd, Int.reduceSub, Int.reduceNeg, Int.reduceLE, Int.reduceLT, Int.reduceBEq, Int.reduceBNe, Int.reduceEq, Int.reduceToNat, Nat.zero_add, Int.cast_ofNat_Int, beq_self_eq_true, ite_self, eq_self, ne_eq, Vl.ixn_1_0, Vl.ixn_2_0, Vl.ixn_2_1, Vl.ixn_3_0, Vl.ixn_3_1, Vl.ixn_3_2, Vl.ixn_4_0, Vl.ixn_4_1, Vl.ixn_4_2, Vl.ixn_4_3, Vl.ixn_5_0, Vl.ixn_5_1, Vl.ixn_5_2, Vl.ixn_5_3, Vl.ixn_5_4, Vl.ixn_6_0, Vl.ixn_6_1, Vl.ixn_6_2, Vl.ixn_6_3, Vl.ixn_6_4, Vl.ixn_6_5, Vl.ixn_7_0, Vl.ixn_7_1, Vl.ixn_7_2, Vl.ixn_7_3, Vl.ixn_7_4, Vl.ixn_7_5, Vl.ixn_7_6, Vl.ixn_8_0, Vl.ixn_8_1, Vl.ixn_8_2, Vl.ixn_8_3, Vl.ixn_8_4, Vl.ixn_8_5, Vl.ixn_8_6, Vl.ixn_8_7, Vl.ixn_9_0, Vl.ixn_9_1, Vl.ixn_9_2, Vl.ixn_9_3, Vl.ixn_9_4, Vl.ixn_9_5, Vl.ixn_9_6, Vl.ixn_9_7, Vl.ixn_9_8, Vl.ixn_10_0, Vl.ixn_10_1, Vl.ixn_10_2, Vl.ixn_10_3, Vl.ixn_10_4, Vl.ixn_10_5, Vl.ixn_10_6, Vl.ixn_10_7, Vl.ixn_10_8, Vl.ixn_10_9, Vl.ixn_11_0, Vl.ixn_11_1, Vl.ixn_11_2, Vl.ixn_11_3, Vl.ixn_11_4, Vl.ixn_11_5, Vl.ixn_11_6, Vl.ixn_11_7, Vl.ixn_11_8, Vl.ixn_11_9, Vl.ixn_11_10, Vl.ixn_12_0, Vl.ixn_12_1, Vl.ixn_12_2, Vl.ixn_12_3, Vl.ixn_12_4, Vl.ixn_12_5, Vl.ixn_12_6, Vl.ixn_12_7, Vl.ixn_12_8, Vl.ixn_12_9, Vl.ixn_12_10, Vl.ixn_12_11, e_isi0_non, e_isi0_bl, e_isi0_int, e_isi0_str, e_isi0_tup, e_isi0_lst, e_isi0_dic, e_isi1_non, e_isi1_bl, e_isi1_int, e_isi1_str, e_isi1_tup, e_isi1_lst, e_isi1_dic, e_isi2_non, e_isi2_bl, e_isi2_int, e_isi2_str, e_isi2_tup, e_isi2_lst, e_isi2_dic, e_isi3_non, e_isi3_bl, e_isi3_int, e_isi3_str, e_isi3_tup, e_isi3_lst, e_isi3_dic, e_isi4_non, e_isi4_bl, e_isi4_int, e_isi4_str, e_isi4_tup, e_isi4_lst, e_isi4_dic, exa_BondError, exa_BadDay, exa_BadName, exa_BadRules, exa_BadStretch, exa_BadNumber, lk_part_0])
local macro_rules | `(tactic| k_clsL) => `(tactic| simp only [Vl.WP_ok, Vl.WP_er, Vl.OP_some, Vl.WC_ok, Vl.WC_er, Vl.WI_ok, Vl.WI_er, Vl.FlE_nx, Vl.FlE_bk, Vl.FlE_ct, Vl.FlE_rt, Vl.WP_ite, Vl.OP_ite, Vl.WP_obind, Vl.WP_sbind, Vl.OP_map, Vl.cEnv_eq, Vl.W_mC, Vl.W_mV, Vl.AVs_fro, Vl.AVs_lst, Vl.AVs_dic, Vl.slO_some, Vl.get_tmp, Vl.get_loc, Vl.fz_tmp, Vl.fz_loc, Vl.W_mT, Vl.W_mAndT, Vl.W_mOrT, Vl.W_mNotT, Vl.W_mAnd, Vl.W_mOr, Vl.W_mIf, Vl.W_mB, Vl.chT_ff, Vl.chT_tt, Vl.chT_dec, Vl.W_mCh, Vl.W_mCons, Vl.W_mNil, Vl.W_mLst, Vl.W_mTup, Vl.W_m1, Vl.W_m2, Vl.W_m2s, Vl.W_mIx, Vl.W_mPart, Vl.W_mNoP, Vl.W_mSl, Vl.W_mRev, Vl.W_mRevX, Vl.W_mStp, Vl.revD_lst, Vl.revD_tup, Vl.W_mFC, Vl.W_mSC, Vl.W_mJoin, Vl.W_mDic0, Vl.W_mXA, Vl.W_mExc, Vl.W_mExcI, Vl.W_mCall, Vl.W_mCall0, Vl.W_mCallIo, Vl.W_ioTmp, Vl.W_ioLoc, Vl.W_mApp, Vl.W_mSkip, Vl.W_mBreak, Vl.W_mCont, Vl.W_mRetN, Vl.W_mYes, Vl.W_mSeq, Vl.W_mIfS, Vl.W_mExpr, Vl.W_mSet, Vl.rtP_tmp, Vl.rtP_loc, Vl.W_mRet, Vl.W_mRaiseI, Vl.W_mTry, Vl.W_mSetIx, Vl.W_mAsg, Vl.W_mPar, Vl.W_mPar3, Vl.W_mIt, Vl.W_mRng, Vl.W_mEnum, Vl.W_mEnumX, Vl.enA_lst, Vl.enA_tup, Vl.W_mZip, Vl.W_mFor, Vl.W_mLc, Vl.W_runC, Vl.W_runI, Vl.avBl_bl, Vl.avStr_str, Vl.avExc_exc, Vl.tInt_int, Vl.dInt_int, Vl.dBl_bl, Vl.dLst_lst, Vl.one1_one, Vl.hdtl_cons, Vl.two2_two, Vl.thr3_thr, Vl.slL_lst, Vl.nrm_nil, Vl.nrm_tmp, Vl.nrm_loc, Vl.pk_nil, Vl.pk_cons, Vl.er_fro, Vl.er_lst, Vl.er_dic0, Vl.erL_nil, Vl.erL_cons, Vl.erL_app, Vl.erL_map, Vl.nr_fro, Vl.nr_lst, Vl.nr_dic, Vl.nrL_nil, Vl.nrL_cons, Vl.nrL_fro, Vl.hd_non, Vl.hd_bl, Vl.hd_int, Vl.hd_str, Vl.hd_tup, Vl.hd_lst, Vl.hd_dic, Vl.hd_exc, Vl.hdL_nil, Vl.hdL_cons, Vl.hdL_app, Vl.fl_non, Vl.fl_bl, Vl.fl_int, Vl.fl_str, Vl.fl_tup, Vl.fl_lst, Vl.fl_dic, Vl.fl_exc, Vl.tru_non, Vl.tru_bl, Vl.tru_int, Vl.tru_tup, Vl.tru_lst, Vl.not_bl, Vl.not_non, Vl.neg_int, Vl.le_int, Vl.lt_int, Vl.ge_int, Vl.gt_int, Vl.lt_str, Vl.le_str, Vl.gt_str, Vl.ge_str, Vl.sub_int, Vl.mod_int, Vl.div_int, Vl.pow_int, Vl.mul_int, Vl.mul_lst, Vl.mul_str, Vl.add_int, Vl.add_str, Vl.add_lst, Vl.add_tup, Vl.is_non, Vl.is_bl, Vl.is_int, Vl.is_str, Vl.is_tup, Vl.is_lst, Vl.is_exc, Vl.isn_non, Vl.isn_bl, Vl.isn_int, Vl.isn_str, Vl.isn_tup, Vl.isn_lst, Vl.isn_exc, Vl.eq_int, Vl.ne_int, Vl.eq_str, Vl.ne_str, Vl.eq_bl, Vl.eq_tup0, Vl.len_lst, Vl.len_tup, Vl.len_str, Vl.min_int, Vl.max_int, Vl.abs_int, Vl.all_lst, Vl.any_lst, Vl.sum_lst, Vl.lof_lst, Vl.lof_tup, Vl.tof_lst, Vl.tof_tup, Vl.ix_lst, Vl.ix_tup, Vl.sl_lst, Vl.sl_tup, Vl.sl_str, Vl.at_0, Vl.at_1, Vl.at_2, Vl.at_3, Vl.at_4, Vl.at_5, Vl.at_6, Vl.at_7, Vl.at_8, Vl.vw_fro, Vl.vw_lst, Vl.vw_loc, Vl.vwT_fro, Vl.vwT_lst, Vl.fa_nil, Vl.fa_cons, Vl.fa_lst, Vl.fa_map, Vl.fa_app, Vl.its_lst, Vl.its_tup, Vl.its_str, Vl.tr_lst, Vl.tr_tup, Vl.tr_str, Vl.tr_int, Vl.tr_bl, Vl.tr_non, Vl.tgN_eq, Vl.tgT_eq, Vl.tgC_eq, Vl.tgNil_eq, Vl.wipe_nil, Vl.wipe_cons, Vl.bls_nil, Vl.bls_cons, Vl.bls_map, Vl.ints_map, Vl.strs_map, Vl.obnd_some, Vl.rng1, Vl.rng2, Vl.zip_lst, Vl.zip_tup, Vl.nd_tup, Vl.nd_int, Vl.nd_str, Vl.ndL_nil, Vl.ndL_cons, Vl.dv_int, Vl.dv_str, Vl.mRaiseA, Vl.W_mRaise, Vl.repr_bl, Vl.repr_non, List.flatten_cons, List.flatten_nil, List.append_nil, List.map_cons, List.map_nil, List.getElem?_cons_zero, List.getElem?_cons_succ, List.set_cons_zero, List.set_cons_succ, List.length_cons, List.length_nil, List.replicate_succ, List.replicate_zero, List.cons_append, List.nil_append, List.append_assoc, List.not_mem_nil, List.length_map, List.isEmpty_cons, List.isEmpty_nil, List.all_cons, List.all_nil, List.any_cons, List.any_nil, Bool.not_true, Bool.not_false, Bool.not_not, Bool.true_and, Bool.and_true, Bool.false_and, Bool.and_false, Bool.true_or, Bool.false_or, id_eq, if_true, if_false, ↓reduceIte, Bool.false_eq_true, Option.map_some, Option.map_none, Option.bind_some, decide_eq_true_eq, decide_true, decide_false, true_and, and_true, and_self, not_true_eq_false, not_false_eq_true, Nat.reduceAdd, Nat.reduceSub, Nat.reduceLeDiff, Nat.reduceLT, Nat.reduceEqDiff, Nat.reduceBEq, Int.reduceAdd, Int.reduceSub, Int.reduceNeg, Int.reduceLE, Int.reduceLT, Int.reduceBEq, Int.reduceBNe, Int.reduceEq, Int.reduceToNat, Nat.zero_add, Int.cast_ofNat_Int, beq_self_eq_true, ite_self, eq_self, ne_eq, Vl.ixn_1_0, Vl.ixn_2_0, Vl.ixn_2_1, Vl.ixn_3_0, Vl.ixn_3_1, Vl.ixn_3_2, Vl.ixn_4_0, Vl.ixn_4_1, Vl.ixn_4_2, Vl.ixn_4_3, Vl.ixn_5_0, Vl.ixn_5_1, Vl.ixn_5_2, Vl.ixn_5_3, Vl.ixn_5_4, Vl.ixn_6_0, Vl.ixn_6_1, Vl.ixn_6_2, Vl.ixn_6_3, Vl.ixn_6_4, Vl.ixn_6_5, Vl.ixn_7_0, Vl.ixn_7_1, Vl.ixn_7_2, Vl.ixn_7_3, Vl.ixn_7_4, Vl.ixn_7_5, Vl.ixn_7_6, Vl.ixn_8_0, Vl.ixn_8_1, Vl.ixn_8_2, Vl.ixn_8_3, Vl.ixn_8_4, Vl.ixn_8_5, Vl.ixn_8_6, Vl.ixn_8_7, Vl.ixn_9_0, Vl.ixn_9_1, Vl.ixn_9_2, Vl.ixn_9_3, Vl.ixn_9_4, Vl.ixn_9_5, Vl.ixn_9_6, Vl.ixn_9_7, Vl.ixn_9_8, Vl.ixn_10_0, Vl.ixn_10_1, Vl.ixn_10_2, Vl.ixn_10_3, Vl.ixn_10_4, Vl.ixn_10_5, Vl.ixn_10_6, Vl.ixn_10_7, Vl.ixn_10_8, Vl.ixn_10_9, Vl.ixn_11_0, Vl.ixn_11_1, Vl.ixn_11_2, Vl.ixn_11_3, Vl.ixn_11_4, Vl.ixn_11_5, Vl.ixn_11_6, Vl.ixn_11_7, Vl.ixn_11_8, Vl.ixn_11_9, Vl.ixn_11_10, Vl.ixn_12_0, Vl.ixn_12_1, Vl.ixn_12_2, Vl.ixn_12_3, Vl.ixn_12_4, Vl.ixn_12_5, Vl.ixn_12_6, Vl.ixn_12_7, Vl.ixn_12_8, Vl.ixn_12_9, Vl.ixn_12_10, Vl.ixn_12_11, e_isi0_non, e_isi0_bl, e_isi0_int, e_isi0_str, e_isi0_tup, e_isi0_lst, e_isi0_dic, e_isi1_non, e_isi1_bl, e_isi1_int, e_isi1_str, e_isi1_tup, e_isi1_lst, e_isi1_dic, e_isi2_non, e_isi2_bl, e_isi2_int, e_isi2_str, e_isi2_tup, e_isi2_lst, e_isi2_dic, e_isi3_non, e_isi3_bl, e_isi3_int, e_isi3_str, e_isi3_tup, e_isi3_lst, e_isi3_dic, e_isi4_non, e_isi4_bl, e_isi4_int, e_isi4_str, e_isi4_tup, e_isi4_lst, e_isi4_dic, exa_BondError, exa_BadDay, exa_BadName, exa_BadRules, exa_BadStretch, exa_BadNumber, lk_part_0])
local macro_rules | `(tactic| k_subL) => `(tactic| try simp only [Vl.WP_ok, Vl.WP_er, Vl.OP_some, Vl.WC_ok, Vl.WC_er, Vl.WI_ok, Vl.WI_er, Vl.FlE_nx, Vl.FlE_bk, Vl.FlE_ct, Vl.FlE_rt, Vl.WP_ite, Vl.OP_ite, Vl.WP_obind, Vl.WP_sbind, Vl.OP_map, Vl.cEnv_eq, Vl.W_mC, Vl.W_mV, Vl.AVs_fro, Vl.AVs_lst, Vl.AVs_dic, Vl.slO_some, Vl.get_tmp, Vl.get_loc, Vl.fz_tmp, Vl.fz_loc, Vl.W_mT, Vl.W_mAndT, Vl.W_mOrT, Vl.W_mNotT, Vl.W_mAnd, Vl.W_mOr, Vl.W_mIf, Vl.W_mB, Vl.chT_ff, Vl.chT_tt, Vl.chT_dec, Vl.W_mCh, Vl.W_mCons, Vl.W_mNil, Vl.W_mLst, Vl.W_mTup, Vl.W_m1, Vl.W_m2, Vl.W_m2s, Vl.W_mIx, Vl.W_mPart, Vl.W_mNoP, Vl.W_mSl, Vl.W_mRev, Vl.W_mRevX, Vl.W_mStp, Vl.revD_lst, Vl.revD_tup, Vl.W_mFC, Vl.W_mSC, Vl.W_mJoin, Vl.W_mDic0, Vl.W_mXA, Vl.W_mExc, Vl.W_mExcI, Vl.W_mCall, Vl.W_mCall0, Vl.W_mCallIo, Vl.W_ioTmp, Vl.W_ioLoc, Vl.W_mApp, Vl.W_mSkip, Vl.W_mBreak, Vl.W_mCont, Vl.W_mRetN, Vl.W_mYes, Vl.W_mSeq, Vl.W_mIfS, Vl.W_mExpr, Vl.W_mSet, Vl.rtP_tmp, Vl.rtP_loc, Vl.W_mRet, Vl.W_mRaiseI, Vl.W_mTry, Vl.W_mSetIx, Vl.W_mAsg, Vl.W_mPar, Vl.W_mPar3, Vl.W_mIt, Vl.W_mRng, Vl.W_mEnum, Vl.W_mEnumX, Vl.enA_lst, Vl.enA_tup, Vl.W_mZip, Vl.W_mFor, Vl.W_mLc, Vl.W_runC, Vl.W_runI, Vl.avBl_bl, Vl.avStr_str, Vl.avExc_exc, Vl.tInt_int, Vl.dInt_int, Vl.dBl_bl, Vl.dLst_lst, Vl.one1_one, Vl.hdtl_cons, Vl.two2_two, Vl.thr3_thr, Vl.slL_lst, Vl.nrm_nil, Vl.nrm_tmp, Vl.nrm_loc, Vl.pk_nil, Vl.pk_cons, Vl.er_fro, Vl.er_lst, Vl.er_dic0, Vl.erL_nil, Vl.erL_cons, Vl.erL_app, Vl.erL_map, Vl.nr_fro, Vl.nr_lst, Vl.nr_dic, Vl.nrL_nil, Vl.nrL_cons, Vl.nrL_fro, Vl.hd_non, Vl.hd_bl, Vl.hd_int, Vl.hd_str, Vl.hd_tup, Vl.hd_lst, Vl.hd_dic, Vl.hd_exc, Vl.hdL_nil, Vl.hdL_cons, Vl.hdL_app, Vl.fl_non, Vl.fl_bl, Vl.fl_int, Vl.fl_str, Vl.fl_tup, Vl.fl_lst, Vl.fl_dic, Vl.fl_exc, Vl.tru_non, Vl.tru_bl, Vl.tru_int, Vl.tru_tup, Vl.tru_lst, Vl.not_bl, Vl.not_non, Vl.neg_int, Vl.le_int, Vl.lt_int, Vl.ge_int, Vl.gt_int, Vl.lt_str, Vl.le_str, Vl.gt_str, Vl.ge_str, Vl.sub_int, Vl.mod_int, Vl.div_int, Vl.pow_int, Vl.mul_int, Vl.mul_lst, Vl.mul_str, Vl.add_int, Vl.add_str, Vl.add_lst, Vl.add_tup, Vl.is_non, Vl.is_bl, Vl.is_int, Vl.is_str, Vl.is_tup, Vl.is_lst, Vl.is_exc, Vl.isn_non, Vl.isn_bl, Vl.isn_int, Vl.isn_str, Vl.isn_tup, Vl.isn_lst, Vl.isn_exc, Vl.eq_int, Vl.ne_int, Vl.eq_str, Vl.ne_str, Vl.eq_bl, Vl.eq_tup0, Vl.len_lst, Vl.len_tup, Vl.len_str, Vl.min_int, Vl.max_int, Vl.abs_int, Vl.all_lst, Vl.any_lst, Vl.sum_lst, Vl.lof_lst, Vl.lof_tup, Vl.tof_lst, Vl.tof_tup, Vl.ix_lst, Vl.ix_tup, Vl.sl_lst, Vl.sl_tup, Vl.sl_str, Vl.at_0, Vl.at_1, Vl.at_2, Vl.at_3, Vl.at_4, Vl.at_5, Vl.at_6, Vl.at_7, Vl.at_8, Vl.vw_fro, Vl.vw_lst, Vl.vw_loc, Vl.vwT_fro, Vl.vwT_lst, Vl.fa_nil, Vl.fa_cons, Vl.fa_lst, Vl.fa_map, Vl.fa_app, Vl.its_lst, Vl.its_tup, Vl.its_str, Vl.tr_lst, Vl.tr_tup, Vl.tr_str, Vl.tr_int, Vl.tr_bl, Vl.tr_non, Vl.tgN_eq, Vl.tgT_eq, Vl.tgC_eq, Vl.tgNil_eq, Vl.wipe_nil, Vl.wipe_cons, Vl.bls_nil, Vl.bls_cons, Vl.bls_map, Vl.ints_map, Vl.strs_map, Vl.obnd_some, Vl.rng1, Vl.rng2, Vl.zip_lst, Vl.zip_tup, Vl.nd_tup, Vl.nd_int, Vl.nd_str, Vl.ndL_nil, Vl.ndL_cons, Vl.dv_int, Vl.dv_str, Vl.mRaiseA, Vl.W_mRaise, Vl.repr_bl, Vl.repr_non, List.flatten_cons, List.flatten_nil, List.append_nil, List.map_cons, List.map_nil, List.getElem?_cons_zero, List.getElem?_cons_succ, List.set_cons_zero, List.set_cons_succ, List.length_cons, List.length_nil, List.replicate_succ, List.replicate_zero, List.cons_append, List.nil_append, List.append_assoc, List.not_mem_nil, List.length_map, List.isEmpty_cons, List.isEmpty_nil, List.all_cons, List.all_nil, List.any_cons, List.any_nil, Bool.not_true, Bool.not_false, Bool.not_not, Bool.true_and, Bool.and_true, Bool.false_and, Bool.and_false, Bool.true_or, Bool.false_or, id_eq, if_true, if_false, ↓reduceIte, Bool.false_eq_true, Option.map_some, Option.map_none, Option.bind_some, decide_eq_true_eq, decide_true, decide_false, true_and, and_true, and_self, not_true_eq_false, not_false_eq_true, Nat.reduceAdd, Nat.reduceSub, Nat.reduceLeDiff, Nat.reduceLT, Nat.reduceEqDiff, Nat.reduceBEq, Int.reduceAdd, Int.reduceSub, Int.reduceNeg, Int.reduceLE, Int.reduceLT, Int.reduceBEq, Int.reduceBNe, Int.reduceEq, Int.reduceToNat, Nat.zero_add, Int.cast_ofNat_Int, beq_self_eq_true, ite_self, eq_self, ne_eq, Vl.ixn_1_0, Vl.ixn_2_0, Vl.ixn_2_1, Vl.ixn_3_0, Vl.ixn_3_1, Vl.ixn_3_2, Vl.ixn_4_0, Vl.ixn_4_1, Vl.ixn_4_2, Vl.ixn_4_3, Vl.ixn_5_0, Vl.ixn_5_1, Vl.ixn_5_2, Vl.ixn_5_3, Vl.ixn_5_4, Vl.ixn_6_0, Vl.ixn_6_1, Vl.ixn_6_2, Vl.ixn_6_3, Vl.ixn_6_4, Vl.ixn_6_5, Vl.ixn_7_0, Vl.ixn_7_1, Vl.ixn_7_2, Vl.ixn_7_3, Vl.ixn_7_4, Vl.ixn_7_5, Vl.ixn_7_6, Vl.ixn_8_0, Vl.ixn_8_1, Vl.ixn_8_2, Vl.ixn_8_3, Vl.ixn_8_4, Vl.ixn_8_5, Vl.ixn_8_6, Vl.ixn_8_7, Vl.ixn_9_0, Vl.ixn_9_1, Vl.ixn_9_2, Vl.ixn_9_3, Vl.ixn_9_4, Vl.ixn_9_5, Vl.ixn_9_6, Vl.ixn_9_7, Vl.ixn_9_8, Vl.ixn_10_0, Vl.ixn_10_1, Vl.ixn_10_2, Vl.ixn_10_3, Vl.ixn_10_4, Vl.ixn_10_5, Vl.ixn_10_6, Vl.ixn_10_7, Vl.ixn_10_8, Vl.ixn_10_9, Vl.ixn_11_0, Vl.ixn_11_1, Vl.ixn_11_2, Vl.ixn_11_3, Vl.ixn_11_4, Vl.ixn_11_5, Vl.ixn_11_6, Vl.ixn_11_7, Vl.ixn_11_8, Vl.ixn_11_9, Vl.ixn_11_10, Vl.ixn_12_0, Vl.ixn_12_1, Vl.ixn_12_2, Vl.ixn_12_3, Vl.ixn_12_4, Vl.ixn_12_5, Vl.ixn_12_6, Vl.ixn_12_7, Vl.ixn_12_8, Vl.ixn_12_9, Vl.ixn_12_10, Vl.ixn_12_11, e_isi0_non, e_isi0_bl, e_isi0_int, e_isi0_str, e_isi0_tup, e_isi0_lst, e_isi0_dic, e_isi1_non, e_isi1_bl, e_isi1_int, e_isi1_str, e_isi1_tup, e_isi1_lst, e_isi1_dic, e_isi2_non, e_isi2_bl, e_isi2_int, e_isi2_str, e_isi2_tup, e_isi2_lst, e_isi2_dic, e_isi3_non, e_isi3_bl, e_isi3_int, e_isi3_str, e_isi3_tup, e_isi3_lst, e_isi3_dic, e_isi4_non, e_isi4_bl, e_isi4_int, e_isi4_str, e_isi4_tup, e_isi4_lst, e_isi4_dic, exa_BondError, exa_BadDay, exa_BadName, exa_BadRules, exa_BadStretch, exa_BadNumber, lk_part_0, Vl.W_lc_cons, Vl.W_lc_nil, Vl.W_loop_cons, Vl.W_loop_nil])
theorem mixed_w {a k : Int} (h0 : 0 ≤ k) (h1 : k ≤ 1000000) {K : T → Prop} {E : Exn → Prop} (h : ∀ r : Int, K (.fro (.int r))) : WC (F__law_mixed [.fro (.int a), .fro (.int k)]) K E := by
  have hk : k * k ≤ 1000000 * 1000000 := Int.mul_le_mul h1 h1 h0 (by omega)
  have hk0 : 0 ≤ k * k := Int.mul_nonneg h0 h0
  have hm := Int.emod_nonneg a (show (2147483647 : Int) ≠ 0 by decide)
  have hm2 := Int.emod_lt_of_pos a (show (0 : Int) < 2147483647 by decide)
  have e3 : 7919 * k * k = 7919 * (k * k) := Int.mul_assoc _ _ _
  have c1 : cMul 7919 k = true := cMul_l (by omega)
  have c2 : cMul (7919 * k) k = true := cMul_r (by omega)
  have c3 : cMul 31 k = true := cMul_l (by omega)
  have c4 : cPow (a % 2147483647 + 7919 * k * k + 31 * k + 5) 5 = true := by simp only [cPow, decide_eq_true_eq]; omega
  have c5 : cMul 2 k = true := cMul_l (by omega)
  have c6 : ∀ x : Int, cMul x (69621 + 2 * k) = true := fun x => cMul_r (by omega)
  have c7 : ∀ x : Int, cMod x 2147483647 = true := fun x => rfl
  have c8 : ∀ x : Int, cMod x 2147483629 = true := fun x => rfl
  have c9 : ∀ x : Int, cMod x 2147483587 = true := fun x => rfl
  have c10 : ∀ x : Int, cDiv x 7 = true := fun x => rfl
  unfold F__law_mixed m__law_mixed
  k_places
  simp only [c1, c2, c3, c4, c5, c6, c7, c8, c9, c10, if_true]
  k_places
  exact h _
/-- a stream that was asked at most J times -/
def Sm (J : Int) (l : List T) : Prop := ∃ (b : Bool) (c j m : Int), l = [.fro (.bl b), .fro (.int c), .fro (.int j), .fro (.int m)] ∧ 0 ≤ j ∧ j ≤ J
theorem stream_w {c k : Int} (h0 : 0 ≤ k) (h1 : k ≤ 1000000) {K : T → Prop} {E : Exn → Prop} (h : ∀ l, Sm 0 l → K (.lst l)) : WC (F__law_stream [.fro (.int c), .fro (.int k)]) K E := by
  unfold F__law_stream m__law_stream
  k_places
  simp only [show cPow 10 18 = true from rfl]
  k_places
  refine mixed_w h0 h1 fun r => ?_
  k_places
  exact h _ ⟨_, _, _, _, rfl, by omega, by omega⟩
theorem in01 {c : Int} : gIn false (.int c) (.tup [.int 0, .int (-1)]) = some (.bl (decide (c = 0 ∨ c = -1))) := by
  by_cases h : c = 0
  · subst h; rfl
  · by_cases h2 : c = -1
    · subst h2; rfl
    · have e1 : ((0 : Int) == c) = false := by simp; omega
      have e2 : ((-1 : Int) == c) = false := by simp; omega
      simp [gIn, inD, inV, eqV, h, h2, e1, e2]
theorem take_w {l : List T} {J n : Int} (hs : Sm J l) (h1 : J ≤ 999998) (n0 : 0 < n) (n1 : n < 1073741824) {K : T → T → Prop} {E : Exn → T → Prop} (h : ∀ r l', Sm (J + 1) l' → 0 ≤ r → r < n → K (.fro (.int r)) (.lst l')) : WI (F__law_take [.lst l, .fro (.int n)]) K E := by
  obtain ⟨b, c, j, m, rfl, j0, j1⟩ := hs
  have c1 : ∀ x : Int, cMod x n = true := fun x => cMod_pos n0
  have c2 : ∀ x : Int, cDiv x n = true := fun x => cDiv_pos n0 n1
  have c3 : ∀ x : Int, cDiv x 11 = true := fun x => rfl
  have c4 : cMul 104729 (j + 1) = true := cMul_l (by omega)
  have p0 := fun r : Int => Int.emod_nonneg r (show n ≠ 0 by omega)
  have p1 := fun r : Int => Int.emod_lt_of_pos r n0
  unfold F__law_take m__law_take
  k_places
  cases b with
  | false =>
    k_places
    simp only [c4]
    k_places
    refine mixed_w (by omega) (by omega) fun r => ?_
    k_places
    simp only [c3]
    k_places
    simp only [c1]
    k_places
    exact h _ _ ⟨_, _, _, _, rfl, by omega, by omega⟩ (p0 _) (p1 _)
  | true =>
    k_places
    rw [in01]
    k_places
    by_cases hc : c = 0 ∨ c = -1
    · simp only [hc]; k_places
      simp only [c4]
      k_places
      refine mixed_w (by omega) (by omega) fun r => ?_
      k_places
      simp only [c3]
      k_places
      simp only [c1]
      k_places
      exact h _ _ ⟨_, _, _, _, rfl, by omega, by omega⟩ (p0 _) (p1 _)
    · simp only [hc]; k_places
      by_cases hj : 60 < j + 1
      · simp only [hj]; k_places
        simp only [c4]
        k_places
        refine mixed_w (by omega) (by omega) fun r => ?_
        k_places
        simp only [c3]
        k_places
        simp only [c1]
        k_places
        exact h _ _ ⟨_, _, _, _, rfl, by omega, by omega⟩ (p0 _) (p1 _)
      · simp only [hj]; k_places
        simp only [c1]
        k_places
        simp only [c2]
        k_places
        exact h _ _ ⟨_, _, _, _, rfl, by omega, by omega⟩ (p0 _) (p1 _)
theorem Sm.mono {J J' : Int} {l : List T} (h : Sm J l) (k : J ≤ J') : Sm J' l := by
  obtain ⟨b, c, j, m, e, h0, h1⟩ := h
  exact ⟨b, c, j, m, e, h0, by omega⟩

def isW : D → Bool
  | .int _ => true
  | _ => false
def amg (a b : Int) : D → Bool
  | .int i => decide (a ≤ i) && decide (i ≤ b)
  | _ => false
theorem is_whole_w {d : D} (h : plain d = true) {K : T → Prop} {E : Exn → Prop} : WC (F_is_whole [.fro d]) K E = K (.fro (.bl (isW d))) := by
  unfold F_is_whole m_is_whole
  cases d with
  | exc => cases h
  | dit => cases h
  | _ => k_places; rfl
theorem is_among_w {d : D} {a b : Int} (h : plain d = true) {K : T → Prop} {E : Exn → Prop} : WC (F_is_among [.fro d, .fro (.int a), .fro (.int b)]) K E = K (.fro (.bl (amg a b d))) := by
  unfold F_is_among m_is_among
  k_places
  rw [is_whole_w h]
  cases d with
  | exc => cases h
  | int i =>
    simp only [isW]
    k_places
    by_cases q : a ≤ i
    · simp only [amg, q]; k_places
    · simp only [amg, q]; k_places
  | _ => simp only [isW]; k_places; rfl
theorem is_day_w {d : D} (h : plain d = true) {K : T → Prop} {E : Exn → Prop} : WC (F_is_day [.fro d]) K E = K (.fro (.bl (amg 0 99999 d))) := by
  unfold F_is_day m_is_day
  k_places
  rw [is_among_w h]
  k_places
theorem need_day_w {d : D} (h : plain d = true) {K : T → Prop} {E : Exn → Prop} : WC (F_need_day [.fro d]) K E = if amg 0 99999 d = true then K (.fro .non) else E ⟨"BadDay", []⟩ := by
  unfold F_need_day m_need_day
  k_places
  rw [is_day_w h]
  k_places
  cases amg 0 99999 d <;> k_places
theorem WC_iff {F : FSem} {ts : List T} {t : T} (h : ∀ K E, K t → WC (F ts) K E) {K : T → Prop} {E : Exn → Prop} : WC (F ts) K E = K t := by
  obtain ⟨us, e⟩ := WC_eq h
  rw [e]; rfl
theorem is_name_w {d : D} {w k : Nat} (h : Tm w k d) (hw : w ≤ 100000) {K : T → Prop} {E : Exn → Prop} : WC (F_is_name [.fro d]) K E = K (.fro (.bl (isNm d))) := by
  refine WC_iff fun K E H => ?_
  unfold F_is_name m_is_name
  have hp := h.pl
  cases d with
  | exc => cases hp
  | dit => cases hp
  | str x =>
    have hl : x.length + 1 ≤ w := by have := h.2.1; rw [wt] at this; omega
    have hz : x.length ≤ sizeLine := by rw [sizeLine_eq]; omega
    k_places
    rw [if_pos hz]
    k_places
    by_cases q1 : 1 ≤ x.length
    · have q1' : (1 : Int) ≤ (x.length : Int) := by omega
      simp only [q1']
      k_places
      by_cases q2 : x.length ≤ 8
      · have q2' : (x.length : Int) ≤ 8 := by omega
        simp only [q2']
        k_places
        refine W_lc_map (fun _ => true) (fun d => match d with | .str z => T.fro (.bl (decide (z.cps.toList.head! ∈ LETS.cps.toList))) | _ => .fro .non) (by rw [List.length_map, str_len]; simp; omega) (fun d hd => ?_) ?_
        · obtain ⟨c, _, rfl⟩ := List.mem_map.mp hd
          k_places
          rw [in_one]
          k_places
          rfl
        · have e : (x.cps.toList.map fun c => D.str ⟨#[c]⟩).filter (fun _ => true) = x.cps.toList.map fun c => D.str ⟨#[c]⟩ := List.filter_eq_self.mpr fun _ _ => rfl
          rw [e, List.map_map]
          have e2 : (x.cps.toList.map ((fun d => match d with | .str z => T.fro (.bl (decide (z.cps.toList.head! ∈ LETS.cps.toList))) | _ => .fro .non) ∘ fun c => D.str ⟨#[c]⟩)) = (x.cps.toList.map fun c => D.bl (inL c)).map T.fro := by
            rw [List.map_map]; rfl
          rw [e2]
          k_places
          have e3 : isNm (.str x) = (List.map inL x.cps.toList).all id := by
            simp [isNm, q1, q2]
          rw [← e3]
          exact H
      · have q2' : ¬ (x.length : Int) ≤ 8 := by omega
        simp only [q2']
        k_places
        simpa [isNm, q2] using H
    · have q1' : ¬ (1 : Int) ≤ (x.length : Int) := by omega
      simp only [q1']
      k_places
      simpa [isNm, q1] using H
  | _ => k_places; exact H
theorem need_name_w {d : D} {w k : Nat} (h : Tm w k d) (hw : w ≤ 100000) {K : T → Prop} {E : Exn → Prop} : WC (F_need_name [.fro d]) K E = if isNm d = true then K (.fro .non) else E ⟨"BadName", []⟩ := by
  unfold F_need_name m_need_name
  k_places
  rw [is_name_w h hw]
  k_places
  cases isNm d <;> k_places

def isSh : D → Bool
  | .tup [x, y] => isNm x && amg 0 100 y
  | _ => false
theorem is_share_w {d : D} {w k : Nat} (h : Tm w k d) (hw : w ≤ 100000) {K : T → Prop} {E : Exn → Prop} : WC (F_is_share [.fro d]) K E = K (.fro (.bl (isSh d))) := by
  unfold F_is_share m_is_share
  have hp := h.pl
  cases d with
  | exc => cases hp
  | dit => cases hp
  | tup ds =>
    obtain ⟨k1, w1, im⟩ := h.items
    match ds, im with
    | [], _ => k_places; rfl
    | [x], _ => k_places; rfl
    | x :: y :: z :: l, _ =>
      k_places
      have e : (((l.length + 1 + 1 + 1 : Nat) : Int) == 2) = false := by simp; omega
      simp only [e]
      k_places
      rfl
    | [x, y], im =>
      have ix := im x (by simp)
      have iy := im y (by simp)
      k_places
      rw [is_name_w (w := wt x) (k := dpt x) ⟨ix.1, Nat.le_refl _, Nat.le_refl _⟩ (by omega)]
      k_places
      cases hx : isNm x with
      | false => k_places; simp only [isSh, hx, Bool.false_and]
      | true =>
        k_places
        rw [is_among_w (okD_plain iy.1)]
        k_places
        simp only [isSh, hx, Bool.true_and]
  | _ => k_places; rfl
def ltS (x y : D) : Bool := match x, y with
  | .str a, .str b => decide (a.cps.toList < b.cps.toList)
  | _, _ => false
def nmOf : D → D
  | .tup (x :: _) => x
  | _ => .non
def rising : List D → Bool
  | x :: y :: r => ltS (nmOf x) (nmOf y) && rising (y :: r)
  | _ => true
def areSh : D → Bool
  | .tup ds => decide (ds.length ≤ 8) && (ds.all isSh && rising ds)
  | _ => false
theorem isSh_str {d : D} (h : isSh d = true) : ∃ x y, d = .tup [.str x, y] ∧ isNm (.str x) = true := by
  match d, h with
  | .tup [x, y], h =>
    simp only [isSh, Bool.and_eq_true] at h
    cases x with
    | str z => exact ⟨z, y, rfl, h.1⟩
    | _ => cases h.1
theorem bl_inj {xs : List D} {f g : D → Bool} : (xs.filter fun _ => true).map (fun d => T.fro (.bl (f d))) = (xs.map fun d => D.bl (f d)).map T.fro := by
  rw [List.filter_eq_self.mpr fun _ _ => rfl, List.map_map]; rfl
theorem all_map_id {xs : List D} {f : D → Bool} : (List.map f xs).all id = xs.all f := by
  induction xs with
  | nil => rfl
  | cons x xs ih => rw [List.map_cons, List.all_cons, List.all_cons, ih]; rfl
theorem zip_rising : ∀ ds : List D, (zipD ds (ds.drop 1)).all (fun p => match p with | .tup [x, y] => ltS (nmOf x) (nmOf y) | _ => false) = rising ds
  | [] => rfl
  | [x] => rfl
  | x :: y :: r => by
    have ih := zip_rising (y :: r)
    simp only [List.drop_succ_cons, List.drop_zero] at ih
    simp only [zipD, List.drop_succ_cons, List.drop_zero, List.zipWith_cons_cons, List.all_cons, rising] at ih ⊢
    rw [ih]
theorem are_shares_w {d : D} {w k : Nat} (h : Tm w k d) (hw : w ≤ 100000) {K : T → Prop} {E : Exn → Prop} : WC (F_are_shares [.fro d]) K E = K (.fro (.bl (areSh d))) := by
  refine WC_iff fun K E H => ?_
  unfold F_are_shares m_are_shares
  have hp := h.pl
  cases d with
  | exc => cases hp
  | dit => cases hp
  | tup ds =>
    obtain ⟨k1, w1, im⟩ := h.items
    have hlen := len_wtL (ds := ds)
    k_places
    by_cases q : ds.length ≤ 8
    · have q' : ¬ (8 : Int) < (ds.length : Int) := by omega
      simp only [q']
      k_places
      refine W_lc_map (fun _ => true) (fun d => T.fro (.bl (isSh d))) (by simp; omega) (fun d hd => ?_) ?_
      · have i := im d hd
        k_places
        rw [is_share_w (w := wt d) (k := dpt d) ⟨i.1, Nat.le_refl _, Nat.le_refl _⟩ (by omega)]
        k_places
      · rw [bl_inj (g := isSh)]
        k_places
        rw [all_map_id]
        cases ha : ds.all isSh with
        | false => k_places; simpa [areSh, q, ha] using H
        | true =>
          k_places
          have ec : Vl.cutD ds (some 1) none = ds.drop 1 := by
            by_cases h0 : 1 ≤ ds.length
            · exact cut_hi (by decide) (by omega)
            · have : ds = [] := by
                cases ds with
                | nil => rfl
                | cons => simp at h0
              subst this; rfl
          rw [ec]
          k_places
          refine W_lc_map (fun _ => true) (fun p => T.fro (.bl (match p with | .tup [x, y] => ltS (nmOf x) (nmOf y) | _ => false))) (by simp [zipD]; omega) (fun p hp => ?_) ?_
          · have hp2 : ∃ x y, p = .tup [x, y] ∧ x ∈ ds ∧ y ∈ ds := by
              obtain ⟨i, hi⟩ := List.mem_iff_getElem?.mp hp
              unfold zipD at hi
              rw [List.getElem?_zipWith] at hi
              cases h1 : ds[i]? with
              | none => rw [h1] at hi; cases hi
              | some a =>
                cases h2 : (ds.drop 1)[i]? with
                | none => rw [h1, h2] at hi; cases hi
                | some b =>
                  rw [h1, h2] at hi
                  cases hi
                  exact ⟨a, b, rfl, List.mem_of_getElem? h1, List.mem_of_mem_drop (List.mem_of_getElem? h2)⟩
            obtain ⟨x, y, rfl, hx, hy⟩ := hp2
            rw [List.all_eq_true] at ha
            obtain ⟨x1, x2, rfl, _⟩ := isSh_str (ha x hx)
            obtain ⟨y1, y2, rfl, _⟩ := isSh_str (ha y hy)
            k_places
            rfl
          · rw [bl_inj (g := isSh)]
            k_places
            rw [all_map_id, zip_rising]
            simpa [areSh, q, ha] using H
    · have q' : (8 : Int) < (ds.length : Int) := by omega
      simp only [q']
      k_places
      simpa [areSh, q] using H
  | _ => k_places; exact H
def BND : List (Int × Int) := [(0, 9999), (0, 9999), (1, 9), (0, 999), (1, 99999), (1, 9), (0, 9999)]
/-- whether a thing can be the part k of rules -/
def isPt (k : Nat) (d : D) : Bool := match BND[k]? with
  | some (a, b) => amg a b d
  | none => areSh d
theorem is_part_w {d : D} {w k : Nat} {z : Int} {i : Nat} (hz : z = i) (hi : i < 8) (h : Tm w k d) (hw : w ≤ 100000) {K : T → Prop} {E : Exn → Prop} : WC (F_is_part [.fro (.int z), .fro d]) K E = K (.fro (.bl (isPt i d))) := by
  subst hz
  unfold F_is_part m_is_part
  have hi' : i = 0 ∨ i = 1 ∨ i = 2 ∨ i = 3 ∨ i = 4 ∨ i = 5 ∨ i = 6 ∨ i = 7 := by omega
  rcases hi' with rfl | rfl | rfl | rfl | rfl | rfl | rfl | rfl <;> k_places <;> first | (rw [is_among_w h.pl]; k_places; rfl) | (rw [are_shares_w h hw]; k_places; rfl)
/-- the first part of eight that can't be there -/
def wrongL (i : Nat) : List D → D
  | [] => .non
  | d :: ds => if isPt i d = true then wrongL (i + 1) ds else .int (i : Nat)
def wrongD : D → D
  | .tup ds => wrongL 0 ds
  | _ => .non
def eight : D → Bool
  | .tup ds => ds.length == 8
  | _ => false
theorem eight_iff {d : D} (h : eight d = true) : ∃ a b c e f g i j, d = .tup [a, b, c, e, f, g, i, j] := by
  match d, h with
  | .tup [a, b, c, e, f, g, i, j], _ => exact ⟨_, _, _, _, _, _, _, _, rfl⟩
theorem enD8 {a b c e f g i j : D} : enD [a, b, c, e, f, g, i, j] = [.tup [.int (0 : Nat), a], .tup [.int (1 : Nat), b], .tup [.int (2 : Nat), c], .tup [.int (3 : Nat), e], .tup [.int (4 : Nat), f], .tup [.int (5 : Nat), g], .tup [.int (6 : Nat), i], .tup [.int (7 : Nat), j]] := rfl
theorem wrong_part_w {d : D} {w k : Nat} (h : Tm w k d) (hw : w ≤ 100000) (h8 : eight d = true) {K : T → Prop} {E : Exn → Prop} : WC (F_wrong_part [.fro d]) K E = K (.fro (wrongD d)) := by
  obtain ⟨a, b, c, e, f, g, i, j, rfl⟩ := eight_iff h8
  obtain ⟨k1, w1, im0⟩ := h.items
  have im : ∀ d ∈ [a, b, c, e, f, g, i, j], Tm w k d := fun d hd => ⟨(im0 d hd).1, by have := (im0 d hd).2.2; omega, by have := (im0 d hd).2.1; omega⟩
  clear im0
  unfold F_wrong_part m_wrong_part
  k_places
  rw [enD8]
  rw [W_loop_cons]
  k_places
  rw [is_part_w (z := 0) (i := 0) rfl (by decide) (im _ (by simp)) hw]
  k_places
  cases h0 : isPt 0 a with
  | false =>
    k_places
    simp only [wrongD, wrongL, h0, if_true, if_false, Bool.false_eq_true]
    rfl
  | true =>
    k_places
    rw [W_loop_cons]
    k_places
    rw [is_part_w (z := 1) (i := 1) rfl (by decide) (im _ (by simp)) hw]
    k_places
    cases h1 : isPt 1 b with
    | false =>
      k_places
      simp only [wrongD, wrongL, h0, h1, if_true, if_false, Bool.false_eq_true]
      rfl
    | true =>
      k_places
      rw [W_loop_cons]
      k_places
      rw [is_part_w (z := 2) (i := 2) rfl (by decide) (im _ (by simp)) hw]
      k_places
      cases h2 : isPt 2 c with
      | false =>
        k_places
        simp only [wrongD, wrongL, h0, h1, h2, if_true, if_false, Bool.false_eq_true]
        rfl
      | true =>
        k_places
        rw [W_loop_cons]
        k_places
        rw [is_part_w (z := 3) (i := 3) rfl (by decide) (im _ (by simp)) hw]
        k_places
        cases h3 : isPt 3 e with
        | false =>
          k_places
          simp only [wrongD, wrongL, h0, h1, h2, h3, if_true, if_false, Bool.false_eq_true]
          rfl
        | true =>
          k_places
          rw [W_loop_cons]
          k_places
          rw [is_part_w (z := 4) (i := 4) rfl (by decide) (im _ (by simp)) hw]
          k_places
          cases h4 : isPt 4 f with
          | false =>
            k_places
            simp only [wrongD, wrongL, h0, h1, h2, h3, h4, if_true, if_false, Bool.false_eq_true]
            rfl
          | true =>
            k_places
            rw [W_loop_cons]
            k_places
            rw [is_part_w (z := 5) (i := 5) rfl (by decide) (im _ (by simp)) hw]
            k_places
            cases h5 : isPt 5 g with
            | false =>
              k_places
              simp only [wrongD, wrongL, h0, h1, h2, h3, h4, h5, if_true, if_false, Bool.false_eq_true]
              rfl
            | true =>
              k_places
              rw [W_loop_cons]
              k_places
              rw [is_part_w (z := 6) (i := 6) rfl (by decide) (im _ (by simp)) hw]
              k_places
              cases h6 : isPt 6 i with
              | false =>
                k_places
                simp only [wrongD, wrongL, h0, h1, h2, h3, h4, h5, h6, if_true, if_false, Bool.false_eq_true]
                rfl
              | true =>
                k_places
                rw [W_loop_cons]
                k_places
                rw [is_part_w (z := 7) (i := 7) rfl (by decide) (im _ (by simp)) hw]
                k_places
                cases h7 : isPt 7 j with
                | false =>
                  k_places
                  simp only [wrongD, wrongL, h0, h1, h2, h3, h4, h5, h6, h7, if_true, if_false, Bool.false_eq_true]
                  rfl
                | true =>
                  k_places
                  rw [W_loop_nil]
                  k_places
                  simp only [wrongD, wrongL, h0, h1, h2, h3, h4, h5, h6, h7, if_true]
theorem is_eight_w {d : D} (h : plain d = true) {K : T → Prop} {E : Exn → Prop} : WC (F_is_eight [.fro d]) K E = K (.fro (.bl (eight d))) := by
  unfold F_is_eight m_is_eight
  cases d with
  | exc => cases h
  | dit => cases h
  | tup ds =>
    k_places
    refine congrArg (fun b => K (T.fro (D.bl b))) ?_
    rw [Bool.eq_iff_iff]
    simp [eight]
    omega
  | _ => k_places; rfl
def isRl (d : D) : Bool := eight d && (match wrongD d with | .non => true | _ => false)
theorem wrongL_form : ∀ (ds : List D) (i : Nat), wrongL i ds = .non ∨ ∃ k : Nat, wrongL i ds = .int k ∧ i ≤ k ∧ k < i + ds.length
  | [], i => .inl rfl
  | d :: ds, i => by
    rw [wrongL]
    split
    · rcases wrongL_form ds (i + 1) with h | ⟨k, h, h1, h2⟩
      · exact .inl h
      · exact .inr ⟨k, h, by omega, by simp only [List.length_cons]; omega⟩
    · exact .inr ⟨i, rfl, Nat.le_refl _, by simp only [List.length_cons]; omega⟩
theorem wrongD_form {d : D} (h : eight d = true) : wrongD d = .non ∨ ∃ k : Nat, wrongD d = .int k ∧ k < 8 := by
  obtain ⟨a, b, c, e, f, g, i, j, rfl⟩ := eight_iff h
  rcases wrongL_form [a, b, c, e, f, g, i, j] 0 with h | ⟨k, h, h1, h2⟩
  · exact .inl h
  · exact .inr ⟨k, h, by simpa using h2⟩
theorem need_rules_w {d : D} {w k : Nat} (h : Tm w k d) (hw : w ≤ 100000) {K : T → Prop} {E : Exn → Prop} : WC (F_need_rules [.fro d]) K E = if eight d = true then (if isRl d = true then K (.fro .non) else E ⟨"BadRules", [("part", wrongD d)]⟩) else E ⟨"BadRules", [("part", .non)]⟩ := by
  unfold F_need_rules m_need_rules
  k_places
  rw [is_eight_w h.pl]
  k_places
  cases h8 : eight d with
  | false => k_places; rfl
  | true =>
    k_places
    rw [wrong_part_w h hw h8]
    rcases wrongD_form h8 with e | ⟨k, e, _⟩
    · have r : isRl d = true := by simp only [isRl, h8, e, Bool.true_and]
      rw [e]
      k_places
      rw [r]
      k_places
    · have r : isRl d = false := by simp only [isRl, h8, e, Bool.true_and]
      rw [e]
      k_places
      rw [wrong_part_w h hw h8, e, r]
      k_places
      rfl

def isStr : D → Bool
  | .tup [x, y] => amg 0 99999 x && (match x with | .int a => amg a 100000 y | _ => false)
  | _ => false
theorem isStr_iff {d : D} : isStr d = true ↔ ∃ a b : Int, d = .tup [.int a, .int b] ∧ 0 ≤ a ∧ a ≤ 99999 ∧ a ≤ b ∧ b ≤ 100000 := by
  constructor
  · intro h
    match d, h with
    | .tup [x, y], h =>
      simp only [isStr, Bool.and_eq_true] at h
      obtain ⟨h1, h2⟩ := h
      cases x with
      | int a =>
        cases y with
        | int b =>
          simp only [amg, Bool.and_eq_true, decide_eq_true_eq] at h1 h2
          exact ⟨a, b, rfl, h1.1, h1.2, h2.1, h2.2⟩
        | _ => cases h2
      | _ => cases h1
  · rintro ⟨a, b, rfl, h1, h2, h3, h4⟩
    simp [isStr, amg, h1, h2, h3, h4]
theorem is_stretch_w {d : D} (h : okD d = true) {K : T → Prop} {E : Exn → Prop} : WC (F_is_stretch [.fro d]) K E = K (.fro (.bl (isStr d))) := by
  unfold F_is_stretch m_is_stretch
  cases d with
  | tup ds =>
    rw [okD] at h
    match ds, h with
    | [], _ => k_places; rfl
    | [x], _ => k_places; rfl
    | x :: y :: z :: l, _ =>
      k_places
      have e : (((l.length + 1 + 1 + 1 : Nat) : Int) == 2) = false := by simp; omega
      simp only [e]
      k_places
      rfl
    | [x, y], h =>
      simp only [okL, Bool.and_eq_true, and_true] at h
      k_places
      rw [is_day_w (okD_plain h.1)]
      k_places
      cases hx : amg 0 99999 x with
      | false => k_places; simp only [isStr, hx, Bool.false_and]
      | true =>
        k_places
        cases x with
        | int a =>
          rw [is_among_w (okD_plain h.2)]
          k_places
          simp only [isStr, hx, Bool.true_and]
        | _ => cases hx
  | exc => rw [okD] at h; cases h
  | dit => rw [okD] at h; cases h
  | _ => k_places; rfl
theorem need_stretch_w {d : D} (h : okD d = true) {K : T → Prop} {E : Exn → Prop} : WC (F_need_stretch [.fro d]) K E = if isStr d = true then K (.fro .non) else E ⟨"BadStretch", []⟩ := by
  unfold F_need_stretch m_need_stretch
  k_places
  rw [is_stretch_w h]
  k_places
  cases isStr d <;> k_places

theorem day_by_w {l : List T} {J : Int} (hs : Sm J l) (hJ : J ≤ 900000) {K : T → T → Prop} {E : Exn → T → Prop} (h : ∀ r l', Sm (J + 4) l' → 0 ≤ r → r ≤ 99999 → K (.fro (.int r)) (.lst l')) : WI (F__law_day_by [.lst l]) K E := by
  unfold F__law_day_by m__law_day_by
  k_places
  refine take_w hs (by omega) (by decide) (by decide) fun r1 l1 hs1 a0 a1 => ?_
  k_places
  refine take_w hs1 (by omega) (by decide) (by decide) fun r2 l2 hs2 b0 b1 => ?_
  k_places
  refine take_w hs2 (by omega) (by decide) (by decide) fun r3 l3 hs3 c0 c1 => ?_
  k_places
  refine take_w hs3 (by omega) (by decide) (by decide) fun r4 l4 hs4 d0 d1 => ?_
  k_places
  refine OP_at d0 (by simpa using d1) fun e he => ?_
  have hs5 := hs4.mono (J' := J + 4) (by omega)
  simp only [List.mem_cons, List.not_mem_nil, or_false] at he
  rcases he with rfl | rfl | rfl | rfl <;> k_places <;> exact h _ _ hs5 (by omega) (by omega)
theorem stretch_by_w {l : List T} {J : Int} (hs : Sm J l) (hJ : J ≤ 900000) {K : T → T → Prop} {E : Exn → T → Prop} (h : ∀ a b l', Sm (J + 7) l' → 0 ≤ a → a ≤ 99999 → a ≤ b → b ≤ 100000 → K (.fro (.tup [.int a, .int b])) (.lst l')) : WI (F__law_stretch_by [.lst l]) K E := by
  unfold F__law_stretch_by m__law_stretch_by
  k_places
  refine day_by_w hs (by omega) fun a l1 hs1 a0 a1 => ?_
  k_places
  refine take_w hs1 (by omega) (by decide) (by decide) fun r2 l2 hs2 b0 b1 => ?_
  k_places
  refine take_w hs2 (by omega) (by omega) (by omega) fun r3 l3 hs3 c0 c1 => ?_
  k_places
  refine take_w hs3 (by omega) (by decide) (by decide) fun r4 l4 hs4 d0 d1 => ?_
  k_places
  refine OP_at d0 (by simpa using d1) fun e he => ?_
  have hs5 := hs4.mono (J' := J + 7) (by omega)
  simp only [List.mem_cons, List.not_mem_nil, or_false] at he
  rcases he with rfl | rfl | rfl | rfl | rfl <;> k_places <;> exact h _ _ _ hs5 (by omega) (by omega) (by (try split) <;> omega) (by (try split) <;> omega)

theorem name_by_w {l : List T} {J : Int} (hs : Sm J l) (hJ : J ≤ 900000) {K : T → T → Prop} {E : Exn → T → Prop} (H : ∀ z l', NameS z → Sm (J + 9) l' → K (.fro (.str z)) (.lst l')) : WI (F__law_name_by [.lst l]) K E := by
  unfold F__law_name_by m__law_name_by
  k_places
  refine take_w hs (by omega) (by decide) (by decide) fun r l1 hs1 r0 r1 => ?_
  k_places
  rw [if_pos (by omega)]
  k_places
  have hlen : (rngD 0 (1 + r)).length = (1 + r).toNat := by simp [rngD]
  refine W_lcI (fun pre post acc ρ => pre.length + post.length = (1 + r).toNat ∧ ∃ (l : List T) (cs : List Nat), Sm (J + 1 + pre.length) l ∧ acc = cs.map (fun c => T.fro (oneD c)) ∧ cs.length = pre.length ∧ (∀ c ∈ cs, inL c = true) ∧ ρ = [some (.lst l), some (.fro (.str LETS)), none])
    (pre := []) ⟨by simp [hlen], l1, [], hs1.mono (by simp), rfl, rfl, by simp, rfl⟩ ?_ ?_
  · rintro pre d post acc ρ ⟨hp, l, cs, hsl, rfl, hc, hin, rfl⟩
    simp only [List.length_cons] at hp
    k_places
    refine take_w hsl (by omega) (by decide) (by decide) fun r2 l2 hs2 a0 a1 => ?_
    k_places
    refine OP_let a0 a1 fun c hc2 => ?_
    k_places
    refine ⟨by omega, by simp only [List.length_append, List.length_cons, List.length_nil]; omega, l2, cs ++ [c], hs2.mono (by simp only [List.length_append, List.length_cons, List.length_nil]; omega), by simp [oneD], by simp [hc], fun x hx => ?_, rfl⟩
    rcases List.mem_append.mp hx with q | q
    · exact hin x q
    · rw [List.mem_singleton.mp q]; exact hc2
  · rintro pre acc ρ ⟨hp, l, cs, hsl, rfl, hc, hin, rfl⟩
    simp only [List.length_nil] at hp
    have e : cs.map (fun c => T.fro (oneD c)) = (cs.map oneD).map T.fro := by rw [List.map_map]; rfl
    rw [e]
    k_places
    rw [join_gen cs (by omega)]
    k_places
    have hz := join_one cs
    generalize Txt.join "" (cs.map fun c => (⟨#[c]⟩ : Str)) = z at hz ⊢
    have hzl : z.length = (1 + r).toNat := by rw [← str_len, hz]; omega
    exact H z _ ⟨by omega, by omega, fun c h => by rw [hz] at h; exact hin c h⟩ (hsl.mono (by omega))
def NamesL (zs : List Str) : Prop := (∀ z ∈ zs, NameS z) ∧ zs.Nodup
theorem names_by_w {l : List T} {J n : Int} (hs : Sm J l) (hJ : J ≤ 800000) (n0 : 0 ≤ n) (n1 : n ≤ 1000) {K : T → T → Prop} {E : Exn → T → Prop} (H : ∀ zs l', NamesL zs → (zs.length ≤ n.toNat ∧ (0 < n → 1 ≤ zs.length)) → Sm (J + 10 + 10 * n) l' → K (.lst ((zs.map D.str).map T.fro)) (.lst l')) : WI (F__law_names_by [.lst l, .fro (.int n)]) K E := by
  unfold F__law_names_by m__law_names_by
  k_places
  refine take_w hs (by omega) (by decide) (by decide) fun kd l1 hs1 r0 r1 => ?_
  k_places
  refine name_by_w hs1 (by omega) fun b l2 hb hs2 => ?_
  k_places
  rw [if_pos (by omega)]
  k_places
  have hlen : (rngD 0 n).length = n.toNat := by simp [rngD]
  have hmem : ∀ d ∈ rngD 0 n, ∃ k : Nat, d = .int k := fun d hd => by
    obtain ⟨k, _, rfl⟩ := List.mem_map.mp hd
    exact ⟨k, by simp⟩
  have hbz : b.length ≤ sizeLine := by rw [sizeLine_eq]; have := hb.2.1; omega
  refine W_loopI (fun pre post ρ => (∀ d ∈ post, d ∈ rngD 0 n) ∧ pre.length + post.length = n.toNat ∧ ∃ (l : List T) (zs : List Str) (y5 y6 y7 : Option T), Sm (J + 10 + 10 * pre.length) l ∧ NamesL zs ∧ (zs.length ≤ pre.length ∧ (1 ≤ pre.length → 1 ≤ zs.length)) ∧
    ρ = [some (.lst l), some (.fro (.int n)), some (.fro (.int kd)), some (.fro (.str b)), some (.lst ((zs.map D.str).map T.fro)), y5, y6, y7]) (pre := []) ⟨fun d hd => hd, by simp [hlen], l2, [], _, _, _, hs2.mono (by simp; omega), ⟨by simp, List.nodup_nil⟩, ⟨by simp, by simp⟩, rfl⟩ ?_ ?_
  · rintro pre d post ρ ⟨hm, hp, l, zs, y5, y6, y7, hsl, hn, hz, rfl⟩
    obtain ⟨k, rfl⟩ := hmem d (hm d List.mem_cons_self)
    have hm' : ∀ d ∈ post, d ∈ rngD 0 n := fun d hd => hm d (List.mem_cons_of_mem _ hd)
    simp only [List.length_cons] at hp
    k_places
    refine name_by_w hsl (by omega) fun z0 l3 hz0 hs3 => ?_
    k_places
    by_cases c1 : kd = 1
    · subst c1
      k_places
      rw [if_pos (by have := hb.2.1; omega)]
      k_places
      rw [show cMod (k : Int) 8 = true from rfl]
      k_places
      have hmz : (Txt.mul b 8).length ≤ sizeLine := by
        rw [← str_len, mul_toList (by decide), List.length_flatten, List.map_replicate, List.sum_replicate_nat, str_len, sizeLine_eq]
        have := hb.2.1
        show 8 * b.length ≤ _
        omega
      rw [if_pos hmz]
      k_places
      have hzz : NameS (cutS (Txt.mul b 8) none (some (1 + (k : Int) % 8))) := name_cut hb (by omega) (by omega)
      have hsz := hs3.mono (J' := J + 10 + 10 * pre.length + 10) (by omega)
      generalize cutS (Txt.mul b 8) none (some (1 + (k : Int) % 8)) = z at hzz ⊢
      rw [in_strs (strOk_name hzz) (fun y hy => strOk_name (hn.1 y hy))]
      k_places
      by_cases hin : z ∈ zs
      · simp only [hin]
        k_places
        refine ⟨hm', by simp only [List.length_append, List.length_cons, List.length_nil]; omega, _, zs, _, _, _, hsz.mono (by simp only [List.length_append, List.length_cons, List.length_nil]; omega), hn, ⟨by have := hz.1; simp only [List.length_append, List.length_cons, List.length_nil]; omega, fun _ => List.length_pos_of_mem hin⟩, rfl⟩
      · simp only [hin]
        k_places
        refine ⟨by have := hz.1; omega, hm', by simp only [List.length_append, List.length_cons, List.length_nil]; omega, _, zs ++ [z], _, _, _, hsz.mono (by simp only [List.length_append, List.length_cons, List.length_nil]; omega), ⟨fun y hy => ?_, ?_⟩, ⟨by have := hz.1; simp only [List.length_append, List.length_cons, List.length_nil]; omega, fun _ => by simp⟩, by simp; exact ⟨rfl, rfl, rfl⟩⟩
        · rcases List.mem_append.mp hy with q | q
          · exact hn.1 y q
          · rw [List.mem_singleton.mp q]; exact hzz
        · exact List.nodup_append.mpr ⟨hn.2, by simp, fun a ha b hb => by rw [List.mem_singleton.mp hb]; exact fun e => hin (e ▸ ha)⟩
    · have c1' : (kd == 1) = false := by simpa using c1
      simp only [c1']
      k_places
      by_cases c2 : kd = 2
      · subst c2
        k_places
        rw [if_pos hbz]
        k_places
        rw [show ∀ x, cDiv x 2 = true from fun _ => rfl]
        k_places
        rw [if_pos hbz]
        k_places
        refine take_w hs3 (by omega) (by decide) (by decide) fun r2 l4 hs4 a0 a1 => ?_
        k_places
        rw [show ∀ x, cMod x 26 = true from fun _ => rfl]
        k_places
        refine OP_let (by omega) (by omega) fun c hc => ?_
        k_places
        have hb2 := hb.2.1
        have hb1 := hb.1
        have lc1 : (cutS b none (some ((b.length : Int) / 2))).length ≤ b.length := by
          rw [← str_len, cut_toList, ← str_len]
          simp only [List.length_take, List.length_drop]
          omega
        have lc2 : (cutS b (some ((b.length : Int) / 2 + 1)) none).length ≤ b.length := by
          rw [← str_len, cut_toList, ← str_len]
          simp only [List.length_take, List.length_drop]
          omega
        have lc3 : (⟨#[c]⟩ : Str).length = 1 := rfl
        rw [if_pos (by rw [sizeLine_eq, lc3]; omega)]
        k_places
        rw [if_pos hbz]
        k_places
        rw [if_pos (by rw [sizeLine_eq, app_len, lc3]; omega)]
        k_places
        have hzz : NameS (cutS b none (some ((b.length : Int) / 2)) ++ ⟨#[c]⟩ ++ cutS b (some ((b.length : Int) / 2 + 1)) none) := name_put hb (by omega) (by omega) hc
        have hsz := hs4.mono (J' := J + 10 + 10 * pre.length + 10) (by omega)
        generalize cutS b none (some ((b.length : Int) / 2)) ++ ⟨#[c]⟩ ++ cutS b (some ((b.length : Int) / 2 + 1)) none = z at hzz ⊢
        rw [in_strs (strOk_name hzz) (fun y hy => strOk_name (hn.1 y hy))]
        k_places
        by_cases hin : z ∈ zs
        · simp only [hin]
          k_places
          refine ⟨hm', by simp only [List.length_append, List.length_cons, List.length_nil]; omega, _, zs, _, _, _, hsz.mono (by simp only [List.length_append, List.length_cons, List.length_nil]; omega), hn, ⟨by have := hz.1; simp only [List.length_append, List.length_cons, List.length_nil]; omega, fun _ => List.length_pos_of_mem hin⟩, rfl⟩
        · simp only [hin]
          k_places
          refine ⟨by have := hz.1; omega, hm', by simp only [List.length_append, List.length_cons, List.length_nil]; omega, _, zs ++ [z], _, _, _, hsz.mono (by simp only [List.length_append, List.length_cons, List.length_nil]; omega), ⟨fun y hy => ?_, ?_⟩, ⟨by have := hz.1; simp only [List.length_append, List.length_cons, List.length_nil]; omega, fun _ => by simp⟩, by simp; exact ⟨rfl, rfl, rfl⟩⟩
          · rcases List.mem_append.mp hy with q | q
            · exact hn.1 y q
            · rw [List.mem_singleton.mp q]; exact hzz
          · exact List.nodup_append.mpr ⟨hn.2, by simp, fun a ha b hb => by rw [List.mem_singleton.mp hb]; exact fun e => hin (e ▸ ha)⟩
      · have c2' : (kd == 2) = false := by simpa using c2
        simp only [c2']
        k_places
        have hzz := hz0
        have hsz := hs3.mono (J' := J + 10 + 10 * pre.length + 10) (by omega)
        generalize z0 = z at hzz ⊢
        rw [in_strs (strOk_name hzz) (fun y hy => strOk_name (hn.1 y hy))]
        k_places
        by_cases hin : z ∈ zs
        · simp only [hin]
          k_places
          refine ⟨hm', by simp only [List.length_append, List.length_cons, List.length_nil]; omega, _, zs, _, _, _, hsz.mono (by simp only [List.length_append, List.length_cons, List.length_nil]; omega), hn, ⟨by have := hz.1; simp only [List.length_append, List.length_cons, List.length_nil]; omega, fun _ => List.length_pos_of_mem hin⟩, rfl⟩
        · simp only [hin]
          k_places
          refine ⟨by have := hz.1; omega, hm', by simp only [List.length_append, List.length_cons, List.length_nil]; omega, _, zs ++ [z], _, _, _, hsz.mono (by simp only [List.length_append, List.length_cons, List.length_nil]; omega), ⟨fun y hy => ?_, ?_⟩, ⟨by have := hz.1; simp only [List.length_append, List.length_cons, List.length_nil]; omega, fun _ => by simp⟩, by simp; exact ⟨rfl, rfl, rfl⟩⟩
          · rcases List.mem_append.mp hy with q | q
            · exact hn.1 y q
            · rw [List.mem_singleton.mp q]; exact hzz
          · exact List.nodup_append.mpr ⟨hn.2, by simp, fun a ha b hb => by rw [List.mem_singleton.mp hb]; exact fun e => hin (e ▸ ha)⟩
  · rintro pre ρ ⟨hm, hp, l, zs, y5, y6, y7, hsl, hn, hz, rfl⟩
    simp only [List.length_nil] at hp
    k_places
    exact H zs l hn ⟨by have := hz.1; omega, fun h => hz.2 (by omega)⟩ (hsl.mono (by omega))

def shD (xs : List (Str × Int)) : D := .tup (xs.map fun p => .tup [.str p.1, .int p.2])
def ShL (xs : List (Str × Int)) : Prop := (∀ p ∈ xs, NameS p.1 ∧ 0 ≤ p.2 ∧ p.2 ≤ 100) ∧ xs.Pairwise (fun p q => p.1.cps.toList < q.1.cps.toList) ∧ xs.length ≤ 8
/-- good rules, their shares apart -/
def RuX (d : D) (xs : List (Str × Int)) : Prop := ∃ a b c e f g i : Int, d = .tup [.int a, .int b, .int c, .int e, .int f, .int g, .int i, shD xs] ∧ (0 ≤ a ∧ a ≤ 9999) ∧ (0 ≤ b ∧ b ≤ 9999) ∧ (1 ≤ c ∧ c ≤ 9) ∧ (0 ≤ e ∧ e ≤ 999) ∧ (1 ≤ f ∧ f ≤ 99999) ∧ (1 ≤ g ∧ g ≤ 9) ∧ (0 ≤ i ∧ i ≤ 9999) ∧ ShL xs
theorem sh_rising : ∀ {xs : List (Str × Int)}, xs.Pairwise (fun p q => p.1.cps.toList < q.1.cps.toList) → rising (xs.map fun p => .tup [.str p.1, .int p.2]) = true
  | [], _ => rfl
  | [x], _ => rfl
  | x :: y :: r, h => by
    obtain ⟨h1, h2⟩ := List.pairwise_cons.mp h
    have ih := sh_rising h2
    show (decide (x.1.cps.toList < y.1.cps.toList) && rising _) = true
    rw [decide_eq_true (h1 y List.mem_cons_self)]
    exact ih
theorem ShL.are {xs : List (Str × Int)} (h : ShL xs) : areSh (shD xs) = true := by
  obtain ⟨h1, h2, h3⟩ := h
  have e1 : (xs.map fun p => D.tup [.str p.1, .int p.2]).all isSh = true := by
    rw [List.all_map, List.all_eq_true]
    intro p hp
    obtain ⟨q1, q2, q3⟩ := h1 p hp
    show (isNm (.str p.1) && amg 0 100 (.int p.2)) = true
    rw [q1.nm]
    simp [amg, q2, q3]
  show (decide ((xs.map fun p => D.tup [.str p.1, .int p.2]).length ≤ 8) && _) = true
  rw [e1, sh_rising h2, List.length_map]
  simp [h3]
theorem wt_shares : ∀ xs : List (Str × Int), (∀ p ∈ xs, NameS p.1 ∧ 0 ≤ p.2 ∧ p.2 ≤ 100) → wtL (xs.map fun p => D.tup [.str p.1, .int p.2]) ≤ 18 * xs.length ∧ okL (xs.map fun p => D.tup [.str p.1, .int p.2]) = true ∧ dptL (xs.map fun p => D.tup [.str p.1, .int p.2]) ≤ 1
  | [], _ => by simp [wtL, okL, dptL]
  | p :: xs, h => by
    obtain ⟨i1, i2, i3⟩ := wt_shares xs fun q hq => h q (List.mem_cons_of_mem _ hq)
    obtain ⟨q1, q2, q3⟩ := h p List.mem_cons_self
    have t : Tm 17 1 (.tup [.str p.1, .int p.2]) := (Tm_tcons (k := 0) q1.tm (Tm_tcons (Tm_int (i := p.2) (by omega)) Tm_tup0)).mono (by decide) (by decide)
    obtain ⟨t1, t2, t3⟩ := t
    simp only [List.map_cons, wtL, okL, dptL, List.length_cons, t1, i2]
    refine ⟨by omega, rfl, by omega⟩
theorem ShL.tm {xs : List (Str × Int)} (h : ShL xs) : Tm 150 2 (shD xs) := by
  obtain ⟨h1, h2, h3⟩ := wt_shares xs h.1
  have := h.2.2
  refine ⟨by rw [shD, okD]; exact h2, by rw [shD, wt]; omega, by rw [shD, dpt]; omega⟩
theorem RuX.tm {d : D} {xs : List (Str × Int)} (h : RuX d xs) : Tm 250 3 d := by
  obtain ⟨a, b, c, e, f, g, i, rfl, h1, h2, h3, h4, h5, h6, h7, hx⟩ := h
  have ti : ∀ z : Int, 0 ≤ z → z ≤ 99999 → Tm 5 2 (.int z) := fun z z0 z1 => (Tm_int (by omega)).mono (by omega) (by omega)
  exact (Tm_tcons (k := 2) (ti a (by omega) (by omega)) (Tm_tcons (ti b (by omega) (by omega)) (Tm_tcons (ti c (by omega) (by omega)) (Tm_tcons (ti e (by omega) (by omega)) (Tm_tcons (ti f (by omega) (by omega)) (Tm_tcons (ti g (by omega) (by omega)) (Tm_tcons (ti i (by omega) (by omega)) (Tm_tcons hx.tm (Tm_tup0.mono (w' := 1) (by omega) (by omega)))))))))).mono (by decide) (by decide)
theorem RuX.rl {d : D} {xs : List (Str × Int)} (h : RuX d xs) : isRl d = true := by
  obtain ⟨a, b, c, e, f, g, i, rfl, h1, h2, h3, h4, h5, h6, h7, hx⟩ := h
  have p0 : isPt 0 (.int a) = true := by show (decide (0 ≤ a) && decide (a ≤ 9999)) = true; simp; omega
  have p1 : isPt 1 (.int b) = true := by show (decide (0 ≤ b) && decide (b ≤ 9999)) = true; simp; omega
  have p2 : isPt 2 (.int c) = true := by show (decide (1 ≤ c) && decide (c ≤ 9)) = true; simp; omega
  have p3 : isPt 3 (.int e) = true := by show (decide (0 ≤ e) && decide (e ≤ 999)) = true; simp; omega
  have p4 : isPt 4 (.int f) = true := by show (decide (1 ≤ f) && decide (f ≤ 99999)) = true; simp; omega
  have p5 : isPt 5 (.int g) = true := by show (decide (1 ≤ g) && decide (g ≤ 9)) = true; simp; omega
  have p6 : isPt 6 (.int i) = true := by show (decide (0 ≤ i) && decide (i ≤ 9999)) = true; simp; omega
  have p7 : isPt 7 (shD xs) = true := hx.are
  have q : wrongD (.tup [.int a, .int b, .int c, .int e, .int f, .int g, .int i, shD xs]) = .non := by
    simp only [wrongD, wrongL, p0, p1, p2, p3, p4, p5, p6, p7, if_true]
  unfold isRl
  rw [q]
  rfl
theorem sort_lt {zs : List Str} (h : zs.Nodup) : (isort leS zs).Pairwise (fun a b => a.cps.toList < b.cps.toList) := by
  have h1 := isort_sorted leS leS_trans leS_tot zs
  have h2 : (isort leS zs).Nodup := (isort_perm leS zs).nodup_iff.mpr h
  have h3 := List.pairwise_and_iff.mpr ⟨h1, h2⟩
  refine h3.imp fun {a b} q => ?_
  obtain ⟨q1, q2⟩ := q
  simp only [leS, Bool.not_eq_true'] at q1
  rw [Vl.ltCps_eq] at q1
  have n1 := of_decide_eq_false q1
  rcases List.le_total a.cps.toList b.cps.toList with z | z
  · rcases List.le_iff_lt_or_eq.mp z with y | y
    · exact y
    · exact absurd (Str.ext' (Array.toList_inj.mp y)) q2
  · rcases List.le_iff_lt_or_eq.mp z with y | y
    · exact absurd y n1
    · exact absurd (Str.ext' (Array.toList_inj.mp y.symm)) q2
theorem rules_by9_w {l : List T} {J : Int} {zs : List Str} (hs : Sm J l) (hJ : J ≤ 800000) (hz : NamesL zs) (hl : zs.length ≤ 9) {K : T → T → Prop} {E : Exn → T → Prop} (H : ∀ d xs l', RuX d xs → (xs.map Prod.fst) = (isort leS zs).take 8 → Sm (J + 39) l' → K (.fro d) (.lst l')) : WI (F__law_rules_by [.lst l, .fro (.lst (zs.map D.str))]) K E := by
  unfold F__law_rules_by m__law_rules_by
  k_places
  rw [W_loop_cons]
  k_places
  refine take_w (by assumption) (by omega) (by decide) (by decide) fun kd la0 hsa0 c0 c1 => ?_
  k_places
  refine take_w hsa0 (by omega) (by decide) (by decide) fun r9 lb0 hsb0 d0 d1 => ?_
  k_places
  refine take_w hsb0 (by omega) (by decide) (by decide) fun rr lc0 hsc0 e0 e1 => ?_
  k_places
  refine OP_at c0 (by simpa using c1) fun e he => ?_
  obtain ⟨i0, rfl, hi0⟩ : ∃ i : Int, e = .int i ∧ 0 ≤ i ∧ i ≤ 9999 := by
    simp only [List.mem_cons, List.not_mem_nil, or_false] at he
    rcases he with rfl | rfl | rfl | rfl <;> exact ⟨_, rfl, by (try split) <;> omega, by (try split) <;> omega⟩
  k_places
  clear c0 c1 d0 d1 e0 e1 he
  rw [W_loop_cons]
  k_places
  refine take_w (by assumption) (by omega) (by decide) (by decide) fun kd la1 hsa1 c0 c1 => ?_
  k_places
  refine take_w hsa1 (by omega) (by decide) (by decide) fun r9 lb1 hsb1 d0 d1 => ?_
  k_places
  refine take_w hsb1 (by omega) (by decide) (by decide) fun rr lc1 hsc1 e0 e1 => ?_
  k_places
  refine OP_at c0 (by simpa using c1) fun e he => ?_
  obtain ⟨i1, rfl, hi1⟩ : ∃ i : Int, e = .int i ∧ 0 ≤ i ∧ i ≤ 9999 := by
    simp only [List.mem_cons, List.not_mem_nil, or_false] at he
    rcases he with rfl | rfl | rfl | rfl <;> exact ⟨_, rfl, by (try split) <;> omega, by (try split) <;> omega⟩
  k_places
  clear c0 c1 d0 d1 e0 e1 he
  rw [W_loop_cons]
  k_places
  refine take_w (by assumption) (by omega) (by decide) (by decide) fun kd la2 hsa2 c0 c1 => ?_
  k_places
  refine take_w hsa2 (by omega) (by decide) (by decide) fun r9 lb2 hsb2 d0 d1 => ?_
  k_places
  refine take_w hsb2 (by omega) (by decide) (by decide) fun rr lc2 hsc2 e0 e1 => ?_
  k_places
  refine OP_at c0 (by simpa using c1) fun e he => ?_
  obtain ⟨i2, rfl, hi2⟩ : ∃ i : Int, e = .int i ∧ 1 ≤ i ∧ i ≤ 9 := by
    simp only [List.mem_cons, List.not_mem_nil, or_false] at he
    rcases he with rfl | rfl | rfl | rfl <;> exact ⟨_, rfl, by (try split) <;> omega, by (try split) <;> omega⟩
  k_places
  clear c0 c1 d0 d1 e0 e1 he
  rw [W_loop_cons]
  k_places
  refine take_w (by assumption) (by omega) (by decide) (by decide) fun kd la3 hsa3 c0 c1 => ?_
  k_places
  refine take_w hsa3 (by omega) (by decide) (by decide) fun r9 lb3 hsb3 d0 d1 => ?_
  k_places
  refine take_w hsb3 (by omega) (by decide) (by decide) fun rr lc3 hsc3 e0 e1 => ?_
  k_places
  refine OP_at c0 (by simpa using c1) fun e he => ?_
  obtain ⟨i3, rfl, hi3⟩ : ∃ i : Int, e = .int i ∧ 0 ≤ i ∧ i ≤ 999 := by
    simp only [List.mem_cons, List.not_mem_nil, or_false] at he
    rcases he with rfl | rfl | rfl | rfl <;> exact ⟨_, rfl, by (try split) <;> omega, by (try split) <;> omega⟩
  k_places
  clear c0 c1 d0 d1 e0 e1 he
  rw [W_loop_cons]
  k_places
  refine take_w (by assumption) (by omega) (by decide) (by decide) fun kd la4 hsa4 c0 c1 => ?_
  k_places
  refine take_w hsa4 (by omega) (by decide) (by decide) fun r9 lb4 hsb4 d0 d1 => ?_
  k_places
  refine take_w hsb4 (by omega) (by decide) (by decide) fun rr lc4 hsc4 e0 e1 => ?_
  k_places
  refine OP_at c0 (by simpa using c1) fun e he => ?_
  obtain ⟨i4, rfl, hi4⟩ : ∃ i : Int, e = .int i ∧ 1 ≤ i ∧ i ≤ 99999 := by
    simp only [List.mem_cons, List.not_mem_nil, or_false] at he
    rcases he with rfl | rfl | rfl | rfl <;> exact ⟨_, rfl, by (try split) <;> omega, by (try split) <;> omega⟩
  k_places
  clear c0 c1 d0 d1 e0 e1 he
  rw [W_loop_cons]
  k_places
  refine take_w (by assumption) (by omega) (by decide) (by decide) fun kd la5 hsa5 c0 c1 => ?_
  k_places
  refine take_w hsa5 (by omega) (by decide) (by decide) fun r9 lb5 hsb5 d0 d1 => ?_
  k_places
  refine take_w hsb5 (by omega) (by decide) (by decide) fun rr lc5 hsc5 e0 e1 => ?_
  k_places
  refine OP_at c0 (by simpa using c1) fun e he => ?_
  obtain ⟨i5, rfl, hi5⟩ : ∃ i : Int, e = .int i ∧ 1 ≤ i ∧ i ≤ 9 := by
    simp only [List.mem_cons, List.not_mem_nil, or_false] at he
    rcases he with rfl | rfl | rfl | rfl <;> exact ⟨_, rfl, by (try split) <;> omega, by (try split) <;> omega⟩
  k_places
  clear c0 c1 d0 d1 e0 e1 he
  rw [W_loop_cons]
  k_places
  refine take_w (by assumption) (by omega) (by decide) (by decide) fun kd la6 hsa6 c0 c1 => ?_
  k_places
  refine take_w hsa6 (by omega) (by decide) (by decide) fun r9 lb6 hsb6 d0 d1 => ?_
  k_places
  refine take_w hsb6 (by omega) (by decide) (by decide) fun rr lc6 hsc6 e0 e1 => ?_
  k_places
  refine OP_at c0 (by simpa using c1) fun e he => ?_
  obtain ⟨i6, rfl, hi6⟩ : ∃ i : Int, e = .int i ∧ 0 ≤ i ∧ i ≤ 9999 := by
    simp only [List.mem_cons, List.not_mem_nil, or_false] at he
    rcases he with rfl | rfl | rfl | rfl <;> exact ⟨_, rfl, by (try split) <;> omega, by (try split) <;> omega⟩
  k_places
  clear c0 c1 d0 d1 e0 e1 he
  rw [W_loop_nil]
  k_places
  rw [gSrtY_strs (by omega)]
  k_places
  have hsl : (isort leS zs).length = zs.length := (isort_perm leS zs).length_eq
  refine W_lcI (fun pre post acc ρ => ∃ (l : List T) (xs : List (Str × Int)), Sm (J + 21 + 2 * pre.length) l ∧ (∀ p ∈ xs, 0 ≤ p.2 ∧ p.2 ≤ 100) ∧ pre = (xs.map Prod.fst).map D.str ∧ pre ++ post = (isort leS zs).map D.str ∧ acc = (xs.map fun p => D.tup [.str p.1, .int p.2]).map T.fro ∧
    ρ = [some (.lst l), some (.fro (.lst (zs.map D.str))), some (.lst [.fro (.int i0), .fro (.int i1), .fro (.int i2), .fro (.int i3), .fro (.int i4), .fro (.int i5), .fro (.int i6)]), some (.fro (.int 0)), some (.fro (.int 9999)), _, _, none, none]) (pre := []) ⟨lc6, [], hsc6.mono (by simp; omega), by simp, rfl, rfl, rfl, rfl⟩ ?_ ?_
  · rintro pre d post acc ρ ⟨l, xs, hsx, hx, hp, hpp, rfl, rfl⟩
    have hlen : pre.length + (post.length + 1) = zs.length := by
      have := congrArg List.length hpp
      simpa [hsl] using this
    obtain ⟨z, rfl⟩ : ∃ z, d = .str z := by
      have : d ∈ (isort leS zs).map D.str := by rw [← hpp]; simp
      obtain ⟨z, _, rfl⟩ := List.mem_map.mp this
      exact ⟨z, rfl⟩
    k_places
    refine take_w hsx (by omega) (by decide) (by decide) fun r1 l1 hs1 a0 a1 => ?_
    k_places
    refine take_w hs1 (by omega) (by decide) (by decide) fun r2 l2 hs2 b0 b1 => ?_
    k_places
    refine OP_at b0 (by simpa using b1) fun e he => ?_
    obtain ⟨i, rfl, hi⟩ : ∃ i : Int, e = .int i ∧ 0 ≤ i ∧ i ≤ 100 := by
      simp only [List.mem_cons, List.not_mem_nil, or_false] at he
      rcases he with rfl | rfl | rfl <;> exact ⟨_, rfl, by omega, by omega⟩
    k_places
    refine ⟨?_, l2, xs ++ [(z, i)], hs2.mono (by simp only [List.length_append, List.length_cons, List.length_nil]; omega), ?_, by rw [hp]; (try simp), by rw [← hpp]; (try simp), by (try simp), rfl⟩
    · have := congrArg List.length hp
      simp only [List.length_map] at this ⊢
      omega
    · intro p hpm
      rcases List.mem_append.mp hpm with q | q
      · exact hx p q
      · rw [List.mem_singleton.mp q]; exact hi
  · rintro pre acc ρ ⟨l, xs, hsx, hx, hp, hpp, rfl, rfl⟩
    rw [List.append_nil, hp] at hpp
    have hfst : xs.map Prod.fst = isort leS zs := by
      have inj : ∀ a b : List Str, a.map D.str = b.map D.str → a = b := fun a b h => (List.map_inj_right (fun x y q => by cases q; rfl)).mp h
      exact inj _ _ hpp
    have hxl : xs.length = zs.length := by
      have := congrArg List.length hfst
      simpa [hsl] using this
    have hprl : pre.length = zs.length := by rw [hp]; simpa using hxl
    k_places
    rw [cut_lo' (by omega), show (8 : Int).toNat = 8 from rfl, ← List.map_take]
    k_places
    have hperm : (xs.map Prod.fst).Perm zs := by rw [hfst]; exact isort_perm leS zs
    have hpw : xs.Pairwise (fun p q => p.1.cps.toList < q.1.cps.toList) := by
      have := sort_lt hz.2
      rw [← hfst, List.pairwise_map] at this
      exact this
    exact H _ (xs.take 8) l ⟨i0, i1, i2, i3, i4, i5, i6, rfl, hi0, hi1, hi2, hi3, hi4, hi5, hi6, fun p hp => ⟨hz.1 p.1 (hperm.mem_iff.mp (List.mem_map.mpr ⟨p, List.mem_of_mem_take hp, rfl⟩)), hx p (List.mem_of_mem_take hp)⟩, hpw.sublist (List.take_sublist _ _), by rw [List.length_take]; omega⟩ (by rw [List.map_take, hfst]) (hsx.mono (by omega))
theorem rules_by_w {l : List T} {J : Int} {zs : List Str} (hs : Sm J l) (hJ : J ≤ 800000) (hz : NamesL zs) (hl : zs.length ≤ 8) {K : T → T → Prop} {E : Exn → T → Prop} (H : ∀ d xs l', RuX d xs → (xs.map Prod.fst) = isort leS zs → Sm (J + 39) l' → K (.fro d) (.lst l')) : WI (F__law_rules_by [.lst l, .fro (.lst (zs.map D.str))]) K E :=
  rules_by9_w hs hJ hz (by omega) fun d xs l' h1 h2 h3 => H d xs l' h1 (by rw [h2, List.take_of_length_le]; rw [(isort_perm leS zs).length_eq]; exact hl) h3

theorem cells {ns : List Int} (h : ns.length ≤ 63) : ∀ d ∈ enD (Vl.cutD (ns.map D.int ++ [D.int 0]) none (some 63)), ∃ k c : Int, d = .tup [.int k, .int c] ∧ 0 ≤ k ∧ k ≤ 62 := by
  intro d hd
  obtain ⟨i, hi⟩ := List.mem_iff_getElem?.mp hd
  unfold enD at hi
  rw [List.getElem?_zipWith] at hi
  cases hk : (List.range (Vl.cutD (ns.map D.int ++ [D.int 0]) none (some 63)).length)[i]? with
  | none => rw [hk] at hi; cases hi
  | some k =>
    cases hx : (Vl.cutD (ns.map D.int ++ [D.int 0]) none (some 63))[i]? with
    | none => rw [hk, hx] at hi; cases hi
    | some x =>
      rw [hk, hx] at hi
      cases hi
      have hk2 := List.mem_of_getElem? hk
      have hx2 := List.mem_of_getElem? hx
      rw [List.mem_range] at hk2
      have hlen : (Vl.cutD (ns.map D.int ++ [D.int 0]) none (some 63)).length ≤ 63 := by
        unfold Vl.cutD HT.sIx
        simp only [List.length_take]
        simp
        omega
      unfold Vl.cutD at hx2
      have hx3 := List.mem_of_mem_drop (List.mem_of_mem_take hx2)
      have : ∃ c, x = D.int c := by
        rcases List.mem_append.mp hx3 with q | q
        · obtain ⟨c, _, rfl⟩ := List.mem_map.mp q
          exact ⟨c, rfl⟩
        · exact ⟨0, List.mem_singleton.mp q⟩
      obtain ⟨c, rfl⟩ := this
      exact ⟨k, c, rfl, by omega, by omega⟩
theorem Tm_pair {a b : Int} (ha : a.natAbs < 10 ^ 12) (hb : b.natAbs < 10 ^ 12) : Tm 13 1 (.tup [.int a, .int b]) :=
  (Tm_tcons (k := 0) (Tm_int ha) (Tm_tcons (Tm_int hb) Tm_tup0)).mono (by decide) (by decide)

/-- a day is in one of the rows -/
def cov (l : List (Int × Int)) (d : Int) : Prop := ∃ p ∈ l, p.1 ≤ d ∧ d < p.2
theorem cov_nil {d : Int} : ¬ cov [] d := fun ⟨_, h, _⟩ => by cases h
theorem cov_cons {p : Int × Int} {l : List (Int × Int)} {d : Int} : cov (p :: l) d ↔ (p.1 ≤ d ∧ d < p.2) ∨ cov l d := by simp [cov]
theorem cov_app {a b : List (Int × Int)} {d : Int} : cov (a ++ b) d ↔ cov a d ∨ cov b d := by
  simp only [cov, List.mem_append]
  constructor
  · rintro ⟨p, h | h, k⟩
    · exact .inl ⟨p, h, k⟩
    · exact .inr ⟨p, h, k⟩
  · rintro (⟨p, h, k⟩ | ⟨p, h, k⟩)
    · exact ⟨p, .inl h, k⟩
    · exact ⟨p, .inr h, k⟩
def Can (l : List (Int × Int)) : Prop := (∀ p ∈ l, p.1 < p.2) ∧ l.Pairwise (fun p q => p.2 < q.1)
theorem Can.tl {p : Int × Int} {l : List (Int × Int)} (h : Can (p :: l)) : p.1 < p.2 ∧ (∀ q ∈ l, p.2 < q.1) ∧ Can l :=
  ⟨h.1 p List.mem_cons_self, (List.pairwise_cons.mp h.2).1, fun q hq => h.1 q (List.mem_cons_of_mem _ hq), (List.pairwise_cons.mp h.2).2⟩
theorem can_le {p q : Int × Int} {xs ys : List (Int × Int)} (hx : Can (p :: xs)) (hy : Can (q :: ys)) (h : ∀ d, cov (p :: xs) d ↔ cov (q :: ys) d) : q.1 ≤ p.1 := by
  obtain ⟨a1, a2, a3⟩ := hx.tl
  obtain ⟨b1, b2, b3⟩ := hy.tl
  obtain ⟨r, hr, k1, k2⟩ := (h p.1).mp ⟨p, List.mem_cons_self, Int.le_refl _, a1⟩
  rcases List.mem_cons.mp hr with rfl | hr
  · exact k1
  · have := b2 r hr; omega
theorem can_le2 {p q : Int × Int} {xs ys : List (Int × Int)} (hx : Can (p :: xs)) (hy : Can (q :: ys)) (e : p.1 = q.1) (h : ∀ d, cov (p :: xs) d ↔ cov (q :: ys) d) : q.2 ≤ p.2 := by
  obtain ⟨a1, a2, a3⟩ := hx.tl
  obtain ⟨b1, b2, b3⟩ := hy.tl
  by_cases hn : q.2 ≤ p.2
  · exact hn
  · obtain ⟨r, hr, k1, k2⟩ := (h p.2).mpr ⟨q, List.mem_cons_self, by omega, by omega⟩
    rcases List.mem_cons.mp hr with rfl | hr
    · omega
    · have := a2 r hr; omega
theorem can_uni : ∀ {xs ys : List (Int × Int)}, Can xs → Can ys → (∀ d, cov xs d ↔ cov ys d) → xs = ys
  | [], [], _, _, _ => rfl
  | [], q :: ys, _, hy, h => by
    obtain ⟨b1, b2, b3⟩ := hy.tl
    exact absurd ((h q.1).mpr ⟨q, List.mem_cons_self, Int.le_refl _, b1⟩) cov_nil
  | p :: xs, [], hx, _, h => by
    obtain ⟨b1, b2, b3⟩ := hx.tl
    exact absurd ((h p.1).mp ⟨p, List.mem_cons_self, Int.le_refl _, b1⟩) cov_nil
  | p :: xs, q :: ys, hx, hy, h => by
    have h' := fun d => (h d).symm
    have e1 : p.1 = q.1 := Int.le_antisymm (can_le hy hx h') (can_le hx hy h)
    have e2 : p.2 = q.2 := Int.le_antisymm (can_le2 hy hx e1.symm h') (can_le2 hx hy e1 h)
    have e : p = q := Prod.ext e1 e2
    subst e
    obtain ⟨a1, a2, a3⟩ := hx.tl
    obtain ⟨b1, b2, b3⟩ := hy.tl
    have : xs = ys := can_uni a3 b3 fun d => by
      constructor
      · intro c
        obtain ⟨r, hr, k1, k2⟩ := c
        have := a2 r hr
        rcases cov_cons.mp ((h d).mp (cov_cons.mpr (.inr ⟨r, hr, k1, k2⟩))) with z | z
        · omega
        · exact z
      · intro c
        obtain ⟨r, hr, k1, k2⟩ := c
        have := b2 r hr
        rcases cov_cons.mp ((h d).mpr (cov_cons.mpr (.inr ⟨r, hr, k1, k2⟩))) with z | z
        · omega
        · exact z
    rw [this]
theorem can_nil : Can [] := ⟨fun _ h => (by cases h), List.Pairwise.nil⟩
theorem can_snoc {ini : List (Int × Int)} {l : Int × Int} : Can (ini ++ [l]) ↔ Can ini ∧ l.1 < l.2 ∧ ∀ q ∈ ini, q.2 < l.1 := by
  constructor
  · intro h
    have p := List.pairwise_append.mp h.2
    exact ⟨⟨fun q hq => h.1 q (List.mem_append_left _ hq), p.1⟩, h.1 l (by simp), fun q hq => p.2.2 q hq l (by simp)⟩
  · rintro ⟨h, h1, h2⟩
    refine ⟨fun q hq => ?_, List.pairwise_append.mpr ⟨h.2, List.pairwise_singleton _ _, fun q hq r hr => ?_⟩⟩
    · rcases List.mem_append.mp hq with z | z
      · exact h.1 q z
      · rw [List.mem_singleton.mp z]; exact h1
    · rw [List.mem_singleton.mp hr]; exact h2 q hq
/-- one row more, begin rising -/
def jn (acc : List (Int × Int)) (p : Int × Int) : List (Int × Int) :=
  if p.1 < p.2 then (match acc.getLast? with
    | some l => if p.1 ≤ l.2 then acc.dropLast ++ [(l.1, max p.2 l.2)] else acc ++ [p]
    | none => acc ++ [p])
  else acc
theorem jn_ok {acc : List (Int × Int)} {p : Int × Int} (h : Can acc) (hb : ∀ q ∈ acc, q.1 ≤ p.1) : Can (jn acc p) ∧ (∀ d, cov (jn acc p) d ↔ cov acc d ∨ (p.1 ≤ d ∧ d < p.2)) ∧ (∀ q ∈ jn acc p, q.1 ≤ p.1) ∧ (jn acc p).length ≤ acc.length + 1 := by
  unfold jn
  by_cases hp : p.1 < p.2
  · rw [if_pos hp]
    rcases List.eq_nil_or_concat acc with rfl | ⟨ini, l, rfl⟩
    · simp only [List.getLast?_nil, List.nil_append]
      refine ⟨⟨fun q hq => by rw [List.mem_singleton.mp hq]; exact hp, List.pairwise_singleton _ _⟩, fun d => ?_, fun q hq => by rw [List.mem_singleton.mp hq]; exact Int.le_refl _, by simp⟩
      rw [cov_cons]
      simp [cov_nil]
    · rw [List.concat_eq_append] at h hb ⊢
      obtain ⟨c1, c2, c3⟩ := can_snoc.mp h
      have hl : l.1 ≤ p.1 := hb l (by simp)
      simp only [List.getLast?_append, List.getLast?_singleton, Option.some_or, List.dropLast_concat]
      by_cases hq : p.1 ≤ l.2
      · rw [if_pos hq]
        refine ⟨can_snoc.mpr ⟨c1, by simp only; omega, fun q hq => c3 q hq⟩, fun d => ?_, fun q hq => ?_, by simp⟩
        · rw [cov_app, cov_app, cov_cons, cov_cons]
          simp only [cov_nil, or_false]
          constructor
          · rintro (z | z)
            · exact .inl (.inl z)
            · by_cases hd : d < l.2
              · exact .inl (.inr ⟨z.1, hd⟩)
              · refine .inr ⟨by omega, by omega⟩
          · rintro ((z | z) | z)
            · exact .inl z
            · exact .inr ⟨z.1, by omega⟩
            · exact .inr ⟨by omega, by omega⟩
        · rcases List.mem_append.mp hq with z | z
          · exact hb q (by simp [z])
          · rw [List.mem_singleton.mp z]; exact hl
      · rw [if_neg hq]
        refine ⟨can_snoc.mpr ⟨h, hp, fun q hq' => ?_⟩, fun d => ?_, fun q hq => ?_, by simp⟩
        · rcases List.mem_append.mp hq' with z | z
          · have := c3 q z; omega
          · rw [List.mem_singleton.mp z]; omega
        · rw [cov_app (b := [p]), cov_cons]
          simp only [cov_nil, or_false]
        · rcases List.mem_append.mp hq with z | z
          · exact hb q z
          · rw [List.mem_singleton.mp z]; exact Int.le_refl _
  · rw [if_neg hp]
    refine ⟨h, fun d => ⟨.inl, fun z => z.elim id fun z => by omega⟩, hb, by omega⟩
theorem jnf_ok : ∀ {s acc : List (Int × Int)}, Can acc → s.Pairwise (fun p q => p.1 ≤ q.1) → (∀ q ∈ acc, ∀ p ∈ s, q.1 ≤ p.1) → Can (s.foldl jn acc) ∧ (∀ d, cov (s.foldl jn acc) d ↔ cov acc d ∨ cov s d) ∧ (s.foldl jn acc).length ≤ acc.length + s.length
  | [], acc, h, _, _ => ⟨h, fun d => by simp [cov_nil], by simp⟩
  | p :: s, acc, h, hs, hb => by
    have hs' := List.pairwise_cons.mp hs
    obtain ⟨a1, a2, a3, a4⟩ := jn_ok (p := p) h fun q hq => hb q hq p List.mem_cons_self
    obtain ⟨b1, b2, b3⟩ := jnf_ok (s := s) a1 hs'.2 fun q hq r hr => Int.le_trans (a3 q hq) (hs'.1 r hr)
    refine ⟨b1, fun d => ?_, by simp only [List.foldl_cons, List.length_cons]; omega⟩
    rw [List.foldl_cons, b2, a2, cov_cons]
    constructor
    · rintro ((z | z) | z)
      · exact .inl z
      · exact .inr (.inl z)
      · exact .inr (.inr z)
    · rintro (z | z | z)
      · exact .inl (.inl z)
      · exact .inl (.inr z)
      · exact .inr z
/-! the law's marking -/
def msum (l : List (Int × Int)) : Int := (l.map (·.2)).sum
/-- the turns up to a day -/
def upt (l : List (Int × Int)) (d : Int) : Int := (l.map fun e => if e.1 ≤ d then e.2 else 0).sum
theorem upt_perm {a b : List (Int × Int)} (h : a.Perm b) (d : Int) : upt a d = upt b d := by
  unfold upt
  induction h with
  | nil => rfl
  | cons x _ ih => simp only [List.map_cons, List.sum_cons, ih]
  | swap x y l => simp only [List.map_cons, List.sum_cons]; omega
  | trans _ _ i1 i2 => exact i1.trans i2
theorem upt_app {a b : List (Int × Int)} {d : Int} : upt (a ++ b) d = upt a d + upt b d := by
  unfold upt; rw [List.map_append, List.sum_append]
theorem upt_all : ∀ {a : List (Int × Int)} {d : Int}, (∀ e ∈ a, e.1 ≤ d) → upt a d = msum a
  | [], _, _ => rfl
  | e :: a, d, h => by
    have := upt_all (a := a) fun e he => h e (List.mem_cons_of_mem _ he)
    unfold upt msum at this ⊢
    simp only [List.map_cons, List.sum_cons, this, if_pos (h e List.mem_cons_self)]
theorem upt_none : ∀ {a : List (Int × Int)} {d : Int}, (∀ e ∈ a, d < e.1) → upt a d = 0
  | [], _, _ => rfl
  | e :: a, d, h => by
    have := upt_none (a := a) fun e he => h e (List.mem_cons_of_mem _ he)
    have h0 := h e List.mem_cons_self
    unfold upt at this ⊢
    simp only [List.map_cons, List.sum_cons, this, if_neg (show ¬ e.1 ≤ d by omega)]
    rfl
def ends (rows : List (Int × Int)) : List (Int × Int) := rows.map (fun p => (p.1, 1)) ++ rows.map (fun p => (p.2, -1))
theorem upt_ends : ∀ {rows : List (Int × Int)} {d : Int}, (∀ p ∈ rows, p.1 ≤ p.2) → 0 ≤ upt (ends rows) d ∧ (0 < upt (ends rows) d ↔ cov rows d)
  | [], d, _ => ⟨Int.le_refl _, fun h => (by cases h), fun h => absurd h cov_nil⟩
  | p :: rows, d, h => by
    obtain ⟨h1, h2⟩ := upt_ends (rows := rows) (d := d) fun q hq => h q (List.mem_cons_of_mem _ hq)
    have h0 := h p List.mem_cons_self
    have e : upt (ends (p :: rows)) d = ((if p.1 ≤ d then 1 else 0) + (if p.2 ≤ d then -1 else 0)) + upt (ends rows) d := by
      unfold ends
      rw [upt_app, upt_app]
      unfold upt
      simp only [List.map_cons, List.sum_cons]
      omega
    rw [e, cov_cons]
    by_cases c1 : p.1 ≤ d
    · by_cases c2 : p.2 ≤ d
      · rw [if_pos c1, if_pos c2]
        refine ⟨by omega, ?_⟩
        rw [← h2]
        omega
      · rw [if_pos c1, if_neg c2]
        refine ⟨by omega, ?_⟩
        exact ⟨fun _ => .inl ⟨c1, by omega⟩, fun _ => by omega⟩
    · rw [if_neg c1, if_neg (by omega)]
      refine ⟨by omega, ?_⟩
      rw [← h2]
      omega
/-- one mark -/
def mk1 (acc : List (Int × Int)) (many day behind : Int) : List (Int × Int) :=
  if 0 < many ∧ day < behind then (match acc.getLast? with
    | some l => if l.2 = day then acc.dropLast ++ [(l.1, behind)] else acc ++ [(day, behind)]
    | none => acc ++ [(day, behind)])
  else acc
structure Mk (rows a b acc : List (Int × Int)) : Prop where
  can : Can acc
  cv : ∀ d, cov acc d ↔ cov rows d ∧ ∀ e ∈ b.head?, d < e.1
  le : ∀ q ∈ acc, ∀ e ∈ b.head?, q.2 ≤ e.1
  len : acc.length ≤ a.length
theorem head_ends {rows s : List (Int × Int)} (hs : s.Perm (ends rows)) {d : Int} (c : cov rows d) : (∃ e ∈ s, e.1 ≤ d) ∧ ∃ e ∈ s, d < e.1 := by
  obtain ⟨p, hp, h1, h2⟩ := c
  refine ⟨⟨(p.1, 1), hs.mem_iff.mpr ?_, h1⟩, ⟨(p.2, -1), hs.mem_iff.mpr ?_, h2⟩⟩
  · exact List.mem_append_left _ (List.mem_map.mpr ⟨p, hp, rfl⟩)
  · exact List.mem_append_right _ (List.mem_map.mpr ⟨p, hp, rfl⟩)
theorem mk_init {rows s : List (Int × Int)} (hs : s.Perm (ends rows)) (so : s.Pairwise (fun p q => p.1 ≤ q.1)) : Mk rows [] s [] := by
  refine ⟨can_nil, fun d => ⟨fun c => absurd c cov_nil, fun ⟨c, k⟩ => ?_⟩, fun q hq => (by cases hq), Nat.le_refl _⟩
  obtain ⟨⟨e, he, h⟩, _⟩ := head_ends hs c
  cases s with
  | nil => cases he
  | cons e0 s =>
    have h0 := k e0 rfl
    rcases List.mem_cons.mp he with rfl | he
    · omega
    · have : e0.1 ≤ e.1 := (List.pairwise_cons.mp so).1 e he
      omega
theorem mk_step {rows a b acc : List (Int × Int)} {e : Int × Int} (hr : ∀ p ∈ rows, p.1 ≤ p.2) (hs : (a ++ e :: b).Perm (ends rows)) (so : (a ++ e :: b).Pairwise (fun p q => p.1 ≤ q.1)) (h : Mk rows a (e :: b) acc) {behind : Int} (hb : behind = match b with | [] => e.1 | f :: _ => f.1) :
    Mk rows (a ++ [e]) b (mk1 acc (msum a + e.2) e.1 behind) := by
  obtain ⟨can, cv, le, len⟩ := h
  have p1 := List.pairwise_append.mp so
  have p2 := List.pairwise_cons.mp p1.2.1
  cases b with
  | nil =>
    subst hb
    have : mk1 acc (msum a + e.2) e.1 e.1 = acc := if_neg (by omega)
    rw [this]
    refine ⟨can, fun d => ?_, fun q hq f hf => (by cases hf), by simp; omega⟩
    rw [cv]
    refine ⟨fun h => ⟨h.1, fun f hf => (by cases hf)⟩, fun h => ⟨h.1, fun f hf => ?_⟩⟩
    cases hf
    obtain ⟨_, f, hf, hd⟩ := head_ends hs h.1
    rcases List.mem_append.mp hf with z | z
    · have : f.1 ≤ e.1 := p1.2.2 f z e (by simp)
      omega
    · rw [List.mem_singleton.mp z] at hd; exact hd
  | cons f b =>
    have hb' : behind = f.1 := hb
    subst hb'
    have hef : e.1 ≤ f.1 := p2.1 f (by simp)
    have cnt : ∀ d, e.1 ≤ d → d < f.1 → (0 < msum a + e.2 ↔ cov rows d) := fun d d1 d2 => by
      rw [← (upt_ends (d := d) hr).2, ← upt_perm hs d]
      have e1 : upt (a ++ e :: f :: b) d = msum a + e.2 := by
        rw [show a ++ e :: f :: b = (a ++ [e]) ++ (f :: b) by simp, upt_app, upt_all, upt_none]
        · unfold msum; rw [List.map_append, List.sum_append]; simp
        · intro g hg
          rcases List.mem_cons.mp hg with rfl | hg
          · exact d2
          · have : f.1 ≤ g.1 := (List.pairwise_cons.mp p2.2).1 g hg
            omega
        · intro g hg
          rcases List.mem_append.mp hg with z | z
          · have : g.1 ≤ e.1 := p1.2.2 g z e (by simp)
            omega
          · rw [List.mem_singleton.mp z]; exact d1
      rw [e1]
    have le' : ∀ q ∈ acc, q.2 ≤ e.1 := fun q hq => le q hq e rfl
    have cvA : ∀ d, cov acc d ↔ cov rows d ∧ d < e.1 := fun d => by rw [cv]; simp
    unfold mk1
    by_cases hm : 0 < msum a + e.2 ∧ e.1 < f.1
    · rw [if_pos hm]
      have goal : ∀ acc' : List (Int × Int), Can acc' → (∀ d, cov acc' d ↔ cov acc d ∨ (e.1 ≤ d ∧ d < f.1)) → (∀ q ∈ acc', q.2 ≤ f.1) → acc'.length ≤ acc.length + 1 → Mk rows (a ++ [e]) (f :: b) acc' := fun acc' h1 h2 h3 h4 => by
        refine ⟨h1, fun d => ?_, fun q hq g hg => (by cases hg; exact h3 q hq), by simp; omega⟩
        rw [h2, cvA]
        constructor
        · rintro (⟨z1, z2⟩ | ⟨z1, z2⟩)
          · exact ⟨z1, fun g hg => by cases hg; omega⟩
          · exact ⟨(cnt d z1 z2).mp hm.1, fun g hg => by cases hg; exact z2⟩
        · rintro ⟨z1, z2⟩
          have z3 : d < f.1 := z2 f rfl
          by_cases hd : d < e.1
          · exact .inl ⟨z1, hd⟩
          · exact .inr ⟨by omega, z3⟩
      rcases List.eq_nil_or_concat acc with rfl | ⟨ini, l, rfl⟩
      · simp only [List.getLast?_nil, List.nil_append]
        refine goal _ ⟨fun q hq => by rw [List.mem_singleton.mp hq]; exact hm.2, List.pairwise_singleton _ _⟩ (fun d => ?_) (fun q hq => by rw [List.mem_singleton.mp hq]; exact Int.le_refl _) (by simp)
        rw [cov_cons]
        simp [cov_nil]
      · rw [List.concat_eq_append] at can le' goal ⊢
        obtain ⟨c1, c2, c3⟩ := can_snoc.mp can
        have hl : l.2 ≤ e.1 := le' l (by simp)
        simp only [List.getLast?_append, List.getLast?_singleton, Option.some_or, List.dropLast_concat]
        by_cases hq : l.2 = e.1
        · rw [if_pos hq]
          refine goal _ (can_snoc.mpr ⟨c1, by simp only; omega, fun q hq => c3 q hq⟩) (fun d => ?_) (fun q hq => ?_) (by simp)
          · rw [cov_app, cov_app, cov_cons, cov_cons]
            simp only [cov_nil, or_false]
            constructor
            · rintro (z | z)
              · exact .inl (.inl z)
              · by_cases hd : d < l.2
                · exact .inl (.inr ⟨z.1, hd⟩)
                · refine .inr ⟨by omega, by omega⟩
            · rintro ((z | z) | z)
              · exact .inl z
              · exact .inr ⟨z.1, by omega⟩
              · exact .inr ⟨by omega, by omega⟩
          · rcases List.mem_append.mp hq with z | z
            · have := le' q (by simp [z]); omega
            · rw [List.mem_singleton.mp z]; exact Int.le_refl _
        · rw [if_neg hq]
          refine goal _ (can_snoc.mpr ⟨can, hm.2, fun q hq' => ?_⟩) (fun d => ?_) (fun q hq => ?_) (by simp)
          · rcases List.mem_append.mp hq' with z | z
            · have := c3 q z; simp only; omega
            · rw [List.mem_singleton.mp z]; simp only; omega
          · rw [cov_app (b := [(e.1, f.1)]), cov_cons]
            simp only [cov_nil, or_false]
          · rcases List.mem_append.mp hq with z | z
            · have := le' q z; omega
            · rw [List.mem_singleton.mp z]; exact Int.le_refl _
    · rw [if_neg hm]
      refine ⟨can, fun d => ?_, fun q hq g hg => ?_, by simp; omega⟩
      · rw [cvA]
        constructor
        · rintro ⟨z1, z2⟩; exact ⟨z1, fun g hg => by cases hg; omega⟩
        · rintro ⟨z1, z2⟩
          have z3 : d < f.1 := z2 f rfl
          refine ⟨z1, ?_⟩
          by_cases hd : d < e.1
          · exact hd
          · exact absurd ⟨(cnt d (by omega) z3).mpr z1, by omega⟩ hm
      · cases hg; have := le' q hq; omega
theorem mk_end {rows a acc : List (Int × Int)} (h : Mk rows a [] acc) : Can acc ∧ (∀ d, cov acc d ↔ cov rows d) ∧ acc.length ≤ a.length :=
  ⟨h.can, fun d => by rw [h.cv]; simp, h.len⟩
/-- rows as they stand in a list -/
def prs (l : List (Int × Int)) : T := .lst ((l.map Vl.pairD).map T.fro)
def okP (p : Int × Int) : Prop := 0 ≤ p.1 ∧ p.1 ≤ 99999 ∧ p.1 ≤ p.2 ∧ p.2 ≤ 100000
theorem okP.str {p : Int × Int} (h : okP p) : isStr (Vl.pairD p) = true := isStr_iff.mpr ⟨p.1, p.2, rfl, h.1, h.2.1, h.2.2.1, h.2.2.2⟩
theorem okP.tm {p : Int × Int} (h : okP p) : Tm 13 1 (Vl.pairD p) := by
  obtain ⟨h1, h2, h3, h4⟩ := h
  exact Tm_pair (by omega) (by omega)
theorem prs_snoc {l : List (Int × Int)} {a b : Int} : T.lst ((l.map Vl.pairD).map T.fro ++ [T.fro (.tup [.int a, .int b])]) = prs (l ++ [(a, b)]) := by
  unfold prs; simp [Vl.pairD]
theorem ixN_last {n : Nat} : ixN (n + 1) (-1) = some n := by
  unfold ixN
  rw [if_neg (by omega)]
  simp
  omega
theorem at_last {α : Type} {l : List α} {a : α} : atI (l ++ [a]) (-1) = some a := by
  simp [atI, ixN_last]
theorem nd_pairs (l : List (Int × Int)) : ndL (l.map Vl.pairD) = true := by
  rw [ndL_mem]; intro d hd
  obtain ⟨p, _, rfl⟩ := List.mem_map.mp hd
  rfl
theorem dpt_pairs (l : List (Int × Int)) : dptL (l.map Vl.pairD) ≤ 1 := by
  rw [dptL_le]; intro d hd
  obtain ⟨p, _, rfl⟩ := List.mem_map.mp hd
  exact (by decide : (1 : Nat) ≤ 1)
theorem neX_rows {l : List (Int × Int)} : gNe (.lst (l.map Vl.pairD)) (.lst []) = some (.bl (!l.isEmpty)) := by
  rw [neX_nil (nd_pairs l) (Nat.le_trans (dpt_pairs l) (by decide))]
  cases l <;> rfl
theorem jn_one {p : Int × Int} : jn [] p = if p.1 < p.2 then [p] else [] := by
  unfold jn; split <;> rfl
theorem jn_snoc {ini : List (Int × Int)} {l p : Int × Int} : jn (ini ++ [l]) p = if p.1 < p.2 then (if p.1 ≤ l.2 then ini ++ [(l.1, max p.2 l.2)] else ini ++ [l] ++ [p]) else ini ++ [l] := by
  unfold jn
  simp only [List.getLast?_append, List.getLast?_singleton, Option.some_or, List.dropLast_concat]
theorem set_last {α : Type} {l : List α} {a b : α} : (l ++ [a]).set l.length b = l ++ [b] := by
  simp
theorem rows_last {ini : List (Int × Int)} {l : Int × Int} : (ini ++ [l]).map Vl.pairD = ini.map Vl.pairD ++ [.tup [.int l.1, .int l.2]] := by simp [Vl.pairD]
theorem at_lastP {ini : List (Int × Int)} {l : Int × Int} : atI ((ini ++ [l]).map Vl.pairD) (-1) = some (.tup [.int l.1, .int l.2]) := by
  rw [rows_last]; exact at_last
theorem at_lastQ {ini : List (Int × Int)} {l : Int × Int} : atI (ini.map Vl.pairD ++ [.tup [.int l.1, .int l.2]]) (-1) = some (.tup [.int l.1, .int l.2]) := at_last
theorem set_prs {ini : List (Int × Int)} {l : Int × Int} {a b : Int} : (((ini ++ [l]).map Vl.pairD).map T.fro).set ini.length (.fro (.tup [.int a, .int b])) = (((ini ++ [(a, b)]).map Vl.pairD).map T.fro) := by
  simp [Vl.pairD]
theorem len_snoc {ini : List (Int × Int)} {l : Int × Int} : (((ini ++ [l]).map Vl.pairD).map T.fro).length = ini.length + 1 := by simp
local macro_rules | `(tactic| k_places) => `(tactic| try simp only [Vl.WP_ok, Vl.WP_er, Vl.OP_some, Vl.WC_ok, Vl.WC_er, Vl.WI_ok, Vl.WI_er, Vl.FlE_nx, Vl.FlE_bk, Vl.FlE_ct, Vl.FlE_rt, Vl.WP_ite, Vl.OP_ite, Vl.WP_obind, Vl.WP_sbind, Vl.OP_map, Vl.cEnv_eq, Vl.W_mC, Vl.W_mV, Vl.AVs_fro, Vl.AVs_lst, Vl.AVs_dic, Vl.slO_some, Vl.get_tmp, Vl.get_loc, Vl.fz_tmp, Vl.fz_loc, Vl.W_mT, Vl.W_mAndT, Vl.W_mOrT, Vl.W_mNotT, Vl.W_mAnd, Vl.W_mOr, Vl.W_mIf, Vl.W_mB, Vl.chT_ff, Vl.chT_tt, Vl.chT_dec, Vl.W_mCh, Vl.W_mCons, Vl.W_mNil, Vl.W_mLst, Vl.W_mTup, Vl.W_m1, Vl.W_m2, Vl.W_m2s, Vl.W_mIx, Vl.W_mPart, Vl.W_mNoP, Vl.W_mSl, Vl.W_mRev, Vl.W_mRevX, Vl.W_mStp, Vl.revD_lst, Vl.revD_tup, Vl.W_mFC, Vl.W_mSC, Vl.W_mJoin, Vl.W_mDic0, Vl.W_mXA, Vl.W_mExc, Vl.W_mExcI, Vl.W_mCall, Vl.W_mCall0, Vl.W_mCallIo, Vl.W_ioTmp, Vl.W_ioLoc, Vl.W_mApp, Vl.W_mSkip, Vl.W_mBreak, Vl.W_mCont, Vl.W_mRetN, Vl.W_mYes, Vl.W_mSeq, Vl.W_mIfS, Vl.W_mExpr, Vl.W_mSet, Vl.rtP_tmp, Vl.rtP_loc, Vl.W_mRet, Vl.W_mRaiseI, Vl.W_mTry, Vl.W_mSetIx, Vl.W_mAsg, Vl.W_mPar, Vl.W_mPar3, Vl.W_mIt, Vl.W_mRng, Vl.W_mEnum, Vl.W_mEnumX, Vl.enA_lst, Vl.enA_tup, Vl.W_mZip, Vl.W_mFor, Vl.W_mLc, Vl.W_runC, Vl.W_runI, Vl.avBl_bl, Vl.avStr_str, Vl.avExc_exc, Vl.tInt_int, Vl.dInt_int, Vl.dBl_bl, Vl.dLst_lst, Vl.one1_one, Vl.hdtl_cons, Vl.two2_two, Vl.thr3_thr, Vl.slL_lst, Vl.nrm_nil, Vl.nrm_tmp, Vl.nrm_loc, Vl.pk_nil, Vl.pk_cons, Vl.er_fro, Vl.er_lst, Vl.er_dic0, Vl.erL_nil, Vl.erL_cons, Vl.erL_app, Vl.erL_map, Vl.nr_fro, Vl.nr_lst, Vl.nr_dic, Vl.nrL_nil, Vl.nrL_cons, Vl.nrL_fro, Vl.hd_non, Vl.hd_bl, Vl.hd_int, Vl.hd_str, Vl.hd_tup, Vl.hd_lst, Vl.hd_dic, Vl.hd_exc, Vl.hdL_nil, Vl.hdL_cons, Vl.hdL_app, Vl.fl_non, Vl.fl_bl, Vl.fl_int, Vl.fl_str, Vl.fl_tup, Vl.fl_lst, Vl.fl_dic, Vl.fl_exc, Vl.tru_non, Vl.tru_bl, Vl.tru_int, Vl.tru_tup, Vl.tru_lst, Vl.not_bl, Vl.not_non, Vl.neg_int, Vl.le_int, Vl.lt_int, Vl.ge_int, Vl.gt_int, Vl.lt_str, Vl.le_str, Vl.gt_str, Vl.ge_str, Vl.sub_int, Vl.mod_int, Vl.div_int, Vl.pow_int, Vl.mul_int, Vl.mul_lst, Vl.mul_str, Vl.add_int, Vl.add_str, Vl.add_lst, Vl.add_tup, Vl.is_non, Vl.is_bl, Vl.is_int, Vl.is_str, Vl.is_tup, Vl.is_lst, Vl.is_exc, Vl.isn_non, Vl.isn_bl, Vl.isn_int, Vl.isn_str, Vl.isn_tup, Vl.isn_lst, Vl.isn_exc, Vl.eq_int, Vl.ne_int, Vl.eq_str, Vl.ne_str, Vl.eq_bl, Vl.eq_tup0, Vl.len_lst, Vl.len_tup, Vl.len_str, Vl.min_int, Vl.max_int, Vl.abs_int, Vl.all_lst, Vl.any_lst, Vl.sum_lst, Vl.lof_lst, Vl.lof_tup, Vl.tof_lst, Vl.tof_tup, Vl.ix_lst, Vl.ix_tup, Vl.sl_lst, Vl.sl_tup, Vl.sl_str, Vl.at_0, Vl.at_1, Vl.at_2, Vl.at_3, Vl.at_4, Vl.at_5, Vl.at_6, Vl.at_7, Vl.at_8, Vl.vw_fro, Vl.vw_lst, Vl.vw_loc, Vl.vwT_fro, Vl.vwT_lst, Vl.fa_nil, Vl.fa_cons, Vl.fa_lst, Vl.fa_map, Vl.fa_app, Vl.its_lst, Vl.its_tup, Vl.its_str, Vl.tr_lst, Vl.tr_tup, Vl.tr_str, Vl.tr_int, Vl.tr_bl, Vl.tr_non, Vl.tgN_eq, Vl.tgT_eq, Vl.tgC_eq, Vl.tgNil_eq, Vl.wipe_nil, Vl.wipe_cons, Vl.bls_nil, Vl.bls_cons, Vl.bls_map, Vl.ints_map, Vl.strs_map, Vl.obnd_some, Vl.rng1, Vl.rng2, Vl.zip_lst, Vl.zip_tup, Vl.nd_tup, Vl.nd_int, Vl.nd_str, Vl.ndL_nil, Vl.ndL_cons, Vl.dv_int, Vl.dv_str, Vl.mRaiseA, Vl.W_mRaise, Vl.repr_bl, Vl.repr_non, List.flatten_cons, List.flatten_nil, List.append_nil, List.map_cons, List.map_nil, List.getElem?_cons_zero, List.getElem?_cons_succ, List.set_cons_zero, List.set_cons_succ, List.length_cons, List.length_nil, List.replicate_succ, List.replicate_zero, List.cons_append, List.nil_append, List.append_assoc, List.not_mem_nil, List.length_map, List.isEmpty_cons, List.isEmpty_nil, List.all_cons, List.all_nil, List.any_cons, List.any_nil, Bool.not_true, Bool.not_false, Bool.not_not, Bool.true_and, Bool.and_true, Bool.false_and, Bool.and_false, Bool.true_or, Bool.false_or, id_eq, if_true, if_false, ↓reduceIte, Bool.false_eq_true, Option.map_some, Option.map_none, Option.bind_some, decide_eq_true_eq, decide_true, decide_false, true_and, and_true, and_self, not_true_eq_false, not_false_eq_true, Nat.reduceAdd, Nat.reduceSub, Nat.reduceLeDiff, Nat.reduceLT, Nat.reduceEqDiff, Nat.reduceBEq, Int.reduceAdd, Int.reduceSub, Int.reduceNeg, Int.reduceLE, Int.reduceLT, Int.reduceBEq, Int.reduceBNe, Int.reduceEq, Int.reduceToNat, Nat.zero_add, Int.cast_ofNat_Int, beq_self_eq_true, ite_self, eq_self, ne_eq, Vl.ixn_1_0, Vl.ixn_2_0, Vl.ixn_2_1, Vl.ixn_3_0, Vl.ixn_3_1, Vl.ixn_3_2, Vl.ixn_4_0, Vl.ixn_4_1, Vl.ixn_4_2, Vl.ixn_4_3, Vl.ixn_5_0, Vl.ixn_5_1, Vl.ixn_5_2, Vl.ixn_5_3, Vl.ixn_5_4, Vl.ixn_6_0, Vl.ixn_6_1, Vl.ixn_6_2, Vl.ixn_6_3, Vl.ixn_6_4, Vl.ixn_6_5, Vl.ixn_7_0, Vl.ixn_7_1, Vl.ixn_7_2, Vl.ixn_7_3, Vl.ixn_7_4, Vl.ixn_7_5, Vl.ixn_7_6, Vl.ixn_8_0, Vl.ixn_8_1, Vl.ixn_8_2, Vl.ixn_8_3, Vl.ixn_8_4, Vl.ixn_8_5, Vl.ixn_8_6, Vl.ixn_8_7, Vl.ixn_9_0, Vl.ixn_9_1, Vl.ixn_9_2, Vl.ixn_9_3, Vl.ixn_9_4, Vl.ixn_9_5, Vl.ixn_9_6, Vl.ixn_9_7, Vl.ixn_9_8, Vl.ixn_10_0, Vl.ixn_10_1, Vl.ixn_10_2, Vl.ixn_10_3, Vl.ixn_10_4, Vl.ixn_10_5, Vl.ixn_10_6, Vl.ixn_10_7, Vl.ixn_10_8, Vl.ixn_10_9, Vl.ixn_11_0, Vl.ixn_11_1, Vl.ixn_11_2, Vl.ixn_11_3, Vl.ixn_11_4, Vl.ixn_11_5, Vl.ixn_11_6, Vl.ixn_11_7, Vl.ixn_11_8, Vl.ixn_11_9, Vl.ixn_11_10, Vl.ixn_12_0, Vl.ixn_12_1, Vl.ixn_12_2, Vl.ixn_12_3, Vl.ixn_12_4, Vl.ixn_12_5, Vl.ixn_12_6, Vl.ixn_12_7, Vl.ixn_12_8, Vl.ixn_12_9, Vl.ixn_12_10, Vl.ixn_12_11, e_isi0_non, e_isi0_bl, e_isi0_int, e_isi0_str, e_isi0_tup, e_isi0_lst, e_isi0_dic, e_isi1_non, e_isi1_bl, e_isi1_int, e_isi1_str, e_isi1_tup, e_isi1_lst, e_isi1_dic, e_isi2_non, e_isi2_bl, e_isi2_int, e_isi2_str, e_isi2_tup, e_isi2_lst, e_isi2_dic, e_isi3_non, e_isi3_bl, e_isi3_int, e_isi3_str, e_isi3_tup, e_isi3_lst, e_isi3_dic, e_isi4_non, e_isi4_bl, e_isi4_int, e_isi4_str, e_isi4_tup, e_isi4_lst, e_isi4_dic, exa_BondError, exa_BadDay, exa_BadName, exa_BadRules, exa_BadStretch, exa_BadNumber, lk_part_0, at_lastP, at_lastQ, ixN_last])
local macro_rules | `(tactic| k_clsL) => `(tactic| simp only [Vl.WP_ok, Vl.WP_er, Vl.OP_some, Vl.WC_ok, Vl.WC_er, Vl.WI_ok, Vl.WI_er, Vl.FlE_nx, Vl.FlE_bk, Vl.FlE_ct, Vl.FlE_rt, Vl.WP_ite, Vl.OP_ite, Vl.WP_obind, Vl.WP_sbind, Vl.OP_map, Vl.cEnv_eq, Vl.W_mC, Vl.W_mV, Vl.AVs_fro, Vl.AVs_lst, Vl.AVs_dic, Vl.slO_some, Vl.get_tmp, Vl.get_loc, Vl.fz_tmp, Vl.fz_loc, Vl.W_mT, Vl.W_mAndT, Vl.W_mOrT, Vl.W_mNotT, Vl.W_mAnd, Vl.W_mOr, Vl.W_mIf, Vl.W_mB, Vl.chT_ff, Vl.chT_tt, Vl.chT_dec, Vl.W_mCh, Vl.W_mCons, Vl.W_mNil, Vl.W_mLst, Vl.W_mTup, Vl.W_m1, Vl.W_m2, Vl.W_m2s, Vl.W_mIx, Vl.W_mPart, Vl.W_mNoP, Vl.W_mSl, Vl.W_mRev, Vl.W_mRevX, Vl.W_mStp, Vl.revD_lst, Vl.revD_tup, Vl.W_mFC, Vl.W_mSC, Vl.W_mJoin, Vl.W_mDic0, Vl.W_mXA, Vl.W_mExc, Vl.W_mExcI, Vl.W_mCall, Vl.W_mCall0, Vl.W_mCallIo, Vl.W_ioTmp, Vl.W_ioLoc, Vl.W_mApp, Vl.W_mSkip, Vl.W_mBreak, Vl.W_mCont, Vl.W_mRetN, Vl.W_mYes, Vl.W_mSeq, Vl.W_mIfS, Vl.W_mExpr, Vl.W_mSet, Vl.rtP_tmp, Vl.rtP_loc, Vl.W_mRet, Vl.W_mRaiseI, Vl.W_mTry, Vl.W_mSetIx, Vl.W_mAsg, Vl.W_mPar, Vl.W_mPar3, Vl.W_mIt, Vl.W_mRng, Vl.W_mEnum, Vl.W_mEnumX, Vl.enA_lst, Vl.enA_tup, Vl.W_mZip, Vl.W_mFor, Vl.W_mLc, Vl.W_runC, Vl.W_runI, Vl.avBl_bl, Vl.avStr_str, Vl.avExc_exc, Vl.tInt_int, Vl.dInt_int, Vl.dBl_bl, Vl.dLst_lst, Vl.one1_one, Vl.hdtl_cons, Vl.two2_two, Vl.thr3_thr, Vl.slL_lst, Vl.nrm_nil, Vl.nrm_tmp, Vl.nrm_loc, Vl.pk_nil, Vl.pk_cons, Vl.er_fro, Vl.er_lst, Vl.er_dic0, Vl.erL_nil, Vl.erL_cons, Vl.erL_app, Vl.erL_map, Vl.nr_fro, Vl.nr_lst, Vl.nr_dic, Vl.nrL_nil, Vl.nrL_cons, Vl.nrL_fro, Vl.hd_non, Vl.hd_bl, Vl.hd_int, Vl.hd_str, Vl.hd_tup, Vl.hd_lst, Vl.hd_dic, Vl.hd_exc, Vl.hdL_nil, Vl.hdL_cons, Vl.hdL_app, Vl.fl_non, Vl.fl_bl, Vl.fl_int, Vl.fl_str, Vl.fl_tup, Vl.fl_lst, Vl.fl_dic, Vl.fl_exc, Vl.tru_non, Vl.tru_bl, Vl.tru_int, Vl.tru_tup, Vl.tru_lst, Vl.not_bl, Vl.not_non, Vl.neg_int, Vl.le_int, Vl.lt_int, Vl.ge_int, Vl.gt_int, Vl.lt_str, Vl.le_str, Vl.gt_str, Vl.ge_str, Vl.sub_int, Vl.mod_int, Vl.div_int, Vl.pow_int, Vl.mul_int, Vl.mul_lst, Vl.mul_str, Vl.add_int, Vl.add_str, Vl.add_lst, Vl.add_tup, Vl.is_non, Vl.is_bl, Vl.is_int, Vl.is_str, Vl.is_tup, Vl.is_lst, Vl.is_exc, Vl.isn_non, Vl.isn_bl, Vl.isn_int, Vl.isn_str, Vl.isn_tup, Vl.isn_lst, Vl.isn_exc, Vl.eq_int, Vl.ne_int, Vl.eq_str, Vl.ne_str, Vl.eq_bl, Vl.eq_tup0, Vl.len_lst, Vl.len_tup, Vl.len_str, Vl.min_int, Vl.max_int, Vl.abs_int, Vl.all_lst, Vl.any_lst, Vl.sum_lst, Vl.lof_lst, Vl.lof_tup, Vl.tof_lst, Vl.tof_tup, Vl.ix_lst, Vl.ix_tup, Vl.sl_lst, Vl.sl_tup, Vl.sl_str, Vl.at_0, Vl.at_1, Vl.at_2, Vl.at_3, Vl.at_4, Vl.at_5, Vl.at_6, Vl.at_7, Vl.at_8, Vl.vw_fro, Vl.vw_lst, Vl.vw_loc, Vl.vwT_fro, Vl.vwT_lst, Vl.fa_nil, Vl.fa_cons, Vl.fa_lst, Vl.fa_map, Vl.fa_app, Vl.its_lst, Vl.its_tup, Vl.its_str, Vl.tr_lst, Vl.tr_tup, Vl.tr_str, Vl.tr_int, Vl.tr_bl, Vl.tr_non, Vl.tgN_eq, Vl.tgT_eq, Vl.tgC_eq, Vl.tgNil_eq, Vl.wipe_nil, Vl.wipe_cons, Vl.bls_nil, Vl.bls_cons, Vl.bls_map, Vl.ints_map, Vl.strs_map, Vl.obnd_some, Vl.rng1, Vl.rng2, Vl.zip_lst, Vl.zip_tup, Vl.nd_tup, Vl.nd_int, Vl.nd_str, Vl.ndL_nil, Vl.ndL_cons, Vl.dv_int, Vl.dv_str, Vl.mRaiseA, Vl.W_mRaise, Vl.repr_bl, Vl.repr_non, List.flatten_cons, List.flatten_nil, List.append_nil, List.map_cons, List.map_nil, List.getElem?_cons_zero, List.getElem?_cons_succ, List.set_cons_zero, List.set_cons_succ, List.length_cons, List.length_nil, List.replicate_succ, List.replicate_zero, List.cons_append, List.nil_append, List.append_assoc, List.not_mem_nil, List.length_map, List.isEmpty_cons, List.isEmpty_nil, List.all_cons, List.all_nil, List.any_cons, List.any_nil, Bool.not_true, Bool.not_false, Bool.not_not, Bool.true_and, Bool.and_true, Bool.false_and, Bool.and_false, Bool.true_or, Bool.false_or, id_eq, if_true, if_false, ↓reduceIte, Bool.false_eq_true, Option.map_some, Option.map_none, Option.bind_some, decide_eq_true_eq, decide_true, decide_false, true_and, and_true, and_self, not_true_eq_false, not_false_eq_true, Nat.reduceAdd, Nat.reduceSub, Nat.reduceLeDiff, Nat.reduceLT, Nat.reduceEqDiff, Nat.reduceBEq, Int.reduceAdd, Int.reduceSub, Int.reduceNeg, Int.reduceLE, Int.reduceLT, Int.reduceBEq, Int.reduceBNe, Int.reduceEq, Int.reduceToNat, Nat.zero_add, Int.cast_ofNat_Int, beq_self_eq_true, ite_self, eq_self, ne_eq, Vl.ixn_1_0, Vl.ixn_2_0, Vl.ixn_2_1, Vl.ixn_3_0, Vl.ixn_3_1, Vl.ixn_3_2, Vl.ixn_4_0, Vl.ixn_4_1, Vl.ixn_4_2, Vl.ixn_4_3, Vl.ixn_5_0, Vl.ixn_5_1, Vl.ixn_5_2, Vl.ixn_5_3, Vl.ixn_5_4, Vl.ixn_6_0, Vl.ixn_6_1, Vl.ixn_6_2, Vl.ixn_6_3, Vl.ixn_6_4, Vl.ixn_6_5, Vl.ixn_7_0, Vl.ixn_7_1, Vl.ixn_7_2, Vl.ixn_7_3, Vl.ixn_7_4, Vl.ixn_7_5, Vl.ixn_7_6, Vl.ixn_8_0, Vl.ixn_8_1, Vl.ixn_8_2, Vl.ixn_8_3, Vl.ixn_8_4, Vl.ixn_8_5, Vl.ixn_8_6, Vl.ixn_8_7, Vl.ixn_9_0, Vl.ixn_9_1, Vl.ixn_9_2, Vl.ixn_9_3, Vl.ixn_9_4, Vl.ixn_9_5, Vl.ixn_9_6, Vl.ixn_9_7, Vl.ixn_9_8, Vl.ixn_10_0, Vl.ixn_10_1, Vl.ixn_10_2, Vl.ixn_10_3, Vl.ixn_10_4, Vl.ixn_10_5, Vl.ixn_10_6, Vl.ixn_10_7, Vl.ixn_10_8, Vl.ixn_10_9, Vl.ixn_11_0, Vl.ixn_11_1, Vl.ixn_11_2, Vl.ixn_11_3, Vl.ixn_11_4, Vl.ixn_11_5, Vl.ixn_11_6, Vl.ixn_11_7, Vl.ixn_11_8, Vl.ixn_11_9, Vl.ixn_11_10, Vl.ixn_12_0, Vl.ixn_12_1, Vl.ixn_12_2, Vl.ixn_12_3, Vl.ixn_12_4, Vl.ixn_12_5, Vl.ixn_12_6, Vl.ixn_12_7, Vl.ixn_12_8, Vl.ixn_12_9, Vl.ixn_12_10, Vl.ixn_12_11, e_isi0_non, e_isi0_bl, e_isi0_int, e_isi0_str, e_isi0_tup, e_isi0_lst, e_isi0_dic, e_isi1_non, e_isi1_bl, e_isi1_int, e_isi1_str, e_isi1_tup, e_isi1_lst, e_isi1_dic, e_isi2_non, e_isi2_bl, e_isi2_int, e_isi2_str, e_isi2_tup, e_isi2_lst, e_isi2_dic, e_isi3_non, e_isi3_bl, e_isi3_int, e_isi3_str, e_isi3_tup, e_isi3_lst, e_isi3_dic, e_isi4_non, e_isi4_bl, e_isi4_int, e_isi4_str, e_isi4_tup, e_isi4_lst, e_isi4_dic, exa_BondError, exa_BadDay, exa_BadName, exa_BadRules, exa_BadStretch, exa_BadNumber, lk_part_0, at_lastP, at_lastQ, ixN_last])
local macro_rules | `(tactic| k_subL) => `(tactic| try simp only [Vl.WP_ok, Vl.WP_er, Vl.OP_some, Vl.WC_ok, Vl.WC_er, Vl.WI_ok, Vl.WI_er, Vl.FlE_nx, Vl.FlE_bk, Vl.FlE_ct, Vl.FlE_rt, Vl.WP_ite, Vl.OP_ite, Vl.WP_obind, Vl.WP_sbind, Vl.OP_map, Vl.cEnv_eq, Vl.W_mC, Vl.W_mV, Vl.AVs_fro, Vl.AVs_lst, Vl.AVs_dic, Vl.slO_some, Vl.get_tmp, Vl.get_loc, Vl.fz_tmp, Vl.fz_loc, Vl.W_mT, Vl.W_mAndT, Vl.W_mOrT, Vl.W_mNotT, Vl.W_mAnd, Vl.W_mOr, Vl.W_mIf, Vl.W_mB, Vl.chT_ff, Vl.chT_tt, Vl.chT_dec, Vl.W_mCh, Vl.W_mCons, Vl.W_mNil, Vl.W_mLst, Vl.W_mTup, Vl.W_m1, Vl.W_m2, Vl.W_m2s, Vl.W_mIx, Vl.W_mPart, Vl.W_mNoP, Vl.W_mSl, Vl.W_mRev, Vl.W_mRevX, Vl.W_mStp, Vl.revD_lst, Vl.revD_tup, Vl.W_mFC, Vl.W_mSC, Vl.W_mJoin, Vl.W_mDic0, Vl.W_mXA, Vl.W_mExc, Vl.W_mExcI, Vl.W_mCall, Vl.W_mCall0, Vl.W_mCallIo, Vl.W_ioTmp, Vl.W_ioLoc, Vl.W_mApp, Vl.W_mSkip, Vl.W_mBreak, Vl.W_mCont, Vl.W_mRetN, Vl.W_mYes, Vl.W_mSeq, Vl.W_mIfS, Vl.W_mExpr, Vl.W_mSet, Vl.rtP_tmp, Vl.rtP_loc, Vl.W_mRet, Vl.W_mRaiseI, Vl.W_mTry, Vl.W_mSetIx, Vl.W_mAsg, Vl.W_mPar, Vl.W_mPar3, Vl.W_mIt, Vl.W_mRng, Vl.W_mEnum, Vl.W_mEnumX, Vl.enA_lst, Vl.enA_tup, Vl.W_mZip, Vl.W_mFor, Vl.W_mLc, Vl.W_runC, Vl.W_runI, Vl.avBl_bl, Vl.avStr_str, Vl.avExc_exc, Vl.tInt_int, Vl.dInt_int, Vl.dBl_bl, Vl.dLst_lst, Vl.one1_one, Vl.hdtl_cons, Vl.two2_two, Vl.thr3_thr, Vl.slL_lst, Vl.nrm_nil, Vl.nrm_tmp, Vl.nrm_loc, Vl.pk_nil, Vl.pk_cons, Vl.er_fro, Vl.er_lst, Vl.er_dic0, Vl.erL_nil, Vl.erL_cons, Vl.erL_app, Vl.erL_map, Vl.nr_fro, Vl.nr_lst, Vl.nr_dic, Vl.nrL_nil, Vl.nrL_cons, Vl.nrL_fro, Vl.hd_non, Vl.hd_bl, Vl.hd_int, Vl.hd_str, Vl.hd_tup, Vl.hd_lst, Vl.hd_dic, Vl.hd_exc, Vl.hdL_nil, Vl.hdL_cons, Vl.hdL_app, Vl.fl_non, Vl.fl_bl, Vl.fl_int, Vl.fl_str, Vl.fl_tup, Vl.fl_lst, Vl.fl_dic, Vl.fl_exc, Vl.tru_non, Vl.tru_bl, Vl.tru_int, Vl.tru_tup, Vl.tru_lst, Vl.not_bl, Vl.not_non, Vl.neg_int, Vl.le_int, Vl.lt_int, Vl.ge_int, Vl.gt_int, Vl.lt_str, Vl.le_str, Vl.gt_str, Vl.ge_str, Vl.sub_int, Vl.mod_int, Vl.div_int, Vl.pow_int, Vl.mul_int, Vl.mul_lst, Vl.mul_str, Vl.add_int, Vl.add_str, Vl.add_lst, Vl.add_tup, Vl.is_non, Vl.is_bl, Vl.is_int, Vl.is_str, Vl.is_tup, Vl.is_lst, Vl.is_exc, Vl.isn_non, Vl.isn_bl, Vl.isn_int, Vl.isn_str, Vl.isn_tup, Vl.isn_lst, Vl.isn_exc, Vl.eq_int, Vl.ne_int, Vl.eq_str, Vl.ne_str, Vl.eq_bl, Vl.eq_tup0, Vl.len_lst, Vl.len_tup, Vl.len_str, Vl.min_int, Vl.max_int, Vl.abs_int, Vl.all_lst, Vl.any_lst, Vl.sum_lst, Vl.lof_lst, Vl.lof_tup, Vl.tof_lst, Vl.tof_tup, Vl.ix_lst, Vl.ix_tup, Vl.sl_lst, Vl.sl_tup, Vl.sl_str, Vl.at_0, Vl.at_1, Vl.at_2, Vl.at_3, Vl.at_4, Vl.at_5, Vl.at_6, Vl.at_7, Vl.at_8, Vl.vw_fro, Vl.vw_lst, Vl.vw_loc, Vl.vwT_fro, Vl.vwT_lst, Vl.fa_nil, Vl.fa_cons, Vl.fa_lst, Vl.fa_map, Vl.fa_app, Vl.its_lst, Vl.its_tup, Vl.its_str, Vl.tr_lst, Vl.tr_tup, Vl.tr_str, Vl.tr_int, Vl.tr_bl, Vl.tr_non, Vl.tgN_eq, Vl.tgT_eq, Vl.tgC_eq, Vl.tgNil_eq, Vl.wipe_nil, Vl.wipe_cons, Vl.bls_nil, Vl.bls_cons, Vl.bls_map, Vl.ints_map, Vl.strs_map, Vl.obnd_some, Vl.rng1, Vl.rng2, Vl.zip_lst, Vl.zip_tup, Vl.nd_tup, Vl.nd_int, Vl.nd_str, Vl.ndL_nil, Vl.ndL_cons, Vl.dv_int, Vl.dv_str, Vl.mRaiseA, Vl.W_mRaise, Vl.repr_bl, Vl.repr_non, List.flatten_cons, List.flatten_nil, List.append_nil, List.map_cons, List.map_nil, List.getElem?_cons_zero, List.getElem?_cons_succ, List.set_cons_zero, List.set_cons_succ, List.length_cons, List.length_nil, List.replicate_succ, List.replicate_zero, List.cons_append, List.nil_append, List.append_assoc, List.not_mem_nil, List.length_map, List.isEmpty_cons, List.isEmpty_nil, List.all_cons, List.all_nil, List.any_cons, List.any_nil, Bool.not_true, Bool.not_false, Bool.not_not, Bool.true_and, Bool.and_true, Bool.false_and, Bool.and_false, Bool.true_or, Bool.false_or, id_eq, if_true, if_false, ↓reduceIte, Bool.false_eq_true, Option.map_some, Option.map_none, Option.bind_some, decide_eq_true_eq, decide_true, decide_false, true_and, and_true, and_self, not_true_eq_false, not_false_eq_true, Nat.reduceAdd, Nat.reduceSub, Nat.reduceLeDiff, Nat.reduceLT, Nat.reduceEqDiff, Nat.reduceBEq, Int.reduceAdd, Int.reduceSub, Int.reduceNeg, Int.reduceLE, Int.reduceLT, Int.reduceBEq, Int.reduceBNe, Int.reduceEq, Int.reduceToNat, Nat.zero_add, Int.cast_ofNat_Int, beq_self_eq_true, ite_self, eq_self, ne_eq, Vl.ixn_1_0, Vl.ixn_2_0, Vl.ixn_2_1, Vl.ixn_3_0, Vl.ixn_3_1, Vl.ixn_3_2, Vl.ixn_4_0, Vl.ixn_4_1, Vl.ixn_4_2, Vl.ixn_4_3, Vl.ixn_5_0, Vl.ixn_5_1, Vl.ixn_5_2, Vl.ixn_5_3, Vl.ixn_5_4, Vl.ixn_6_0, Vl.ixn_6_1, Vl.ixn_6_2, Vl.ixn_6_3, Vl.ixn_6_4, Vl.ixn_6_5, Vl.ixn_7_0, Vl.ixn_7_1, Vl.ixn_7_2, Vl.ixn_7_3, Vl.ixn_7_4, Vl.ixn_7_5, Vl.ixn_7_6, Vl.ixn_8_0, Vl.ixn_8_1, Vl.ixn_8_2, Vl.ixn_8_3, Vl.ixn_8_4, Vl.ixn_8_5, Vl.ixn_8_6, Vl.ixn_8_7, Vl.ixn_9_0, Vl.ixn_9_1, Vl.ixn_9_2, Vl.ixn_9_3, Vl.ixn_9_4, Vl.ixn_9_5, Vl.ixn_9_6, Vl.ixn_9_7, Vl.ixn_9_8, Vl.ixn_10_0, Vl.ixn_10_1, Vl.ixn_10_2, Vl.ixn_10_3, Vl.ixn_10_4, Vl.ixn_10_5, Vl.ixn_10_6, Vl.ixn_10_7, Vl.ixn_10_8, Vl.ixn_10_9, Vl.ixn_11_0, Vl.ixn_11_1, Vl.ixn_11_2, Vl.ixn_11_3, Vl.ixn_11_4, Vl.ixn_11_5, Vl.ixn_11_6, Vl.ixn_11_7, Vl.ixn_11_8, Vl.ixn_11_9, Vl.ixn_11_10, Vl.ixn_12_0, Vl.ixn_12_1, Vl.ixn_12_2, Vl.ixn_12_3, Vl.ixn_12_4, Vl.ixn_12_5, Vl.ixn_12_6, Vl.ixn_12_7, Vl.ixn_12_8, Vl.ixn_12_9, Vl.ixn_12_10, Vl.ixn_12_11, e_isi0_non, e_isi0_bl, e_isi0_int, e_isi0_str, e_isi0_tup, e_isi0_lst, e_isi0_dic, e_isi1_non, e_isi1_bl, e_isi1_int, e_isi1_str, e_isi1_tup, e_isi1_lst, e_isi1_dic, e_isi2_non, e_isi2_bl, e_isi2_int, e_isi2_str, e_isi2_tup, e_isi2_lst, e_isi2_dic, e_isi3_non, e_isi3_bl, e_isi3_int, e_isi3_str, e_isi3_tup, e_isi3_lst, e_isi3_dic, e_isi4_non, e_isi4_bl, e_isi4_int, e_isi4_str, e_isi4_tup, e_isi4_lst, e_isi4_dic, exa_BondError, exa_BadDay, exa_BadName, exa_BadRules, exa_BadStretch, exa_BadNumber, lk_part_0, at_lastP, at_lastQ, ixN_last, Vl.W_lc_cons, Vl.W_lc_nil, Vl.W_loop_cons, Vl.W_loop_nil])
theorem jstep_w {a : List (Int × Int)} {p : Int × Int} {d : D} {y2 y3 y4 : Option T} {KF : Fl → Vl.Env → Prop} {E : Exn → Vl.Env → Prop} (hz : a.length ≤ 100000)
    (H : ∀ y2 y3 y4, KF .nx [some (.fro d), some (prs (jn a p)), y2, y3, y4]) :
    WP ((mIfS (mAndT (mB (m2 gLt (mV 2) (mV 3))) (mAndT (mB (m2 gNe (mV 1) (mLst mNil))) (mB (m2 gLe (mV 2) (mIx (mIx (mV 1) (m1 gNeg (mC (.int 1)))) (mC (.int 1))))))) (mSetIx 1 (mTup (mCons (mIx (mIx (mV 1) (m1 gNeg (mC (.int 1)))) (mC (.int 0))) (mCons (mFC gMax (mCons (mV 3) (mCons (mIx (mIx (mV 1) (m1 gNeg (mC (.int 1)))) (mC (.int 1))) mNil))) mNil))) (m1 gNeg (mC (.int 1)))) (mIfS (mB (m2 gLt (mV 2) (mV 3))) (mExpr (mApp 1 (mTup (mCons (mV 2) (mCons (mV 3) mNil))))) mSkip)) [some (.fro d), some (prs a), some (.fro (.int p.1)), some (.fro (.int p.2)), y4]) KF E := by
  unfold prs
  k_places
  by_cases h1 : p.1 < p.2
  · simp only [h1]
    k_places
    rw [neX_rows]
    k_places
    rcases List.eq_nil_or_concat a with rfl | ⟨ini, l, rfl⟩
    · k_places
      have e : jn [] p = [p] := by rw [jn_one, if_pos h1]
      rw [e] at H
      rw [if_pos h1]
      exact H _ _ _
    · rw [List.concat_eq_append] at hz H ⊢
      rw [List.length_append] at hz
      rw [jn_snoc, if_pos h1] at H
      have e1 : (ini ++ [l]).isEmpty = false := by cases ini <;> rfl
      simp only [e1, at_lastP]
      k_places
      by_cases h2 : p.1 ≤ l.2
      · rw [if_pos h2] at H
        simp only [h2]
        k_places
        rw [List.length_append]
        k_places
        simp only [set_prs]
        refine cast (congrArg (fun x => KF Fl.nx [some (T.fro d), some (prs (ini ++ [(l.1, x)])), _, _, _]) ?_) (H _ _ _)
        rw [Int.max_def]; split <;> split <;> omega
      · rw [if_neg h2] at H
        simp only [h2, h1]
        k_places
        refine ⟨by rw [List.length_append]; simp at hz ⊢; omega, ?_⟩
        rw [prs_snoc]
        exact H _ _ _
  · simp only [h1]
    k_places
    have e : jn a p = a := by unfold jn; rw [if_neg h1]
    rw [e] at H
    exact H _ _ _

theorem foldl_len : ∀ (s acc : List (Int × Int)), (s.foldl jn acc).length ≤ acc.length + s.length
  | [], acc => by simp
  | p :: s, acc => by
    have h := foldl_len s (jn acc p)
    have h2 : (jn acc p).length ≤ acc.length + 1 := by
      unfold jn
      split
      · split
        · split
          · simp
          · simp
        · simp
      · omega
    simp only [List.foldl_cons, List.length_cons]; omega
theorem joined_w {d : D} {ps : List (Int × Int)} (hd : d = .lst (ps.map Vl.pairD) ∨ d = .tup (ps.map Vl.pairD)) (hl : ps.length ≤ 1000) (hp : ∀ p ∈ ps, okP p) {K : T → Prop} {E : Exn → Prop} :
    WC (F_joined_up [.fro d]) K E = K (prs ((isort leP ps).foldl jn [])) := by
  refine WC_iff fun K E H => ?_
  have hall : (ps.map fun p => isStr (Vl.pairD p)).all id = true := by
    rw [List.all_eq_true]; intro b hb
    obtain ⟨p, hp', rfl⟩ := List.mem_map.mp hb
    exact (hp p hp').str
  unfold F_joined_up m_joined_up
  rcases hd with rfl | rfl
  all_goals
    k_places
    refine W_lc_map (fun _ => true) (fun d => .fro (.bl (isStr d))) (by simp; omega) (fun d hd => ?_) ?_
    · obtain ⟨p, hp', rfl⟩ := List.mem_map.mp hd
      k_places
      rw [is_stretch_w (hp p hp').tm.1]
      k_places
    · have e : (ps.map Vl.pairD).filter (fun _ => true) = ps.map Vl.pairD := List.filter_eq_self.mpr fun _ _ => rfl
      rw [e]
      have e2 : (ps.map Vl.pairD).map (fun d => T.fro (.bl (isStr d))) = (ps.map fun p => D.bl (isStr (Vl.pairD p))).map T.fro := by
        rw [List.map_map, List.map_map]; rfl
      rw [e2]
      k_places
      rw [hall]
      k_places
      first | rw [gSrtY_pairs (by omega)] | rw [gSrtY_tpairs (by omega)]
      k_places
      refine W_loopI (fun pre post ρ => ∃ (a b : List (Int × Int)) (x y2 y3 y4 : Option T), isort leP ps = a ++ b ∧ post = b.map Vl.pairD ∧ ρ = [x, some (prs (a.foldl jn [])), y2, y3, y4] ∧ ∃ d, x = some (.fro d)) (pre := []) ⟨[], isort leP ps, _, _, _, _, rfl, rfl, rfl, _, rfl⟩ ?_ ?_
      · rintro pre d0 post ρ ⟨a, b, x, y2, y3, y4, h1, h2, rfl, dx, rfl⟩
        cases b with
        | nil => cases h2
        | cons p b =>
          cases h2
          have hz : a.length ≤ 1000 := by
            have h3 := (isort_perm leP ps).length_eq
            rw [h1, List.length_append] at h3; omega
          k_places
          have h4 := foldl_len a []
          refine jstep_w (p := p) (y2 := none) (y3 := none) (by simp at h4; omega) fun z2 z3 z4 => ?_
          k_places
          exact ⟨a ++ [p], b, _, _, _, _, by rw [h1]; simp, rfl, by rw [List.foldl_append]; rfl, _, rfl⟩
      · rintro pre ρ ⟨a, b, x, y2, y3, y4, h1, h2, rfl, dx, rfl⟩
        cases b with
        | cons p b => cases h2
        | nil =>
          rw [List.append_nil] at h1
          subst h1
          unfold prs at H ⊢
          k_places
          exact H
local macro_rules | `(tactic| k_places) => `(tactic| try simp only [Vl.WP_ok, Vl.WP_er, Vl.OP_some, Vl.WC_ok, Vl.WC_er, Vl.WI_ok, Vl.WI_er, Vl.FlE_nx, Vl.FlE_bk, Vl.FlE_ct, Vl.FlE_rt, Vl.WP_ite, Vl.OP_ite, Vl.WP_obind, Vl.WP_sbind, Vl.OP_map, Vl.cEnv_eq, Vl.W_mC, Vl.W_mV, Vl.AVs_fro, Vl.AVs_lst, Vl.AVs_dic, Vl.slO_some, Vl.get_tmp, Vl.get_loc, Vl.fz_tmp, Vl.fz_loc, Vl.W_mT, Vl.W_mAndT, Vl.W_mOrT, Vl.W_mNotT, Vl.W_mAnd, Vl.W_mOr, Vl.W_mIf, Vl.W_mB, Vl.chT_ff, Vl.chT_tt, Vl.chT_dec, Vl.W_mCh, Vl.W_mCons, Vl.W_mNil, Vl.W_mLst, Vl.W_mTup, Vl.W_m1, Vl.W_m2, Vl.W_m2s, Vl.W_mIx, Vl.W_mPart, Vl.W_mNoP, Vl.W_mSl, Vl.W_mRev, Vl.W_mRevX, Vl.W_mStp, Vl.revD_lst, Vl.revD_tup, Vl.W_mFC, Vl.W_mSC, Vl.W_mJoin, Vl.W_mDic0, Vl.W_mXA, Vl.W_mExc, Vl.W_mExcI, Vl.W_mCall, Vl.W_mCall0, Vl.W_mCallIo, Vl.W_ioTmp, Vl.W_ioLoc, Vl.W_mApp, Vl.W_mSkip, Vl.W_mBreak, Vl.W_mCont, Vl.W_mRetN, Vl.W_mYes, Vl.W_mSeq, Vl.W_mIfS, Vl.W_mExpr, Vl.W_mSet, Vl.rtP_tmp, Vl.rtP_loc, Vl.W_mRet, Vl.W_mRaiseI, Vl.W_mTry, Vl.W_mSetIx, Vl.W_mAsg, Vl.W_mPar, Vl.W_mPar3, Vl.W_mIt, Vl.W_mRng, Vl.W_mEnum, Vl.W_mEnumX, Vl.enA_lst, Vl.enA_tup, Vl.W_mZip, Vl.W_mFor, Vl.W_mLc, Vl.W_runC, Vl.W_runI, Vl.avBl_bl, Vl.avStr_str, Vl.avExc_exc, Vl.tInt_int, Vl.dInt_int, Vl.dBl_bl, Vl.dLst_lst, Vl.one1_one, Vl.hdtl_cons, Vl.two2_two, Vl.thr3_thr, Vl.slL_lst, Vl.nrm_nil, Vl.nrm_tmp, Vl.nrm_loc, Vl.pk_nil, Vl.pk_cons, Vl.er_fro, Vl.er_lst, Vl.er_dic0, Vl.erL_nil, Vl.erL_cons, Vl.erL_app, Vl.erL_map, Vl.nr_fro, Vl.nr_lst, Vl.nr_dic, Vl.nrL_nil, Vl.nrL_cons, Vl.nrL_fro, Vl.hd_non, Vl.hd_bl, Vl.hd_int, Vl.hd_str, Vl.hd_tup, Vl.hd_lst, Vl.hd_dic, Vl.hd_exc, Vl.hdL_nil, Vl.hdL_cons, Vl.hdL_app, Vl.fl_non, Vl.fl_bl, Vl.fl_int, Vl.fl_str, Vl.fl_tup, Vl.fl_lst, Vl.fl_dic, Vl.fl_exc, Vl.tru_non, Vl.tru_bl, Vl.tru_int, Vl.tru_tup, Vl.tru_lst, Vl.not_bl, Vl.not_non, Vl.neg_int, Vl.le_int, Vl.lt_int, Vl.ge_int, Vl.gt_int, Vl.lt_str, Vl.le_str, Vl.gt_str, Vl.ge_str, Vl.sub_int, Vl.mod_int, Vl.div_int, Vl.pow_int, Vl.mul_int, Vl.mul_lst, Vl.mul_str, Vl.add_int, Vl.add_str, Vl.add_lst, Vl.add_tup, Vl.is_non, Vl.is_bl, Vl.is_int, Vl.is_str, Vl.is_tup, Vl.is_lst, Vl.is_exc, Vl.isn_non, Vl.isn_bl, Vl.isn_int, Vl.isn_str, Vl.isn_tup, Vl.isn_lst, Vl.isn_exc, Vl.eq_int, Vl.ne_int, Vl.eq_str, Vl.ne_str, Vl.eq_bl, Vl.eq_tup0, Vl.len_lst, Vl.len_tup, Vl.len_str, Vl.min_int, Vl.max_int, Vl.abs_int, Vl.all_lst, Vl.any_lst, Vl.sum_lst, Vl.lof_lst, Vl.lof_tup, Vl.tof_lst, Vl.tof_tup, Vl.ix_lst, Vl.ix_tup, Vl.sl_lst, Vl.sl_tup, Vl.sl_str, Vl.at_0, Vl.at_1, Vl.at_2, Vl.at_3, Vl.at_4, Vl.at_5, Vl.at_6, Vl.at_7, Vl.at_8, Vl.vw_fro, Vl.vw_lst, Vl.vw_loc, Vl.vwT_fro, Vl.vwT_lst, Vl.fa_nil, Vl.fa_cons, Vl.fa_lst, Vl.fa_map, Vl.fa_app, Vl.its_lst, Vl.its_tup, Vl.its_str, Vl.tr_lst, Vl.tr_tup, Vl.tr_str, Vl.tr_int, Vl.tr_bl, Vl.tr_non, Vl.tgN_eq, Vl.tgT_eq, Vl.tgC_eq, Vl.tgNil_eq, Vl.wipe_nil, Vl.wipe_cons, Vl.bls_nil, Vl.bls_cons, Vl.bls_map, Vl.ints_map, Vl.strs_map, Vl.obnd_some, Vl.rng1, Vl.rng2, Vl.zip_lst, Vl.zip_tup, Vl.nd_tup, Vl.nd_int, Vl.nd_str, Vl.ndL_nil, Vl.ndL_cons, Vl.dv_int, Vl.dv_str, Vl.mRaiseA, Vl.W_mRaise, Vl.repr_bl, Vl.repr_non, List.flatten_cons, List.flatten_nil, List.append_nil, List.map_cons, List.map_nil, List.getElem?_cons_zero, List.getElem?_cons_succ, List.set_cons_zero, List.set_cons_succ, List.length_cons, List.length_nil, List.replicate_succ, List.replicate_zero, List.cons_append, List.nil_append, List.append_assoc, List.not_mem_nil, List.length_map, List.isEmpty_cons, List.isEmpty_nil, List.all_cons, List.all_nil, List.any_cons, List.any_nil, Bool.not_true, Bool.not_false, Bool.not_not, Bool.true_and, Bool.and_true, Bool.false_and, Bool.and_false, Bool.true_or, Bool.false_or, id_eq, if_true, if_false, ↓reduceIte, Bool.false_eq_true, Option.map_some, Option.map_none, Option.bind_some, decide_eq_true_eq, decide_true, decide_false, true_and, and_true, and_self, not_true_eq_false, not_false_eq_true, Nat.reduceAdd, Nat.reduceSub, Nat.reduceLeDiff, Nat.reduceLT, Nat.reduceEqDiff, Nat.reduceBEq, Int.reduceAdd, Int.reduceSub, Int.reduceNeg, Int.reduceLE, Int.reduceLT, Int.reduceBEq, Int.reduceBNe, Int.reduceEq, Int.reduceToNat, Nat.zero_add, Int.cast_ofNat_Int, beq_self_eq_true, ite_self, eq_self, ne_eq, Vl.ixn_1_0, Vl.ixn_2_0, Vl.ixn_2_1, Vl.ixn_3_0, Vl.ixn_3_1, Vl.ixn_3_2, Vl.ixn_4_0, Vl.ixn_4_1, Vl.ixn_4_2, Vl.ixn_4_3, Vl.ixn_5_0, Vl.ixn_5_1, Vl.ixn_5_2, Vl.ixn_5_3, Vl.ixn_5_4, Vl.ixn_6_0, Vl.ixn_6_1, Vl.ixn_6_2, Vl.ixn_6_3, Vl.ixn_6_4, Vl.ixn_6_5, Vl.ixn_7_0, Vl.ixn_7_1, Vl.ixn_7_2, Vl.ixn_7_3, Vl.ixn_7_4, Vl.ixn_7_5, Vl.ixn_7_6, Vl.ixn_8_0, Vl.ixn_8_1, Vl.ixn_8_2, Vl.ixn_8_3, Vl.ixn_8_4, Vl.ixn_8_5, Vl.ixn_8_6, Vl.ixn_8_7, Vl.ixn_9_0, Vl.ixn_9_1, Vl.ixn_9_2, Vl.ixn_9_3, Vl.ixn_9_4, Vl.ixn_9_5, Vl.ixn_9_6, Vl.ixn_9_7, Vl.ixn_9_8, Vl.ixn_10_0, Vl.ixn_10_1, Vl.ixn_10_2, Vl.ixn_10_3, Vl.ixn_10_4, Vl.ixn_10_5, Vl.ixn_10_6, Vl.ixn_10_7, Vl.ixn_10_8, Vl.ixn_10_9, Vl.ixn_11_0, Vl.ixn_11_1, Vl.ixn_11_2, Vl.ixn_11_3, Vl.ixn_11_4, Vl.ixn_11_5, Vl.ixn_11_6, Vl.ixn_11_7, Vl.ixn_11_8, Vl.ixn_11_9, Vl.ixn_11_10, Vl.ixn_12_0, Vl.ixn_12_1, Vl.ixn_12_2, Vl.ixn_12_3, Vl.ixn_12_4, Vl.ixn_12_5, Vl.ixn_12_6, Vl.ixn_12_7, Vl.ixn_12_8, Vl.ixn_12_9, Vl.ixn_12_10, Vl.ixn_12_11, e_isi0_non, e_isi0_bl, e_isi0_int, e_isi0_str, e_isi0_tup, e_isi0_lst, e_isi0_dic, e_isi1_non, e_isi1_bl, e_isi1_int, e_isi1_str, e_isi1_tup, e_isi1_lst, e_isi1_dic, e_isi2_non, e_isi2_bl, e_isi2_int, e_isi2_str, e_isi2_tup, e_isi2_lst, e_isi2_dic, e_isi3_non, e_isi3_bl, e_isi3_int, e_isi3_str, e_isi3_tup, e_isi3_lst, e_isi3_dic, e_isi4_non, e_isi4_bl, e_isi4_int, e_isi4_str, e_isi4_tup, e_isi4_lst, e_isi4_dic, exa_BondError, exa_BadDay, exa_BadName, exa_BadRules, exa_BadStretch, exa_BadNumber, lk_part_0])
local macro_rules | `(tactic| k_clsL) => `(tactic| simp only [Vl.WP_ok, Vl.WP_er, Vl.OP_some, Vl.WC_ok, Vl.WC_er, Vl.WI_ok, Vl.WI_er, Vl.FlE_nx, Vl.FlE_bk, Vl.FlE_ct, Vl.FlE_rt, Vl.WP_ite, Vl.OP_ite, Vl.WP_obind, Vl.WP_sbind, Vl.OP_map, Vl.cEnv_eq, Vl.W_mC, Vl.W_mV, Vl.AVs_fro, Vl.AVs_lst, Vl.AVs_dic, Vl.slO_some, Vl.get_tmp, Vl.get_loc, Vl.fz_tmp, Vl.fz_loc, Vl.W_mT, Vl.W_mAndT, Vl.W_mOrT, Vl.W_mNotT, Vl.W_mAnd, Vl.W_mOr, Vl.W_mIf, Vl.W_mB, Vl.chT_ff, Vl.chT_tt, Vl.chT_dec, Vl.W_mCh, Vl.W_mCons, Vl.W_mNil, Vl.W_mLst, Vl.W_mTup, Vl.W_m1, Vl.W_m2, Vl.W_m2s, Vl.W_mIx, Vl.W_mPart, Vl.W_mNoP, Vl.W_mSl, Vl.W_mRev, Vl.W_mRevX, Vl.W_mStp, Vl.revD_lst, Vl.revD_tup, Vl.W_mFC, Vl.W_mSC, Vl.W_mJoin, Vl.W_mDic0, Vl.W_mXA, Vl.W_mExc, Vl.W_mExcI, Vl.W_mCall, Vl.W_mCall0, Vl.W_mCallIo, Vl.W_ioTmp, Vl.W_ioLoc, Vl.W_mApp, Vl.W_mSkip, Vl.W_mBreak, Vl.W_mCont, Vl.W_mRetN, Vl.W_mYes, Vl.W_mSeq, Vl.W_mIfS, Vl.W_mExpr, Vl.W_mSet, Vl.rtP_tmp, Vl.rtP_loc, Vl.W_mRet, Vl.W_mRaiseI, Vl.W_mTry, Vl.W_mSetIx, Vl.W_mAsg, Vl.W_mPar, Vl.W_mPar3, Vl.W_mIt, Vl.W_mRng, Vl.W_mEnum, Vl.W_mEnumX, Vl.enA_lst, Vl.enA_tup, Vl.W_mZip, Vl.W_mFor, Vl.W_mLc, Vl.W_runC, Vl.W_runI, Vl.avBl_bl, Vl.avStr_str, Vl.avExc_exc, Vl.tInt_int, Vl.dInt_int, Vl.dBl_bl, Vl.dLst_lst, Vl.one1_one, Vl.hdtl_cons, Vl.two2_two, Vl.thr3_thr, Vl.slL_lst, Vl.nrm_nil, Vl.nrm_tmp, Vl.nrm_loc, Vl.pk_nil, Vl.pk_cons, Vl.er_fro, Vl.er_lst, Vl.er_dic0, Vl.erL_nil, Vl.erL_cons, Vl.erL_app, Vl.erL_map, Vl.nr_fro, Vl.nr_lst, Vl.nr_dic, Vl.nrL_nil, Vl.nrL_cons, Vl.nrL_fro, Vl.hd_non, Vl.hd_bl, Vl.hd_int, Vl.hd_str, Vl.hd_tup, Vl.hd_lst, Vl.hd_dic, Vl.hd_exc, Vl.hdL_nil, Vl.hdL_cons, Vl.hdL_app, Vl.fl_non, Vl.fl_bl, Vl.fl_int, Vl.fl_str, Vl.fl_tup, Vl.fl_lst, Vl.fl_dic, Vl.fl_exc, Vl.tru_non, Vl.tru_bl, Vl.tru_int, Vl.tru_tup, Vl.tru_lst, Vl.not_bl, Vl.not_non, Vl.neg_int, Vl.le_int, Vl.lt_int, Vl.ge_int, Vl.gt_int, Vl.lt_str, Vl.le_str, Vl.gt_str, Vl.ge_str, Vl.sub_int, Vl.mod_int, Vl.div_int, Vl.pow_int, Vl.mul_int, Vl.mul_lst, Vl.mul_str, Vl.add_int, Vl.add_str, Vl.add_lst, Vl.add_tup, Vl.is_non, Vl.is_bl, Vl.is_int, Vl.is_str, Vl.is_tup, Vl.is_lst, Vl.is_exc, Vl.isn_non, Vl.isn_bl, Vl.isn_int, Vl.isn_str, Vl.isn_tup, Vl.isn_lst, Vl.isn_exc, Vl.eq_int, Vl.ne_int, Vl.eq_str, Vl.ne_str, Vl.eq_bl, Vl.eq_tup0, Vl.len_lst, Vl.len_tup, Vl.len_str, Vl.min_int, Vl.max_int, Vl.abs_int, Vl.all_lst, Vl.any_lst, Vl.sum_lst, Vl.lof_lst, Vl.lof_tup, Vl.tof_lst, Vl.tof_tup, Vl.ix_lst, Vl.ix_tup, Vl.sl_lst, Vl.sl_tup, Vl.sl_str, Vl.at_0, Vl.at_1, Vl.at_2, Vl.at_3, Vl.at_4, Vl.at_5, Vl.at_6, Vl.at_7, Vl.at_8, Vl.vw_fro, Vl.vw_lst, Vl.vw_loc, Vl.vwT_fro, Vl.vwT_lst, Vl.fa_nil, Vl.fa_cons, Vl.fa_lst, Vl.fa_map, Vl.fa_app, Vl.its_lst, Vl.its_tup, Vl.its_str, Vl.tr_lst, Vl.tr_tup, Vl.tr_str, Vl.tr_int, Vl.tr_bl, Vl.tr_non, Vl.tgN_eq, Vl.tgT_eq, Vl.tgC_eq, Vl.tgNil_eq, Vl.wipe_nil, Vl.wipe_cons, Vl.bls_nil, Vl.bls_cons, Vl.bls_map, Vl.ints_map, Vl.strs_map, Vl.obnd_some, Vl.rng1, Vl.rng2, Vl.zip_lst, Vl.zip_tup, Vl.nd_tup, Vl.nd_int, Vl.nd_str, Vl.ndL_nil, Vl.ndL_cons, Vl.dv_int, Vl.dv_str, Vl.mRaiseA, Vl.W_mRaise, Vl.repr_bl, Vl.repr_non, List.flatten_cons, List.flatten_nil, List.append_nil, List.map_cons, List.map_nil, List.getElem?_cons_zero, List.getElem?_cons_succ, List.set_cons_zero, List.set_cons_succ, List.length_cons, List.length_nil, List.replicate_succ, List.replicate_zero, List.cons_append, List.nil_append, List.append_assoc, List.not_mem_nil, List.length_map, List.isEmpty_cons, List.isEmpty_nil, List.all_cons, List.all_nil, List.any_cons, List.any_nil, Bool.not_true, Bool.not_false, Bool.not_not, Bool.true_and, Bool.and_true, Bool.false_and, Bool.and_false, Bool.true_or, Bool.false_or, id_eq, if_true, if_false, ↓reduceIte, Bool.false_eq_true, Option.map_some, Option.map_none, Option.bind_some, decide_eq_true_eq, decide_true, decide_false, true_and, and_true, and_self, not_true_eq_false, not_false_eq_true, Nat.reduceAdd, Nat.reduceSub, Nat.reduceLeDiff, Nat.reduceLT, Nat.reduceEqDiff, Nat.reduceBEq, Int.reduceAdd, Int.reduceSub, Int.reduceNeg, Int.reduceLE, Int.reduceLT, Int.reduceBEq, Int.reduceBNe, Int.reduceEq, Int.reduceToNat, Nat.zero_add, Int.cast_ofNat_Int, beq_self_eq_true, ite_self, eq_self, ne_eq, Vl.ixn_1_0, Vl.ixn_2_0, Vl.ixn_2_1, Vl.ixn_3_0, Vl.ixn_3_1, Vl.ixn_3_2, Vl.ixn_4_0, Vl.ixn_4_1, Vl.ixn_4_2, Vl.ixn_4_3, Vl.ixn_5_0, Vl.ixn_5_1, Vl.ixn_5_2, Vl.ixn_5_3, Vl.ixn_5_4, Vl.ixn_6_0, Vl.ixn_6_1, Vl.ixn_6_2, Vl.ixn_6_3, Vl.ixn_6_4, Vl.ixn_6_5, Vl.ixn_7_0, Vl.ixn_7_1, Vl.ixn_7_2, Vl.ixn_7_3, Vl.ixn_7_4, Vl.ixn_7_5, Vl.ixn_7_6, Vl.ixn_8_0, Vl.ixn_8_1, Vl.ixn_8_2, Vl.ixn_8_3, Vl.ixn_8_4, Vl.ixn_8_5, Vl.ixn_8_6, Vl.ixn_8_7, Vl.ixn_9_0, Vl.ixn_9_1, Vl.ixn_9_2, Vl.ixn_9_3, Vl.ixn_9_4, Vl.ixn_9_5, Vl.ixn_9_6, Vl.ixn_9_7, Vl.ixn_9_8, Vl.ixn_10_0, Vl.ixn_10_1, Vl.ixn_10_2, Vl.ixn_10_3, Vl.ixn_10_4, Vl.ixn_10_5, Vl.ixn_10_6, Vl.ixn_10_7, Vl.ixn_10_8, Vl.ixn_10_9, Vl.ixn_11_0, Vl.ixn_11_1, Vl.ixn_11_2, Vl.ixn_11_3, Vl.ixn_11_4, Vl.ixn_11_5, Vl.ixn_11_6, Vl.ixn_11_7, Vl.ixn_11_8, Vl.ixn_11_9, Vl.ixn_11_10, Vl.ixn_12_0, Vl.ixn_12_1, Vl.ixn_12_2, Vl.ixn_12_3, Vl.ixn_12_4, Vl.ixn_12_5, Vl.ixn_12_6, Vl.ixn_12_7, Vl.ixn_12_8, Vl.ixn_12_9, Vl.ixn_12_10, Vl.ixn_12_11, e_isi0_non, e_isi0_bl, e_isi0_int, e_isi0_str, e_isi0_tup, e_isi0_lst, e_isi0_dic, e_isi1_non, e_isi1_bl, e_isi1_int, e_isi1_str, e_isi1_tup, e_isi1_lst, e_isi1_dic, e_isi2_non, e_isi2_bl, e_isi2_int, e_isi2_str, e_isi2_tup, e_isi2_lst, e_isi2_dic, e_isi3_non, e_isi3_bl, e_isi3_int, e_isi3_str, e_isi3_tup, e_isi3_lst, e_isi3_dic, e_isi4_non, e_isi4_bl, e_isi4_int, e_isi4_str, e_isi4_tup, e_isi4_lst, e_isi4_dic, exa_BondError, exa_BadDay, exa_BadName, exa_BadRules, exa_BadStretch, exa_BadNumber, lk_part_0])
local macro_rules | `(tactic| k_subL) => `(tactic| try simp only [Vl.WP_ok, Vl.WP_er, Vl.OP_some, Vl.WC_ok, Vl.WC_er, Vl.WI_ok, Vl.WI_er, Vl.FlE_nx, Vl.FlE_bk, Vl.FlE_ct, Vl.FlE_rt, Vl.WP_ite, Vl.OP_ite, Vl.WP_obind, Vl.WP_sbind, Vl.OP_map, Vl.cEnv_eq, Vl.W_mC, Vl.W_mV, Vl.AVs_fro, Vl.AVs_lst, Vl.AVs_dic, Vl.slO_some, Vl.get_tmp, Vl.get_loc, Vl.fz_tmp, Vl.fz_loc, Vl.W_mT, Vl.W_mAndT, Vl.W_mOrT, Vl.W_mNotT, Vl.W_mAnd, Vl.W_mOr, Vl.W_mIf, Vl.W_mB, Vl.chT_ff, Vl.chT_tt, Vl.chT_dec, Vl.W_mCh, Vl.W_mCons, Vl.W_mNil, Vl.W_mLst, Vl.W_mTup, Vl.W_m1, Vl.W_m2, Vl.W_m2s, Vl.W_mIx, Vl.W_mPart, Vl.W_mNoP, Vl.W_mSl, Vl.W_mRev, Vl.W_mRevX, Vl.W_mStp, Vl.revD_lst, Vl.revD_tup, Vl.W_mFC, Vl.W_mSC, Vl.W_mJoin, Vl.W_mDic0, Vl.W_mXA, Vl.W_mExc, Vl.W_mExcI, Vl.W_mCall, Vl.W_mCall0, Vl.W_mCallIo, Vl.W_ioTmp, Vl.W_ioLoc, Vl.W_mApp, Vl.W_mSkip, Vl.W_mBreak, Vl.W_mCont, Vl.W_mRetN, Vl.W_mYes, Vl.W_mSeq, Vl.W_mIfS, Vl.W_mExpr, Vl.W_mSet, Vl.rtP_tmp, Vl.rtP_loc, Vl.W_mRet, Vl.W_mRaiseI, Vl.W_mTry, Vl.W_mSetIx, Vl.W_mAsg, Vl.W_mPar, Vl.W_mPar3, Vl.W_mIt, Vl.W_mRng, Vl.W_mEnum, Vl.W_mEnumX, Vl.enA_lst, Vl.enA_tup, Vl.W_mZip, Vl.W_mFor, Vl.W_mLc, Vl.W_runC, Vl.W_runI, Vl.avBl_bl, Vl.avStr_str, Vl.avExc_exc, Vl.tInt_int, Vl.dInt_int, Vl.dBl_bl, Vl.dLst_lst, Vl.one1_one, Vl.hdtl_cons, Vl.two2_two, Vl.thr3_thr, Vl.slL_lst, Vl.nrm_nil, Vl.nrm_tmp, Vl.nrm_loc, Vl.pk_nil, Vl.pk_cons, Vl.er_fro, Vl.er_lst, Vl.er_dic0, Vl.erL_nil, Vl.erL_cons, Vl.erL_app, Vl.erL_map, Vl.nr_fro, Vl.nr_lst, Vl.nr_dic, Vl.nrL_nil, Vl.nrL_cons, Vl.nrL_fro, Vl.hd_non, Vl.hd_bl, Vl.hd_int, Vl.hd_str, Vl.hd_tup, Vl.hd_lst, Vl.hd_dic, Vl.hd_exc, Vl.hdL_nil, Vl.hdL_cons, Vl.hdL_app, Vl.fl_non, Vl.fl_bl, Vl.fl_int, Vl.fl_str, Vl.fl_tup, Vl.fl_lst, Vl.fl_dic, Vl.fl_exc, Vl.tru_non, Vl.tru_bl, Vl.tru_int, Vl.tru_tup, Vl.tru_lst, Vl.not_bl, Vl.not_non, Vl.neg_int, Vl.le_int, Vl.lt_int, Vl.ge_int, Vl.gt_int, Vl.lt_str, Vl.le_str, Vl.gt_str, Vl.ge_str, Vl.sub_int, Vl.mod_int, Vl.div_int, Vl.pow_int, Vl.mul_int, Vl.mul_lst, Vl.mul_str, Vl.add_int, Vl.add_str, Vl.add_lst, Vl.add_tup, Vl.is_non, Vl.is_bl, Vl.is_int, Vl.is_str, Vl.is_tup, Vl.is_lst, Vl.is_exc, Vl.isn_non, Vl.isn_bl, Vl.isn_int, Vl.isn_str, Vl.isn_tup, Vl.isn_lst, Vl.isn_exc, Vl.eq_int, Vl.ne_int, Vl.eq_str, Vl.ne_str, Vl.eq_bl, Vl.eq_tup0, Vl.len_lst, Vl.len_tup, Vl.len_str, Vl.min_int, Vl.max_int, Vl.abs_int, Vl.all_lst, Vl.any_lst, Vl.sum_lst, Vl.lof_lst, Vl.lof_tup, Vl.tof_lst, Vl.tof_tup, Vl.ix_lst, Vl.ix_tup, Vl.sl_lst, Vl.sl_tup, Vl.sl_str, Vl.at_0, Vl.at_1, Vl.at_2, Vl.at_3, Vl.at_4, Vl.at_5, Vl.at_6, Vl.at_7, Vl.at_8, Vl.vw_fro, Vl.vw_lst, Vl.vw_loc, Vl.vwT_fro, Vl.vwT_lst, Vl.fa_nil, Vl.fa_cons, Vl.fa_lst, Vl.fa_map, Vl.fa_app, Vl.its_lst, Vl.its_tup, Vl.its_str, Vl.tr_lst, Vl.tr_tup, Vl.tr_str, Vl.tr_int, Vl.tr_bl, Vl.tr_non, Vl.tgN_eq, Vl.tgT_eq, Vl.tgC_eq, Vl.tgNil_eq, Vl.wipe_nil, Vl.wipe_cons, Vl.bls_nil, Vl.bls_cons, Vl.bls_map, Vl.ints_map, Vl.strs_map, Vl.obnd_some, Vl.rng1, Vl.rng2, Vl.zip_lst, Vl.zip_tup, Vl.nd_tup, Vl.nd_int, Vl.nd_str, Vl.ndL_nil, Vl.ndL_cons, Vl.dv_int, Vl.dv_str, Vl.mRaiseA, Vl.W_mRaise, Vl.repr_bl, Vl.repr_non, List.flatten_cons, List.flatten_nil, List.append_nil, List.map_cons, List.map_nil, List.getElem?_cons_zero, List.getElem?_cons_succ, List.set_cons_zero, List.set_cons_succ, List.length_cons, List.length_nil, List.replicate_succ, List.replicate_zero, List.cons_append, List.nil_append, List.append_assoc, List.not_mem_nil, List.length_map, List.isEmpty_cons, List.isEmpty_nil, List.all_cons, List.all_nil, List.any_cons, List.any_nil, Bool.not_true, Bool.not_false, Bool.not_not, Bool.true_and, Bool.and_true, Bool.false_and, Bool.and_false, Bool.true_or, Bool.false_or, id_eq, if_true, if_false, ↓reduceIte, Bool.false_eq_true, Option.map_some, Option.map_none, Option.bind_some, decide_eq_true_eq, decide_true, decide_false, true_and, and_true, and_self, not_true_eq_false, not_false_eq_true, Nat.reduceAdd, Nat.reduceSub, Nat.reduceLeDiff, Nat.reduceLT, Nat.reduceEqDiff, Nat.reduceBEq, Int.reduceAdd, Int.reduceSub, Int.reduceNeg, Int.reduceLE, Int.reduceLT, Int.reduceBEq, Int.reduceBNe, Int.reduceEq, Int.reduceToNat, Nat.zero_add, Int.cast_ofNat_Int, beq_self_eq_true, ite_self, eq_self, ne_eq, Vl.ixn_1_0, Vl.ixn_2_0, Vl.ixn_2_1, Vl.ixn_3_0, Vl.ixn_3_1, Vl.ixn_3_2, Vl.ixn_4_0, Vl.ixn_4_1, Vl.ixn_4_2, Vl.ixn_4_3, Vl.ixn_5_0, Vl.ixn_5_1, Vl.ixn_5_2, Vl.ixn_5_3, Vl.ixn_5_4, Vl.ixn_6_0, Vl.ixn_6_1, Vl.ixn_6_2, Vl.ixn_6_3, Vl.ixn_6_4, Vl.ixn_6_5, Vl.ixn_7_0, Vl.ixn_7_1, Vl.ixn_7_2, Vl.ixn_7_3, Vl.ixn_7_4, Vl.ixn_7_5, Vl.ixn_7_6, Vl.ixn_8_0, Vl.ixn_8_1, Vl.ixn_8_2, Vl.ixn_8_3, Vl.ixn_8_4, Vl.ixn_8_5, Vl.ixn_8_6, Vl.ixn_8_7, Vl.ixn_9_0, Vl.ixn_9_1, Vl.ixn_9_2, Vl.ixn_9_3, Vl.ixn_9_4, Vl.ixn_9_5, Vl.ixn_9_6, Vl.ixn_9_7, Vl.ixn_9_8, Vl.ixn_10_0, Vl.ixn_10_1, Vl.ixn_10_2, Vl.ixn_10_3, Vl.ixn_10_4, Vl.ixn_10_5, Vl.ixn_10_6, Vl.ixn_10_7, Vl.ixn_10_8, Vl.ixn_10_9, Vl.ixn_11_0, Vl.ixn_11_1, Vl.ixn_11_2, Vl.ixn_11_3, Vl.ixn_11_4, Vl.ixn_11_5, Vl.ixn_11_6, Vl.ixn_11_7, Vl.ixn_11_8, Vl.ixn_11_9, Vl.ixn_11_10, Vl.ixn_12_0, Vl.ixn_12_1, Vl.ixn_12_2, Vl.ixn_12_3, Vl.ixn_12_4, Vl.ixn_12_5, Vl.ixn_12_6, Vl.ixn_12_7, Vl.ixn_12_8, Vl.ixn_12_9, Vl.ixn_12_10, Vl.ixn_12_11, e_isi0_non, e_isi0_bl, e_isi0_int, e_isi0_str, e_isi0_tup, e_isi0_lst, e_isi0_dic, e_isi1_non, e_isi1_bl, e_isi1_int, e_isi1_str, e_isi1_tup, e_isi1_lst, e_isi1_dic, e_isi2_non, e_isi2_bl, e_isi2_int, e_isi2_str, e_isi2_tup, e_isi2_lst, e_isi2_dic, e_isi3_non, e_isi3_bl, e_isi3_int, e_isi3_str, e_isi3_tup, e_isi3_lst, e_isi3_dic, e_isi4_non, e_isi4_bl, e_isi4_int, e_isi4_str, e_isi4_tup, e_isi4_lst, e_isi4_dic, exa_BondError, exa_BadDay, exa_BadName, exa_BadRules, exa_BadStretch, exa_BadNumber, lk_part_0, Vl.W_lc_cons, Vl.W_lc_nil, Vl.W_loop_cons, Vl.W_loop_nil])
def enF : Nat → List D → List D
  | _, [] => []
  | k, d :: ds => .tup [.int k, d] :: enF (k + 1) ds
theorem enD_enF_gen : ∀ (ds : List D) (k : Nat), List.zipWith (fun i d => D.tup [.int ((i : Nat) : Int), d]) (List.range' k ds.length) ds = enF k ds
  | [], k => rfl
  | d :: ds, k => by
    rw [List.length_cons, List.range'_succ, List.zipWith_cons_cons, enD_enF_gen ds (k + 1)]; rfl
theorem enD_enF (ds : List D) : enD ds = enF 0 ds := by
  unfold enD
  rw [List.range_eq_range']
  exact enD_enF_gen ds 0
def jr (ps : List (Int × Int)) : List (Int × Int) := (isort leP ps).foldl jn []
theorem leP_fst {l : List (Int × Int)} (h : l.Pairwise (fun a b => leP a b = true)) : l.Pairwise (fun p q => p.1 ≤ q.1) := h.imp fun {a b} h => by
  rw [leP_iff] at h; omega
theorem jr_ok (ps : List (Int × Int)) : Can (jr ps) ∧ (∀ d, cov (jr ps) d ↔ cov ps d) ∧ (jr ps).length ≤ ps.length := by
  obtain ⟨h1, h2, h3⟩ := jnf_ok (s := isort leP ps) can_nil (leP_fst (isort_sorted leP leP_trans leP_tot ps)) (fun q hq => by cases hq)
  refine ⟨h1, fun d => ?_, by rw [(isort_perm leP ps).length_eq] at h3; unfold jr; simpa using h3⟩
  unfold jr
  rw [h2]
  constructor
  · rintro (h | ⟨p, hp, k⟩)
    · exact absurd h cov_nil
    · exact ⟨p, (isort_perm leP ps).mem_iff.mp hp, k⟩
  · rintro ⟨p, hp, k⟩
    exact .inr ⟨p, (isort_perm leP ps).mem_iff.mpr hp, k⟩
theorem hard_pairs : ∀ {l : List (Int × Int)}, hardL (l.map Vl.pairD) = true
  | [] => rfl
  | p :: l => by rw [List.map_cons, hdL_cons, hard_pairs (l := l)]; rfl
theorem at_map {l : List (Int × Int)} {k : Int} (h : 0 ≤ k) {p : Int × Int} (e : l[k.toNat]? = some p) : atI (l.map Vl.pairD) k = some (.tup [.int p.1, .int p.2]) := by
  unfold atI ixN
  have hl : k.toNat < l.length := (List.getElem?_eq_some_iff.mp e).1
  rw [if_pos h, if_pos (by rw [List.length_map]; omega)]
  simp [e, Vl.pairD]
theorem okD_pairs {ps : List (Int × Int)} (hp : ∀ p ∈ ps, okP p) : ∀ d ∈ ps.map Vl.pairD, okD d = true ∧ dpt d ≤ 1 := by
  intro d hd
  obtain ⟨p, h, rfl⟩ := List.mem_map.mp hd
  exact ⟨(hp p h).tm.1, (hp p h).tm.2.2⟩
theorem wt_pairs : ∀ {ps : List (Int × Int)}, (∀ p ∈ ps, okP p) → wtL (ps.map Vl.pairD) ≤ 14 * ps.length
  | [], _ => by decide
  | p :: ps, h => by
    have h1 := wt_pairs (ps := ps) fun q hq => h q (List.mem_cons_of_mem _ hq)
    have h2 := (h p List.mem_cons_self).tm.2.1
    rw [List.map_cons, wtL, List.length_cons]
    omega
theorem tm_rows {ps : List (Int × Int)} (hp : ∀ p ∈ ps, okP p) (hl : ps.length ≤ 1000) : Tm 20000 2 (.lst (ps.map Vl.pairD)) :=
  Tm_lst (okD_pairs hp) (by have := wt_pairs hp; omega)
theorem okP_jr {ps : List (Int × Int)} (hp : ∀ p ∈ ps, okP p) : ∀ p ∈ jr ps, okP p := by
  intro p h
  obtain ⟨c1, c2, c3⟩ := jr_ok ps
  have hlt := c1.1 p h
  obtain ⟨q, hq, q1, q2⟩ := (c2 p.1).mp ⟨p, h, Int.le_refl _, hlt⟩
  obtain ⟨r, hr, r1, r2⟩ := (c2 (p.2 - 1)).mp ⟨p, h, by omega, by omega⟩
  have a := hp q hq
  have b := hp r hr
  exact ⟨by have := a.1; omega, by have := a.2.2.2; omega, by omega, by have := b.2.2.2; omega⟩
theorem jr_perm {ps qs : List (Int × Int)} (h : ps.Perm qs) : jr ps = jr qs := by
  obtain ⟨a1, a2, _⟩ := jr_ok ps
  obtain ⟨b1, b2, _⟩ := jr_ok qs
  refine can_uni a1 b1 fun d => ?_
  rw [a2, b2]
  constructor
  · rintro ⟨p, hp, k⟩; exact ⟨p, h.mem_iff.mp hp, k⟩
  · rintro ⟨p, hp, k⟩; exact ⟨p, h.mem_iff.mpr hp, k⟩
theorem neS {ps : List (Int × Int)} : gNe (.lst (ps.map Vl.pairD)) (.lst (ps.map Vl.pairD)) = some (.bl false) :=
  gNe_self (by rw [nd]; exact nd_pairs ps) (by have := dpt_pairs ps; rw [dpt]; omega)

def daysOf : D → D
  | .tup [.int a, .int b] => .int (b - a)
  | _ => .non
theorem days_in_w {d : D} (h : okD d = true) {K : T → Prop} {E : Exn → Prop} : WC (F_days_in [.fro d]) K E = if isStr d = true then K (.fro (daysOf d)) else E ⟨"BadStretch", []⟩ := by
  unfold F_days_in m_days_in
  k_places
  rw [need_stretch_w h]
  k_places
  by_cases q : isStr d = true
  · obtain ⟨a, b, rfl, h1, h2, h3, h4⟩ := isStr_iff.mp q
    simp only [q]
    k_places
    rfl
  · simp only [q]
    k_places
def inStrB : D → D → Bool
  | .tup [.int a, .int b], .int i => decide (a ≤ i) && decide (i < b)
  | _, _ => false
theorem is_within_w {d e : D} (h : okD d = true) (he : plain e = true) {K : T → Prop} {E : Exn → Prop} : WC (F_is_within [.fro d, .fro e]) K E = if isStr d = true then (if amg 0 99999 e = true then K (.fro (.bl (inStrB d e))) else E ⟨"BadDay", []⟩) else E ⟨"BadStretch", []⟩ := by
  unfold F_is_within m_is_within
  k_places
  rw [need_stretch_w h]
  k_places
  by_cases q : isStr d = true
  · obtain ⟨a, b, rfl, h1, h2, h3, h4⟩ := isStr_iff.mp q
    simp only [q]
    k_places
    rw [need_day_w he]
    k_places
    by_cases q2 : amg 0 99999 e = true
    · simp only [q2]
      k_places
      cases e with
      | int i =>
        k_places
        by_cases q3 : a ≤ i
        · simp [q3, inStrB, Vl.chT_tt, flat]
        · simp [q3, inStrB]
      | _ => cases q2
    · simp only [q2]; k_places
  · simp only [q]
    k_places
def cutP : D → D → D
  | .tup [.int a, .int b], .int i => .tup [.int a, .int (max a (min b i))]
  | _, _ => .non
theorem cut_at_w {d e : D} (h : okD d = true) (he : plain e = true) {K : T → Prop} {E : Exn → Prop} : WC (F_cut_at [.fro d, .fro e]) K E = if isStr d = true then (if amg 0 100000 e = true then K (.fro (cutP d e)) else E ⟨"BadDay", []⟩) else E ⟨"BadStretch", []⟩ := by
  unfold F_cut_at m_cut_at
  k_places
  rw [need_stretch_w h]
  by_cases q : isStr d = true
  · obtain ⟨a, b, rfl, h1, h2, h3, h4⟩ := isStr_iff.mp q
    simp only [q]
    k_places
    rw [is_among_w he]
    k_places
    by_cases q2 : amg 0 100000 e = true
    · simp only [q2]
      k_places
      cases e with
      | int i =>
        k_places
        have e1 : (if a < if i < b then i else b then if i < b then i else b else a) = max a (min b i) := by
          simp only [Int.max_def, Int.min_def]
          (repeat' split) <;> omega
        simp only [cutP, gt_iff_lt, e1]
      | _ => cases q2
    · simp only [q2]; k_places
  · simp only [q]
    k_places
def shP : D → D → Int
  | .tup [.int a, .int b], .tup [.int c, .int e] => max 0 (min b e - max a c)
  | _, _ => 0
theorem shared_days_w {d e : D} (h : okD d = true) (he : okD e = true) {K : T → Prop} {E : Exn → Prop} : WC (F_shared_days [.fro d, .fro e]) K E = if isStr d = true then (if isStr e = true then K (.fro (.int (shP d e))) else E ⟨"BadStretch", []⟩) else E ⟨"BadStretch", []⟩ := by
  unfold F_shared_days m_shared_days
  k_places
  rw [need_stretch_w h]
  by_cases q : isStr d = true
  · obtain ⟨a, b, rfl, h1, h2, h3, h4⟩ := isStr_iff.mp q
    simp only [q]
    k_places
    rw [need_stretch_w he]
    by_cases q2 : isStr e = true
    · obtain ⟨c, f, rfl, g1, g2, g3, g4⟩ := isStr_iff.mp q2
      simp only [q2]
      k_places
      refine congrArg (fun x => K (T.fro (D.int x))) ?_
      simp only [shP, gt_iff_lt, Int.max_def, Int.min_def]
      (repeat' split) <;> omega
    · simp only [q2]; k_places
  · simp only [q]
    k_places

/-- what is told of a town by shares -/
def shV (xs : List (Str × Int)) (t o : Str) : Int := match xs.find? (fun p => decide (p.1 = o)) with
  | some p => p.2
  | none => if o = t then 100 else 0
theorem sh_items {xs : List (Str × Int)} : ∀ d ∈ xs.map (fun p => D.tup [.str p.1, .int p.2]), ∃ p ∈ xs, d = .tup [.str p.1, .int p.2] := by
  intro d hd
  obtain ⟨p, hp, rfl⟩ := List.mem_map.mp hd
  exact ⟨p, hp, rfl⟩
theorem share_of_w {d : D} {xs : List (Str × Int)} {t o : Str} (h : RuX d xs) (ht : NameS t) (ho : NameS o) {K : T → Prop} {E : Exn → Prop} (H : K (.fro (.int (shV xs t o)))) : WC (F_share_of [.fro d, .fro (.str t), .fro (.str o)]) K E := by
  unfold F_share_of m_share_of
  k_places
  have h8 : eight d = true := by
    have := h.rl
    simp only [isRl, Bool.and_eq_true] at this
    exact this.1
  rw [need_rules_w h.tm (by decide), h8, h.rl]
  k_places
  rw [need_name_w ht.tm (by decide), ht.nm]
  k_places
  rw [need_name_w ho.tm (by decide), ho.nm]
  k_places
  obtain ⟨a, b, c, e, f, g, i, rfl, h1, h2, h3, h4, h5, h6, h7, hx⟩ := h
  k_places
  simp only [shD]
  k_places
  generalize hD : D.tup [.int a, .int b, .int c, .int e, .int f, .int g, .int i, .tup (xs.map fun p => .tup [.str p.1, .int p.2])] = ru
  have gen : ∀ (ys : List (Str × Int)) (y3 y4 : Option T), (match ys.find? (fun p => decide (p.1 = o)) with | some p => p.2 | none => if o = t then 100 else 0) = shV xs t o →
      WP (loopD (tgT (tgC (tgN 3) (tgC (tgN 4) tgNil)) 2) (mIfS (mB (m2 gEqX (mV 3) (mV 2))) (mRet [] (mV 4)) mSkip) (ys.map fun p => .tup [.str p.1, .int p.2]) [some (.fro ru), some (.fro (.str t)), some (.fro (.str o)), y3, y4])
      (fun f ρ1 => FlE f (WP (mRet [] (mIf (mB (m2 gEqX (mV 2) (mV 1))) (mC (.int 100)) (mC (.int 0))) ρ1) (fun f x => FlE f (K (.fro .non)) False False K) fun x x_1 => E x) False False fun t => K t) (fun x x_1 => E x) := by
    intro ys
    induction ys with
    | nil =>
      intro y3 y4 hv
      simp only [List.map_nil]
      rw [W_loop_nil]
      k_places
      by_cases ot : o = t
      · simp only [ot]
        k_places
        rw [← hv] at H
        simpa [ot] using H
      · simp only [ot]
        k_places
        rw [← hv] at H
        simpa [ot] using H
    | cons p ys ih =>
      intro y3 y4 hv
      simp only [List.map_cons]
      rw [W_loop_cons]
      k_places
      by_cases po : p.1 = o
      · simp only [po]
        k_places
        rw [← hv] at H
        simpa [List.find?_cons, po] using H
      · simp only [po]
        k_places
        refine ih _ _ ?_
        rw [← hv]
        simp [List.find?_cons, po]
  exact gen xs _ _ rfl
theorem RuX.tup {d : D} {xs : List (Str × Int)} (h : RuX d xs) : ∃ l : List D, d = .tup l ∧ l.length = 8 ∧ nd d = true := by
  obtain ⟨a, b, c, e, f, g, i, rfl, h1, h2, h3, h4, h5, h6, h7, hx⟩ := h
  refine ⟨_, rfl, rfl, ?_⟩
  have q : ∀ ys : List (Str × Int), (∀ p ∈ ys, NameS p.1) → Vl.ndL (ys.map fun p => D.tup [.str p.1, .int p.2]) = true := by
    intro ys
    induction ys with
    | nil => intro _; rfl
    | cons p ys ih =>
      intro hp
      simp only [List.map_cons, Vl.ndL, nd, strOk_name (hp p List.mem_cons_self), ih fun q hq => hp q (List.mem_cons_of_mem _ hq), Bool.and_self]
  simp only [shD, nd, Vl.ndL, q xs fun p hp => (hx.1 p hp).1, Bool.and_self]
theorem rl_parts {l : List D} (h : isRl (.tup l) = true) : l.length = 8 ∧ ∀ (j : Nat) (x : D), l[j]? = some x → isPt j x = true := by
  have h8 : eight (.tup l) = true := by
    simp only [isRl, Bool.and_eq_true] at h
    exact h.1
  refine ⟨by simpa [eight] using h8, ?_⟩
  have gen : ∀ (l : List D) (n : Nat), wrongL n l = .non → ∀ (j : Nat) (x : D), l[j]? = some x → isPt (n + j) x = true := by
    intro l
    induction l with
    | nil => intro n _ j x e; simp at e
    | cons d l ih =>
      intro n hw j x e
      rw [wrongL] at hw
      split at hw
      · rename_i hd
        cases j with
        | zero => simp at e; subst e; exact hd
        | succ j =>
          have := ih (n + 1) hw j x (by simpa using e)
          rw [show n + (j + 1) = n + 1 + j by omega]
          exact this
      · cases hw
  intro j x e
  have hw : wrongL 0 l = .non := by
    have h2 : (match wrongD (.tup l) with | .non => true | _ => false) = true := by
      simp only [isRl, Bool.and_eq_true] at h
      exact h.2
    rcases wrongD_form h8 with q | ⟨k, q, _⟩
    · exact q
    · rw [q] at h2; cases h2
  have := gen l 0 hw j x e
  rwa [Nat.zero_add] at this
theorem wrong_set {l : List D} {e : D} : ∀ (l : List D) (n j : Nat), j < l.length → (∀ (i : Nat) (x : D), l[i]? = some x → i ≠ j → isPt (n + i) x = true) → wrongL n (l.set j e) = if isPt (n + j) e = true then .non else .int ((n + j : Nat) : Int)
  | [], _, _, h, _ => by simp at h
  | d :: l, n, 0, h, hp => by
    have rest : wrongL (n + 1) l = .non := by
      have gen : ∀ (m : List D) (n : Nat), (∀ (i : Nat) (x : D), m[i]? = some x → isPt (n + i) x = true) → wrongL n m = .non := by
        intro m
        induction m with
        | nil => intro _ _; rfl
        | cons y m ih =>
          intro n hm
          rw [wrongL, if_pos (show isPt n y = true from hm 0 y rfl)]
          exact ih (n + 1) fun i x e => by
            have := hm (i + 1) x (by simpa using e)
            rwa [show n + (i + 1) = n + 1 + i by omega] at this
      exact gen l (n + 1) fun i x e => by
        have := hp (i + 1) x (by simpa using e) (by omega)
        rwa [show n + (i + 1) = n + 1 + i by omega] at this
    rw [List.set_cons_zero, wrongL, rest]
    rfl
  | d :: l, n, j + 1, h, hp => by
    rw [List.set_cons_succ, wrongL, if_pos (show isPt n d = true from hp 0 d rfl (by omega)), wrong_set (l := l) (e := e) l (n + 1) j (by simpa using h) fun i x q r => by
      have := hp (i + 1) x (by simpa using q) (by omega)
      rwa [show n + (i + 1) = n + 1 + i by omega] at this]
    rw [show n + 1 + j = n + (j + 1) by omega]
theorem rl_set {l : List D} {e : D} {j : Nat} (h : isRl (.tup l) = true) (hj : j < 8) : eight (.tup (l.set j e)) = true ∧ wrongD (.tup (l.set j e)) = (if isPt j e = true then .non else .int (j : Int)) ∧ isRl (.tup (l.set j e)) = isPt j e := by
  obtain ⟨hl, hp⟩ := rl_parts h
  have h8 : eight (.tup (l.set j e)) = true := by simp [eight, hl]
  have hw : wrongD (.tup (l.set j e)) = (if isPt j e = true then .non else .int (j : Int)) := by
    have := wrong_set (l := l) (e := e) l 0 j (by omega) fun i x q _ => by rw [Nat.zero_add]; exact hp i x q
    rw [Nat.zero_add] at this
    exact this
  refine ⟨h8, hw, ?_⟩
  unfold isRl
  rw [h8, hw]
  cases isPt j e <;> rfl
theorem set_tm {w v k : Nat} {l : List D} {e : D} {j : Nat} (h : Tm w k (.tup l)) (he : Tm v (k - 1) e) (hj : j < l.length) : Tm (w + v + 2) k (.tup (l.set j e)) := by
  have t := tm_put (a := j) (b := j + 1) h he (by omega)
  have hk := h.items.1
  rw [List.set_eq_take_append_cons_drop, if_pos hj]
  exact t.mono (Nat.le_refl _) (by omega)
theorem with_part_w {l : List D} {e : D} {w k v m : Nat} {z : Int} {j : Nat} (hz : z = j) (h : Tm w k (.tup l)) (hw : w ≤ 40000) (hr : isRl (.tup l) = true) (hj : j < 8) (he : Tm v m e) (hv : v ≤ 40000) {K : T → Prop} {E : Exn → Prop} : WC (F_with_part [.fro (.tup l), .fro (.int z), .fro e]) K E = if isPt j e = true then K (.fro (.tup (l.set j e))) else E ⟨"BadRules", [("part", .int z)]⟩ := by
  subst hz
  have hl := (rl_parts hr).1
  unfold F_with_part m_with_part
  k_places
  have h8 : eight (.tup l) = true := by
    simp only [isRl, Bool.and_eq_true] at hr
    exact hr.1
  rw [need_rules_w h (by omega), h8, hr]
  k_places
  rw [is_among_w rfl]
  have ha : amg 0 7 (.int (j : Int)) = true := by simp [amg]; omega
  rw [ha]
  k_places
  rw [is_part_w rfl hj he (by omega)]
  k_places
  cases hp : isPt j e with
  | false => k_places; rfl
  | true =>
    k_places
    rw [cut_lo' (by omega), cut_hi' (by omega)]
    rw [if_pos (by rw [List.length_take]; omega), if_pos (by simp only [List.length_append, List.length_take, List.length_drop, List.length_cons, List.length_nil]; omega)]
    k_places
    rw [List.set_eq_take_append_cons_drop, if_pos (by omega)]
    have e1 : ((j : Int)).toNat = j := by omega
    have e2 : ((j : Int) + 1).toNat = j + 1 := by omega
    rw [e1, e2]
theorem with_num_w {d e p : D} {w k : Nat} (h : Tm w k d) (hw : w ≤ 40000) (hr : isRl d = true) (hp : plain p = true) (hn : amg 0 7 p = false) {K : T → Prop} {E : Exn → Prop} : WC (F_with_part [.fro d, .fro p, .fro e]) K E = E ⟨"BadNumber", []⟩ := by
  unfold F_with_part m_with_part
  k_places
  have h8 : eight d = true := by
    simp only [isRl, Bool.and_eq_true] at hr
    exact hr.1
  rw [need_rules_w h (by omega), h8, hr]
  k_places
  rw [is_among_w hp, hn]
  k_places
theorem with_bad_w {d e p : D} {w k : Nat} (h : Tm w k d) (hw : w ≤ 40000) (hr : isRl d = false) {K : T → Prop} {E : Exn → Prop} : WC (F_with_part [.fro d, .fro p, .fro e]) K E = E ⟨"BadRules", [("part", if eight d = true then wrongD d else .non)]⟩ := by
  unfold F_with_part m_with_part
  k_places
  rw [need_rules_w h (by omega), hr]
  cases h8 : eight d <;> k_places

/-! ### days counted -/
def SD (f : Int → Int) : Nat → Int
  | 0 => 0
  | n + 1 => SD f n + f n
theorem SD_mono {f g : Int → Int} (h : ∀ d, 0 ≤ d → f d ≤ g d) : ∀ n, SD f n ≤ SD g n
  | 0 => Int.le_refl _
  | n + 1 => by have := SD_mono h n; have := h n (by omega); simp only [SD]; omega
theorem SD_congr {f g : Int → Int} (h : ∀ d, 0 ≤ d → f d = g d) (n : Nat) : SD f n = SD g n :=
  Int.le_antisymm (SD_mono (fun d h0 => Int.le_of_eq (h d h0)) n) (SD_mono (fun d h0 => Int.le_of_eq (h d h0).symm) n)
theorem SD_add {f g : Int → Int} : ∀ n, SD (fun d => f d + g d) n = SD f n + SD g n
  | 0 => rfl
  | n + 1 => by simp only [SD, SD_add n]; omega
theorem SD_sub {f g : Int → Int} : ∀ n, SD (fun d => f d - g d) n = SD f n - SD g n
  | 0 => rfl
  | n + 1 => by simp only [SD, SD_sub n]; omega
theorem SD_zero : ∀ n, SD (fun _ => 0) n = 0
  | 0 => rfl
  | n + 1 => by simp only [SD, SD_zero n]; rfl
def in1 (p : Int × Int) (d : Int) : Int := if p.1 ≤ d ∧ d < p.2 then 1 else 0
theorem SD_in {a b : Int} (h : 0 ≤ a) : ∀ n : Nat, SD (in1 (a, b)) n = max 0 (min b n - a)
  | 0 => by simp only [SD]; omega
  | n + 1 => by
    have ih := SD_in (b := b) h n
    simp only [SD, ih, in1]
    split <;> omega
theorem in1_mul {p q : Int × Int} {d : Int} : in1 p d * in1 q d = in1 (max p.1 q.1, min p.2 q.2) d := by
  simp only [in1]
  by_cases h1 : p.1 ≤ d ∧ d < p.2
  · by_cases h2 : q.1 ≤ d ∧ d < q.2
    · rw [if_pos h1, if_pos h2, if_pos (by omega)]; rfl
    · rw [if_pos h1, if_neg h2, if_neg (by omega)]; rfl
  · rw [if_neg h1, Int.zero_mul, if_neg (by omega)]
def daysP (p : Int × Int) : Int := p.2 - p.1
def shQ (p q : Int × Int) : Int := max 0 (min p.2 q.2 - max p.1 q.1)
variable {NN : Nat}
theorem days_SD (hN : (NN : Int) = 100000) {p : Int × Int} (h : okP p) : daysP p = SD (in1 p) NN := by
  obtain ⟨h1, h2, h3, h4⟩ := h
  have := SD_in (a := p.1) (b := p.2) h1 NN
  have e := hN
  unfold daysP
  rw [show in1 p = in1 (p.1, p.2) from rfl, this]
  omega
theorem sh_SD (hN : (NN : Int) = 100000) {p q : Int × Int} (h : okP p) (h' : okP q) : shQ p q = SD (fun d => in1 p d * in1 q d) NN := by
  obtain ⟨h1, h2, h3, h4⟩ := h
  obtain ⟨g1, g2, g3, g4⟩ := h'
  rw [SD_congr (fun d _ => in1_mul (p := p) (q := q) (d := d)), SD_in (by omega)]
  have e := hN
  unfold shQ
  omega
def cnt (l : List (Int × Int)) (d : Int) : Int := (l.map fun p => in1 p d).sum
theorem cnt_nil {d : Int} : cnt [] d = 0 := rfl
theorem cnt_cons {p : Int × Int} {l : List (Int × Int)} {d : Int} : cnt (p :: l) d = in1 p d + cnt l d := by simp [cnt]
theorem cnt_app {a b : List (Int × Int)} {d : Int} : cnt (a ++ b) d = cnt a d + cnt b d := by simp [cnt]
theorem in1_cases (p : Int × Int) (d : Int) : (in1 p d = 1 ∧ p.1 ≤ d ∧ d < p.2) ∨ (in1 p d = 0 ∧ ¬ (p.1 ≤ d ∧ d < p.2)) := by
  unfold in1
  by_cases h : p.1 ≤ d ∧ d < p.2
  · rw [if_pos h]; exact .inl ⟨rfl, h⟩
  · rw [if_neg h]; exact .inr ⟨rfl, h⟩
theorem cnt_cov : ∀ {l : List (Int × Int)} {d : Int}, 0 ≤ cnt l d ∧ (0 < cnt l d ↔ cov l d)
  | [], d => ⟨Int.le_refl _, fun h => absurd h (by rw [cnt_nil]; omega), fun h => absurd h cov_nil⟩
  | p :: l, d => by
    obtain ⟨h1, h2⟩ := cnt_cov (l := l) (d := d)
    rw [cnt_cons, cov_cons, ← h2]
    rcases in1_cases p d with ⟨e, k⟩ | ⟨e, k⟩
    · rw [e]; exact ⟨by omega, fun _ => .inl k, fun _ => by omega⟩
    · rw [e]; exact ⟨by omega, fun _ => .inr (by omega), fun z => z.elim (fun z => absurd z k) fun z => by omega⟩
theorem cnt_can : ∀ {l : List (Int × Int)} {d : Int}, Can l → cnt l d ≤ 1
  | [], d, _ => by rw [cnt_nil]; decide
  | p :: l, d, h => by
    obtain ⟨a1, a2, a3⟩ := h.tl
    have ih := cnt_can (d := d) a3
    rw [cnt_cons]
    rcases in1_cases p d with ⟨e, k⟩ | ⟨e, k⟩
    · have : ¬ cov l d := fun ⟨q, hq, k1, k2⟩ => by have := a2 q hq; omega
      have := cnt_cov (l := l) (d := d)
      have h0 : ¬ 0 < cnt l d := fun z => by rename_i hn; exact hn (this.2.mp z)
      omega
    · omega
theorem SD_cnt : ∀ {l : List (Int × Int)} (n : Nat), (l.map fun p => SD (in1 p) n).sum = SD (cnt l) n
  | [], n => by rw [show cnt [] = fun _ => 0 from rfl, SD_zero]; rfl
  | p :: l, n => by
    rw [List.map_cons, List.sum_cons, SD_cnt (l := l) n, ← SD_add]
    exact SD_congr (fun d _ => cnt_cons.symm) n
theorem days_cnt (hN : (NN : Int) = 100000) {l : List (Int × Int)} (h : ∀ p ∈ l, okP p) : (l.map daysP).sum = SD (cnt l) NN := by
  rw [← SD_cnt]
  congr 1
  exact List.map_congr_left fun p hp => days_SD hN (h p hp)
theorem sh_cnt (hN : (NN : Int) = 100000) {p : Int × Int} (hp : okP p) : ∀ {l : List (Int × Int)}, (∀ p ∈ l, okP p) → (l.map (shQ p)).sum = SD (fun d => in1 p d * cnt l d) NN
  | [], _ => by
    rw [SD_congr (g := fun _ => 0) (fun d _ => by rw [cnt_nil]; simp), SD_zero]; rfl
  | q :: l, h => by
    rw [List.map_cons, List.sum_cons, sh_cnt hN hp fun r hr => h r (List.mem_cons_of_mem _ hr), sh_SD hN hp (h q List.mem_cons_self), ← SD_add]
    exact SD_congr (fun d _ => by rw [cnt_cons, Int.mul_add]) _
theorem sh_own (hN : (NN : Int) = 100000) {rows J : List (Int × Int)} {p : Int × Int} (hr : ∀ p ∈ rows, okP p) (hj : ∀ p ∈ J, okP p) (c : Can J) (e : ∀ d, cov J d ↔ cov rows d) (hp : p ∈ rows) : (J.map (shQ p)).sum = daysP p := by
  rw [sh_cnt hN (hr p hp) hj, days_SD hN (hr p hp)]
  refine SD_congr (fun d _ => ?_) _
  rcases in1_cases p d with ⟨q, k⟩ | ⟨q, k⟩
  · have h1 := cnt_can (d := d) c
    have h2 := (cnt_cov (l := J) (d := d)).2.mpr ((e d).mpr ⟨p, hp, k⟩)
    have : cnt J d = 1 := by omega
    rw [q, this]; rfl
  · rw [q]; simp
/-- what two have, so far -/
def TwI (pre : List (Int × Int)) (x : Int) : Prop := ∃ t : Int → Int, x = SD t NN ∧ ∀ d, 0 ≤ t d ∧ cnt pre d - t d ≤ 1
theorem tw_init : TwI (NN := NN) [] 0 := ⟨fun _ => 0, (SD_zero _).symm, fun d => by rw [cnt_nil]; simp⟩
theorem tw_step (hN : (NN : Int) = 100000) {pre : List (Int × Int)} {p : Int × Int} {x : Int} (h : TwI (NN := NN) pre x) (hp : okP p) (hq : ∀ p ∈ pre, okP p) : TwI (NN := NN) (pre ++ [p]) (x + (pre.map (shQ p)).sum) := by
  obtain ⟨t, rfl, ht⟩ := h
  refine ⟨fun d => t d + in1 p d * cnt pre d, by rw [sh_cnt hN hp hq, SD_add], fun d => ?_⟩
  obtain ⟨h1, h2⟩ := ht d
  have h0 := (cnt_cov (l := pre) (d := d)).1
  rw [cnt_app, cnt_cons, cnt_nil]
  dsimp only
  rcases in1_cases p d with ⟨e, _⟩ | ⟨e, _⟩
  · rw [e]
    simp only [Int.one_mul]
    omega
  · rw [e]
    simp only [Int.zero_mul]
    omega
theorem tw_end (hN : (NN : Int) = 100000) {rows J : List (Int × Int)} {x : Int} (h : TwI (NN := NN) rows x) (hr : ∀ p ∈ rows, okP p) (hj : ∀ p ∈ J, okP p) (c : Can J) (e : ∀ d, cov J d ↔ cov rows d) :
    (rows.map daysP).sum - x ≤ (J.map daysP).sum ∧ (J.map daysP).sum ≤ (rows.map daysP).sum := by
  obtain ⟨t, rfl, ht⟩ := h
  rw [days_cnt hN hr, days_cnt hN hj, ← SD_sub]
  refine ⟨SD_mono (fun d _ => ?_) _, SD_mono (fun d _ => ?_) _⟩
  · obtain ⟨h1, h2⟩ := ht d
    have a := cnt_cov (l := rows) (d := d)
    have b := cnt_cov (l := J) (d := d)
    by_cases hc : cov rows d
    · have := b.2.mpr ((e d).mpr hc); omega
    · have : ¬ 0 < cnt rows d := fun z => hc (a.2.mp z)
      omega
  · have a := cnt_cov (l := rows) (d := d)
    have b := cnt_cov (l := J) (d := d)
    have k := cnt_can (d := d) c
    by_cases hc : cov rows d
    · have := a.2.mpr hc; omega
    · have : ¬ 0 < cnt J d := fun z => hc ((e d).mp (b.2.mp z))
      omega

theorem eqI {a b : Int} : (a == b) = decide (a = b) := (rfl)
theorem mem_pairs {l : List (Int × Int)} {d : D} (h : d ∈ l.map Vl.pairD) : ∃ a b : Int, d = .tup [.int a, .int b] ∧ (a, b) ∈ l := by
  obtain ⟨p, hp, rfl⟩ := List.mem_map.mp h
  exact ⟨p.1, p.2, rfl, hp⟩
theorem rng_len2 {n : Int} : (rngD 0 n).length = n.toNat := by unfold rngD; simp
local macro_rules | `(tactic| k_places) => `(tactic| try simp only [Vl.WP_ok, Vl.WP_er, Vl.OP_some, Vl.WC_ok, Vl.WC_er, Vl.WI_ok, Vl.WI_er, Vl.FlE_nx, Vl.FlE_bk, Vl.FlE_ct, Vl.FlE_rt, Vl.WP_ite, Vl.OP_ite, Vl.WP_obind, Vl.WP_sbind, Vl.OP_map, Vl.cEnv_eq, Vl.W_mC, Vl.W_mV, Vl.AVs_fro, Vl.AVs_lst, Vl.AVs_dic, Vl.slO_some, Vl.get_tmp, Vl.get_loc, Vl.fz_tmp, Vl.fz_loc, Vl.W_mT, Vl.W_mAndT, Vl.W_mOrT, Vl.W_mNotT, Vl.W_mAnd, Vl.W_mOr, Vl.W_mIf, Vl.W_mB, Vl.chT_ff, Vl.chT_tt, Vl.chT_dec, Vl.W_mCh, Vl.W_mCons, Vl.W_mNil, Vl.W_mLst, Vl.W_mTup, Vl.W_m1, Vl.W_m2, Vl.W_m2s, Vl.W_mIx, Vl.W_mPart, Vl.W_mNoP, Vl.W_mSl, Vl.W_mRev, Vl.W_mRevX, Vl.W_mStp, Vl.revD_lst, Vl.revD_tup, Vl.W_mFC, Vl.W_mSC, Vl.W_mJoin, Vl.W_mDic0, Vl.W_mXA, Vl.W_mExc, Vl.W_mExcI, Vl.W_mCall, Vl.W_mCall0, Vl.W_mCallIo, Vl.W_ioTmp, Vl.W_ioLoc, Vl.W_mApp, Vl.W_mSkip, Vl.W_mBreak, Vl.W_mCont, Vl.W_mRetN, Vl.W_mYes, Vl.W_mSeq, Vl.W_mIfS, Vl.W_mExpr, Vl.W_mSet, Vl.rtP_tmp, Vl.rtP_loc, Vl.W_mRet, Vl.W_mRaiseI, Vl.W_mTry, Vl.W_mSetIx, Vl.W_mAsg, Vl.W_mPar, Vl.W_mPar3, Vl.W_mIt, Vl.W_mRng, Vl.W_mEnum, Vl.W_mEnumX, Vl.enA_lst, Vl.enA_tup, Vl.W_mZip, Vl.W_mFor, Vl.W_mLc, Vl.W_runC, Vl.W_runI, Vl.avBl_bl, Vl.avStr_str, Vl.avExc_exc, Vl.tInt_int, Vl.dInt_int, Vl.dBl_bl, Vl.dLst_lst, Vl.one1_one, Vl.hdtl_cons, Vl.two2_two, Vl.thr3_thr, Vl.slL_lst, Vl.nrm_nil, Vl.nrm_tmp, Vl.nrm_loc, Vl.pk_nil, Vl.pk_cons, Vl.er_fro, Vl.er_lst, Vl.er_dic0, Vl.erL_nil, Vl.erL_cons, Vl.erL_app, Vl.erL_map, Vl.nr_fro, Vl.nr_lst, Vl.nr_dic, Vl.nrL_nil, Vl.nrL_cons, Vl.nrL_fro, Vl.hd_non, Vl.hd_bl, Vl.hd_int, Vl.hd_str, Vl.hd_tup, Vl.hd_lst, Vl.hd_dic, Vl.hd_exc, Vl.hdL_nil, Vl.hdL_cons, Vl.hdL_app, Vl.fl_non, Vl.fl_bl, Vl.fl_int, Vl.fl_str, Vl.fl_tup, Vl.fl_lst, Vl.fl_dic, Vl.fl_exc, Vl.tru_non, Vl.tru_bl, Vl.tru_int, Vl.tru_tup, Vl.tru_lst, Vl.not_bl, Vl.not_non, Vl.neg_int, Vl.le_int, Vl.lt_int, Vl.ge_int, Vl.gt_int, Vl.lt_str, Vl.le_str, Vl.gt_str, Vl.ge_str, Vl.sub_int, Vl.mod_int, Vl.div_int, Vl.pow_int, Vl.mul_int, Vl.mul_lst, Vl.mul_str, Vl.add_int, Vl.add_str, Vl.add_lst, Vl.add_tup, Vl.is_non, Vl.is_bl, Vl.is_int, Vl.is_str, Vl.is_tup, Vl.is_lst, Vl.is_exc, Vl.isn_non, Vl.isn_bl, Vl.isn_int, Vl.isn_str, Vl.isn_tup, Vl.isn_lst, Vl.isn_exc, Vl.eq_int, Vl.ne_int, Vl.eq_str, Vl.ne_str, Vl.eq_bl, Vl.eq_tup0, Vl.len_lst, Vl.len_tup, Vl.len_str, Vl.min_int, Vl.max_int, Vl.abs_int, Vl.all_lst, Vl.any_lst, Vl.sum_lst, Vl.lof_lst, Vl.lof_tup, Vl.tof_lst, Vl.tof_tup, Vl.ix_lst, Vl.ix_tup, Vl.sl_lst, Vl.sl_tup, Vl.sl_str, Vl.at_0, Vl.at_1, Vl.at_2, Vl.at_3, Vl.at_4, Vl.at_5, Vl.at_6, Vl.at_7, Vl.at_8, Vl.vw_fro, Vl.vw_lst, Vl.vw_loc, Vl.vwT_fro, Vl.vwT_lst, Vl.fa_nil, Vl.fa_cons, Vl.fa_lst, Vl.fa_map, Vl.fa_app, Vl.its_lst, Vl.its_tup, Vl.its_str, Vl.tr_lst, Vl.tr_tup, Vl.tr_str, Vl.tr_int, Vl.tr_bl, Vl.tr_non, Vl.tgN_eq, Vl.tgT_eq, Vl.tgC_eq, Vl.tgNil_eq, Vl.wipe_nil, Vl.wipe_cons, Vl.bls_nil, Vl.bls_cons, Vl.bls_map, Vl.ints_map, Vl.strs_map, Vl.obnd_some, Vl.rng1, Vl.rng2, Vl.zip_lst, Vl.zip_tup, Vl.nd_tup, Vl.nd_int, Vl.nd_str, Vl.ndL_nil, Vl.ndL_cons, Vl.dv_int, Vl.dv_str, Vl.mRaiseA, Vl.W_mRaise, Vl.repr_bl, Vl.repr_non, List.flatten_cons, List.flatten_nil, List.append_nil, List.map_cons, List.map_nil, List.getElem?_cons_zero, List.getElem?_cons_succ, List.set_cons_zero, List.set_cons_succ, List.length_cons, List.length_nil, List.replicate_succ, List.replicate_zero, List.cons_append, List.nil_append, List.append_assoc, List.not_mem_nil, List.length_map, List.isEmpty_cons, List.isEmpty_nil, List.all_cons, List.all_nil, List.any_cons, List.any_nil, Bool.not_true, Bool.not_false, Bool.not_not, Bool.true_and, Bool.and_true, Bool.false_and, Bool.and_false, Bool.true_or, Bool.false_or, id_eq, if_true, if_false, ↓reduceIte, Bool.false_eq_true, Option.map_some, Option.map_none, Option.bind_some, decide_eq_true_eq, decide_true, decide_false, true_and, and_true, and_self, not_true_eq_false, not_false_eq_true, Nat.reduceAdd, Nat.reduceSub, Nat.reduceLeDiff, Nat.reduceLT, Nat.reduceEqDiff, Nat.reduceBEq, Int.reduceAdd, Int.reduceSub, Int.reduceNeg, Int.reduceLE, Int.reduceLT, Int.reduceBEq, Int.reduceBNe, Int.reduceEq, Int.reduceToNat, Nat.zero_add, Int.cast_ofNat_Int, beq_self_eq_true, ite_self, eq_self, ne_eq, Vl.ixn_1_0, Vl.ixn_2_0, Vl.ixn_2_1, Vl.ixn_3_0, Vl.ixn_3_1, Vl.ixn_3_2, Vl.ixn_4_0, Vl.ixn_4_1, Vl.ixn_4_2, Vl.ixn_4_3, Vl.ixn_5_0, Vl.ixn_5_1, Vl.ixn_5_2, Vl.ixn_5_3, Vl.ixn_5_4, Vl.ixn_6_0, Vl.ixn_6_1, Vl.ixn_6_2, Vl.ixn_6_3, Vl.ixn_6_4, Vl.ixn_6_5, Vl.ixn_7_0, Vl.ixn_7_1, Vl.ixn_7_2, Vl.ixn_7_3, Vl.ixn_7_4, Vl.ixn_7_5, Vl.ixn_7_6, Vl.ixn_8_0, Vl.ixn_8_1, Vl.ixn_8_2, Vl.ixn_8_3, Vl.ixn_8_4, Vl.ixn_8_5, Vl.ixn_8_6, Vl.ixn_8_7, Vl.ixn_9_0, Vl.ixn_9_1, Vl.ixn_9_2, Vl.ixn_9_3, Vl.ixn_9_4, Vl.ixn_9_5, Vl.ixn_9_6, Vl.ixn_9_7, Vl.ixn_9_8, Vl.ixn_10_0, Vl.ixn_10_1, Vl.ixn_10_2, Vl.ixn_10_3, Vl.ixn_10_4, Vl.ixn_10_5, Vl.ixn_10_6, Vl.ixn_10_7, Vl.ixn_10_8, Vl.ixn_10_9, Vl.ixn_11_0, Vl.ixn_11_1, Vl.ixn_11_2, Vl.ixn_11_3, Vl.ixn_11_4, Vl.ixn_11_5, Vl.ixn_11_6, Vl.ixn_11_7, Vl.ixn_11_8, Vl.ixn_11_9, Vl.ixn_11_10, Vl.ixn_12_0, Vl.ixn_12_1, Vl.ixn_12_2, Vl.ixn_12_3, Vl.ixn_12_4, Vl.ixn_12_5, Vl.ixn_12_6, Vl.ixn_12_7, Vl.ixn_12_8, Vl.ixn_12_9, Vl.ixn_12_10, Vl.ixn_12_11, e_isi0_non, e_isi0_bl, e_isi0_int, e_isi0_str, e_isi0_tup, e_isi0_lst, e_isi0_dic, e_isi1_non, e_isi1_bl, e_isi1_int, e_isi1_str, e_isi1_tup, e_isi1_lst, e_isi1_dic, e_isi2_non, e_isi2_bl, e_isi2_int, e_isi2_str, e_isi2_tup, e_isi2_lst, e_isi2_dic, e_isi3_non, e_isi3_bl, e_isi3_int, e_isi3_str, e_isi3_tup, e_isi3_lst, e_isi3_dic, e_isi4_non, e_isi4_bl, e_isi4_int, e_isi4_str, e_isi4_tup, e_isi4_lst, e_isi4_dic, exa_BondError, exa_BadDay, exa_BadName, exa_BadRules, exa_BadStretch, exa_BadNumber, lk_part_0, neX_rows])
local macro_rules | `(tactic| k_clsL) => `(tactic| simp only [Vl.WP_ok, Vl.WP_er, Vl.OP_some, Vl.WC_ok, Vl.WC_er, Vl.WI_ok, Vl.WI_er, Vl.FlE_nx, Vl.FlE_bk, Vl.FlE_ct, Vl.FlE_rt, Vl.WP_ite, Vl.OP_ite, Vl.WP_obind, Vl.WP_sbind, Vl.OP_map, Vl.cEnv_eq, Vl.W_mC, Vl.W_mV, Vl.AVs_fro, Vl.AVs_lst, Vl.AVs_dic, Vl.slO_some, Vl.get_tmp, Vl.get_loc, Vl.fz_tmp, Vl.fz_loc, Vl.W_mT, Vl.W_mAndT, Vl.W_mOrT, Vl.W_mNotT, Vl.W_mAnd, Vl.W_mOr, Vl.W_mIf, Vl.W_mB, Vl.chT_ff, Vl.chT_tt, Vl.chT_dec, Vl.W_mCh, Vl.W_mCons, Vl.W_mNil, Vl.W_mLst, Vl.W_mTup, Vl.W_m1, Vl.W_m2, Vl.W_m2s, Vl.W_mIx, Vl.W_mPart, Vl.W_mNoP, Vl.W_mSl, Vl.W_mRev, Vl.W_mRevX, Vl.W_mStp, Vl.revD_lst, Vl.revD_tup, Vl.W_mFC, Vl.W_mSC, Vl.W_mJoin, Vl.W_mDic0, Vl.W_mXA, Vl.W_mExc, Vl.W_mExcI, Vl.W_mCall, Vl.W_mCall0, Vl.W_mCallIo, Vl.W_ioTmp, Vl.W_ioLoc, Vl.W_mApp, Vl.W_mSkip, Vl.W_mBreak, Vl.W_mCont, Vl.W_mRetN, Vl.W_mYes, Vl.W_mSeq, Vl.W_mIfS, Vl.W_mExpr, Vl.W_mSet, Vl.rtP_tmp, Vl.rtP_loc, Vl.W_mRet, Vl.W_mRaiseI, Vl.W_mTry, Vl.W_mSetIx, Vl.W_mAsg, Vl.W_mPar, Vl.W_mPar3, Vl.W_mIt, Vl.W_mRng, Vl.W_mEnum, Vl.W_mEnumX, Vl.enA_lst, Vl.enA_tup, Vl.W_mZip, Vl.W_mFor, Vl.W_mLc, Vl.W_runC, Vl.W_runI, Vl.avBl_bl, Vl.avStr_str, Vl.avExc_exc, Vl.tInt_int, Vl.dInt_int, Vl.dBl_bl, Vl.dLst_lst, Vl.one1_one, Vl.hdtl_cons, Vl.two2_two, Vl.thr3_thr, Vl.slL_lst, Vl.nrm_nil, Vl.nrm_tmp, Vl.nrm_loc, Vl.pk_nil, Vl.pk_cons, Vl.er_fro, Vl.er_lst, Vl.er_dic0, Vl.erL_nil, Vl.erL_cons, Vl.erL_app, Vl.erL_map, Vl.nr_fro, Vl.nr_lst, Vl.nr_dic, Vl.nrL_nil, Vl.nrL_cons, Vl.nrL_fro, Vl.hd_non, Vl.hd_bl, Vl.hd_int, Vl.hd_str, Vl.hd_tup, Vl.hd_lst, Vl.hd_dic, Vl.hd_exc, Vl.hdL_nil, Vl.hdL_cons, Vl.hdL_app, Vl.fl_non, Vl.fl_bl, Vl.fl_int, Vl.fl_str, Vl.fl_tup, Vl.fl_lst, Vl.fl_dic, Vl.fl_exc, Vl.tru_non, Vl.tru_bl, Vl.tru_int, Vl.tru_tup, Vl.tru_lst, Vl.not_bl, Vl.not_non, Vl.neg_int, Vl.le_int, Vl.lt_int, Vl.ge_int, Vl.gt_int, Vl.lt_str, Vl.le_str, Vl.gt_str, Vl.ge_str, Vl.sub_int, Vl.mod_int, Vl.div_int, Vl.pow_int, Vl.mul_int, Vl.mul_lst, Vl.mul_str, Vl.add_int, Vl.add_str, Vl.add_lst, Vl.add_tup, Vl.is_non, Vl.is_bl, Vl.is_int, Vl.is_str, Vl.is_tup, Vl.is_lst, Vl.is_exc, Vl.isn_non, Vl.isn_bl, Vl.isn_int, Vl.isn_str, Vl.isn_tup, Vl.isn_lst, Vl.isn_exc, Vl.eq_int, Vl.ne_int, Vl.eq_str, Vl.ne_str, Vl.eq_bl, Vl.eq_tup0, Vl.len_lst, Vl.len_tup, Vl.len_str, Vl.min_int, Vl.max_int, Vl.abs_int, Vl.all_lst, Vl.any_lst, Vl.sum_lst, Vl.lof_lst, Vl.lof_tup, Vl.tof_lst, Vl.tof_tup, Vl.ix_lst, Vl.ix_tup, Vl.sl_lst, Vl.sl_tup, Vl.sl_str, Vl.at_0, Vl.at_1, Vl.at_2, Vl.at_3, Vl.at_4, Vl.at_5, Vl.at_6, Vl.at_7, Vl.at_8, Vl.vw_fro, Vl.vw_lst, Vl.vw_loc, Vl.vwT_fro, Vl.vwT_lst, Vl.fa_nil, Vl.fa_cons, Vl.fa_lst, Vl.fa_map, Vl.fa_app, Vl.its_lst, Vl.its_tup, Vl.its_str, Vl.tr_lst, Vl.tr_tup, Vl.tr_str, Vl.tr_int, Vl.tr_bl, Vl.tr_non, Vl.tgN_eq, Vl.tgT_eq, Vl.tgC_eq, Vl.tgNil_eq, Vl.wipe_nil, Vl.wipe_cons, Vl.bls_nil, Vl.bls_cons, Vl.bls_map, Vl.ints_map, Vl.strs_map, Vl.obnd_some, Vl.rng1, Vl.rng2, Vl.zip_lst, Vl.zip_tup, Vl.nd_tup, Vl.nd_int, Vl.nd_str, Vl.ndL_nil, Vl.ndL_cons, Vl.dv_int, Vl.dv_str, Vl.mRaiseA, Vl.W_mRaise, Vl.repr_bl, Vl.repr_non, List.flatten_cons, List.flatten_nil, List.append_nil, List.map_cons, List.map_nil, List.getElem?_cons_zero, List.getElem?_cons_succ, List.set_cons_zero, List.set_cons_succ, List.length_cons, List.length_nil, List.replicate_succ, List.replicate_zero, List.cons_append, List.nil_append, List.append_assoc, List.not_mem_nil, List.length_map, List.isEmpty_cons, List.isEmpty_nil, List.all_cons, List.all_nil, List.any_cons, List.any_nil, Bool.not_true, Bool.not_false, Bool.not_not, Bool.true_and, Bool.and_true, Bool.false_and, Bool.and_false, Bool.true_or, Bool.false_or, id_eq, if_true, if_false, ↓reduceIte, Bool.false_eq_true, Option.map_some, Option.map_none, Option.bind_some, decide_eq_true_eq, decide_true, decide_false, true_and, and_true, and_self, not_true_eq_false, not_false_eq_true, Nat.reduceAdd, Nat.reduceSub, Nat.reduceLeDiff, Nat.reduceLT, Nat.reduceEqDiff, Nat.reduceBEq, Int.reduceAdd, Int.reduceSub, Int.reduceNeg, Int.reduceLE, Int.reduceLT, Int.reduceBEq, Int.reduceBNe, Int.reduceEq, Int.reduceToNat, Nat.zero_add, Int.cast_ofNat_Int, beq_self_eq_true, ite_self, eq_self, ne_eq, Vl.ixn_1_0, Vl.ixn_2_0, Vl.ixn_2_1, Vl.ixn_3_0, Vl.ixn_3_1, Vl.ixn_3_2, Vl.ixn_4_0, Vl.ixn_4_1, Vl.ixn_4_2, Vl.ixn_4_3, Vl.ixn_5_0, Vl.ixn_5_1, Vl.ixn_5_2, Vl.ixn_5_3, Vl.ixn_5_4, Vl.ixn_6_0, Vl.ixn_6_1, Vl.ixn_6_2, Vl.ixn_6_3, Vl.ixn_6_4, Vl.ixn_6_5, Vl.ixn_7_0, Vl.ixn_7_1, Vl.ixn_7_2, Vl.ixn_7_3, Vl.ixn_7_4, Vl.ixn_7_5, Vl.ixn_7_6, Vl.ixn_8_0, Vl.ixn_8_1, Vl.ixn_8_2, Vl.ixn_8_3, Vl.ixn_8_4, Vl.ixn_8_5, Vl.ixn_8_6, Vl.ixn_8_7, Vl.ixn_9_0, Vl.ixn_9_1, Vl.ixn_9_2, Vl.ixn_9_3, Vl.ixn_9_4, Vl.ixn_9_5, Vl.ixn_9_6, Vl.ixn_9_7, Vl.ixn_9_8, Vl.ixn_10_0, Vl.ixn_10_1, Vl.ixn_10_2, Vl.ixn_10_3, Vl.ixn_10_4, Vl.ixn_10_5, Vl.ixn_10_6, Vl.ixn_10_7, Vl.ixn_10_8, Vl.ixn_10_9, Vl.ixn_11_0, Vl.ixn_11_1, Vl.ixn_11_2, Vl.ixn_11_3, Vl.ixn_11_4, Vl.ixn_11_5, Vl.ixn_11_6, Vl.ixn_11_7, Vl.ixn_11_8, Vl.ixn_11_9, Vl.ixn_11_10, Vl.ixn_12_0, Vl.ixn_12_1, Vl.ixn_12_2, Vl.ixn_12_3, Vl.ixn_12_4, Vl.ixn_12_5, Vl.ixn_12_6, Vl.ixn_12_7, Vl.ixn_12_8, Vl.ixn_12_9, Vl.ixn_12_10, Vl.ixn_12_11, e_isi0_non, e_isi0_bl, e_isi0_int, e_isi0_str, e_isi0_tup, e_isi0_lst, e_isi0_dic, e_isi1_non, e_isi1_bl, e_isi1_int, e_isi1_str, e_isi1_tup, e_isi1_lst, e_isi1_dic, e_isi2_non, e_isi2_bl, e_isi2_int, e_isi2_str, e_isi2_tup, e_isi2_lst, e_isi2_dic, e_isi3_non, e_isi3_bl, e_isi3_int, e_isi3_str, e_isi3_tup, e_isi3_lst, e_isi3_dic, e_isi4_non, e_isi4_bl, e_isi4_int, e_isi4_str, e_isi4_tup, e_isi4_lst, e_isi4_dic, exa_BondError, exa_BadDay, exa_BadName, exa_BadRules, exa_BadStretch, exa_BadNumber, lk_part_0, neX_rows])
local macro_rules | `(tactic| k_subL) => `(tactic| try simp only [Vl.WP_ok, Vl.WP_er, Vl.OP_some, Vl.WC_ok, Vl.WC_er, Vl.WI_ok, Vl.WI_er, Vl.FlE_nx, Vl.FlE_bk, Vl.FlE_ct, Vl.FlE_rt, Vl.WP_ite, Vl.OP_ite, Vl.WP_obind, Vl.WP_sbind, Vl.OP_map, Vl.cEnv_eq, Vl.W_mC, Vl.W_mV, Vl.AVs_fro, Vl.AVs_lst, Vl.AVs_dic, Vl.slO_some, Vl.get_tmp, Vl.get_loc, Vl.fz_tmp, Vl.fz_loc, Vl.W_mT, Vl.W_mAndT, Vl.W_mOrT, Vl.W_mNotT, Vl.W_mAnd, Vl.W_mOr, Vl.W_mIf, Vl.W_mB, Vl.chT_ff, Vl.chT_tt, Vl.chT_dec, Vl.W_mCh, Vl.W_mCons, Vl.W_mNil, Vl.W_mLst, Vl.W_mTup, Vl.W_m1, Vl.W_m2, Vl.W_m2s, Vl.W_mIx, Vl.W_mPart, Vl.W_mNoP, Vl.W_mSl, Vl.W_mRev, Vl.W_mRevX, Vl.W_mStp, Vl.revD_lst, Vl.revD_tup, Vl.W_mFC, Vl.W_mSC, Vl.W_mJoin, Vl.W_mDic0, Vl.W_mXA, Vl.W_mExc, Vl.W_mExcI, Vl.W_mCall, Vl.W_mCall0, Vl.W_mCallIo, Vl.W_ioTmp, Vl.W_ioLoc, Vl.W_mApp, Vl.W_mSkip, Vl.W_mBreak, Vl.W_mCont, Vl.W_mRetN, Vl.W_mYes, Vl.W_mSeq, Vl.W_mIfS, Vl.W_mExpr, Vl.W_mSet, Vl.rtP_tmp, Vl.rtP_loc, Vl.W_mRet, Vl.W_mRaiseI, Vl.W_mTry, Vl.W_mSetIx, Vl.W_mAsg, Vl.W_mPar, Vl.W_mPar3, Vl.W_mIt, Vl.W_mRng, Vl.W_mEnum, Vl.W_mEnumX, Vl.enA_lst, Vl.enA_tup, Vl.W_mZip, Vl.W_mFor, Vl.W_mLc, Vl.W_runC, Vl.W_runI, Vl.avBl_bl, Vl.avStr_str, Vl.avExc_exc, Vl.tInt_int, Vl.dInt_int, Vl.dBl_bl, Vl.dLst_lst, Vl.one1_one, Vl.hdtl_cons, Vl.two2_two, Vl.thr3_thr, Vl.slL_lst, Vl.nrm_nil, Vl.nrm_tmp, Vl.nrm_loc, Vl.pk_nil, Vl.pk_cons, Vl.er_fro, Vl.er_lst, Vl.er_dic0, Vl.erL_nil, Vl.erL_cons, Vl.erL_app, Vl.erL_map, Vl.nr_fro, Vl.nr_lst, Vl.nr_dic, Vl.nrL_nil, Vl.nrL_cons, Vl.nrL_fro, Vl.hd_non, Vl.hd_bl, Vl.hd_int, Vl.hd_str, Vl.hd_tup, Vl.hd_lst, Vl.hd_dic, Vl.hd_exc, Vl.hdL_nil, Vl.hdL_cons, Vl.hdL_app, Vl.fl_non, Vl.fl_bl, Vl.fl_int, Vl.fl_str, Vl.fl_tup, Vl.fl_lst, Vl.fl_dic, Vl.fl_exc, Vl.tru_non, Vl.tru_bl, Vl.tru_int, Vl.tru_tup, Vl.tru_lst, Vl.not_bl, Vl.not_non, Vl.neg_int, Vl.le_int, Vl.lt_int, Vl.ge_int, Vl.gt_int, Vl.lt_str, Vl.le_str, Vl.gt_str, Vl.ge_str, Vl.sub_int, Vl.mod_int, Vl.div_int, Vl.pow_int, Vl.mul_int, Vl.mul_lst, Vl.mul_str, Vl.add_int, Vl.add_str, Vl.add_lst, Vl.add_tup, Vl.is_non, Vl.is_bl, Vl.is_int, Vl.is_str, Vl.is_tup, Vl.is_lst, Vl.is_exc, Vl.isn_non, Vl.isn_bl, Vl.isn_int, Vl.isn_str, Vl.isn_tup, Vl.isn_lst, Vl.isn_exc, Vl.eq_int, Vl.ne_int, Vl.eq_str, Vl.ne_str, Vl.eq_bl, Vl.eq_tup0, Vl.len_lst, Vl.len_tup, Vl.len_str, Vl.min_int, Vl.max_int, Vl.abs_int, Vl.all_lst, Vl.any_lst, Vl.sum_lst, Vl.lof_lst, Vl.lof_tup, Vl.tof_lst, Vl.tof_tup, Vl.ix_lst, Vl.ix_tup, Vl.sl_lst, Vl.sl_tup, Vl.sl_str, Vl.at_0, Vl.at_1, Vl.at_2, Vl.at_3, Vl.at_4, Vl.at_5, Vl.at_6, Vl.at_7, Vl.at_8, Vl.vw_fro, Vl.vw_lst, Vl.vw_loc, Vl.vwT_fro, Vl.vwT_lst, Vl.fa_nil, Vl.fa_cons, Vl.fa_lst, Vl.fa_map, Vl.fa_app, Vl.its_lst, Vl.its_tup, Vl.its_str, Vl.tr_lst, Vl.tr_tup, Vl.tr_str, Vl.tr_int, Vl.tr_bl, Vl.tr_non, Vl.tgN_eq, Vl.tgT_eq, Vl.tgC_eq, Vl.tgNil_eq, Vl.wipe_nil, Vl.wipe_cons, Vl.bls_nil, Vl.bls_cons, Vl.bls_map, Vl.ints_map, Vl.strs_map, Vl.obnd_some, Vl.rng1, Vl.rng2, Vl.zip_lst, Vl.zip_tup, Vl.nd_tup, Vl.nd_int, Vl.nd_str, Vl.ndL_nil, Vl.ndL_cons, Vl.dv_int, Vl.dv_str, Vl.mRaiseA, Vl.W_mRaise, Vl.repr_bl, Vl.repr_non, List.flatten_cons, List.flatten_nil, List.append_nil, List.map_cons, List.map_nil, List.getElem?_cons_zero, List.getElem?_cons_succ, List.set_cons_zero, List.set_cons_succ, List.length_cons, List.length_nil, List.replicate_succ, List.replicate_zero, List.cons_append, List.nil_append, List.append_assoc, List.not_mem_nil, List.length_map, List.isEmpty_cons, List.isEmpty_nil, List.all_cons, List.all_nil, List.any_cons, List.any_nil, Bool.not_true, Bool.not_false, Bool.not_not, Bool.true_and, Bool.and_true, Bool.false_and, Bool.and_false, Bool.true_or, Bool.false_or, id_eq, if_true, if_false, ↓reduceIte, Bool.false_eq_true, Option.map_some, Option.map_none, Option.bind_some, decide_eq_true_eq, decide_true, decide_false, true_and, and_true, and_self, not_true_eq_false, not_false_eq_true, Nat.reduceAdd, Nat.reduceSub, Nat.reduceLeDiff, Nat.reduceLT, Nat.reduceEqDiff, Nat.reduceBEq, Int.reduceAdd, Int.reduceSub, Int.reduceNeg, Int.reduceLE, Int.reduceLT, Int.reduceBEq, Int.reduceBNe, Int.reduceEq, Int.reduceToNat, Nat.zero_add, Int.cast_ofNat_Int, beq_self_eq_true, ite_self, eq_self, ne_eq, Vl.ixn_1_0, Vl.ixn_2_0, Vl.ixn_2_1, Vl.ixn_3_0, Vl.ixn_3_1, Vl.ixn_3_2, Vl.ixn_4_0, Vl.ixn_4_1, Vl.ixn_4_2, Vl.ixn_4_3, Vl.ixn_5_0, Vl.ixn_5_1, Vl.ixn_5_2, Vl.ixn_5_3, Vl.ixn_5_4, Vl.ixn_6_0, Vl.ixn_6_1, Vl.ixn_6_2, Vl.ixn_6_3, Vl.ixn_6_4, Vl.ixn_6_5, Vl.ixn_7_0, Vl.ixn_7_1, Vl.ixn_7_2, Vl.ixn_7_3, Vl.ixn_7_4, Vl.ixn_7_5, Vl.ixn_7_6, Vl.ixn_8_0, Vl.ixn_8_1, Vl.ixn_8_2, Vl.ixn_8_3, Vl.ixn_8_4, Vl.ixn_8_5, Vl.ixn_8_6, Vl.ixn_8_7, Vl.ixn_9_0, Vl.ixn_9_1, Vl.ixn_9_2, Vl.ixn_9_3, Vl.ixn_9_4, Vl.ixn_9_5, Vl.ixn_9_6, Vl.ixn_9_7, Vl.ixn_9_8, Vl.ixn_10_0, Vl.ixn_10_1, Vl.ixn_10_2, Vl.ixn_10_3, Vl.ixn_10_4, Vl.ixn_10_5, Vl.ixn_10_6, Vl.ixn_10_7, Vl.ixn_10_8, Vl.ixn_10_9, Vl.ixn_11_0, Vl.ixn_11_1, Vl.ixn_11_2, Vl.ixn_11_3, Vl.ixn_11_4, Vl.ixn_11_5, Vl.ixn_11_6, Vl.ixn_11_7, Vl.ixn_11_8, Vl.ixn_11_9, Vl.ixn_11_10, Vl.ixn_12_0, Vl.ixn_12_1, Vl.ixn_12_2, Vl.ixn_12_3, Vl.ixn_12_4, Vl.ixn_12_5, Vl.ixn_12_6, Vl.ixn_12_7, Vl.ixn_12_8, Vl.ixn_12_9, Vl.ixn_12_10, Vl.ixn_12_11, e_isi0_non, e_isi0_bl, e_isi0_int, e_isi0_str, e_isi0_tup, e_isi0_lst, e_isi0_dic, e_isi1_non, e_isi1_bl, e_isi1_int, e_isi1_str, e_isi1_tup, e_isi1_lst, e_isi1_dic, e_isi2_non, e_isi2_bl, e_isi2_int, e_isi2_str, e_isi2_tup, e_isi2_lst, e_isi2_dic, e_isi3_non, e_isi3_bl, e_isi3_int, e_isi3_str, e_isi3_tup, e_isi3_lst, e_isi3_dic, e_isi4_non, e_isi4_bl, e_isi4_int, e_isi4_str, e_isi4_tup, e_isi4_lst, e_isi4_dic, exa_BondError, exa_BadDay, exa_BadName, exa_BadRules, exa_BadStretch, exa_BadNumber, lk_part_0, neX_rows, Vl.W_lc_cons, Vl.W_lc_nil, Vl.W_loop_cons, Vl.W_loop_nil])
theorem rows_by_w {l : List T} {J : Int} (hs : Sm J l) (hJ : J ≤ 800000) {K : T → T → Prop} {E : Exn → T → Prop} (h : ∀ ps l', Sm (J + 120) l' → ps.length ≤ 8 → (∀ p ∈ ps, okP p) → K (prs ps) (.lst l')) : WI (F__law_rows_by [.lst l]) K E := by
  unfold F__law_rows_by m__law_rows_by
  k_places
  refine take_w hs (by omega) (by decide) (by decide) fun r1 l1 hs1 a0 a1 => ?_
  k_places
  rw [if_pos (by omega)]
  k_places
  have hd : (rngD 0 r1).length ≤ 8 := by rw [rng_len2]; omega
  generalize rngD 0 r1 = ds at hd
  refine W_loopI (fun pre post ρ => ∃ (ps : List (Int × Int)) (l' : List T) (y2 y3 y4 y5 : Option T), pre.length + post.length ≤ 8 ∧ ps.length = pre.length ∧ (∀ p ∈ ps, okP p) ∧ Sm (J + 1 + 14 * pre.length) l' ∧ ρ = [some (.lst l'), some (prs ps), y2, y3, y4, y5]) (pre := []) ⟨[], l1, _, _, _, _, by simpa using hd, rfl, (fun p hp => by cases hp), hs1.mono (by simp), rfl⟩ ?_ ?_
  · rintro pre d post ρ ⟨ps, l', y2, y3, y4, y5, h1, h2, h3, hs2, rfl⟩
    rw [List.length_cons] at h1
    have fin : ∀ (a b : Int) (l2 : List T) (y2 y3 y4 y5 : Option T), okP (a, b) → Sm (J + 1 + 14 * pre.length + 14) l2 → ∀ ρ, ρ = [some (.lst l2), some (prs (ps ++ [(a, b)])), y2, y3, y4, y5] → ∃ (ps : List (Int × Int)) (l' : List T) (y2 y3 y4 y5 : Option T), (pre ++ [d]).length + post.length ≤ 8 ∧ ps.length = (pre ++ [d]).length ∧ (∀ p ∈ ps, okP p) ∧ Sm (J + 1 + 14 * ((pre ++ [d]).length : Nat)) l' ∧ ρ = [some (.lst l'), some (prs ps), y2, y3, y4, y5] := by
      intro a b l2 y2 y3 y4 y5 ho hs3 ρ hρ
      refine ⟨_, l2, y2, y3, y4, y5, by simp; omega, by simp; omega, fun p hp => ?_, hs3.mono (by simp; omega), hρ⟩
      rcases List.mem_append.mp hp with z | z
      · exact h3 p z
      · rw [List.mem_singleton.mp z]; exact ho
    unfold prs
    k_places
    refine stretch_by_w hs2 (by omega) fun a b l3 hs3 b0 b1 b2 b3 => ?_
    k_places
    rcases ps with _ | ⟨p0, ps⟩
    · k_places
      exact fin a b _ _ _ _ _ ⟨b0, b1, b2, b3⟩ (hs3.mono (by omega)) _ rfl
    · have e1 : (p0 :: ps).isEmpty = false := rfl
      generalize hqs : p0 :: ps = qs at *
      have hql : 0 < qs.length := by rw [← hqs]; simp
      simp only [e1]
      k_places
      refine take_w hs3 (by omega) (by decide) (by decide) fun r3 l4 hs4 c0 c1 => ?_
      k_places
      by_cases hr : 0 < r3
      · simp only [hr]
        k_places
        refine take_w hs4 (by omega) (by omega) (by omega) fun r4 l5 hs5 d0 d1 => ?_
        k_places
        refine OP_at d0 (by rw [List.length_map]; exact d1) fun o ho => ?_
        obtain ⟨a', b', rfl, hab⟩ := mem_pairs ho
        have hok := h3 _ hab
        k_places
        refine take_w hs5 (by omega) (by decide) (by decide) fun r5 l6 hs6 e0 e1 => ?_
        k_places
        refine OP_at e0 (by simpa using e1) fun x hx => ?_
        have hxi : ∃ i : Int, x = .int i := by
          simp only [List.mem_cons, List.not_mem_nil, or_false] at hx
          rcases hx with rfl | rfl <;> exact ⟨_, rfl⟩
        obtain ⟨x, rfl⟩ := hxi
        k_places
        refine take_w hs6 (by omega) (by decide) (by decide) fun r6 l7 hs7 f0 f1 => ?_
        k_places
        refine take_w hs7 (by omega) (by decide) (by decide) fun r7 l8 hs8 g0 g1 => ?_
        k_places
        refine ⟨by omega, ?_⟩
        rw [prs_snoc]
        refine fin _ _ _ _ _ _ _ ⟨?_, ?_, ?_, ?_⟩ (hs8.mono (by omega)) _ rfl <;> (dsimp only; (repeat' split) <;> omega)
      · simp only [hr]
        k_places
        refine ⟨by omega, ?_⟩
        rw [prs_snoc]
        exact fin a b _ _ _ _ _ ⟨b0, b1, b2, b3⟩ (hs4.mono (by omega)) _ rfl
  · rintro pre ρ ⟨ps, l', y2, y3, y4, y5, h1, h2, h3, hs2, rfl⟩
    rw [List.length_nil] at h1
    unfold prs
    k_places
    exact h ps l' (hs2.mono (by omega)) (by omega) h3
/-- the rows that have a day -/
def hav (l : List (Int × Int)) (d : Int) : List (Int × Int) := l.filter fun p => decide (p.1 ≤ d) && decide (d < p.2)
theorem hav_cov {l : List (Int × Int)} {d : Int} : (hav l d).isEmpty = false ↔ cov l d := by
  unfold hav cov
  rw [List.isEmpty_eq_false_iff, ne_eq, List.filter_eq_nil_iff]
  simp only [Bool.and_eq_true, decide_eq_true_eq]
  constructor
  · intro h
    exact Classical.byContradiction fun z => h fun p hp q => z ⟨p, hp, q⟩
  · rintro ⟨p, hp, q⟩ z
    exact z p hp q
theorem hav_map {l : List (Int × Int)} {d : Int} : ((l.map Vl.pairD).filter fun r => inStrB r (.int d)) = (hav l d).map Vl.pairD := by
  unfold hav
  rw [List.filter_map]
  rfl
theorem bl_ne {a : Bool} : gNe (.bl a) (.bl a) = some (.bl false) := by cases a <;> rfl
theorem within_w {a b d : Int} (h : okP (a, b)) (d0 : 0 ≤ d) (d1 : d ≤ 99999) {K : T → Prop} {E : Exn → Prop} : WC (F_is_within [.fro (.tup [.int a, .int b]), .fro (.int d)]) K E = K (.fro (.bl (decide (a ≤ d) && decide (d < b)))) := by
  rw [show D.tup [.int a, .int b] = Vl.pairD (a, b) from rfl, is_within_w h.tm.1 rfl, if_pos h.str, if_pos (by simp [amg, d0, d1])]
  rfl
theorem cut_p {a b d : Int} (h : okP (a, b)) (d0 : 0 ≤ d) (d1 : d ≤ 100000) {K : T → Prop} {E : Exn → Prop} : WC (F_cut_at [.fro (.tup [.int a, .int b]), .fro (.int d)]) K E = K (.fro (.tup [.int a, .int (max a (min b d))])) := by
  rw [show D.tup [.int a, .int b] = Vl.pairD (a, b) from rfl, cut_at_w h.tm.1 rfl, if_pos h.str, if_pos (by simp [amg, d0, d1])]
  rfl
theorem str_p {a b : Int} (h : okP (a, b)) {K : T → Prop} {E : Exn → Prop} : WC (F_is_stretch [.fro (.tup [.int a, .int b])]) K E = K (.fro (.bl true)) := by
  rw [show D.tup [.int a, .int b] = Vl.pairD (a, b) from rfl, is_stretch_w h.tm.1, h.str]
theorem days_p {a b : Int} (h : okP (a, b)) {K : T → Prop} {E : Exn → Prop} : WC (F_days_in [.fro (.tup [.int a, .int b])]) K E = K (.fro (.int (b - a))) := by
  rw [show D.tup [.int a, .int b] = Vl.pairD (a, b) from rfl, days_in_w h.tm.1, if_pos h.str]
  rfl
theorem sh_p {a b c d : Int} (h : okP (a, b)) (h' : okP (c, d)) {K : T → Prop} {E : Exn → Prop} : WC (F_shared_days [.fro (.tup [.int a, .int b]), .fro (.tup [.int c, .int d])]) K E = K (.fro (.int (shQ (a, b) (c, d)))) := by
  rw [show D.tup [.int a, .int b] = Vl.pairD (a, b) from rfl, show D.tup [.int c, .int d] = Vl.pairD (c, d) from rfl, shared_days_w h.tm.1 h'.tm.1, if_pos h.str, if_pos h'.str]
  rfl
local macro_rules | `(tactic| k_places) => `(tactic| try simp only [Vl.WP_ok, Vl.WP_er, Vl.OP_some, Vl.WC_ok, Vl.WC_er, Vl.WI_ok, Vl.WI_er, Vl.FlE_nx, Vl.FlE_bk, Vl.FlE_ct, Vl.FlE_rt, Vl.WP_ite, Vl.OP_ite, Vl.WP_obind, Vl.WP_sbind, Vl.OP_map, Vl.cEnv_eq, Vl.W_mC, Vl.W_mV, Vl.AVs_fro, Vl.AVs_lst, Vl.AVs_dic, Vl.slO_some, Vl.get_tmp, Vl.get_loc, Vl.fz_tmp, Vl.fz_loc, Vl.W_mT, Vl.W_mAndT, Vl.W_mOrT, Vl.W_mNotT, Vl.W_mAnd, Vl.W_mOr, Vl.W_mIf, Vl.W_mB, Vl.chT_ff, Vl.chT_tt, Vl.chT_dec, Vl.W_mCh, Vl.W_mCons, Vl.W_mNil, Vl.W_mLst, Vl.W_mTup, Vl.W_m1, Vl.W_m2, Vl.W_m2s, Vl.W_mIx, Vl.W_mPart, Vl.W_mNoP, Vl.W_mSl, Vl.W_mRev, Vl.W_mRevX, Vl.W_mStp, Vl.revD_lst, Vl.revD_tup, Vl.W_mFC, Vl.W_mSC, Vl.W_mJoin, Vl.W_mDic0, Vl.W_mXA, Vl.W_mExc, Vl.W_mExcI, Vl.W_mCall, Vl.W_mCall0, Vl.W_mCallIo, Vl.W_ioTmp, Vl.W_ioLoc, Vl.W_mApp, Vl.W_mSkip, Vl.W_mBreak, Vl.W_mCont, Vl.W_mRetN, Vl.W_mYes, Vl.W_mSeq, Vl.W_mIfS, Vl.W_mExpr, Vl.W_mSet, Vl.rtP_tmp, Vl.rtP_loc, Vl.W_mRet, Vl.W_mRaiseI, Vl.W_mTry, Vl.W_mSetIx, Vl.W_mAsg, Vl.W_mPar, Vl.W_mPar3, Vl.W_mIt, Vl.W_mRng, Vl.W_mEnum, Vl.W_mEnumX, Vl.enA_lst, Vl.enA_tup, Vl.W_mZip, Vl.W_mFor, Vl.W_mLc, Vl.W_runC, Vl.W_runI, Vl.avBl_bl, Vl.avStr_str, Vl.avExc_exc, Vl.tInt_int, Vl.dInt_int, Vl.dBl_bl, Vl.dLst_lst, Vl.one1_one, Vl.hdtl_cons, Vl.two2_two, Vl.thr3_thr, Vl.slL_lst, Vl.nrm_nil, Vl.nrm_tmp, Vl.nrm_loc, Vl.pk_nil, Vl.pk_cons, Vl.er_fro, Vl.er_lst, Vl.er_dic0, Vl.erL_nil, Vl.erL_cons, Vl.erL_app, Vl.erL_map, Vl.nr_fro, Vl.nr_lst, Vl.nr_dic, Vl.nrL_nil, Vl.nrL_cons, Vl.nrL_fro, Vl.hd_non, Vl.hd_bl, Vl.hd_int, Vl.hd_str, Vl.hd_tup, Vl.hd_lst, Vl.hd_dic, Vl.hd_exc, Vl.hdL_nil, Vl.hdL_cons, Vl.hdL_app, Vl.fl_non, Vl.fl_bl, Vl.fl_int, Vl.fl_str, Vl.fl_tup, Vl.fl_lst, Vl.fl_dic, Vl.fl_exc, Vl.tru_non, Vl.tru_bl, Vl.tru_int, Vl.tru_tup, Vl.tru_lst, Vl.not_bl, Vl.not_non, Vl.neg_int, Vl.le_int, Vl.lt_int, Vl.ge_int, Vl.gt_int, Vl.lt_str, Vl.le_str, Vl.gt_str, Vl.ge_str, Vl.sub_int, Vl.mod_int, Vl.div_int, Vl.pow_int, Vl.mul_int, Vl.mul_lst, Vl.mul_str, Vl.add_int, Vl.add_str, Vl.add_lst, Vl.add_tup, Vl.is_non, Vl.is_bl, Vl.is_int, Vl.is_str, Vl.is_tup, Vl.is_lst, Vl.is_exc, Vl.isn_non, Vl.isn_bl, Vl.isn_int, Vl.isn_str, Vl.isn_tup, Vl.isn_lst, Vl.isn_exc, Vl.eq_int, Vl.ne_int, Vl.eq_str, Vl.ne_str, Vl.eq_bl, Vl.eq_tup0, Vl.len_lst, Vl.len_tup, Vl.len_str, Vl.min_int, Vl.max_int, Vl.abs_int, Vl.all_lst, Vl.any_lst, Vl.sum_lst, Vl.lof_lst, Vl.lof_tup, Vl.tof_lst, Vl.tof_tup, Vl.ix_lst, Vl.ix_tup, Vl.sl_lst, Vl.sl_tup, Vl.sl_str, Vl.at_0, Vl.at_1, Vl.at_2, Vl.at_3, Vl.at_4, Vl.at_5, Vl.at_6, Vl.at_7, Vl.at_8, Vl.vw_fro, Vl.vw_lst, Vl.vw_loc, Vl.vwT_fro, Vl.vwT_lst, Vl.fa_nil, Vl.fa_cons, Vl.fa_lst, Vl.fa_map, Vl.fa_app, Vl.its_lst, Vl.its_tup, Vl.its_str, Vl.tr_lst, Vl.tr_tup, Vl.tr_str, Vl.tr_int, Vl.tr_bl, Vl.tr_non, Vl.tgN_eq, Vl.tgT_eq, Vl.tgC_eq, Vl.tgNil_eq, Vl.wipe_nil, Vl.wipe_cons, Vl.bls_nil, Vl.bls_cons, Vl.bls_map, Vl.ints_map, Vl.strs_map, Vl.obnd_some, Vl.rng1, Vl.rng2, Vl.zip_lst, Vl.zip_tup, Vl.nd_tup, Vl.nd_int, Vl.nd_str, Vl.ndL_nil, Vl.ndL_cons, Vl.dv_int, Vl.dv_str, Vl.mRaiseA, Vl.W_mRaise, Vl.repr_bl, Vl.repr_non, List.flatten_cons, List.flatten_nil, List.append_nil, List.map_cons, List.map_nil, List.getElem?_cons_zero, List.getElem?_cons_succ, List.set_cons_zero, List.set_cons_succ, List.length_cons, List.length_nil, List.replicate_succ, List.replicate_zero, List.cons_append, List.nil_append, List.append_assoc, List.not_mem_nil, List.length_map, List.isEmpty_cons, List.isEmpty_nil, List.all_cons, List.all_nil, List.any_cons, List.any_nil, Bool.not_true, Bool.not_false, Bool.not_not, Bool.true_and, Bool.and_true, Bool.false_and, Bool.and_false, Bool.true_or, Bool.false_or, id_eq, if_true, if_false, ↓reduceIte, Bool.false_eq_true, Option.map_some, Option.map_none, Option.bind_some, decide_eq_true_eq, decide_true, decide_false, true_and, and_true, and_self, not_true_eq_false, not_false_eq_true, Nat.reduceAdd, Nat.reduceSub, Nat.reduceLeDiff, Nat.reduceLT, Nat.reduceEqDiff, Nat.reduceBEq, Int.reduceAdd, Int.reduceSub, Int.reduceNeg, Int.reduceLE, Int.reduceLT, Int.reduceBEq, Int.reduceBNe, Int.reduceEq, Int.reduceToNat, Nat.zero_add, Int.cast_ofNat_Int, beq_self_eq_true, ite_self, eq_self, ne_eq, Vl.ixn_1_0, Vl.ixn_2_0, Vl.ixn_2_1, Vl.ixn_3_0, Vl.ixn_3_1, Vl.ixn_3_2, Vl.ixn_4_0, Vl.ixn_4_1, Vl.ixn_4_2, Vl.ixn_4_3, Vl.ixn_5_0, Vl.ixn_5_1, Vl.ixn_5_2, Vl.ixn_5_3, Vl.ixn_5_4, Vl.ixn_6_0, Vl.ixn_6_1, Vl.ixn_6_2, Vl.ixn_6_3, Vl.ixn_6_4, Vl.ixn_6_5, Vl.ixn_7_0, Vl.ixn_7_1, Vl.ixn_7_2, Vl.ixn_7_3, Vl.ixn_7_4, Vl.ixn_7_5, Vl.ixn_7_6, Vl.ixn_8_0, Vl.ixn_8_1, Vl.ixn_8_2, Vl.ixn_8_3, Vl.ixn_8_4, Vl.ixn_8_5, Vl.ixn_8_6, Vl.ixn_8_7, Vl.ixn_9_0, Vl.ixn_9_1, Vl.ixn_9_2, Vl.ixn_9_3, Vl.ixn_9_4, Vl.ixn_9_5, Vl.ixn_9_6, Vl.ixn_9_7, Vl.ixn_9_8, Vl.ixn_10_0, Vl.ixn_10_1, Vl.ixn_10_2, Vl.ixn_10_3, Vl.ixn_10_4, Vl.ixn_10_5, Vl.ixn_10_6, Vl.ixn_10_7, Vl.ixn_10_8, Vl.ixn_10_9, Vl.ixn_11_0, Vl.ixn_11_1, Vl.ixn_11_2, Vl.ixn_11_3, Vl.ixn_11_4, Vl.ixn_11_5, Vl.ixn_11_6, Vl.ixn_11_7, Vl.ixn_11_8, Vl.ixn_11_9, Vl.ixn_11_10, Vl.ixn_12_0, Vl.ixn_12_1, Vl.ixn_12_2, Vl.ixn_12_3, Vl.ixn_12_4, Vl.ixn_12_5, Vl.ixn_12_6, Vl.ixn_12_7, Vl.ixn_12_8, Vl.ixn_12_9, Vl.ixn_12_10, Vl.ixn_12_11, e_isi0_non, e_isi0_bl, e_isi0_int, e_isi0_str, e_isi0_tup, e_isi0_lst, e_isi0_dic, e_isi1_non, e_isi1_bl, e_isi1_int, e_isi1_str, e_isi1_tup, e_isi1_lst, e_isi1_dic, e_isi2_non, e_isi2_bl, e_isi2_int, e_isi2_str, e_isi2_tup, e_isi2_lst, e_isi2_dic, e_isi3_non, e_isi3_bl, e_isi3_int, e_isi3_str, e_isi3_tup, e_isi3_lst, e_isi3_dic, e_isi4_non, e_isi4_bl, e_isi4_int, e_isi4_str, e_isi4_tup, e_isi4_lst, e_isi4_dic, exa_BondError, exa_BadDay, exa_BadName, exa_BadRules, exa_BadStretch, exa_BadNumber, lk_part_0, neX_rows, bl_ne])
local macro_rules | `(tactic| k_clsL) => `(tactic| simp only [Vl.WP_ok, Vl.WP_er, Vl.OP_some, Vl.WC_ok, Vl.WC_er, Vl.WI_ok, Vl.WI_er, Vl.FlE_nx, Vl.FlE_bk, Vl.FlE_ct, Vl.FlE_rt, Vl.WP_ite, Vl.OP_ite, Vl.WP_obind, Vl.WP_sbind, Vl.OP_map, Vl.cEnv_eq, Vl.W_mC, Vl.W_mV, Vl.AVs_fro, Vl.AVs_lst, Vl.AVs_dic, Vl.slO_some, Vl.get_tmp, Vl.get_loc, Vl.fz_tmp, Vl.fz_loc, Vl.W_mT, Vl.W_mAndT, Vl.W_mOrT, Vl.W_mNotT, Vl.W_mAnd, Vl.W_mOr, Vl.W_mIf, Vl.W_mB, Vl.chT_ff, Vl.chT_tt, Vl.chT_dec, Vl.W_mCh, Vl.W_mCons, Vl.W_mNil, Vl.W_mLst, Vl.W_mTup, Vl.W_m1, Vl.W_m2, Vl.W_m2s, Vl.W_mIx, Vl.W_mPart, Vl.W_mNoP, Vl.W_mSl, Vl.W_mRev, Vl.W_mRevX, Vl.W_mStp, Vl.revD_lst, Vl.revD_tup, Vl.W_mFC, Vl.W_mSC, Vl.W_mJoin, Vl.W_mDic0, Vl.W_mXA, Vl.W_mExc, Vl.W_mExcI, Vl.W_mCall, Vl.W_mCall0, Vl.W_mCallIo, Vl.W_ioTmp, Vl.W_ioLoc, Vl.W_mApp, Vl.W_mSkip, Vl.W_mBreak, Vl.W_mCont, Vl.W_mRetN, Vl.W_mYes, Vl.W_mSeq, Vl.W_mIfS, Vl.W_mExpr, Vl.W_mSet, Vl.rtP_tmp, Vl.rtP_loc, Vl.W_mRet, Vl.W_mRaiseI, Vl.W_mTry, Vl.W_mSetIx, Vl.W_mAsg, Vl.W_mPar, Vl.W_mPar3, Vl.W_mIt, Vl.W_mRng, Vl.W_mEnum, Vl.W_mEnumX, Vl.enA_lst, Vl.enA_tup, Vl.W_mZip, Vl.W_mFor, Vl.W_mLc, Vl.W_runC, Vl.W_runI, Vl.avBl_bl, Vl.avStr_str, Vl.avExc_exc, Vl.tInt_int, Vl.dInt_int, Vl.dBl_bl, Vl.dLst_lst, Vl.one1_one, Vl.hdtl_cons, Vl.two2_two, Vl.thr3_thr, Vl.slL_lst, Vl.nrm_nil, Vl.nrm_tmp, Vl.nrm_loc, Vl.pk_nil, Vl.pk_cons, Vl.er_fro, Vl.er_lst, Vl.er_dic0, Vl.erL_nil, Vl.erL_cons, Vl.erL_app, Vl.erL_map, Vl.nr_fro, Vl.nr_lst, Vl.nr_dic, Vl.nrL_nil, Vl.nrL_cons, Vl.nrL_fro, Vl.hd_non, Vl.hd_bl, Vl.hd_int, Vl.hd_str, Vl.hd_tup, Vl.hd_lst, Vl.hd_dic, Vl.hd_exc, Vl.hdL_nil, Vl.hdL_cons, Vl.hdL_app, Vl.fl_non, Vl.fl_bl, Vl.fl_int, Vl.fl_str, Vl.fl_tup, Vl.fl_lst, Vl.fl_dic, Vl.fl_exc, Vl.tru_non, Vl.tru_bl, Vl.tru_int, Vl.tru_tup, Vl.tru_lst, Vl.not_bl, Vl.not_non, Vl.neg_int, Vl.le_int, Vl.lt_int, Vl.ge_int, Vl.gt_int, Vl.lt_str, Vl.le_str, Vl.gt_str, Vl.ge_str, Vl.sub_int, Vl.mod_int, Vl.div_int, Vl.pow_int, Vl.mul_int, Vl.mul_lst, Vl.mul_str, Vl.add_int, Vl.add_str, Vl.add_lst, Vl.add_tup, Vl.is_non, Vl.is_bl, Vl.is_int, Vl.is_str, Vl.is_tup, Vl.is_lst, Vl.is_exc, Vl.isn_non, Vl.isn_bl, Vl.isn_int, Vl.isn_str, Vl.isn_tup, Vl.isn_lst, Vl.isn_exc, Vl.eq_int, Vl.ne_int, Vl.eq_str, Vl.ne_str, Vl.eq_bl, Vl.eq_tup0, Vl.len_lst, Vl.len_tup, Vl.len_str, Vl.min_int, Vl.max_int, Vl.abs_int, Vl.all_lst, Vl.any_lst, Vl.sum_lst, Vl.lof_lst, Vl.lof_tup, Vl.tof_lst, Vl.tof_tup, Vl.ix_lst, Vl.ix_tup, Vl.sl_lst, Vl.sl_tup, Vl.sl_str, Vl.at_0, Vl.at_1, Vl.at_2, Vl.at_3, Vl.at_4, Vl.at_5, Vl.at_6, Vl.at_7, Vl.at_8, Vl.vw_fro, Vl.vw_lst, Vl.vw_loc, Vl.vwT_fro, Vl.vwT_lst, Vl.fa_nil, Vl.fa_cons, Vl.fa_lst, Vl.fa_map, Vl.fa_app, Vl.its_lst, Vl.its_tup, Vl.its_str, Vl.tr_lst, Vl.tr_tup, Vl.tr_str, Vl.tr_int, Vl.tr_bl, Vl.tr_non, Vl.tgN_eq, Vl.tgT_eq, Vl.tgC_eq, Vl.tgNil_eq, Vl.wipe_nil, Vl.wipe_cons, Vl.bls_nil, Vl.bls_cons, Vl.bls_map, Vl.ints_map, Vl.strs_map, Vl.obnd_some, Vl.rng1, Vl.rng2, Vl.zip_lst, Vl.zip_tup, Vl.nd_tup, Vl.nd_int, Vl.nd_str, Vl.ndL_nil, Vl.ndL_cons, Vl.dv_int, Vl.dv_str, Vl.mRaiseA, Vl.W_mRaise, Vl.repr_bl, Vl.repr_non, List.flatten_cons, List.flatten_nil, List.append_nil, List.map_cons, List.map_nil, List.getElem?_cons_zero, List.getElem?_cons_succ, List.set_cons_zero, List.set_cons_succ, List.length_cons, List.length_nil, List.replicate_succ, List.replicate_zero, List.cons_append, List.nil_append, List.append_assoc, List.not_mem_nil, List.length_map, List.isEmpty_cons, List.isEmpty_nil, List.all_cons, List.all_nil, List.any_cons, List.any_nil, Bool.not_true, Bool.not_false, Bool.not_not, Bool.true_and, Bool.and_true, Bool.false_and, Bool.and_false, Bool.true_or, Bool.false_or, id_eq, if_true, if_false, ↓reduceIte, Bool.false_eq_true, Option.map_some, Option.map_none, Option.bind_some, decide_eq_true_eq, decide_true, decide_false, true_and, and_true, and_self, not_true_eq_false, not_false_eq_true, Nat.reduceAdd, Nat.reduceSub, Nat.reduceLeDiff, Nat.reduceLT, Nat.reduceEqDiff, Nat.reduceBEq, Int.reduceAdd, Int.reduceSub, Int.reduceNeg, Int.reduceLE, Int.reduceLT, Int.reduceBEq, Int.reduceBNe, Int.reduceEq, Int.reduceToNat, Nat.zero_add, Int.cast_ofNat_Int, beq_self_eq_true, ite_self, eq_self, ne_eq, Vl.ixn_1_0, Vl.ixn_2_0, Vl.ixn_2_1, Vl.ixn_3_0, Vl.ixn_3_1, Vl.ixn_3_2, Vl.ixn_4_0, Vl.ixn_4_1, Vl.ixn_4_2, Vl.ixn_4_3, Vl.ixn_5_0, Vl.ixn_5_1, Vl.ixn_5_2, Vl.ixn_5_3, Vl.ixn_5_4, Vl.ixn_6_0, Vl.ixn_6_1, Vl.ixn_6_2, Vl.ixn_6_3, Vl.ixn_6_4, Vl.ixn_6_5, Vl.ixn_7_0, Vl.ixn_7_1, Vl.ixn_7_2, Vl.ixn_7_3, Vl.ixn_7_4, Vl.ixn_7_5, Vl.ixn_7_6, Vl.ixn_8_0, Vl.ixn_8_1, Vl.ixn_8_2, Vl.ixn_8_3, Vl.ixn_8_4, Vl.ixn_8_5, Vl.ixn_8_6, Vl.ixn_8_7, Vl.ixn_9_0, Vl.ixn_9_1, Vl.ixn_9_2, Vl.ixn_9_3, Vl.ixn_9_4, Vl.ixn_9_5, Vl.ixn_9_6, Vl.ixn_9_7, Vl.ixn_9_8, Vl.ixn_10_0, Vl.ixn_10_1, Vl.ixn_10_2, Vl.ixn_10_3, Vl.ixn_10_4, Vl.ixn_10_5, Vl.ixn_10_6, Vl.ixn_10_7, Vl.ixn_10_8, Vl.ixn_10_9, Vl.ixn_11_0, Vl.ixn_11_1, Vl.ixn_11_2, Vl.ixn_11_3, Vl.ixn_11_4, Vl.ixn_11_5, Vl.ixn_11_6, Vl.ixn_11_7, Vl.ixn_11_8, Vl.ixn_11_9, Vl.ixn_11_10, Vl.ixn_12_0, Vl.ixn_12_1, Vl.ixn_12_2, Vl.ixn_12_3, Vl.ixn_12_4, Vl.ixn_12_5, Vl.ixn_12_6, Vl.ixn_12_7, Vl.ixn_12_8, Vl.ixn_12_9, Vl.ixn_12_10, Vl.ixn_12_11, e_isi0_non, e_isi0_bl, e_isi0_int, e_isi0_str, e_isi0_tup, e_isi0_lst, e_isi0_dic, e_isi1_non, e_isi1_bl, e_isi1_int, e_isi1_str, e_isi1_tup, e_isi1_lst, e_isi1_dic, e_isi2_non, e_isi2_bl, e_isi2_int, e_isi2_str, e_isi2_tup, e_isi2_lst, e_isi2_dic, e_isi3_non, e_isi3_bl, e_isi3_int, e_isi3_str, e_isi3_tup, e_isi3_lst, e_isi3_dic, e_isi4_non, e_isi4_bl, e_isi4_int, e_isi4_str, e_isi4_tup, e_isi4_lst, e_isi4_dic, exa_BondError, exa_BadDay, exa_BadName, exa_BadRules, exa_BadStretch, exa_BadNumber, lk_part_0, neX_rows, bl_ne])
local macro_rules | `(tactic| k_subL) => `(tactic| try simp only [Vl.WP_ok, Vl.WP_er, Vl.OP_some, Vl.WC_ok, Vl.WC_er, Vl.WI_ok, Vl.WI_er, Vl.FlE_nx, Vl.FlE_bk, Vl.FlE_ct, Vl.FlE_rt, Vl.WP_ite, Vl.OP_ite, Vl.WP_obind, Vl.WP_sbind, Vl.OP_map, Vl.cEnv_eq, Vl.W_mC, Vl.W_mV, Vl.AVs_fro, Vl.AVs_lst, Vl.AVs_dic, Vl.slO_some, Vl.get_tmp, Vl.get_loc, Vl.fz_tmp, Vl.fz_loc, Vl.W_mT, Vl.W_mAndT, Vl.W_mOrT, Vl.W_mNotT, Vl.W_mAnd, Vl.W_mOr, Vl.W_mIf, Vl.W_mB, Vl.chT_ff, Vl.chT_tt, Vl.chT_dec, Vl.W_mCh, Vl.W_mCons, Vl.W_mNil, Vl.W_mLst, Vl.W_mTup, Vl.W_m1, Vl.W_m2, Vl.W_m2s, Vl.W_mIx, Vl.W_mPart, Vl.W_mNoP, Vl.W_mSl, Vl.W_mRev, Vl.W_mRevX, Vl.W_mStp, Vl.revD_lst, Vl.revD_tup, Vl.W_mFC, Vl.W_mSC, Vl.W_mJoin, Vl.W_mDic0, Vl.W_mXA, Vl.W_mExc, Vl.W_mExcI, Vl.W_mCall, Vl.W_mCall0, Vl.W_mCallIo, Vl.W_ioTmp, Vl.W_ioLoc, Vl.W_mApp, Vl.W_mSkip, Vl.W_mBreak, Vl.W_mCont, Vl.W_mRetN, Vl.W_mYes, Vl.W_mSeq, Vl.W_mIfS, Vl.W_mExpr, Vl.W_mSet, Vl.rtP_tmp, Vl.rtP_loc, Vl.W_mRet, Vl.W_mRaiseI, Vl.W_mTry, Vl.W_mSetIx, Vl.W_mAsg, Vl.W_mPar, Vl.W_mPar3, Vl.W_mIt, Vl.W_mRng, Vl.W_mEnum, Vl.W_mEnumX, Vl.enA_lst, Vl.enA_tup, Vl.W_mZip, Vl.W_mFor, Vl.W_mLc, Vl.W_runC, Vl.W_runI, Vl.avBl_bl, Vl.avStr_str, Vl.avExc_exc, Vl.tInt_int, Vl.dInt_int, Vl.dBl_bl, Vl.dLst_lst, Vl.one1_one, Vl.hdtl_cons, Vl.two2_two, Vl.thr3_thr, Vl.slL_lst, Vl.nrm_nil, Vl.nrm_tmp, Vl.nrm_loc, Vl.pk_nil, Vl.pk_cons, Vl.er_fro, Vl.er_lst, Vl.er_dic0, Vl.erL_nil, Vl.erL_cons, Vl.erL_app, Vl.erL_map, Vl.nr_fro, Vl.nr_lst, Vl.nr_dic, Vl.nrL_nil, Vl.nrL_cons, Vl.nrL_fro, Vl.hd_non, Vl.hd_bl, Vl.hd_int, Vl.hd_str, Vl.hd_tup, Vl.hd_lst, Vl.hd_dic, Vl.hd_exc, Vl.hdL_nil, Vl.hdL_cons, Vl.hdL_app, Vl.fl_non, Vl.fl_bl, Vl.fl_int, Vl.fl_str, Vl.fl_tup, Vl.fl_lst, Vl.fl_dic, Vl.fl_exc, Vl.tru_non, Vl.tru_bl, Vl.tru_int, Vl.tru_tup, Vl.tru_lst, Vl.not_bl, Vl.not_non, Vl.neg_int, Vl.le_int, Vl.lt_int, Vl.ge_int, Vl.gt_int, Vl.lt_str, Vl.le_str, Vl.gt_str, Vl.ge_str, Vl.sub_int, Vl.mod_int, Vl.div_int, Vl.pow_int, Vl.mul_int, Vl.mul_lst, Vl.mul_str, Vl.add_int, Vl.add_str, Vl.add_lst, Vl.add_tup, Vl.is_non, Vl.is_bl, Vl.is_int, Vl.is_str, Vl.is_tup, Vl.is_lst, Vl.is_exc, Vl.isn_non, Vl.isn_bl, Vl.isn_int, Vl.isn_str, Vl.isn_tup, Vl.isn_lst, Vl.isn_exc, Vl.eq_int, Vl.ne_int, Vl.eq_str, Vl.ne_str, Vl.eq_bl, Vl.eq_tup0, Vl.len_lst, Vl.len_tup, Vl.len_str, Vl.min_int, Vl.max_int, Vl.abs_int, Vl.all_lst, Vl.any_lst, Vl.sum_lst, Vl.lof_lst, Vl.lof_tup, Vl.tof_lst, Vl.tof_tup, Vl.ix_lst, Vl.ix_tup, Vl.sl_lst, Vl.sl_tup, Vl.sl_str, Vl.at_0, Vl.at_1, Vl.at_2, Vl.at_3, Vl.at_4, Vl.at_5, Vl.at_6, Vl.at_7, Vl.at_8, Vl.vw_fro, Vl.vw_lst, Vl.vw_loc, Vl.vwT_fro, Vl.vwT_lst, Vl.fa_nil, Vl.fa_cons, Vl.fa_lst, Vl.fa_map, Vl.fa_app, Vl.its_lst, Vl.its_tup, Vl.its_str, Vl.tr_lst, Vl.tr_tup, Vl.tr_str, Vl.tr_int, Vl.tr_bl, Vl.tr_non, Vl.tgN_eq, Vl.tgT_eq, Vl.tgC_eq, Vl.tgNil_eq, Vl.wipe_nil, Vl.wipe_cons, Vl.bls_nil, Vl.bls_cons, Vl.bls_map, Vl.ints_map, Vl.strs_map, Vl.obnd_some, Vl.rng1, Vl.rng2, Vl.zip_lst, Vl.zip_tup, Vl.nd_tup, Vl.nd_int, Vl.nd_str, Vl.ndL_nil, Vl.ndL_cons, Vl.dv_int, Vl.dv_str, Vl.mRaiseA, Vl.W_mRaise, Vl.repr_bl, Vl.repr_non, List.flatten_cons, List.flatten_nil, List.append_nil, List.map_cons, List.map_nil, List.getElem?_cons_zero, List.getElem?_cons_succ, List.set_cons_zero, List.set_cons_succ, List.length_cons, List.length_nil, List.replicate_succ, List.replicate_zero, List.cons_append, List.nil_append, List.append_assoc, List.not_mem_nil, List.length_map, List.isEmpty_cons, List.isEmpty_nil, List.all_cons, List.all_nil, List.any_cons, List.any_nil, Bool.not_true, Bool.not_false, Bool.not_not, Bool.true_and, Bool.and_true, Bool.false_and, Bool.and_false, Bool.true_or, Bool.false_or, id_eq, if_true, if_false, ↓reduceIte, Bool.false_eq_true, Option.map_some, Option.map_none, Option.bind_some, decide_eq_true_eq, decide_true, decide_false, true_and, and_true, and_self, not_true_eq_false, not_false_eq_true, Nat.reduceAdd, Nat.reduceSub, Nat.reduceLeDiff, Nat.reduceLT, Nat.reduceEqDiff, Nat.reduceBEq, Int.reduceAdd, Int.reduceSub, Int.reduceNeg, Int.reduceLE, Int.reduceLT, Int.reduceBEq, Int.reduceBNe, Int.reduceEq, Int.reduceToNat, Nat.zero_add, Int.cast_ofNat_Int, beq_self_eq_true, ite_self, eq_self, ne_eq, Vl.ixn_1_0, Vl.ixn_2_0, Vl.ixn_2_1, Vl.ixn_3_0, Vl.ixn_3_1, Vl.ixn_3_2, Vl.ixn_4_0, Vl.ixn_4_1, Vl.ixn_4_2, Vl.ixn_4_3, Vl.ixn_5_0, Vl.ixn_5_1, Vl.ixn_5_2, Vl.ixn_5_3, Vl.ixn_5_4, Vl.ixn_6_0, Vl.ixn_6_1, Vl.ixn_6_2, Vl.ixn_6_3, Vl.ixn_6_4, Vl.ixn_6_5, Vl.ixn_7_0, Vl.ixn_7_1, Vl.ixn_7_2, Vl.ixn_7_3, Vl.ixn_7_4, Vl.ixn_7_5, Vl.ixn_7_6, Vl.ixn_8_0, Vl.ixn_8_1, Vl.ixn_8_2, Vl.ixn_8_3, Vl.ixn_8_4, Vl.ixn_8_5, Vl.ixn_8_6, Vl.ixn_8_7, Vl.ixn_9_0, Vl.ixn_9_1, Vl.ixn_9_2, Vl.ixn_9_3, Vl.ixn_9_4, Vl.ixn_9_5, Vl.ixn_9_6, Vl.ixn_9_7, Vl.ixn_9_8, Vl.ixn_10_0, Vl.ixn_10_1, Vl.ixn_10_2, Vl.ixn_10_3, Vl.ixn_10_4, Vl.ixn_10_5, Vl.ixn_10_6, Vl.ixn_10_7, Vl.ixn_10_8, Vl.ixn_10_9, Vl.ixn_11_0, Vl.ixn_11_1, Vl.ixn_11_2, Vl.ixn_11_3, Vl.ixn_11_4, Vl.ixn_11_5, Vl.ixn_11_6, Vl.ixn_11_7, Vl.ixn_11_8, Vl.ixn_11_9, Vl.ixn_11_10, Vl.ixn_12_0, Vl.ixn_12_1, Vl.ixn_12_2, Vl.ixn_12_3, Vl.ixn_12_4, Vl.ixn_12_5, Vl.ixn_12_6, Vl.ixn_12_7, Vl.ixn_12_8, Vl.ixn_12_9, Vl.ixn_12_10, Vl.ixn_12_11, e_isi0_non, e_isi0_bl, e_isi0_int, e_isi0_str, e_isi0_tup, e_isi0_lst, e_isi0_dic, e_isi1_non, e_isi1_bl, e_isi1_int, e_isi1_str, e_isi1_tup, e_isi1_lst, e_isi1_dic, e_isi2_non, e_isi2_bl, e_isi2_int, e_isi2_str, e_isi2_tup, e_isi2_lst, e_isi2_dic, e_isi3_non, e_isi3_bl, e_isi3_int, e_isi3_str, e_isi3_tup, e_isi3_lst, e_isi3_dic, e_isi4_non, e_isi4_bl, e_isi4_int, e_isi4_str, e_isi4_tup, e_isi4_lst, e_isi4_dic, exa_BondError, exa_BadDay, exa_BadName, exa_BadRules, exa_BadStretch, exa_BadNumber, lk_part_0, neX_rows, bl_ne, Vl.W_lc_cons, Vl.W_lc_nil, Vl.W_loop_cons, Vl.W_loop_nil])
theorem days_right_w {rows J : List (Int × Int)} {ds : List Int} (hr : ∀ p ∈ rows, okP p) (hj : ∀ p ∈ J, okP p) (hl : rows.length ≤ 8) (hl2 : J.length ≤ 8) (e : ∀ d, cov J d ↔ cov rows d) (hd : ∀ d ∈ ds, 0 ≤ d ∧ d ≤ 99999) {K : T → Prop} {E : Exn → Prop} :
    WC (F__law_days_right [.fro (.lst (rows.map Vl.pairD)), .fro (.lst (J.map Vl.pairD)), .fro (.lst (ds.map D.int))]) K E = K (.fro (.bl true)) := by
  refine WC_iff fun K E H => ?_
  unfold F__law_days_right m__law_days_right
  k_places
  refine W_loop6 3 4 5 6 7 8 (fun x hx y3 y4 y5 y6 y7 y8 => ?_) fun y3 y4 y5 y6 y7 y8 => ?_
  · obtain ⟨d, hd', rfl⟩ := List.mem_map.mp hx
    obtain ⟨d0, d1⟩ := hd d hd'
    have hE : (hav J d).isEmpty = (hav rows d).isEmpty := by
      have := (hav_cov (l := J) (d := d)).trans ((e d).trans hav_cov.symm)
      cases h1 : (hav J d).isEmpty <;> cases h2 : (hav rows d).isEmpty <;> simp [h1, h2] at this ⊢
    k_places
    refine W_lc_map (fun r => inStrB r (.int d)) (fun r => .fro r) (by rw [List.length_map]; simp; omega) (fun r hr' => ?_) ?_
    · obtain ⟨a, b, rfl, hab⟩ := mem_pairs hr'
      k_places
      rw [within_w (hr _ hab) d0 d1]
      k_places
      rfl
    · rw [hav_map]
      k_places
      refine W_lc_map (fun r => inStrB r (.int d)) (fun r => .fro r) (by rw [List.length_map]; simp; omega) (fun r hr' => ?_) ?_
      · obtain ⟨a, b, rfl, hab⟩ := mem_pairs hr'
        k_places
        rw [within_w (hj _ hab) d0 d1]
        k_places
        rfl
      rw [hav_map]
      k_places
      rw [hE]
      k_places
      refine W_loop3 5 6 7 (fun r hr' z5 z6 z7 => ?_) fun z5 z6 z7 => ?_
      · obtain ⟨a, b, rfl, hab⟩ := mem_pairs hr'
        have ho := hr _ hab
        obtain ⟨g1, g2, g3, g4⟩ := hr _ hab
        dsimp only at g1 g2 g3 g4
        generalize hm : max a (min b d) = m
        have ho1 : okP (a, m) := ⟨g1, g2, by dsimp only; omega, by dsimp only; omega⟩
        have ho2 : okP (m, b) := ⟨by dsimp only; omega, by dsimp only; omega, by dsimp only; omega, g4⟩
        have es2 : (if (if d < b then d else b) > a then (if d < b then d else b) else a) = m := by rw [← hm]; (repeat' split) <;> omega
        k_places
        rw [cut_p ho d0 (by omega), hm]
        k_places
        rw [es2]
        rw [str_p ho1]
        k_places
        rw [days_p ho1]
        k_places
        rw [days_p ho2]
        k_places
        rw [days_p ho]
        k_places
        have e1 : (m - a + (b - m) == b - a) = true := by simp; omega
        simp only [e1]
        k_places
        have e2 : ¬ ((if a > d then a else d) < m) := by split <;> omega
        simp only [e2]
        k_places
        rw [days_p ho1]
        k_places
        by_cases q : 0 < m - a
        · simp only [q]
          k_places
          rw [within_w ho1 d0 d1]
          have e3 : (decide (a ≤ d) && decide (d < m)) = false := by
            rw [Bool.and_eq_false_iff]; right; simp; omega
          rw [e3]
          k_places
          exact ⟨_, _, _, rfl⟩
        · simp only [q]
          k_places
          exact ⟨_, _, _, rfl⟩
      · k_places
        exact ⟨_, _, _, _, _, _, rfl⟩
  · k_places
    exact H
local macro_rules | `(tactic| k_places) => `(tactic| try simp only [Vl.WP_ok, Vl.WP_er, Vl.OP_some, Vl.WC_ok, Vl.WC_er, Vl.WI_ok, Vl.WI_er, Vl.FlE_nx, Vl.FlE_bk, Vl.FlE_ct, Vl.FlE_rt, Vl.WP_ite, Vl.OP_ite, Vl.WP_obind, Vl.WP_sbind, Vl.OP_map, Vl.cEnv_eq, Vl.W_mC, Vl.W_mV, Vl.AVs_fro, Vl.AVs_lst, Vl.AVs_dic, Vl.slO_some, Vl.get_tmp, Vl.get_loc, Vl.fz_tmp, Vl.fz_loc, Vl.W_mT, Vl.W_mAndT, Vl.W_mOrT, Vl.W_mNotT, Vl.W_mAnd, Vl.W_mOr, Vl.W_mIf, Vl.W_mB, Vl.chT_ff, Vl.chT_tt, Vl.chT_dec, Vl.W_mCh, Vl.W_mCons, Vl.W_mNil, Vl.W_mLst, Vl.W_mTup, Vl.W_m1, Vl.W_m2, Vl.W_m2s, Vl.W_mIx, Vl.W_mPart, Vl.W_mNoP, Vl.W_mSl, Vl.W_mRev, Vl.W_mRevX, Vl.W_mStp, Vl.revD_lst, Vl.revD_tup, Vl.W_mFC, Vl.W_mSC, Vl.W_mJoin, Vl.W_mDic0, Vl.W_mXA, Vl.W_mExc, Vl.W_mExcI, Vl.W_mCall, Vl.W_mCall0, Vl.W_mCallIo, Vl.W_ioTmp, Vl.W_ioLoc, Vl.W_mApp, Vl.W_mSkip, Vl.W_mBreak, Vl.W_mCont, Vl.W_mRetN, Vl.W_mYes, Vl.W_mSeq, Vl.W_mIfS, Vl.W_mExpr, Vl.W_mSet, Vl.rtP_tmp, Vl.rtP_loc, Vl.W_mRet, Vl.W_mRaiseI, Vl.W_mTry, Vl.W_mSetIx, Vl.W_mAsg, Vl.W_mPar, Vl.W_mPar3, Vl.W_mIt, Vl.W_mRng, Vl.W_mEnum, Vl.W_mEnumX, Vl.enA_lst, Vl.enA_tup, Vl.W_mZip, Vl.W_mFor, Vl.W_mLc, Vl.W_runC, Vl.W_runI, Vl.avBl_bl, Vl.avStr_str, Vl.avExc_exc, Vl.tInt_int, Vl.dInt_int, Vl.dBl_bl, Vl.dLst_lst, Vl.one1_one, Vl.hdtl_cons, Vl.two2_two, Vl.thr3_thr, Vl.slL_lst, Vl.nrm_nil, Vl.nrm_tmp, Vl.nrm_loc, Vl.pk_nil, Vl.pk_cons, Vl.er_fro, Vl.er_lst, Vl.er_dic0, Vl.erL_nil, Vl.erL_cons, Vl.erL_app, Vl.erL_map, Vl.nr_fro, Vl.nr_lst, Vl.nr_dic, Vl.nrL_nil, Vl.nrL_cons, Vl.nrL_fro, Vl.hd_non, Vl.hd_bl, Vl.hd_int, Vl.hd_str, Vl.hd_tup, Vl.hd_lst, Vl.hd_dic, Vl.hd_exc, Vl.hdL_nil, Vl.hdL_cons, Vl.hdL_app, Vl.fl_non, Vl.fl_bl, Vl.fl_int, Vl.fl_str, Vl.fl_tup, Vl.fl_lst, Vl.fl_dic, Vl.fl_exc, Vl.tru_non, Vl.tru_bl, Vl.tru_int, Vl.tru_tup, Vl.tru_lst, Vl.not_bl, Vl.not_non, Vl.neg_int, Vl.le_int, Vl.lt_int, Vl.ge_int, Vl.gt_int, Vl.lt_str, Vl.le_str, Vl.gt_str, Vl.ge_str, Vl.sub_int, Vl.mod_int, Vl.div_int, Vl.pow_int, Vl.mul_int, Vl.mul_lst, Vl.mul_str, Vl.add_int, Vl.add_str, Vl.add_lst, Vl.add_tup, Vl.is_non, Vl.is_bl, Vl.is_int, Vl.is_str, Vl.is_tup, Vl.is_lst, Vl.is_exc, Vl.isn_non, Vl.isn_bl, Vl.isn_int, Vl.isn_str, Vl.isn_tup, Vl.isn_lst, Vl.isn_exc, Vl.eq_int, Vl.ne_int, Vl.eq_str, Vl.ne_str, Vl.eq_bl, Vl.eq_tup0, Vl.len_lst, Vl.len_tup, Vl.len_str, Vl.min_int, Vl.max_int, Vl.abs_int, Vl.all_lst, Vl.any_lst, Vl.sum_lst, Vl.lof_lst, Vl.lof_tup, Vl.tof_lst, Vl.tof_tup, Vl.ix_lst, Vl.ix_tup, Vl.sl_lst, Vl.sl_tup, Vl.sl_str, Vl.at_0, Vl.at_1, Vl.at_2, Vl.at_3, Vl.at_4, Vl.at_5, Vl.at_6, Vl.at_7, Vl.at_8, Vl.vw_fro, Vl.vw_lst, Vl.vw_loc, Vl.vwT_fro, Vl.vwT_lst, Vl.fa_nil, Vl.fa_cons, Vl.fa_lst, Vl.fa_map, Vl.fa_app, Vl.its_lst, Vl.its_tup, Vl.its_str, Vl.tr_lst, Vl.tr_tup, Vl.tr_str, Vl.tr_int, Vl.tr_bl, Vl.tr_non, Vl.tgN_eq, Vl.tgT_eq, Vl.tgC_eq, Vl.tgNil_eq, Vl.wipe_nil, Vl.wipe_cons, Vl.bls_nil, Vl.bls_cons, Vl.bls_map, Vl.ints_map, Vl.strs_map, Vl.obnd_some, Vl.rng1, Vl.rng2, Vl.zip_lst, Vl.zip_tup, Vl.nd_tup, Vl.nd_int, Vl.nd_str, Vl.ndL_nil, Vl.ndL_cons, Vl.dv_int, Vl.dv_str, Vl.mRaiseA, Vl.W_mRaise, Vl.repr_bl, Vl.repr_non, List.flatten_cons, List.flatten_nil, List.append_nil, List.map_cons, List.map_nil, List.getElem?_cons_zero, List.getElem?_cons_succ, List.set_cons_zero, List.set_cons_succ, List.length_cons, List.length_nil, List.replicate_succ, List.replicate_zero, List.cons_append, List.nil_append, List.append_assoc, List.not_mem_nil, List.length_map, List.isEmpty_cons, List.isEmpty_nil, List.all_cons, List.all_nil, List.any_cons, List.any_nil, Bool.not_true, Bool.not_false, Bool.not_not, Bool.true_and, Bool.and_true, Bool.false_and, Bool.and_false, Bool.true_or, Bool.false_or, id_eq, if_true, if_false, ↓reduceIte, Bool.false_eq_true, Option.map_some, Option.map_none, Option.bind_some, decide_eq_true_eq, decide_true, decide_false, true_and, and_true, and_self, not_true_eq_false, not_false_eq_true, Nat.reduceAdd, Nat.reduceSub, Nat.reduceLeDiff, Nat.reduceLT, Nat.reduceEqDiff, Nat.reduceBEq, Int.reduceAdd, Int.reduceSub, Int.reduceNeg, Int.reduceLE, Int.reduceLT, Int.reduceBEq, Int.reduceBNe, Int.reduceEq, Int.reduceToNat, Nat.zero_add, Int.cast_ofNat_Int, beq_self_eq_true, ite_self, eq_self, ne_eq, Vl.ixn_1_0, Vl.ixn_2_0, Vl.ixn_2_1, Vl.ixn_3_0, Vl.ixn_3_1, Vl.ixn_3_2, Vl.ixn_4_0, Vl.ixn_4_1, Vl.ixn_4_2, Vl.ixn_4_3, Vl.ixn_5_0, Vl.ixn_5_1, Vl.ixn_5_2, Vl.ixn_5_3, Vl.ixn_5_4, Vl.ixn_6_0, Vl.ixn_6_1, Vl.ixn_6_2, Vl.ixn_6_3, Vl.ixn_6_4, Vl.ixn_6_5, Vl.ixn_7_0, Vl.ixn_7_1, Vl.ixn_7_2, Vl.ixn_7_3, Vl.ixn_7_4, Vl.ixn_7_5, Vl.ixn_7_6, Vl.ixn_8_0, Vl.ixn_8_1, Vl.ixn_8_2, Vl.ixn_8_3, Vl.ixn_8_4, Vl.ixn_8_5, Vl.ixn_8_6, Vl.ixn_8_7, Vl.ixn_9_0, Vl.ixn_9_1, Vl.ixn_9_2, Vl.ixn_9_3, Vl.ixn_9_4, Vl.ixn_9_5, Vl.ixn_9_6, Vl.ixn_9_7, Vl.ixn_9_8, Vl.ixn_10_0, Vl.ixn_10_1, Vl.ixn_10_2, Vl.ixn_10_3, Vl.ixn_10_4, Vl.ixn_10_5, Vl.ixn_10_6, Vl.ixn_10_7, Vl.ixn_10_8, Vl.ixn_10_9, Vl.ixn_11_0, Vl.ixn_11_1, Vl.ixn_11_2, Vl.ixn_11_3, Vl.ixn_11_4, Vl.ixn_11_5, Vl.ixn_11_6, Vl.ixn_11_7, Vl.ixn_11_8, Vl.ixn_11_9, Vl.ixn_11_10, Vl.ixn_12_0, Vl.ixn_12_1, Vl.ixn_12_2, Vl.ixn_12_3, Vl.ixn_12_4, Vl.ixn_12_5, Vl.ixn_12_6, Vl.ixn_12_7, Vl.ixn_12_8, Vl.ixn_12_9, Vl.ixn_12_10, Vl.ixn_12_11, e_isi0_non, e_isi0_bl, e_isi0_int, e_isi0_str, e_isi0_tup, e_isi0_lst, e_isi0_dic, e_isi1_non, e_isi1_bl, e_isi1_int, e_isi1_str, e_isi1_tup, e_isi1_lst, e_isi1_dic, e_isi2_non, e_isi2_bl, e_isi2_int, e_isi2_str, e_isi2_tup, e_isi2_lst, e_isi2_dic, e_isi3_non, e_isi3_bl, e_isi3_int, e_isi3_str, e_isi3_tup, e_isi3_lst, e_isi3_dic, e_isi4_non, e_isi4_bl, e_isi4_int, e_isi4_str, e_isi4_tup, e_isi4_lst, e_isi4_dic, exa_BondError, exa_BadDay, exa_BadName, exa_BadRules, exa_BadStretch, exa_BadNumber, lk_part_0])
local macro_rules | `(tactic| k_clsL) => `(tactic| simp only [Vl.WP_ok, Vl.WP_er, Vl.OP_some, Vl.WC_ok, Vl.WC_er, Vl.WI_ok, Vl.WI_er, Vl.FlE_nx, Vl.FlE_bk, Vl.FlE_ct, Vl.FlE_rt, Vl.WP_ite, Vl.OP_ite, Vl.WP_obind, Vl.WP_sbind, Vl.OP_map, Vl.cEnv_eq, Vl.W_mC, Vl.W_mV, Vl.AVs_fro, Vl.AVs_lst, Vl.AVs_dic, Vl.slO_some, Vl.get_tmp, Vl.get_loc, Vl.fz_tmp, Vl.fz_loc, Vl.W_mT, Vl.W_mAndT, Vl.W_mOrT, Vl.W_mNotT, Vl.W_mAnd, Vl.W_mOr, Vl.W_mIf, Vl.W_mB, Vl.chT_ff, Vl.chT_tt, Vl.chT_dec, Vl.W_mCh, Vl.W_mCons, Vl.W_mNil, Vl.W_mLst, Vl.W_mTup, Vl.W_m1, Vl.W_m2, Vl.W_m2s, Vl.W_mIx, Vl.W_mPart, Vl.W_mNoP, Vl.W_mSl, Vl.W_mRev, Vl.W_mRevX, Vl.W_mStp, Vl.revD_lst, Vl.revD_tup, Vl.W_mFC, Vl.W_mSC, Vl.W_mJoin, Vl.W_mDic0, Vl.W_mXA, Vl.W_mExc, Vl.W_mExcI, Vl.W_mCall, Vl.W_mCall0, Vl.W_mCallIo, Vl.W_ioTmp, Vl.W_ioLoc, Vl.W_mApp, Vl.W_mSkip, Vl.W_mBreak, Vl.W_mCont, Vl.W_mRetN, Vl.W_mYes, Vl.W_mSeq, Vl.W_mIfS, Vl.W_mExpr, Vl.W_mSet, Vl.rtP_tmp, Vl.rtP_loc, Vl.W_mRet, Vl.W_mRaiseI, Vl.W_mTry, Vl.W_mSetIx, Vl.W_mAsg, Vl.W_mPar, Vl.W_mPar3, Vl.W_mIt, Vl.W_mRng, Vl.W_mEnum, Vl.W_mEnumX, Vl.enA_lst, Vl.enA_tup, Vl.W_mZip, Vl.W_mFor, Vl.W_mLc, Vl.W_runC, Vl.W_runI, Vl.avBl_bl, Vl.avStr_str, Vl.avExc_exc, Vl.tInt_int, Vl.dInt_int, Vl.dBl_bl, Vl.dLst_lst, Vl.one1_one, Vl.hdtl_cons, Vl.two2_two, Vl.thr3_thr, Vl.slL_lst, Vl.nrm_nil, Vl.nrm_tmp, Vl.nrm_loc, Vl.pk_nil, Vl.pk_cons, Vl.er_fro, Vl.er_lst, Vl.er_dic0, Vl.erL_nil, Vl.erL_cons, Vl.erL_app, Vl.erL_map, Vl.nr_fro, Vl.nr_lst, Vl.nr_dic, Vl.nrL_nil, Vl.nrL_cons, Vl.nrL_fro, Vl.hd_non, Vl.hd_bl, Vl.hd_int, Vl.hd_str, Vl.hd_tup, Vl.hd_lst, Vl.hd_dic, Vl.hd_exc, Vl.hdL_nil, Vl.hdL_cons, Vl.hdL_app, Vl.fl_non, Vl.fl_bl, Vl.fl_int, Vl.fl_str, Vl.fl_tup, Vl.fl_lst, Vl.fl_dic, Vl.fl_exc, Vl.tru_non, Vl.tru_bl, Vl.tru_int, Vl.tru_tup, Vl.tru_lst, Vl.not_bl, Vl.not_non, Vl.neg_int, Vl.le_int, Vl.lt_int, Vl.ge_int, Vl.gt_int, Vl.lt_str, Vl.le_str, Vl.gt_str, Vl.ge_str, Vl.sub_int, Vl.mod_int, Vl.div_int, Vl.pow_int, Vl.mul_int, Vl.mul_lst, Vl.mul_str, Vl.add_int, Vl.add_str, Vl.add_lst, Vl.add_tup, Vl.is_non, Vl.is_bl, Vl.is_int, Vl.is_str, Vl.is_tup, Vl.is_lst, Vl.is_exc, Vl.isn_non, Vl.isn_bl, Vl.isn_int, Vl.isn_str, Vl.isn_tup, Vl.isn_lst, Vl.isn_exc, Vl.eq_int, Vl.ne_int, Vl.eq_str, Vl.ne_str, Vl.eq_bl, Vl.eq_tup0, Vl.len_lst, Vl.len_tup, Vl.len_str, Vl.min_int, Vl.max_int, Vl.abs_int, Vl.all_lst, Vl.any_lst, Vl.sum_lst, Vl.lof_lst, Vl.lof_tup, Vl.tof_lst, Vl.tof_tup, Vl.ix_lst, Vl.ix_tup, Vl.sl_lst, Vl.sl_tup, Vl.sl_str, Vl.at_0, Vl.at_1, Vl.at_2, Vl.at_3, Vl.at_4, Vl.at_5, Vl.at_6, Vl.at_7, Vl.at_8, Vl.vw_fro, Vl.vw_lst, Vl.vw_loc, Vl.vwT_fro, Vl.vwT_lst, Vl.fa_nil, Vl.fa_cons, Vl.fa_lst, Vl.fa_map, Vl.fa_app, Vl.its_lst, Vl.its_tup, Vl.its_str, Vl.tr_lst, Vl.tr_tup, Vl.tr_str, Vl.tr_int, Vl.tr_bl, Vl.tr_non, Vl.tgN_eq, Vl.tgT_eq, Vl.tgC_eq, Vl.tgNil_eq, Vl.wipe_nil, Vl.wipe_cons, Vl.bls_nil, Vl.bls_cons, Vl.bls_map, Vl.ints_map, Vl.strs_map, Vl.obnd_some, Vl.rng1, Vl.rng2, Vl.zip_lst, Vl.zip_tup, Vl.nd_tup, Vl.nd_int, Vl.nd_str, Vl.ndL_nil, Vl.ndL_cons, Vl.dv_int, Vl.dv_str, Vl.mRaiseA, Vl.W_mRaise, Vl.repr_bl, Vl.repr_non, List.flatten_cons, List.flatten_nil, List.append_nil, List.map_cons, List.map_nil, List.getElem?_cons_zero, List.getElem?_cons_succ, List.set_cons_zero, List.set_cons_succ, List.length_cons, List.length_nil, List.replicate_succ, List.replicate_zero, List.cons_append, List.nil_append, List.append_assoc, List.not_mem_nil, List.length_map, List.isEmpty_cons, List.isEmpty_nil, List.all_cons, List.all_nil, List.any_cons, List.any_nil, Bool.not_true, Bool.not_false, Bool.not_not, Bool.true_and, Bool.and_true, Bool.false_and, Bool.and_false, Bool.true_or, Bool.false_or, id_eq, if_true, if_false, ↓reduceIte, Bool.false_eq_true, Option.map_some, Option.map_none, Option.bind_some, decide_eq_true_eq, decide_true, decide_false, true_and, and_true, and_self, not_true_eq_false, not_false_eq_true, Nat.reduceAdd, Nat.reduceSub, Nat.reduceLeDiff, Nat.reduceLT, Nat.reduceEqDiff, Nat.reduceBEq, Int.reduceAdd, Int.reduceSub, Int.reduceNeg, Int.reduceLE, Int.reduceLT, Int.reduceBEq, Int.reduceBNe, Int.reduceEq, Int.reduceToNat, Nat.zero_add, Int.cast_ofNat_Int, beq_self_eq_true, ite_self, eq_self, ne_eq, Vl.ixn_1_0, Vl.ixn_2_0, Vl.ixn_2_1, Vl.ixn_3_0, Vl.ixn_3_1, Vl.ixn_3_2, Vl.ixn_4_0, Vl.ixn_4_1, Vl.ixn_4_2, Vl.ixn_4_3, Vl.ixn_5_0, Vl.ixn_5_1, Vl.ixn_5_2, Vl.ixn_5_3, Vl.ixn_5_4, Vl.ixn_6_0, Vl.ixn_6_1, Vl.ixn_6_2, Vl.ixn_6_3, Vl.ixn_6_4, Vl.ixn_6_5, Vl.ixn_7_0, Vl.ixn_7_1, Vl.ixn_7_2, Vl.ixn_7_3, Vl.ixn_7_4, Vl.ixn_7_5, Vl.ixn_7_6, Vl.ixn_8_0, Vl.ixn_8_1, Vl.ixn_8_2, Vl.ixn_8_3, Vl.ixn_8_4, Vl.ixn_8_5, Vl.ixn_8_6, Vl.ixn_8_7, Vl.ixn_9_0, Vl.ixn_9_1, Vl.ixn_9_2, Vl.ixn_9_3, Vl.ixn_9_4, Vl.ixn_9_5, Vl.ixn_9_6, Vl.ixn_9_7, Vl.ixn_9_8, Vl.ixn_10_0, Vl.ixn_10_1, Vl.ixn_10_2, Vl.ixn_10_3, Vl.ixn_10_4, Vl.ixn_10_5, Vl.ixn_10_6, Vl.ixn_10_7, Vl.ixn_10_8, Vl.ixn_10_9, Vl.ixn_11_0, Vl.ixn_11_1, Vl.ixn_11_2, Vl.ixn_11_3, Vl.ixn_11_4, Vl.ixn_11_5, Vl.ixn_11_6, Vl.ixn_11_7, Vl.ixn_11_8, Vl.ixn_11_9, Vl.ixn_11_10, Vl.ixn_12_0, Vl.ixn_12_1, Vl.ixn_12_2, Vl.ixn_12_3, Vl.ixn_12_4, Vl.ixn_12_5, Vl.ixn_12_6, Vl.ixn_12_7, Vl.ixn_12_8, Vl.ixn_12_9, Vl.ixn_12_10, Vl.ixn_12_11, e_isi0_non, e_isi0_bl, e_isi0_int, e_isi0_str, e_isi0_tup, e_isi0_lst, e_isi0_dic, e_isi1_non, e_isi1_bl, e_isi1_int, e_isi1_str, e_isi1_tup, e_isi1_lst, e_isi1_dic, e_isi2_non, e_isi2_bl, e_isi2_int, e_isi2_str, e_isi2_tup, e_isi2_lst, e_isi2_dic, e_isi3_non, e_isi3_bl, e_isi3_int, e_isi3_str, e_isi3_tup, e_isi3_lst, e_isi3_dic, e_isi4_non, e_isi4_bl, e_isi4_int, e_isi4_str, e_isi4_tup, e_isi4_lst, e_isi4_dic, exa_BondError, exa_BadDay, exa_BadName, exa_BadRules, exa_BadStretch, exa_BadNumber, lk_part_0])
local macro_rules | `(tactic| k_subL) => `(tactic| try simp only [Vl.WP_ok, Vl.WP_er, Vl.OP_some, Vl.WC_ok, Vl.WC_er, Vl.WI_ok, Vl.WI_er, Vl.FlE_nx, Vl.FlE_bk, Vl.FlE_ct, Vl.FlE_rt, Vl.WP_ite, Vl.OP_ite, Vl.WP_obind, Vl.WP_sbind, Vl.OP_map, Vl.cEnv_eq, Vl.W_mC, Vl.W_mV, Vl.AVs_fro, Vl.AVs_lst, Vl.AVs_dic, Vl.slO_some, Vl.get_tmp, Vl.get_loc, Vl.fz_tmp, Vl.fz_loc, Vl.W_mT, Vl.W_mAndT, Vl.W_mOrT, Vl.W_mNotT, Vl.W_mAnd, Vl.W_mOr, Vl.W_mIf, Vl.W_mB, Vl.chT_ff, Vl.chT_tt, Vl.chT_dec, Vl.W_mCh, Vl.W_mCons, Vl.W_mNil, Vl.W_mLst, Vl.W_mTup, Vl.W_m1, Vl.W_m2, Vl.W_m2s, Vl.W_mIx, Vl.W_mPart, Vl.W_mNoP, Vl.W_mSl, Vl.W_mRev, Vl.W_mRevX, Vl.W_mStp, Vl.revD_lst, Vl.revD_tup, Vl.W_mFC, Vl.W_mSC, Vl.W_mJoin, Vl.W_mDic0, Vl.W_mXA, Vl.W_mExc, Vl.W_mExcI, Vl.W_mCall, Vl.W_mCall0, Vl.W_mCallIo, Vl.W_ioTmp, Vl.W_ioLoc, Vl.W_mApp, Vl.W_mSkip, Vl.W_mBreak, Vl.W_mCont, Vl.W_mRetN, Vl.W_mYes, Vl.W_mSeq, Vl.W_mIfS, Vl.W_mExpr, Vl.W_mSet, Vl.rtP_tmp, Vl.rtP_loc, Vl.W_mRet, Vl.W_mRaiseI, Vl.W_mTry, Vl.W_mSetIx, Vl.W_mAsg, Vl.W_mPar, Vl.W_mPar3, Vl.W_mIt, Vl.W_mRng, Vl.W_mEnum, Vl.W_mEnumX, Vl.enA_lst, Vl.enA_tup, Vl.W_mZip, Vl.W_mFor, Vl.W_mLc, Vl.W_runC, Vl.W_runI, Vl.avBl_bl, Vl.avStr_str, Vl.avExc_exc, Vl.tInt_int, Vl.dInt_int, Vl.dBl_bl, Vl.dLst_lst, Vl.one1_one, Vl.hdtl_cons, Vl.two2_two, Vl.thr3_thr, Vl.slL_lst, Vl.nrm_nil, Vl.nrm_tmp, Vl.nrm_loc, Vl.pk_nil, Vl.pk_cons, Vl.er_fro, Vl.er_lst, Vl.er_dic0, Vl.erL_nil, Vl.erL_cons, Vl.erL_app, Vl.erL_map, Vl.nr_fro, Vl.nr_lst, Vl.nr_dic, Vl.nrL_nil, Vl.nrL_cons, Vl.nrL_fro, Vl.hd_non, Vl.hd_bl, Vl.hd_int, Vl.hd_str, Vl.hd_tup, Vl.hd_lst, Vl.hd_dic, Vl.hd_exc, Vl.hdL_nil, Vl.hdL_cons, Vl.hdL_app, Vl.fl_non, Vl.fl_bl, Vl.fl_int, Vl.fl_str, Vl.fl_tup, Vl.fl_lst, Vl.fl_dic, Vl.fl_exc, Vl.tru_non, Vl.tru_bl, Vl.tru_int, Vl.tru_tup, Vl.tru_lst, Vl.not_bl, Vl.not_non, Vl.neg_int, Vl.le_int, Vl.lt_int, Vl.ge_int, Vl.gt_int, Vl.lt_str, Vl.le_str, Vl.gt_str, Vl.ge_str, Vl.sub_int, Vl.mod_int, Vl.div_int, Vl.pow_int, Vl.mul_int, Vl.mul_lst, Vl.mul_str, Vl.add_int, Vl.add_str, Vl.add_lst, Vl.add_tup, Vl.is_non, Vl.is_bl, Vl.is_int, Vl.is_str, Vl.is_tup, Vl.is_lst, Vl.is_exc, Vl.isn_non, Vl.isn_bl, Vl.isn_int, Vl.isn_str, Vl.isn_tup, Vl.isn_lst, Vl.isn_exc, Vl.eq_int, Vl.ne_int, Vl.eq_str, Vl.ne_str, Vl.eq_bl, Vl.eq_tup0, Vl.len_lst, Vl.len_tup, Vl.len_str, Vl.min_int, Vl.max_int, Vl.abs_int, Vl.all_lst, Vl.any_lst, Vl.sum_lst, Vl.lof_lst, Vl.lof_tup, Vl.tof_lst, Vl.tof_tup, Vl.ix_lst, Vl.ix_tup, Vl.sl_lst, Vl.sl_tup, Vl.sl_str, Vl.at_0, Vl.at_1, Vl.at_2, Vl.at_3, Vl.at_4, Vl.at_5, Vl.at_6, Vl.at_7, Vl.at_8, Vl.vw_fro, Vl.vw_lst, Vl.vw_loc, Vl.vwT_fro, Vl.vwT_lst, Vl.fa_nil, Vl.fa_cons, Vl.fa_lst, Vl.fa_map, Vl.fa_app, Vl.its_lst, Vl.its_tup, Vl.its_str, Vl.tr_lst, Vl.tr_tup, Vl.tr_str, Vl.tr_int, Vl.tr_bl, Vl.tr_non, Vl.tgN_eq, Vl.tgT_eq, Vl.tgC_eq, Vl.tgNil_eq, Vl.wipe_nil, Vl.wipe_cons, Vl.bls_nil, Vl.bls_cons, Vl.bls_map, Vl.ints_map, Vl.strs_map, Vl.obnd_some, Vl.rng1, Vl.rng2, Vl.zip_lst, Vl.zip_tup, Vl.nd_tup, Vl.nd_int, Vl.nd_str, Vl.ndL_nil, Vl.ndL_cons, Vl.dv_int, Vl.dv_str, Vl.mRaiseA, Vl.W_mRaise, Vl.repr_bl, Vl.repr_non, List.flatten_cons, List.flatten_nil, List.append_nil, List.map_cons, List.map_nil, List.getElem?_cons_zero, List.getElem?_cons_succ, List.set_cons_zero, List.set_cons_succ, List.length_cons, List.length_nil, List.replicate_succ, List.replicate_zero, List.cons_append, List.nil_append, List.append_assoc, List.not_mem_nil, List.length_map, List.isEmpty_cons, List.isEmpty_nil, List.all_cons, List.all_nil, List.any_cons, List.any_nil, Bool.not_true, Bool.not_false, Bool.not_not, Bool.true_and, Bool.and_true, Bool.false_and, Bool.and_false, Bool.true_or, Bool.false_or, id_eq, if_true, if_false, ↓reduceIte, Bool.false_eq_true, Option.map_some, Option.map_none, Option.bind_some, decide_eq_true_eq, decide_true, decide_false, true_and, and_true, and_self, not_true_eq_false, not_false_eq_true, Nat.reduceAdd, Nat.reduceSub, Nat.reduceLeDiff, Nat.reduceLT, Nat.reduceEqDiff, Nat.reduceBEq, Int.reduceAdd, Int.reduceSub, Int.reduceNeg, Int.reduceLE, Int.reduceLT, Int.reduceBEq, Int.reduceBNe, Int.reduceEq, Int.reduceToNat, Nat.zero_add, Int.cast_ofNat_Int, beq_self_eq_true, ite_self, eq_self, ne_eq, Vl.ixn_1_0, Vl.ixn_2_0, Vl.ixn_2_1, Vl.ixn_3_0, Vl.ixn_3_1, Vl.ixn_3_2, Vl.ixn_4_0, Vl.ixn_4_1, Vl.ixn_4_2, Vl.ixn_4_3, Vl.ixn_5_0, Vl.ixn_5_1, Vl.ixn_5_2, Vl.ixn_5_3, Vl.ixn_5_4, Vl.ixn_6_0, Vl.ixn_6_1, Vl.ixn_6_2, Vl.ixn_6_3, Vl.ixn_6_4, Vl.ixn_6_5, Vl.ixn_7_0, Vl.ixn_7_1, Vl.ixn_7_2, Vl.ixn_7_3, Vl.ixn_7_4, Vl.ixn_7_5, Vl.ixn_7_6, Vl.ixn_8_0, Vl.ixn_8_1, Vl.ixn_8_2, Vl.ixn_8_3, Vl.ixn_8_4, Vl.ixn_8_5, Vl.ixn_8_6, Vl.ixn_8_7, Vl.ixn_9_0, Vl.ixn_9_1, Vl.ixn_9_2, Vl.ixn_9_3, Vl.ixn_9_4, Vl.ixn_9_5, Vl.ixn_9_6, Vl.ixn_9_7, Vl.ixn_9_8, Vl.ixn_10_0, Vl.ixn_10_1, Vl.ixn_10_2, Vl.ixn_10_3, Vl.ixn_10_4, Vl.ixn_10_5, Vl.ixn_10_6, Vl.ixn_10_7, Vl.ixn_10_8, Vl.ixn_10_9, Vl.ixn_11_0, Vl.ixn_11_1, Vl.ixn_11_2, Vl.ixn_11_3, Vl.ixn_11_4, Vl.ixn_11_5, Vl.ixn_11_6, Vl.ixn_11_7, Vl.ixn_11_8, Vl.ixn_11_9, Vl.ixn_11_10, Vl.ixn_12_0, Vl.ixn_12_1, Vl.ixn_12_2, Vl.ixn_12_3, Vl.ixn_12_4, Vl.ixn_12_5, Vl.ixn_12_6, Vl.ixn_12_7, Vl.ixn_12_8, Vl.ixn_12_9, Vl.ixn_12_10, Vl.ixn_12_11, e_isi0_non, e_isi0_bl, e_isi0_int, e_isi0_str, e_isi0_tup, e_isi0_lst, e_isi0_dic, e_isi1_non, e_isi1_bl, e_isi1_int, e_isi1_str, e_isi1_tup, e_isi1_lst, e_isi1_dic, e_isi2_non, e_isi2_bl, e_isi2_int, e_isi2_str, e_isi2_tup, e_isi2_lst, e_isi2_dic, e_isi3_non, e_isi3_bl, e_isi3_int, e_isi3_str, e_isi3_tup, e_isi3_lst, e_isi3_dic, e_isi4_non, e_isi4_bl, e_isi4_int, e_isi4_str, e_isi4_tup, e_isi4_lst, e_isi4_dic, exa_BondError, exa_BadDay, exa_BadName, exa_BadRules, exa_BadStretch, exa_BadNumber, lk_part_0, Vl.W_lc_cons, Vl.W_lc_nil, Vl.W_loop_cons, Vl.W_loop_nil])

theorem enF_cons {k : Nat} {d : D} {ds : List D} : enF k (d :: ds) = .tup [.int k, d] :: enF (k + 1) ds := rfl
theorem comp_rows {l : List (Int × Int)} {g : Int × Int → Int} : List.map (fun r => T.fro (.int (g ((pairOf r).getD (0, 0))))) (List.filter (fun _ => true) (l.map Vl.pairD)) = (l.map fun p => D.int (g p)).map T.fro := by
  rw [List.filter_eq_self.mpr (fun _ _ => rfl), List.map_map, List.map_map]; rfl
theorem take_rows {rows a b : List (Int × Int)} (h : rows = a ++ b) : Vl.cutD (rows.map Vl.pairD) none (some (a.length : Int)) = a.map Vl.pairD := by
  rw [cut_lo' (by omega), show ((a.length : Int)).toNat = a.length by omega, h, List.map_append, List.take_left' (by simp)]
theorem ints_rule {l : List (Int × Int)} {g : Int × Int → Int} : intsOf (l.map fun p => D.int (g p)) = some (l.map g) := by
  have e : (l.map fun p => D.int (g p)) = (l.map g).map D.int := by rw [List.map_map]; rfl
  rw [e, Vl.ints_map]
local macro_rules | `(tactic| k_places) => `(tactic| try simp only [Vl.WP_ok, Vl.WP_er, Vl.OP_some, Vl.WC_ok, Vl.WC_er, Vl.WI_ok, Vl.WI_er, Vl.FlE_nx, Vl.FlE_bk, Vl.FlE_ct, Vl.FlE_rt, Vl.WP_ite, Vl.OP_ite, Vl.WP_obind, Vl.WP_sbind, Vl.OP_map, Vl.cEnv_eq, Vl.W_mC, Vl.W_mV, Vl.AVs_fro, Vl.AVs_lst, Vl.AVs_dic, Vl.slO_some, Vl.get_tmp, Vl.get_loc, Vl.fz_tmp, Vl.fz_loc, Vl.W_mT, Vl.W_mAndT, Vl.W_mOrT, Vl.W_mNotT, Vl.W_mAnd, Vl.W_mOr, Vl.W_mIf, Vl.W_mB, Vl.chT_ff, Vl.chT_tt, Vl.chT_dec, Vl.W_mCh, Vl.W_mCons, Vl.W_mNil, Vl.W_mLst, Vl.W_mTup, Vl.W_m1, Vl.W_m2, Vl.W_m2s, Vl.W_mIx, Vl.W_mPart, Vl.W_mNoP, Vl.W_mSl, Vl.W_mRev, Vl.W_mRevX, Vl.W_mStp, Vl.revD_lst, Vl.revD_tup, Vl.W_mFC, Vl.W_mSC, Vl.W_mJoin, Vl.W_mDic0, Vl.W_mXA, Vl.W_mExc, Vl.W_mExcI, Vl.W_mCall, Vl.W_mCall0, Vl.W_mCallIo, Vl.W_ioTmp, Vl.W_ioLoc, Vl.W_mApp, Vl.W_mSkip, Vl.W_mBreak, Vl.W_mCont, Vl.W_mRetN, Vl.W_mYes, Vl.W_mSeq, Vl.W_mIfS, Vl.W_mExpr, Vl.W_mSet, Vl.rtP_tmp, Vl.rtP_loc, Vl.W_mRet, Vl.W_mRaiseI, Vl.W_mTry, Vl.W_mSetIx, Vl.W_mAsg, Vl.W_mPar, Vl.W_mPar3, Vl.W_mIt, Vl.W_mRng, Vl.W_mEnum, Vl.W_mEnumX, Vl.enA_lst, Vl.enA_tup, Vl.W_mZip, Vl.W_mFor, Vl.W_mLc, Vl.W_runC, Vl.W_runI, Vl.avBl_bl, Vl.avStr_str, Vl.avExc_exc, Vl.tInt_int, Vl.dInt_int, Vl.dBl_bl, Vl.dLst_lst, Vl.one1_one, Vl.hdtl_cons, Vl.two2_two, Vl.thr3_thr, Vl.slL_lst, Vl.nrm_nil, Vl.nrm_tmp, Vl.nrm_loc, Vl.pk_nil, Vl.pk_cons, Vl.er_fro, Vl.er_lst, Vl.er_dic0, Vl.erL_nil, Vl.erL_cons, Vl.erL_app, Vl.erL_map, Vl.nr_fro, Vl.nr_lst, Vl.nr_dic, Vl.nrL_nil, Vl.nrL_cons, Vl.nrL_fro, Vl.hd_non, Vl.hd_bl, Vl.hd_int, Vl.hd_str, Vl.hd_tup, Vl.hd_lst, Vl.hd_dic, Vl.hd_exc, Vl.hdL_nil, Vl.hdL_cons, Vl.hdL_app, Vl.fl_non, Vl.fl_bl, Vl.fl_int, Vl.fl_str, Vl.fl_tup, Vl.fl_lst, Vl.fl_dic, Vl.fl_exc, Vl.tru_non, Vl.tru_bl, Vl.tru_int, Vl.tru_tup, Vl.tru_lst, Vl.not_bl, Vl.not_non, Vl.neg_int, Vl.le_int, Vl.lt_int, Vl.ge_int, Vl.gt_int, Vl.lt_str, Vl.le_str, Vl.gt_str, Vl.ge_str, Vl.sub_int, Vl.mod_int, Vl.div_int, Vl.pow_int, Vl.mul_int, Vl.mul_lst, Vl.mul_str, Vl.add_int, Vl.add_str, Vl.add_lst, Vl.add_tup, Vl.is_non, Vl.is_bl, Vl.is_int, Vl.is_str, Vl.is_tup, Vl.is_lst, Vl.is_exc, Vl.isn_non, Vl.isn_bl, Vl.isn_int, Vl.isn_str, Vl.isn_tup, Vl.isn_lst, Vl.isn_exc, Vl.eq_int, Vl.ne_int, Vl.eq_str, Vl.ne_str, Vl.eq_bl, Vl.eq_tup0, Vl.len_lst, Vl.len_tup, Vl.len_str, Vl.min_int, Vl.max_int, Vl.abs_int, Vl.all_lst, Vl.any_lst, Vl.sum_lst, Vl.lof_lst, Vl.lof_tup, Vl.tof_lst, Vl.tof_tup, Vl.ix_lst, Vl.ix_tup, Vl.sl_lst, Vl.sl_tup, Vl.sl_str, Vl.at_0, Vl.at_1, Vl.at_2, Vl.at_3, Vl.at_4, Vl.at_5, Vl.at_6, Vl.at_7, Vl.at_8, Vl.vw_fro, Vl.vw_lst, Vl.vw_loc, Vl.vwT_fro, Vl.vwT_lst, Vl.fa_nil, Vl.fa_cons, Vl.fa_lst, Vl.fa_map, Vl.fa_app, Vl.its_lst, Vl.its_tup, Vl.its_str, Vl.tr_lst, Vl.tr_tup, Vl.tr_str, Vl.tr_int, Vl.tr_bl, Vl.tr_non, Vl.tgN_eq, Vl.tgT_eq, Vl.tgC_eq, Vl.tgNil_eq, Vl.wipe_nil, Vl.wipe_cons, Vl.bls_nil, Vl.bls_cons, Vl.bls_map, Vl.ints_map, Vl.strs_map, Vl.obnd_some, Vl.rng1, Vl.rng2, Vl.zip_lst, Vl.zip_tup, Vl.nd_tup, Vl.nd_int, Vl.nd_str, Vl.ndL_nil, Vl.ndL_cons, Vl.dv_int, Vl.dv_str, Vl.mRaiseA, Vl.W_mRaise, Vl.repr_bl, Vl.repr_non, List.flatten_cons, List.flatten_nil, List.append_nil, List.map_cons, List.map_nil, List.getElem?_cons_zero, List.getElem?_cons_succ, List.set_cons_zero, List.set_cons_succ, List.length_cons, List.length_nil, List.replicate_succ, List.replicate_zero, List.cons_append, List.nil_append, List.append_assoc, List.not_mem_nil, List.length_map, List.isEmpty_cons, List.isEmpty_nil, List.all_cons, List.all_nil, List.any_cons, List.any_nil, Bool.not_true, Bool.not_false, Bool.not_not, Bool.true_and, Bool.and_true, Bool.false_and, Bool.and_false, Bool.true_or, Bool.false_or, id_eq, if_true, if_false, ↓reduceIte, Bool.false_eq_true, Option.map_some, Option.map_none, Option.bind_some, decide_eq_true_eq, decide_true, decide_false, true_and, and_true, and_self, not_true_eq_false, not_false_eq_true, Nat.reduceAdd, Nat.reduceSub, Nat.reduceLeDiff, Nat.reduceLT, Nat.reduceEqDiff, Nat.reduceBEq, Int.reduceAdd, Int.reduceSub, Int.reduceNeg, Int.reduceLE, Int.reduceLT, Int.reduceBEq, Int.reduceBNe, Int.reduceEq, Int.reduceToNat, Nat.zero_add, Int.cast_ofNat_Int, beq_self_eq_true, ite_self, eq_self, ne_eq, Vl.ixn_1_0, Vl.ixn_2_0, Vl.ixn_2_1, Vl.ixn_3_0, Vl.ixn_3_1, Vl.ixn_3_2, Vl.ixn_4_0, Vl.ixn_4_1, Vl.ixn_4_2, Vl.ixn_4_3, Vl.ixn_5_0, Vl.ixn_5_1, Vl.ixn_5_2, Vl.ixn_5_3, Vl.ixn_5_4, Vl.ixn_6_0, Vl.ixn_6_1, Vl.ixn_6_2, Vl.ixn_6_3, Vl.ixn_6_4, Vl.ixn_6_5, Vl.ixn_7_0, Vl.ixn_7_1, Vl.ixn_7_2, Vl.ixn_7_3, Vl.ixn_7_4, Vl.ixn_7_5, Vl.ixn_7_6, Vl.ixn_8_0, Vl.ixn_8_1, Vl.ixn_8_2, Vl.ixn_8_3, Vl.ixn_8_4, Vl.ixn_8_5, Vl.ixn_8_6, Vl.ixn_8_7, Vl.ixn_9_0, Vl.ixn_9_1, Vl.ixn_9_2, Vl.ixn_9_3, Vl.ixn_9_4, Vl.ixn_9_5, Vl.ixn_9_6, Vl.ixn_9_7, Vl.ixn_9_8, Vl.ixn_10_0, Vl.ixn_10_1, Vl.ixn_10_2, Vl.ixn_10_3, Vl.ixn_10_4, Vl.ixn_10_5, Vl.ixn_10_6, Vl.ixn_10_7, Vl.ixn_10_8, Vl.ixn_10_9, Vl.ixn_11_0, Vl.ixn_11_1, Vl.ixn_11_2, Vl.ixn_11_3, Vl.ixn_11_4, Vl.ixn_11_5, Vl.ixn_11_6, Vl.ixn_11_7, Vl.ixn_11_8, Vl.ixn_11_9, Vl.ixn_11_10, Vl.ixn_12_0, Vl.ixn_12_1, Vl.ixn_12_2, Vl.ixn_12_3, Vl.ixn_12_4, Vl.ixn_12_5, Vl.ixn_12_6, Vl.ixn_12_7, Vl.ixn_12_8, Vl.ixn_12_9, Vl.ixn_12_10, Vl.ixn_12_11, e_isi0_non, e_isi0_bl, e_isi0_int, e_isi0_str, e_isi0_tup, e_isi0_lst, e_isi0_dic, e_isi1_non, e_isi1_bl, e_isi1_int, e_isi1_str, e_isi1_tup, e_isi1_lst, e_isi1_dic, e_isi2_non, e_isi2_bl, e_isi2_int, e_isi2_str, e_isi2_tup, e_isi2_lst, e_isi2_dic, e_isi3_non, e_isi3_bl, e_isi3_int, e_isi3_str, e_isi3_tup, e_isi3_lst, e_isi3_dic, e_isi4_non, e_isi4_bl, e_isi4_int, e_isi4_str, e_isi4_tup, e_isi4_lst, e_isi4_dic, exa_BondError, exa_BadDay, exa_BadName, exa_BadRules, exa_BadStretch, exa_BadNumber, lk_part_0, ints_rule])
local macro_rules | `(tactic| k_clsL) => `(tactic| simp only [Vl.WP_ok, Vl.WP_er, Vl.OP_some, Vl.WC_ok, Vl.WC_er, Vl.WI_ok, Vl.WI_er, Vl.FlE_nx, Vl.FlE_bk, Vl.FlE_ct, Vl.FlE_rt, Vl.WP_ite, Vl.OP_ite, Vl.WP_obind, Vl.WP_sbind, Vl.OP_map, Vl.cEnv_eq, Vl.W_mC, Vl.W_mV, Vl.AVs_fro, Vl.AVs_lst, Vl.AVs_dic, Vl.slO_some, Vl.get_tmp, Vl.get_loc, Vl.fz_tmp, Vl.fz_loc, Vl.W_mT, Vl.W_mAndT, Vl.W_mOrT, Vl.W_mNotT, Vl.W_mAnd, Vl.W_mOr, Vl.W_mIf, Vl.W_mB, Vl.chT_ff, Vl.chT_tt, Vl.chT_dec, Vl.W_mCh, Vl.W_mCons, Vl.W_mNil, Vl.W_mLst, Vl.W_mTup, Vl.W_m1, Vl.W_m2, Vl.W_m2s, Vl.W_mIx, Vl.W_mPart, Vl.W_mNoP, Vl.W_mSl, Vl.W_mRev, Vl.W_mRevX, Vl.W_mStp, Vl.revD_lst, Vl.revD_tup, Vl.W_mFC, Vl.W_mSC, Vl.W_mJoin, Vl.W_mDic0, Vl.W_mXA, Vl.W_mExc, Vl.W_mExcI, Vl.W_mCall, Vl.W_mCall0, Vl.W_mCallIo, Vl.W_ioTmp, Vl.W_ioLoc, Vl.W_mApp, Vl.W_mSkip, Vl.W_mBreak, Vl.W_mCont, Vl.W_mRetN, Vl.W_mYes, Vl.W_mSeq, Vl.W_mIfS, Vl.W_mExpr, Vl.W_mSet, Vl.rtP_tmp, Vl.rtP_loc, Vl.W_mRet, Vl.W_mRaiseI, Vl.W_mTry, Vl.W_mSetIx, Vl.W_mAsg, Vl.W_mPar, Vl.W_mPar3, Vl.W_mIt, Vl.W_mRng, Vl.W_mEnum, Vl.W_mEnumX, Vl.enA_lst, Vl.enA_tup, Vl.W_mZip, Vl.W_mFor, Vl.W_mLc, Vl.W_runC, Vl.W_runI, Vl.avBl_bl, Vl.avStr_str, Vl.avExc_exc, Vl.tInt_int, Vl.dInt_int, Vl.dBl_bl, Vl.dLst_lst, Vl.one1_one, Vl.hdtl_cons, Vl.two2_two, Vl.thr3_thr, Vl.slL_lst, Vl.nrm_nil, Vl.nrm_tmp, Vl.nrm_loc, Vl.pk_nil, Vl.pk_cons, Vl.er_fro, Vl.er_lst, Vl.er_dic0, Vl.erL_nil, Vl.erL_cons, Vl.erL_app, Vl.erL_map, Vl.nr_fro, Vl.nr_lst, Vl.nr_dic, Vl.nrL_nil, Vl.nrL_cons, Vl.nrL_fro, Vl.hd_non, Vl.hd_bl, Vl.hd_int, Vl.hd_str, Vl.hd_tup, Vl.hd_lst, Vl.hd_dic, Vl.hd_exc, Vl.hdL_nil, Vl.hdL_cons, Vl.hdL_app, Vl.fl_non, Vl.fl_bl, Vl.fl_int, Vl.fl_str, Vl.fl_tup, Vl.fl_lst, Vl.fl_dic, Vl.fl_exc, Vl.tru_non, Vl.tru_bl, Vl.tru_int, Vl.tru_tup, Vl.tru_lst, Vl.not_bl, Vl.not_non, Vl.neg_int, Vl.le_int, Vl.lt_int, Vl.ge_int, Vl.gt_int, Vl.lt_str, Vl.le_str, Vl.gt_str, Vl.ge_str, Vl.sub_int, Vl.mod_int, Vl.div_int, Vl.pow_int, Vl.mul_int, Vl.mul_lst, Vl.mul_str, Vl.add_int, Vl.add_str, Vl.add_lst, Vl.add_tup, Vl.is_non, Vl.is_bl, Vl.is_int, Vl.is_str, Vl.is_tup, Vl.is_lst, Vl.is_exc, Vl.isn_non, Vl.isn_bl, Vl.isn_int, Vl.isn_str, Vl.isn_tup, Vl.isn_lst, Vl.isn_exc, Vl.eq_int, Vl.ne_int, Vl.eq_str, Vl.ne_str, Vl.eq_bl, Vl.eq_tup0, Vl.len_lst, Vl.len_tup, Vl.len_str, Vl.min_int, Vl.max_int, Vl.abs_int, Vl.all_lst, Vl.any_lst, Vl.sum_lst, Vl.lof_lst, Vl.lof_tup, Vl.tof_lst, Vl.tof_tup, Vl.ix_lst, Vl.ix_tup, Vl.sl_lst, Vl.sl_tup, Vl.sl_str, Vl.at_0, Vl.at_1, Vl.at_2, Vl.at_3, Vl.at_4, Vl.at_5, Vl.at_6, Vl.at_7, Vl.at_8, Vl.vw_fro, Vl.vw_lst, Vl.vw_loc, Vl.vwT_fro, Vl.vwT_lst, Vl.fa_nil, Vl.fa_cons, Vl.fa_lst, Vl.fa_map, Vl.fa_app, Vl.its_lst, Vl.its_tup, Vl.its_str, Vl.tr_lst, Vl.tr_tup, Vl.tr_str, Vl.tr_int, Vl.tr_bl, Vl.tr_non, Vl.tgN_eq, Vl.tgT_eq, Vl.tgC_eq, Vl.tgNil_eq, Vl.wipe_nil, Vl.wipe_cons, Vl.bls_nil, Vl.bls_cons, Vl.bls_map, Vl.ints_map, Vl.strs_map, Vl.obnd_some, Vl.rng1, Vl.rng2, Vl.zip_lst, Vl.zip_tup, Vl.nd_tup, Vl.nd_int, Vl.nd_str, Vl.ndL_nil, Vl.ndL_cons, Vl.dv_int, Vl.dv_str, Vl.mRaiseA, Vl.W_mRaise, Vl.repr_bl, Vl.repr_non, List.flatten_cons, List.flatten_nil, List.append_nil, List.map_cons, List.map_nil, List.getElem?_cons_zero, List.getElem?_cons_succ, List.set_cons_zero, List.set_cons_succ, List.length_cons, List.length_nil, List.replicate_succ, List.replicate_zero, List.cons_append, List.nil_append, List.append_assoc, List.not_mem_nil, List.length_map, List.isEmpty_cons, List.isEmpty_nil, List.all_cons, List.all_nil, List.any_cons, List.any_nil, Bool.not_true, Bool.not_false, Bool.not_not, Bool.true_and, Bool.and_true, Bool.false_and, Bool.and_false, Bool.true_or, Bool.false_or, id_eq, if_true, if_false, ↓reduceIte, Bool.false_eq_true, Option.map_some, Option.map_none, Option.bind_some, decide_eq_true_eq, decide_true, decide_false, true_and, and_true, and_self, not_true_eq_false, not_false_eq_true, Nat.reduceAdd, Nat.reduceSub, Nat.reduceLeDiff, Nat.reduceLT, Nat.reduceEqDiff, Nat.reduceBEq, Int.reduceAdd, Int.reduceSub, Int.reduceNeg, Int.reduceLE, Int.reduceLT, Int.reduceBEq, Int.reduceBNe, Int.reduceEq, Int.reduceToNat, Nat.zero_add, Int.cast_ofNat_Int, beq_self_eq_true, ite_self, eq_self, ne_eq, Vl.ixn_1_0, Vl.ixn_2_0, Vl.ixn_2_1, Vl.ixn_3_0, Vl.ixn_3_1, Vl.ixn_3_2, Vl.ixn_4_0, Vl.ixn_4_1, Vl.ixn_4_2, Vl.ixn_4_3, Vl.ixn_5_0, Vl.ixn_5_1, Vl.ixn_5_2, Vl.ixn_5_3, Vl.ixn_5_4, Vl.ixn_6_0, Vl.ixn_6_1, Vl.ixn_6_2, Vl.ixn_6_3, Vl.ixn_6_4, Vl.ixn_6_5, Vl.ixn_7_0, Vl.ixn_7_1, Vl.ixn_7_2, Vl.ixn_7_3, Vl.ixn_7_4, Vl.ixn_7_5, Vl.ixn_7_6, Vl.ixn_8_0, Vl.ixn_8_1, Vl.ixn_8_2, Vl.ixn_8_3, Vl.ixn_8_4, Vl.ixn_8_5, Vl.ixn_8_6, Vl.ixn_8_7, Vl.ixn_9_0, Vl.ixn_9_1, Vl.ixn_9_2, Vl.ixn_9_3, Vl.ixn_9_4, Vl.ixn_9_5, Vl.ixn_9_6, Vl.ixn_9_7, Vl.ixn_9_8, Vl.ixn_10_0, Vl.ixn_10_1, Vl.ixn_10_2, Vl.ixn_10_3, Vl.ixn_10_4, Vl.ixn_10_5, Vl.ixn_10_6, Vl.ixn_10_7, Vl.ixn_10_8, Vl.ixn_10_9, Vl.ixn_11_0, Vl.ixn_11_1, Vl.ixn_11_2, Vl.ixn_11_3, Vl.ixn_11_4, Vl.ixn_11_5, Vl.ixn_11_6, Vl.ixn_11_7, Vl.ixn_11_8, Vl.ixn_11_9, Vl.ixn_11_10, Vl.ixn_12_0, Vl.ixn_12_1, Vl.ixn_12_2, Vl.ixn_12_3, Vl.ixn_12_4, Vl.ixn_12_5, Vl.ixn_12_6, Vl.ixn_12_7, Vl.ixn_12_8, Vl.ixn_12_9, Vl.ixn_12_10, Vl.ixn_12_11, e_isi0_non, e_isi0_bl, e_isi0_int, e_isi0_str, e_isi0_tup, e_isi0_lst, e_isi0_dic, e_isi1_non, e_isi1_bl, e_isi1_int, e_isi1_str, e_isi1_tup, e_isi1_lst, e_isi1_dic, e_isi2_non, e_isi2_bl, e_isi2_int, e_isi2_str, e_isi2_tup, e_isi2_lst, e_isi2_dic, e_isi3_non, e_isi3_bl, e_isi3_int, e_isi3_str, e_isi3_tup, e_isi3_lst, e_isi3_dic, e_isi4_non, e_isi4_bl, e_isi4_int, e_isi4_str, e_isi4_tup, e_isi4_lst, e_isi4_dic, exa_BondError, exa_BadDay, exa_BadName, exa_BadRules, exa_BadStretch, exa_BadNumber, lk_part_0, ints_rule])
local macro_rules | `(tactic| k_subL) => `(tactic| try simp only [Vl.WP_ok, Vl.WP_er, Vl.OP_some, Vl.WC_ok, Vl.WC_er, Vl.WI_ok, Vl.WI_er, Vl.FlE_nx, Vl.FlE_bk, Vl.FlE_ct, Vl.FlE_rt, Vl.WP_ite, Vl.OP_ite, Vl.WP_obind, Vl.WP_sbind, Vl.OP_map, Vl.cEnv_eq, Vl.W_mC, Vl.W_mV, Vl.AVs_fro, Vl.AVs_lst, Vl.AVs_dic, Vl.slO_some, Vl.get_tmp, Vl.get_loc, Vl.fz_tmp, Vl.fz_loc, Vl.W_mT, Vl.W_mAndT, Vl.W_mOrT, Vl.W_mNotT, Vl.W_mAnd, Vl.W_mOr, Vl.W_mIf, Vl.W_mB, Vl.chT_ff, Vl.chT_tt, Vl.chT_dec, Vl.W_mCh, Vl.W_mCons, Vl.W_mNil, Vl.W_mLst, Vl.W_mTup, Vl.W_m1, Vl.W_m2, Vl.W_m2s, Vl.W_mIx, Vl.W_mPart, Vl.W_mNoP, Vl.W_mSl, Vl.W_mRev, Vl.W_mRevX, Vl.W_mStp, Vl.revD_lst, Vl.revD_tup, Vl.W_mFC, Vl.W_mSC, Vl.W_mJoin, Vl.W_mDic0, Vl.W_mXA, Vl.W_mExc, Vl.W_mExcI, Vl.W_mCall, Vl.W_mCall0, Vl.W_mCallIo, Vl.W_ioTmp, Vl.W_ioLoc, Vl.W_mApp, Vl.W_mSkip, Vl.W_mBreak, Vl.W_mCont, Vl.W_mRetN, Vl.W_mYes, Vl.W_mSeq, Vl.W_mIfS, Vl.W_mExpr, Vl.W_mSet, Vl.rtP_tmp, Vl.rtP_loc, Vl.W_mRet, Vl.W_mRaiseI, Vl.W_mTry, Vl.W_mSetIx, Vl.W_mAsg, Vl.W_mPar, Vl.W_mPar3, Vl.W_mIt, Vl.W_mRng, Vl.W_mEnum, Vl.W_mEnumX, Vl.enA_lst, Vl.enA_tup, Vl.W_mZip, Vl.W_mFor, Vl.W_mLc, Vl.W_runC, Vl.W_runI, Vl.avBl_bl, Vl.avStr_str, Vl.avExc_exc, Vl.tInt_int, Vl.dInt_int, Vl.dBl_bl, Vl.dLst_lst, Vl.one1_one, Vl.hdtl_cons, Vl.two2_two, Vl.thr3_thr, Vl.slL_lst, Vl.nrm_nil, Vl.nrm_tmp, Vl.nrm_loc, Vl.pk_nil, Vl.pk_cons, Vl.er_fro, Vl.er_lst, Vl.er_dic0, Vl.erL_nil, Vl.erL_cons, Vl.erL_app, Vl.erL_map, Vl.nr_fro, Vl.nr_lst, Vl.nr_dic, Vl.nrL_nil, Vl.nrL_cons, Vl.nrL_fro, Vl.hd_non, Vl.hd_bl, Vl.hd_int, Vl.hd_str, Vl.hd_tup, Vl.hd_lst, Vl.hd_dic, Vl.hd_exc, Vl.hdL_nil, Vl.hdL_cons, Vl.hdL_app, Vl.fl_non, Vl.fl_bl, Vl.fl_int, Vl.fl_str, Vl.fl_tup, Vl.fl_lst, Vl.fl_dic, Vl.fl_exc, Vl.tru_non, Vl.tru_bl, Vl.tru_int, Vl.tru_tup, Vl.tru_lst, Vl.not_bl, Vl.not_non, Vl.neg_int, Vl.le_int, Vl.lt_int, Vl.ge_int, Vl.gt_int, Vl.lt_str, Vl.le_str, Vl.gt_str, Vl.ge_str, Vl.sub_int, Vl.mod_int, Vl.div_int, Vl.pow_int, Vl.mul_int, Vl.mul_lst, Vl.mul_str, Vl.add_int, Vl.add_str, Vl.add_lst, Vl.add_tup, Vl.is_non, Vl.is_bl, Vl.is_int, Vl.is_str, Vl.is_tup, Vl.is_lst, Vl.is_exc, Vl.isn_non, Vl.isn_bl, Vl.isn_int, Vl.isn_str, Vl.isn_tup, Vl.isn_lst, Vl.isn_exc, Vl.eq_int, Vl.ne_int, Vl.eq_str, Vl.ne_str, Vl.eq_bl, Vl.eq_tup0, Vl.len_lst, Vl.len_tup, Vl.len_str, Vl.min_int, Vl.max_int, Vl.abs_int, Vl.all_lst, Vl.any_lst, Vl.sum_lst, Vl.lof_lst, Vl.lof_tup, Vl.tof_lst, Vl.tof_tup, Vl.ix_lst, Vl.ix_tup, Vl.sl_lst, Vl.sl_tup, Vl.sl_str, Vl.at_0, Vl.at_1, Vl.at_2, Vl.at_3, Vl.at_4, Vl.at_5, Vl.at_6, Vl.at_7, Vl.at_8, Vl.vw_fro, Vl.vw_lst, Vl.vw_loc, Vl.vwT_fro, Vl.vwT_lst, Vl.fa_nil, Vl.fa_cons, Vl.fa_lst, Vl.fa_map, Vl.fa_app, Vl.its_lst, Vl.its_tup, Vl.its_str, Vl.tr_lst, Vl.tr_tup, Vl.tr_str, Vl.tr_int, Vl.tr_bl, Vl.tr_non, Vl.tgN_eq, Vl.tgT_eq, Vl.tgC_eq, Vl.tgNil_eq, Vl.wipe_nil, Vl.wipe_cons, Vl.bls_nil, Vl.bls_cons, Vl.bls_map, Vl.ints_map, Vl.strs_map, Vl.obnd_some, Vl.rng1, Vl.rng2, Vl.zip_lst, Vl.zip_tup, Vl.nd_tup, Vl.nd_int, Vl.nd_str, Vl.ndL_nil, Vl.ndL_cons, Vl.dv_int, Vl.dv_str, Vl.mRaiseA, Vl.W_mRaise, Vl.repr_bl, Vl.repr_non, List.flatten_cons, List.flatten_nil, List.append_nil, List.map_cons, List.map_nil, List.getElem?_cons_zero, List.getElem?_cons_succ, List.set_cons_zero, List.set_cons_succ, List.length_cons, List.length_nil, List.replicate_succ, List.replicate_zero, List.cons_append, List.nil_append, List.append_assoc, List.not_mem_nil, List.length_map, List.isEmpty_cons, List.isEmpty_nil, List.all_cons, List.all_nil, List.any_cons, List.any_nil, Bool.not_true, Bool.not_false, Bool.not_not, Bool.true_and, Bool.and_true, Bool.false_and, Bool.and_false, Bool.true_or, Bool.false_or, id_eq, if_true, if_false, ↓reduceIte, Bool.false_eq_true, Option.map_some, Option.map_none, Option.bind_some, decide_eq_true_eq, decide_true, decide_false, true_and, and_true, and_self, not_true_eq_false, not_false_eq_true, Nat.reduceAdd, Nat.reduceSub, Nat.reduceLeDiff, Nat.reduceLT, Nat.reduceEqDiff, Nat.reduceBEq, Int.reduceAdd, Int.reduceSub, Int.reduceNeg, Int.reduceLE, Int.reduceLT, Int.reduceBEq, Int.reduceBNe, Int.reduceEq, Int.reduceToNat, Nat.zero_add, Int.cast_ofNat_Int, beq_self_eq_true, ite_self, eq_self, ne_eq, Vl.ixn_1_0, Vl.ixn_2_0, Vl.ixn_2_1, Vl.ixn_3_0, Vl.ixn_3_1, Vl.ixn_3_2, Vl.ixn_4_0, Vl.ixn_4_1, Vl.ixn_4_2, Vl.ixn_4_3, Vl.ixn_5_0, Vl.ixn_5_1, Vl.ixn_5_2, Vl.ixn_5_3, Vl.ixn_5_4, Vl.ixn_6_0, Vl.ixn_6_1, Vl.ixn_6_2, Vl.ixn_6_3, Vl.ixn_6_4, Vl.ixn_6_5, Vl.ixn_7_0, Vl.ixn_7_1, Vl.ixn_7_2, Vl.ixn_7_3, Vl.ixn_7_4, Vl.ixn_7_5, Vl.ixn_7_6, Vl.ixn_8_0, Vl.ixn_8_1, Vl.ixn_8_2, Vl.ixn_8_3, Vl.ixn_8_4, Vl.ixn_8_5, Vl.ixn_8_6, Vl.ixn_8_7, Vl.ixn_9_0, Vl.ixn_9_1, Vl.ixn_9_2, Vl.ixn_9_3, Vl.ixn_9_4, Vl.ixn_9_5, Vl.ixn_9_6, Vl.ixn_9_7, Vl.ixn_9_8, Vl.ixn_10_0, Vl.ixn_10_1, Vl.ixn_10_2, Vl.ixn_10_3, Vl.ixn_10_4, Vl.ixn_10_5, Vl.ixn_10_6, Vl.ixn_10_7, Vl.ixn_10_8, Vl.ixn_10_9, Vl.ixn_11_0, Vl.ixn_11_1, Vl.ixn_11_2, Vl.ixn_11_3, Vl.ixn_11_4, Vl.ixn_11_5, Vl.ixn_11_6, Vl.ixn_11_7, Vl.ixn_11_8, Vl.ixn_11_9, Vl.ixn_11_10, Vl.ixn_12_0, Vl.ixn_12_1, Vl.ixn_12_2, Vl.ixn_12_3, Vl.ixn_12_4, Vl.ixn_12_5, Vl.ixn_12_6, Vl.ixn_12_7, Vl.ixn_12_8, Vl.ixn_12_9, Vl.ixn_12_10, Vl.ixn_12_11, e_isi0_non, e_isi0_bl, e_isi0_int, e_isi0_str, e_isi0_tup, e_isi0_lst, e_isi0_dic, e_isi1_non, e_isi1_bl, e_isi1_int, e_isi1_str, e_isi1_tup, e_isi1_lst, e_isi1_dic, e_isi2_non, e_isi2_bl, e_isi2_int, e_isi2_str, e_isi2_tup, e_isi2_lst, e_isi2_dic, e_isi3_non, e_isi3_bl, e_isi3_int, e_isi3_str, e_isi3_tup, e_isi3_lst, e_isi3_dic, e_isi4_non, e_isi4_bl, e_isi4_int, e_isi4_str, e_isi4_tup, e_isi4_lst, e_isi4_dic, exa_BondError, exa_BadDay, exa_BadName, exa_BadRules, exa_BadStretch, exa_BadNumber, lk_part_0, ints_rule, Vl.W_lc_cons, Vl.W_lc_nil, Vl.W_loop_cons, Vl.W_loop_nil])
theorem counts_right_w {rows J : List (Int × Int)} (hr : ∀ p ∈ rows, okP p) (hj : ∀ p ∈ J, okP p) (hl : rows.length ≤ 8) (hl2 : J.length ≤ 8) (c : Can J) (e : ∀ d, cov J d ↔ cov rows d) {K : T → Prop} {E : Exn → Prop} :
    WC (F__law_counts_right [.fro (.lst (rows.map Vl.pairD)), .fro (.lst (J.map Vl.pairD))]) K E = K (.fro (.bl true)) := by
  refine WC_iff fun K E H => ?_
  have hN : ((100000 : Nat) : Int) = 100000 := rfl
  unfold F__law_counts_right m__law_counts_right
  k_places
  refine W_lc_map (fun _ => true) (fun r => .fro (.int (daysP ((pairOf r).getD (0, 0))))) (by rw [List.length_map]; simp; omega) (fun r hr' => ?_) ?_
  · obtain ⟨a, b, rfl, hab⟩ := mem_pairs hr'
    k_places
    rw [days_p (hj _ hab)]
    k_places
    rfl
  rw [List.nil_append, comp_rows]
  k_places
  rw [enD_enF]
  refine W_loopI (fun pre post ρ => ∃ (a b : List (Int × Int)) (x : Int) (y4 y5 y6 y7 y8 : Option T), rows = a ++ b ∧ post = enF a.length (b.map Vl.pairD) ∧ TwI (NN := 100000) a x ∧ ρ = [some (.fro (.lst (rows.map Vl.pairD))), some (.fro (.lst (J.map Vl.pairD))), some (.fro (.int (J.map daysP).sum)), some (.fro (.int x)), y4, y5, y6, y7, y8]) (pre := [])
    ⟨[], rows, 0, _, _, _, _, _, rfl, rfl, tw_init, rfl⟩ ?_ ?_
  · rintro pre d0 post ρ ⟨a, b, x, y4, y5, y6, y7, y8, h1, h2, h3, rfl⟩
    cases b with
    | nil => cases h2
    | cons p b =>
      have hp : p ∈ rows := by rw [h1]; simp
      have ha : ∀ q ∈ a, okP q := fun q hq => hr q (by rw [h1]; simp [hq])
      have hst := tw_step hN h3 (hr p hp) ha
      have hown := sh_own hN hr hj c e hp
      have htk := take_rows h1
      have hal : a.length ≤ 8 := by rw [h1, List.length_append] at hl; omega
      rw [List.map_cons, enF_cons] at h2
      cases h2
      rw [show Vl.pairD p = .tup [.int p.1, .int p.2] from rfl]
      k_places
      refine W_lc_map (fun _ => true) (fun r => .fro (.int (shQ p ((pairOf r).getD (0, 0))))) (by rw [List.length_map]; simp; omega) (fun r hr' => ?_) ?_
      · obtain ⟨c, d, rfl, hab⟩ := mem_pairs hr'
        k_places
        rw [sh_p (hr _ hp) (hj _ hab)]
        k_places
        rfl
      rw [List.nil_append, comp_rows]
      k_places
      rw [days_p (hr p hp)]
      k_places
      rw [hown, show daysP p = p.2 - p.1 from rfl]
      k_places
      rw [htk]
      refine W_lc_map (fun _ => true) (fun r => .fro (.int (shQ p ((pairOf r).getD (0, 0))))) (by rw [List.length_map]; simp; omega) (fun r hr' => ?_) ?_
      · obtain ⟨c, d, rfl, hab⟩ := mem_pairs hr'
        k_places
        rw [sh_p (hr _ hp) (ha _ hab)]
        k_places
        rfl
      rw [List.nil_append, comp_rows]
      k_places
      exact ⟨a ++ [p], b, _, _, _, _, _, _, by rw [h1]; simp, by simp, hst, rfl⟩
  · rintro pre ρ ⟨a, b, x, y4, y5, y6, y7, y8, h1, h2, h3, rfl⟩
    cases b with
    | cons p b => cases h2
    | nil =>
      rw [List.append_nil] at h1
      subst h1
      obtain ⟨t1, t2⟩ := tw_end hN h3 hr hj c e
      k_places
      refine W_lc_map (fun _ => true) (fun r => .fro (.int (daysP ((pairOf r).getD (0, 0))))) (by rw [List.length_map]; simp; omega) (fun r hr' => ?_) ?_
      · obtain ⟨a, b, rfl, hab⟩ := mem_pairs hr'
        k_places
        rw [days_p (hr _ hab)]
        k_places
        rfl
      rw [List.nil_append, comp_rows]
      k_places
      simp only [t1, t2]
      k_places
      exact H
local macro_rules | `(tactic| k_places) => `(tactic| try simp only [Vl.WP_ok, Vl.WP_er, Vl.OP_some, Vl.WC_ok, Vl.WC_er, Vl.WI_ok, Vl.WI_er, Vl.FlE_nx, Vl.FlE_bk, Vl.FlE_ct, Vl.FlE_rt, Vl.WP_ite, Vl.OP_ite, Vl.WP_obind, Vl.WP_sbind, Vl.OP_map, Vl.cEnv_eq, Vl.W_mC, Vl.W_mV, Vl.AVs_fro, Vl.AVs_lst, Vl.AVs_dic, Vl.slO_some, Vl.get_tmp, Vl.get_loc, Vl.fz_tmp, Vl.fz_loc, Vl.W_mT, Vl.W_mAndT, Vl.W_mOrT, Vl.W_mNotT, Vl.W_mAnd, Vl.W_mOr, Vl.W_mIf, Vl.W_mB, Vl.chT_ff, Vl.chT_tt, Vl.chT_dec, Vl.W_mCh, Vl.W_mCons, Vl.W_mNil, Vl.W_mLst, Vl.W_mTup, Vl.W_m1, Vl.W_m2, Vl.W_m2s, Vl.W_mIx, Vl.W_mPart, Vl.W_mNoP, Vl.W_mSl, Vl.W_mRev, Vl.W_mRevX, Vl.W_mStp, Vl.revD_lst, Vl.revD_tup, Vl.W_mFC, Vl.W_mSC, Vl.W_mJoin, Vl.W_mDic0, Vl.W_mXA, Vl.W_mExc, Vl.W_mExcI, Vl.W_mCall, Vl.W_mCall0, Vl.W_mCallIo, Vl.W_ioTmp, Vl.W_ioLoc, Vl.W_mApp, Vl.W_mSkip, Vl.W_mBreak, Vl.W_mCont, Vl.W_mRetN, Vl.W_mYes, Vl.W_mSeq, Vl.W_mIfS, Vl.W_mExpr, Vl.W_mSet, Vl.rtP_tmp, Vl.rtP_loc, Vl.W_mRet, Vl.W_mRaiseI, Vl.W_mTry, Vl.W_mSetIx, Vl.W_mAsg, Vl.W_mPar, Vl.W_mPar3, Vl.W_mIt, Vl.W_mRng, Vl.W_mEnum, Vl.W_mEnumX, Vl.enA_lst, Vl.enA_tup, Vl.W_mZip, Vl.W_mFor, Vl.W_mLc, Vl.W_runC, Vl.W_runI, Vl.avBl_bl, Vl.avStr_str, Vl.avExc_exc, Vl.tInt_int, Vl.dInt_int, Vl.dBl_bl, Vl.dLst_lst, Vl.one1_one, Vl.hdtl_cons, Vl.two2_two, Vl.thr3_thr, Vl.slL_lst, Vl.nrm_nil, Vl.nrm_tmp, Vl.nrm_loc, Vl.pk_nil, Vl.pk_cons, Vl.er_fro, Vl.er_lst, Vl.er_dic0, Vl.erL_nil, Vl.erL_cons, Vl.erL_app, Vl.erL_map, Vl.nr_fro, Vl.nr_lst, Vl.nr_dic, Vl.nrL_nil, Vl.nrL_cons, Vl.nrL_fro, Vl.hd_non, Vl.hd_bl, Vl.hd_int, Vl.hd_str, Vl.hd_tup, Vl.hd_lst, Vl.hd_dic, Vl.hd_exc, Vl.hdL_nil, Vl.hdL_cons, Vl.hdL_app, Vl.fl_non, Vl.fl_bl, Vl.fl_int, Vl.fl_str, Vl.fl_tup, Vl.fl_lst, Vl.fl_dic, Vl.fl_exc, Vl.tru_non, Vl.tru_bl, Vl.tru_int, Vl.tru_tup, Vl.tru_lst, Vl.not_bl, Vl.not_non, Vl.neg_int, Vl.le_int, Vl.lt_int, Vl.ge_int, Vl.gt_int, Vl.lt_str, Vl.le_str, Vl.gt_str, Vl.ge_str, Vl.sub_int, Vl.mod_int, Vl.div_int, Vl.pow_int, Vl.mul_int, Vl.mul_lst, Vl.mul_str, Vl.add_int, Vl.add_str, Vl.add_lst, Vl.add_tup, Vl.is_non, Vl.is_bl, Vl.is_int, Vl.is_str, Vl.is_tup, Vl.is_lst, Vl.is_exc, Vl.isn_non, Vl.isn_bl, Vl.isn_int, Vl.isn_str, Vl.isn_tup, Vl.isn_lst, Vl.isn_exc, Vl.eq_int, Vl.ne_int, Vl.eq_str, Vl.ne_str, Vl.eq_bl, Vl.eq_tup0, Vl.len_lst, Vl.len_tup, Vl.len_str, Vl.min_int, Vl.max_int, Vl.abs_int, Vl.all_lst, Vl.any_lst, Vl.sum_lst, Vl.lof_lst, Vl.lof_tup, Vl.tof_lst, Vl.tof_tup, Vl.ix_lst, Vl.ix_tup, Vl.sl_lst, Vl.sl_tup, Vl.sl_str, Vl.at_0, Vl.at_1, Vl.at_2, Vl.at_3, Vl.at_4, Vl.at_5, Vl.at_6, Vl.at_7, Vl.at_8, Vl.vw_fro, Vl.vw_lst, Vl.vw_loc, Vl.vwT_fro, Vl.vwT_lst, Vl.fa_nil, Vl.fa_cons, Vl.fa_lst, Vl.fa_map, Vl.fa_app, Vl.its_lst, Vl.its_tup, Vl.its_str, Vl.tr_lst, Vl.tr_tup, Vl.tr_str, Vl.tr_int, Vl.tr_bl, Vl.tr_non, Vl.tgN_eq, Vl.tgT_eq, Vl.tgC_eq, Vl.tgNil_eq, Vl.wipe_nil, Vl.wipe_cons, Vl.bls_nil, Vl.bls_cons, Vl.bls_map, Vl.ints_map, Vl.strs_map, Vl.obnd_some, Vl.rng1, Vl.rng2, Vl.zip_lst, Vl.zip_tup, Vl.nd_tup, Vl.nd_int, Vl.nd_str, Vl.ndL_nil, Vl.ndL_cons, Vl.dv_int, Vl.dv_str, Vl.mRaiseA, Vl.W_mRaise, Vl.repr_bl, Vl.repr_non, List.flatten_cons, List.flatten_nil, List.append_nil, List.map_cons, List.map_nil, List.getElem?_cons_zero, List.getElem?_cons_succ, List.set_cons_zero, List.set_cons_succ, List.length_cons, List.length_nil, List.replicate_succ, List.replicate_zero, List.cons_append, List.nil_append, List.append_assoc, List.not_mem_nil, List.length_map, List.isEmpty_cons, List.isEmpty_nil, List.all_cons, List.all_nil, List.any_cons, List.any_nil, Bool.not_true, Bool.not_false, Bool.not_not, Bool.true_and, Bool.and_true, Bool.false_and, Bool.and_false, Bool.true_or, Bool.false_or, id_eq, if_true, if_false, ↓reduceIte, Bool.false_eq_true, Option.map_some, Option.map_none, Option.bind_some, decide_eq_true_eq, decide_true, decide_false, true_and, and_true, and_self, not_true_eq_false, not_false_eq_true, Nat.reduceAdd, Nat.reduceSub, Nat.reduceLeDiff, Nat.reduceLT, Nat.reduceEqDiff, Nat.reduceBEq, Int.reduceAdd, Int.reduceSub, Int.reduceNeg, Int.reduceLE, Int.reduceLT, Int.reduceBEq, Int.reduceBNe, Int.reduceEq, Int.reduceToNat, Nat.zero_add, Int.cast_ofNat_Int, beq_self_eq_true, ite_self, eq_self, ne_eq, Vl.ixn_1_0, Vl.ixn_2_0, Vl.ixn_2_1, Vl.ixn_3_0, Vl.ixn_3_1, Vl.ixn_3_2, Vl.ixn_4_0, Vl.ixn_4_1, Vl.ixn_4_2, Vl.ixn_4_3, Vl.ixn_5_0, Vl.ixn_5_1, Vl.ixn_5_2, Vl.ixn_5_3, Vl.ixn_5_4, Vl.ixn_6_0, Vl.ixn_6_1, Vl.ixn_6_2, Vl.ixn_6_3, Vl.ixn_6_4, Vl.ixn_6_5, Vl.ixn_7_0, Vl.ixn_7_1, Vl.ixn_7_2, Vl.ixn_7_3, Vl.ixn_7_4, Vl.ixn_7_5, Vl.ixn_7_6, Vl.ixn_8_0, Vl.ixn_8_1, Vl.ixn_8_2, Vl.ixn_8_3, Vl.ixn_8_4, Vl.ixn_8_5, Vl.ixn_8_6, Vl.ixn_8_7, Vl.ixn_9_0, Vl.ixn_9_1, Vl.ixn_9_2, Vl.ixn_9_3, Vl.ixn_9_4, Vl.ixn_9_5, Vl.ixn_9_6, Vl.ixn_9_7, Vl.ixn_9_8, Vl.ixn_10_0, Vl.ixn_10_1, Vl.ixn_10_2, Vl.ixn_10_3, Vl.ixn_10_4, Vl.ixn_10_5, Vl.ixn_10_6, Vl.ixn_10_7, Vl.ixn_10_8, Vl.ixn_10_9, Vl.ixn_11_0, Vl.ixn_11_1, Vl.ixn_11_2, Vl.ixn_11_3, Vl.ixn_11_4, Vl.ixn_11_5, Vl.ixn_11_6, Vl.ixn_11_7, Vl.ixn_11_8, Vl.ixn_11_9, Vl.ixn_11_10, Vl.ixn_12_0, Vl.ixn_12_1, Vl.ixn_12_2, Vl.ixn_12_3, Vl.ixn_12_4, Vl.ixn_12_5, Vl.ixn_12_6, Vl.ixn_12_7, Vl.ixn_12_8, Vl.ixn_12_9, Vl.ixn_12_10, Vl.ixn_12_11, e_isi0_non, e_isi0_bl, e_isi0_int, e_isi0_str, e_isi0_tup, e_isi0_lst, e_isi0_dic, e_isi1_non, e_isi1_bl, e_isi1_int, e_isi1_str, e_isi1_tup, e_isi1_lst, e_isi1_dic, e_isi2_non, e_isi2_bl, e_isi2_int, e_isi2_str, e_isi2_tup, e_isi2_lst, e_isi2_dic, e_isi3_non, e_isi3_bl, e_isi3_int, e_isi3_str, e_isi3_tup, e_isi3_lst, e_isi3_dic, e_isi4_non, e_isi4_bl, e_isi4_int, e_isi4_str, e_isi4_tup, e_isi4_lst, e_isi4_dic, exa_BondError, exa_BadDay, exa_BadName, exa_BadRules, exa_BadStretch, exa_BadNumber, lk_part_0])
local macro_rules | `(tactic| k_clsL) => `(tactic| simp only [Vl.WP_ok, Vl.WP_er, Vl.OP_some, Vl.WC_ok, Vl.WC_er, Vl.WI_ok, Vl.WI_er, Vl.FlE_nx, Vl.FlE_bk, Vl.FlE_ct, Vl.FlE_rt, Vl.WP_ite, Vl.OP_ite, Vl.WP_obind, Vl.WP_sbind, Vl.OP_map, Vl.cEnv_eq, Vl.W_mC, Vl.W_mV, Vl.AVs_fro, Vl.AVs_lst, Vl.AVs_dic, Vl.slO_some, Vl.get_tmp, Vl.get_loc, Vl.fz_tmp, Vl.fz_loc, Vl.W_mT, Vl.W_mAndT, Vl.W_mOrT, Vl.W_mNotT, Vl.W_mAnd, Vl.W_mOr, Vl.W_mIf, Vl.W_mB, Vl.chT_ff, Vl.chT_tt, Vl.chT_dec, Vl.W_mCh, Vl.W_mCons, Vl.W_mNil, Vl.W_mLst, Vl.W_mTup, Vl.W_m1, Vl.W_m2, Vl.W_m2s, Vl.W_mIx, Vl.W_mPart, Vl.W_mNoP, Vl.W_mSl, Vl.W_mRev, Vl.W_mRevX, Vl.W_mStp, Vl.revD_lst, Vl.revD_tup, Vl.W_mFC, Vl.W_mSC, Vl.W_mJoin, Vl.W_mDic0, Vl.W_mXA, Vl.W_mExc, Vl.W_mExcI, Vl.W_mCall, Vl.W_mCall0, Vl.W_mCallIo, Vl.W_ioTmp, Vl.W_ioLoc, Vl.W_mApp, Vl.W_mSkip, Vl.W_mBreak, Vl.W_mCont, Vl.W_mRetN, Vl.W_mYes, Vl.W_mSeq, Vl.W_mIfS, Vl.W_mExpr, Vl.W_mSet, Vl.rtP_tmp, Vl.rtP_loc, Vl.W_mRet, Vl.W_mRaiseI, Vl.W_mTry, Vl.W_mSetIx, Vl.W_mAsg, Vl.W_mPar, Vl.W_mPar3, Vl.W_mIt, Vl.W_mRng, Vl.W_mEnum, Vl.W_mEnumX, Vl.enA_lst, Vl.enA_tup, Vl.W_mZip, Vl.W_mFor, Vl.W_mLc, Vl.W_runC, Vl.W_runI, Vl.avBl_bl, Vl.avStr_str, Vl.avExc_exc, Vl.tInt_int, Vl.dInt_int, Vl.dBl_bl, Vl.dLst_lst, Vl.one1_one, Vl.hdtl_cons, Vl.two2_two, Vl.thr3_thr, Vl.slL_lst, Vl.nrm_nil, Vl.nrm_tmp, Vl.nrm_loc, Vl.pk_nil, Vl.pk_cons, Vl.er_fro, Vl.er_lst, Vl.er_dic0, Vl.erL_nil, Vl.erL_cons, Vl.erL_app, Vl.erL_map, Vl.nr_fro, Vl.nr_lst, Vl.nr_dic, Vl.nrL_nil, Vl.nrL_cons, Vl.nrL_fro, Vl.hd_non, Vl.hd_bl, Vl.hd_int, Vl.hd_str, Vl.hd_tup, Vl.hd_lst, Vl.hd_dic, Vl.hd_exc, Vl.hdL_nil, Vl.hdL_cons, Vl.hdL_app, Vl.fl_non, Vl.fl_bl, Vl.fl_int, Vl.fl_str, Vl.fl_tup, Vl.fl_lst, Vl.fl_dic, Vl.fl_exc, Vl.tru_non, Vl.tru_bl, Vl.tru_int, Vl.tru_tup, Vl.tru_lst, Vl.not_bl, Vl.not_non, Vl.neg_int, Vl.le_int, Vl.lt_int, Vl.ge_int, Vl.gt_int, Vl.lt_str, Vl.le_str, Vl.gt_str, Vl.ge_str, Vl.sub_int, Vl.mod_int, Vl.div_int, Vl.pow_int, Vl.mul_int, Vl.mul_lst, Vl.mul_str, Vl.add_int, Vl.add_str, Vl.add_lst, Vl.add_tup, Vl.is_non, Vl.is_bl, Vl.is_int, Vl.is_str, Vl.is_tup, Vl.is_lst, Vl.is_exc, Vl.isn_non, Vl.isn_bl, Vl.isn_int, Vl.isn_str, Vl.isn_tup, Vl.isn_lst, Vl.isn_exc, Vl.eq_int, Vl.ne_int, Vl.eq_str, Vl.ne_str, Vl.eq_bl, Vl.eq_tup0, Vl.len_lst, Vl.len_tup, Vl.len_str, Vl.min_int, Vl.max_int, Vl.abs_int, Vl.all_lst, Vl.any_lst, Vl.sum_lst, Vl.lof_lst, Vl.lof_tup, Vl.tof_lst, Vl.tof_tup, Vl.ix_lst, Vl.ix_tup, Vl.sl_lst, Vl.sl_tup, Vl.sl_str, Vl.at_0, Vl.at_1, Vl.at_2, Vl.at_3, Vl.at_4, Vl.at_5, Vl.at_6, Vl.at_7, Vl.at_8, Vl.vw_fro, Vl.vw_lst, Vl.vw_loc, Vl.vwT_fro, Vl.vwT_lst, Vl.fa_nil, Vl.fa_cons, Vl.fa_lst, Vl.fa_map, Vl.fa_app, Vl.its_lst, Vl.its_tup, Vl.its_str, Vl.tr_lst, Vl.tr_tup, Vl.tr_str, Vl.tr_int, Vl.tr_bl, Vl.tr_non, Vl.tgN_eq, Vl.tgT_eq, Vl.tgC_eq, Vl.tgNil_eq, Vl.wipe_nil, Vl.wipe_cons, Vl.bls_nil, Vl.bls_cons, Vl.bls_map, Vl.ints_map, Vl.strs_map, Vl.obnd_some, Vl.rng1, Vl.rng2, Vl.zip_lst, Vl.zip_tup, Vl.nd_tup, Vl.nd_int, Vl.nd_str, Vl.ndL_nil, Vl.ndL_cons, Vl.dv_int, Vl.dv_str, Vl.mRaiseA, Vl.W_mRaise, Vl.repr_bl, Vl.repr_non, List.flatten_cons, List.flatten_nil, List.append_nil, List.map_cons, List.map_nil, List.getElem?_cons_zero, List.getElem?_cons_succ, List.set_cons_zero, List.set_cons_succ, List.length_cons, List.length_nil, List.replicate_succ, List.replicate_zero, List.cons_append, List.nil_append, List.append_assoc, List.not_mem_nil, List.length_map, List.isEmpty_cons, List.isEmpty_nil, List.all_cons, List.all_nil, List.any_cons, List.any_nil, Bool.not_true, Bool.not_false, Bool.not_not, Bool.true_and, Bool.and_true, Bool.false_and, Bool.and_false, Bool.true_or, Bool.false_or, id_eq, if_true, if_false, ↓reduceIte, Bool.false_eq_true, Option.map_some, Option.map_none, Option.bind_some, decide_eq_true_eq, decide_true, decide_false, true_and, and_true, and_self, not_true_eq_false, not_false_eq_true, Nat.reduceAdd, Nat.reduceSub, Nat.reduceLeDiff, Nat.reduceLT, Nat.reduceEqDiff, Nat.reduceBEq, Int.reduceAdd, Int.reduceSub, Int.reduceNeg, Int.reduceLE, Int.reduceLT, Int.reduceBEq, Int.reduceBNe, Int.reduceEq, Int.reduceToNat, Nat.zero_add, Int.cast_ofNat_Int, beq_self_eq_true, ite_self, eq_self, ne_eq, Vl.ixn_1_0, Vl.ixn_2_0, Vl.ixn_2_1, Vl.ixn_3_0, Vl.ixn_3_1, Vl.ixn_3_2, Vl.ixn_4_0, Vl.ixn_4_1, Vl.ixn_4_2, Vl.ixn_4_3, Vl.ixn_5_0, Vl.ixn_5_1, Vl.ixn_5_2, Vl.ixn_5_3, Vl.ixn_5_4, Vl.ixn_6_0, Vl.ixn_6_1, Vl.ixn_6_2, Vl.ixn_6_3, Vl.ixn_6_4, Vl.ixn_6_5, Vl.ixn_7_0, Vl.ixn_7_1, Vl.ixn_7_2, Vl.ixn_7_3, Vl.ixn_7_4, Vl.ixn_7_5, Vl.ixn_7_6, Vl.ixn_8_0, Vl.ixn_8_1, Vl.ixn_8_2, Vl.ixn_8_3, Vl.ixn_8_4, Vl.ixn_8_5, Vl.ixn_8_6, Vl.ixn_8_7, Vl.ixn_9_0, Vl.ixn_9_1, Vl.ixn_9_2, Vl.ixn_9_3, Vl.ixn_9_4, Vl.ixn_9_5, Vl.ixn_9_6, Vl.ixn_9_7, Vl.ixn_9_8, Vl.ixn_10_0, Vl.ixn_10_1, Vl.ixn_10_2, Vl.ixn_10_3, Vl.ixn_10_4, Vl.ixn_10_5, Vl.ixn_10_6, Vl.ixn_10_7, Vl.ixn_10_8, Vl.ixn_10_9, Vl.ixn_11_0, Vl.ixn_11_1, Vl.ixn_11_2, Vl.ixn_11_3, Vl.ixn_11_4, Vl.ixn_11_5, Vl.ixn_11_6, Vl.ixn_11_7, Vl.ixn_11_8, Vl.ixn_11_9, Vl.ixn_11_10, Vl.ixn_12_0, Vl.ixn_12_1, Vl.ixn_12_2, Vl.ixn_12_3, Vl.ixn_12_4, Vl.ixn_12_5, Vl.ixn_12_6, Vl.ixn_12_7, Vl.ixn_12_8, Vl.ixn_12_9, Vl.ixn_12_10, Vl.ixn_12_11, e_isi0_non, e_isi0_bl, e_isi0_int, e_isi0_str, e_isi0_tup, e_isi0_lst, e_isi0_dic, e_isi1_non, e_isi1_bl, e_isi1_int, e_isi1_str, e_isi1_tup, e_isi1_lst, e_isi1_dic, e_isi2_non, e_isi2_bl, e_isi2_int, e_isi2_str, e_isi2_tup, e_isi2_lst, e_isi2_dic, e_isi3_non, e_isi3_bl, e_isi3_int, e_isi3_str, e_isi3_tup, e_isi3_lst, e_isi3_dic, e_isi4_non, e_isi4_bl, e_isi4_int, e_isi4_str, e_isi4_tup, e_isi4_lst, e_isi4_dic, exa_BondError, exa_BadDay, exa_BadName, exa_BadRules, exa_BadStretch, exa_BadNumber, lk_part_0])
local macro_rules | `(tactic| k_subL) => `(tactic| try simp only [Vl.WP_ok, Vl.WP_er, Vl.OP_some, Vl.WC_ok, Vl.WC_er, Vl.WI_ok, Vl.WI_er, Vl.FlE_nx, Vl.FlE_bk, Vl.FlE_ct, Vl.FlE_rt, Vl.WP_ite, Vl.OP_ite, Vl.WP_obind, Vl.WP_sbind, Vl.OP_map, Vl.cEnv_eq, Vl.W_mC, Vl.W_mV, Vl.AVs_fro, Vl.AVs_lst, Vl.AVs_dic, Vl.slO_some, Vl.get_tmp, Vl.get_loc, Vl.fz_tmp, Vl.fz_loc, Vl.W_mT, Vl.W_mAndT, Vl.W_mOrT, Vl.W_mNotT, Vl.W_mAnd, Vl.W_mOr, Vl.W_mIf, Vl.W_mB, Vl.chT_ff, Vl.chT_tt, Vl.chT_dec, Vl.W_mCh, Vl.W_mCons, Vl.W_mNil, Vl.W_mLst, Vl.W_mTup, Vl.W_m1, Vl.W_m2, Vl.W_m2s, Vl.W_mIx, Vl.W_mPart, Vl.W_mNoP, Vl.W_mSl, Vl.W_mRev, Vl.W_mRevX, Vl.W_mStp, Vl.revD_lst, Vl.revD_tup, Vl.W_mFC, Vl.W_mSC, Vl.W_mJoin, Vl.W_mDic0, Vl.W_mXA, Vl.W_mExc, Vl.W_mExcI, Vl.W_mCall, Vl.W_mCall0, Vl.W_mCallIo, Vl.W_ioTmp, Vl.W_ioLoc, Vl.W_mApp, Vl.W_mSkip, Vl.W_mBreak, Vl.W_mCont, Vl.W_mRetN, Vl.W_mYes, Vl.W_mSeq, Vl.W_mIfS, Vl.W_mExpr, Vl.W_mSet, Vl.rtP_tmp, Vl.rtP_loc, Vl.W_mRet, Vl.W_mRaiseI, Vl.W_mTry, Vl.W_mSetIx, Vl.W_mAsg, Vl.W_mPar, Vl.W_mPar3, Vl.W_mIt, Vl.W_mRng, Vl.W_mEnum, Vl.W_mEnumX, Vl.enA_lst, Vl.enA_tup, Vl.W_mZip, Vl.W_mFor, Vl.W_mLc, Vl.W_runC, Vl.W_runI, Vl.avBl_bl, Vl.avStr_str, Vl.avExc_exc, Vl.tInt_int, Vl.dInt_int, Vl.dBl_bl, Vl.dLst_lst, Vl.one1_one, Vl.hdtl_cons, Vl.two2_two, Vl.thr3_thr, Vl.slL_lst, Vl.nrm_nil, Vl.nrm_tmp, Vl.nrm_loc, Vl.pk_nil, Vl.pk_cons, Vl.er_fro, Vl.er_lst, Vl.er_dic0, Vl.erL_nil, Vl.erL_cons, Vl.erL_app, Vl.erL_map, Vl.nr_fro, Vl.nr_lst, Vl.nr_dic, Vl.nrL_nil, Vl.nrL_cons, Vl.nrL_fro, Vl.hd_non, Vl.hd_bl, Vl.hd_int, Vl.hd_str, Vl.hd_tup, Vl.hd_lst, Vl.hd_dic, Vl.hd_exc, Vl.hdL_nil, Vl.hdL_cons, Vl.hdL_app, Vl.fl_non, Vl.fl_bl, Vl.fl_int, Vl.fl_str, Vl.fl_tup, Vl.fl_lst, Vl.fl_dic, Vl.fl_exc, Vl.tru_non, Vl.tru_bl, Vl.tru_int, Vl.tru_tup, Vl.tru_lst, Vl.not_bl, Vl.not_non, Vl.neg_int, Vl.le_int, Vl.lt_int, Vl.ge_int, Vl.gt_int, Vl.lt_str, Vl.le_str, Vl.gt_str, Vl.ge_str, Vl.sub_int, Vl.mod_int, Vl.div_int, Vl.pow_int, Vl.mul_int, Vl.mul_lst, Vl.mul_str, Vl.add_int, Vl.add_str, Vl.add_lst, Vl.add_tup, Vl.is_non, Vl.is_bl, Vl.is_int, Vl.is_str, Vl.is_tup, Vl.is_lst, Vl.is_exc, Vl.isn_non, Vl.isn_bl, Vl.isn_int, Vl.isn_str, Vl.isn_tup, Vl.isn_lst, Vl.isn_exc, Vl.eq_int, Vl.ne_int, Vl.eq_str, Vl.ne_str, Vl.eq_bl, Vl.eq_tup0, Vl.len_lst, Vl.len_tup, Vl.len_str, Vl.min_int, Vl.max_int, Vl.abs_int, Vl.all_lst, Vl.any_lst, Vl.sum_lst, Vl.lof_lst, Vl.lof_tup, Vl.tof_lst, Vl.tof_tup, Vl.ix_lst, Vl.ix_tup, Vl.sl_lst, Vl.sl_tup, Vl.sl_str, Vl.at_0, Vl.at_1, Vl.at_2, Vl.at_3, Vl.at_4, Vl.at_5, Vl.at_6, Vl.at_7, Vl.at_8, Vl.vw_fro, Vl.vw_lst, Vl.vw_loc, Vl.vwT_fro, Vl.vwT_lst, Vl.fa_nil, Vl.fa_cons, Vl.fa_lst, Vl.fa_map, Vl.fa_app, Vl.its_lst, Vl.its_tup, Vl.its_str, Vl.tr_lst, Vl.tr_tup, Vl.tr_str, Vl.tr_int, Vl.tr_bl, Vl.tr_non, Vl.tgN_eq, Vl.tgT_eq, Vl.tgC_eq, Vl.tgNil_eq, Vl.wipe_nil, Vl.wipe_cons, Vl.bls_nil, Vl.bls_cons, Vl.bls_map, Vl.ints_map, Vl.strs_map, Vl.obnd_some, Vl.rng1, Vl.rng2, Vl.zip_lst, Vl.zip_tup, Vl.nd_tup, Vl.nd_int, Vl.nd_str, Vl.ndL_nil, Vl.ndL_cons, Vl.dv_int, Vl.dv_str, Vl.mRaiseA, Vl.W_mRaise, Vl.repr_bl, Vl.repr_non, List.flatten_cons, List.flatten_nil, List.append_nil, List.map_cons, List.map_nil, List.getElem?_cons_zero, List.getElem?_cons_succ, List.set_cons_zero, List.set_cons_succ, List.length_cons, List.length_nil, List.replicate_succ, List.replicate_zero, List.cons_append, List.nil_append, List.append_assoc, List.not_mem_nil, List.length_map, List.isEmpty_cons, List.isEmpty_nil, List.all_cons, List.all_nil, List.any_cons, List.any_nil, Bool.not_true, Bool.not_false, Bool.not_not, Bool.true_and, Bool.and_true, Bool.false_and, Bool.and_false, Bool.true_or, Bool.false_or, id_eq, if_true, if_false, ↓reduceIte, Bool.false_eq_true, Option.map_some, Option.map_none, Option.bind_some, decide_eq_true_eq, decide_true, decide_false, true_and, and_true, and_self, not_true_eq_false, not_false_eq_true, Nat.reduceAdd, Nat.reduceSub, Nat.reduceLeDiff, Nat.reduceLT, Nat.reduceEqDiff, Nat.reduceBEq, Int.reduceAdd, Int.reduceSub, Int.reduceNeg, Int.reduceLE, Int.reduceLT, Int.reduceBEq, Int.reduceBNe, Int.reduceEq, Int.reduceToNat, Nat.zero_add, Int.cast_ofNat_Int, beq_self_eq_true, ite_self, eq_self, ne_eq, Vl.ixn_1_0, Vl.ixn_2_0, Vl.ixn_2_1, Vl.ixn_3_0, Vl.ixn_3_1, Vl.ixn_3_2, Vl.ixn_4_0, Vl.ixn_4_1, Vl.ixn_4_2, Vl.ixn_4_3, Vl.ixn_5_0, Vl.ixn_5_1, Vl.ixn_5_2, Vl.ixn_5_3, Vl.ixn_5_4, Vl.ixn_6_0, Vl.ixn_6_1, Vl.ixn_6_2, Vl.ixn_6_3, Vl.ixn_6_4, Vl.ixn_6_5, Vl.ixn_7_0, Vl.ixn_7_1, Vl.ixn_7_2, Vl.ixn_7_3, Vl.ixn_7_4, Vl.ixn_7_5, Vl.ixn_7_6, Vl.ixn_8_0, Vl.ixn_8_1, Vl.ixn_8_2, Vl.ixn_8_3, Vl.ixn_8_4, Vl.ixn_8_5, Vl.ixn_8_6, Vl.ixn_8_7, Vl.ixn_9_0, Vl.ixn_9_1, Vl.ixn_9_2, Vl.ixn_9_3, Vl.ixn_9_4, Vl.ixn_9_5, Vl.ixn_9_6, Vl.ixn_9_7, Vl.ixn_9_8, Vl.ixn_10_0, Vl.ixn_10_1, Vl.ixn_10_2, Vl.ixn_10_3, Vl.ixn_10_4, Vl.ixn_10_5, Vl.ixn_10_6, Vl.ixn_10_7, Vl.ixn_10_8, Vl.ixn_10_9, Vl.ixn_11_0, Vl.ixn_11_1, Vl.ixn_11_2, Vl.ixn_11_3, Vl.ixn_11_4, Vl.ixn_11_5, Vl.ixn_11_6, Vl.ixn_11_7, Vl.ixn_11_8, Vl.ixn_11_9, Vl.ixn_11_10, Vl.ixn_12_0, Vl.ixn_12_1, Vl.ixn_12_2, Vl.ixn_12_3, Vl.ixn_12_4, Vl.ixn_12_5, Vl.ixn_12_6, Vl.ixn_12_7, Vl.ixn_12_8, Vl.ixn_12_9, Vl.ixn_12_10, Vl.ixn_12_11, e_isi0_non, e_isi0_bl, e_isi0_int, e_isi0_str, e_isi0_tup, e_isi0_lst, e_isi0_dic, e_isi1_non, e_isi1_bl, e_isi1_int, e_isi1_str, e_isi1_tup, e_isi1_lst, e_isi1_dic, e_isi2_non, e_isi2_bl, e_isi2_int, e_isi2_str, e_isi2_tup, e_isi2_lst, e_isi2_dic, e_isi3_non, e_isi3_bl, e_isi3_int, e_isi3_str, e_isi3_tup, e_isi3_lst, e_isi3_dic, e_isi4_non, e_isi4_bl, e_isi4_int, e_isi4_str, e_isi4_tup, e_isi4_lst, e_isi4_dic, exa_BondError, exa_BadDay, exa_BadName, exa_BadRules, exa_BadStretch, exa_BadNumber, lk_part_0, Vl.W_lc_cons, Vl.W_lc_nil, Vl.W_loop_cons, Vl.W_loop_nil])

def rgF : Nat → Nat → List D
  | _, 0 => []
  | k, n + 1 => .int (k : Int) :: rgF (k + 1) n
theorem rngD_gen : ∀ (n k : Nat), (List.range' k n).map (fun i : Nat => D.int (0 + (i : Int))) = rgF k n
  | 0, _ => rfl
  | n + 1, k => by
    rw [List.range'_succ, List.map_cons, rngD_gen n (k + 1), rgF, Int.zero_add]
theorem rngD_rgF {m : Int} : rngD 0 m = rgF 0 m.toNat := by
  unfold rngD
  rw [List.range_eq_range', rngD_gen, show (m - 0).toNat = m.toNat by omega]
theorem NamesL.drop {zs : List Str} (h : NamesL zs) (n : Nat) : NamesL (zs.drop n) := ⟨fun z hz => h.1 z (List.mem_of_mem_drop hz), h.2.sublist (List.drop_sublist n zs)⟩
theorem nd_ints (l : List Int) : ndL (l.map D.int) = true := by
  rw [ndL_mem]; intro d hd
  obtain ⟨p, _, rfl⟩ := List.mem_map.mp hd
  rfl
theorem dpt_ints (l : List Int) : dptL (l.map D.int) ≤ 0 := by
  rw [dptL_le]; intro d hd
  obtain ⟨p, _, rfl⟩ := List.mem_map.mp hd
  exact (by decide : (0 : Nat) ≤ 0)
theorem eq_ints {l : List Int} : gEqX (.lst (l.map D.int)) (.lst (l.map D.int)) = some (.bl true) :=
  gEqX_self (by rw [nd]; exact nd_ints l) (by have := dpt_ints l; rw [dpt]; omega)
theorem comp_names {zs : List Str} {g : Str → Int} : List.map (fun r => match r with | .str z => T.fro (.int (g z)) | _ => T.fro .non) (List.filter (fun _ => true) (zs.map D.str)) = ((zs.map g).map D.int).map T.fro := by
  rw [List.filter_eq_self.mpr (fun _ _ => rfl), List.map_map, List.map_map, List.map_map]; rfl
theorem mod8 {a : Int} (h : 0 ≤ a) : 0 ≤ a % 8 ∧ a % 8 < 8 := ⟨Int.emod_nonneg _ (by decide), Int.emod_lt_of_pos _ (by decide)⟩
theorem rules_right_w {l : List T} {J : Int} (hs : Sm J l) (hJ : J ≤ 700000) {K : T → T → Prop} {E : Exn → T → Prop} (H : ∀ l', Sm (J + 300) l' → K (.fro (.bl true)) (.lst l')) : WI (F__law_rules_right [.lst l]) K E := by
  unfold F__law_rules_right m__law_rules_right
  k_places
  refine take_w hs (by omega) (by decide) (by decide) fun r1 l1 hs1 a0 a1 => ?_
  k_places
  refine names_by_w hs1 (by omega) (by omega) (by omega) fun zs l2 hz hzl hs2 => ?_
  k_places
  rw [cut_hi' (by omega), show (1 : Int).toNat = 1 from rfl, ← List.map_drop]
  have hzd := hz.drop 1
  refine rules_by9_w hs2 (by omega) hzd (by rw [List.length_drop]; omega) fun d1 xs1 l3 hr1 hx1 hs3 => ?_
  k_places
  refine rules_by9_w hs3 (by omega) hz (by omega) fun d2 xs2 l4 hr2 hx2 hs4 => ?_
  k_places
  refine take_w hs4 (by omega) (by decide) (by decide) fun f l5 hs5 b0 b1 => ?_
  k_places
  rw [rngD_rgF]
  obtain ⟨A, rfl, hA, ndA⟩ := hr1.tup
  obtain ⟨B, rfl, hB, ndB⟩ := hr2.tup
  have rlB := hr2.rl
  obtain ⟨_, ptB⟩ := rl_parts rlB
  have tmB := hr2.tm
  refine W_loopI (fun pre post ρ => ∃ (k n : Nat) (F : List D) (y6 : Option T), k + n = 8 ∧ post = rgF k n ∧ F.length = 8 ∧ isRl (.tup F) = true ∧ Tm (250 + 300 * k) 3 (.tup F) ∧ (∀ i : Nat, i < k → F[((f + i) % 8).toNat]? = B[((f + i) % 8).toNat]?) ∧
    ρ = [some (.lst l5), some (.fro (.lst (zs.map D.str))), some (.fro (.tup A)), some (.fro (.tup B)), some (.fro (.tup F)), some (.fro (.int f)), y6, none, none]) (pre := []) ?_ ?_ ?_
  · exact ⟨0, 8, A, _, rfl, rfl, hA, hr1.rl, hr1.tm, fun i hi => by omega, rfl⟩
  · rintro pre d post ρ ⟨k, n, F, y6, hkn, hp, hF, hFr, hFt, hFi, rfl⟩
    cases n with
    | zero => cases hp
    | succ n =>
      rw [rgF] at hp
      cases hp
      have hm := mod8 (a := f + (k : Int)) (by omega)
      obtain ⟨e, he⟩ : ∃ e, B[((f + k) % 8).toNat]? = some e := by
        rw [List.getElem?_eq_getElem (by omega)]; exact ⟨_, rfl⟩
      have heT : Tm 250 2 e := by
        obtain ⟨_, _, q⟩ := tmB.items
        obtain ⟨q1, q2, q3⟩ := q e (List.mem_of_getElem? he)
        exact ⟨q1, by omega, by omega⟩
      have c1 : cMod (f + k) 8 = true := rfl
      k_places
      simp only [c1]
      k_places
      refine OP_ix hm.1 (by omega) fun x hx => ?_
      rw [he] at hx
      cases hx
      k_places
      rw [with_part_w (j := ((f + k) % 8).toNat) (by omega) hFt (by omega) hFr (by omega) heT (by decide), if_pos (ptB _ _ he)]
      k_places
      refine ⟨k + 1, n, _, _, by omega, rfl, by rw [List.length_set]; exact hF, ?_, (set_tm hFt heT (by omega)).mono (by omega) (Nat.le_refl _), fun i hi => ?_, rfl⟩
      · rw [(rl_set hFr (by omega)).2.2]; exact ptB _ _ he
      · rw [List.getElem?_set]
        by_cases q : ((f + k) % 8).toNat = ((f + i) % 8).toNat
        · rw [if_pos q, if_pos (by omega), ← q, he]
        · rw [if_neg q]
          exact hFi i (by
            rcases Nat.lt_or_ge i k with z | z
            · exact z
            · have : i = k := by omega
              subst this; exact absurd rfl q)
  · rintro pre ρ ⟨k, n, F, y6, hkn, hp, hF, hFr, hFt, hFi, rfl⟩
    cases n with
    | succ n => cases hp
    | zero =>
      have hk : k = 8 := by omega
      subst hk
      have hFB : F = B := by
        refine List.ext_getElem? fun i => ?_
        by_cases hi : i < 8
        · have := hFi (((i : Int) - f) % 8).toNat (by have := mod8 (a := (i : Int) + 8 - f) (by omega); omega)
          rw [show ((f + (((i : Int) - f) % 8).toNat) % 8).toNat = i by omega] at this
          exact this
        · rw [List.getElem?_eq_none (by omega), List.getElem?_eq_none (by omega)]
      subst hFB
      have hne : gNe (.tup F) (.tup F) = some (.bl false) := gNe_self ndB (by have := tmB.2.2; omega)
      obtain ⟨z0, hz0, hat⟩ : ∃ z0, NameS z0 ∧ atI (zs.map D.str) 0 = some (.str z0) := by
        cases zs with
        | nil => have := hzl.2 (by omega); simp at this
        | cons z0 zr => exact ⟨z0, hz.1 z0 (by simp), by rw [List.map_cons]; exact Vl.at_0⟩
      have hzm : (zs.map D.str).length ≤ 9 := by rw [List.length_map]; omega
      k_places
      rw [hne]
      k_places
      refine W_lc_map (fun _ => true) (fun r => match r with | .str z => .fro (.int (shV xs2 z0 z)) | _ => .fro .non) (by simp only [List.length_nil]; omega) (fun r hr' => ?_) ?_
      · obtain ⟨z, hz', rfl⟩ := List.mem_map.mp hr'
        k_places
        rw [hat]
        k_places
        refine share_of_w hr2 hz0 (hz.1 z hz') ?_
        k_places
      rw [List.nil_append, comp_names]
      k_places
      refine W_lc_map (fun _ => true) (fun r => match r with | .str z => .fro (.int (shV xs2 z0 z)) | _ => .fro .non) (by simp only [List.length_nil]; omega) (fun r hr' => ?_) ?_
      · obtain ⟨z, hz', rfl⟩ := List.mem_map.mp hr'
        k_places
        rw [hat]
        k_places
        refine share_of_w hr2 hz0 (hz.1 z hz') ?_
        k_places
      rw [List.nil_append, comp_names]
      k_places
      rw [eq_ints]
      k_places
      exact H _ (hs5.mono (by omega))

theorem zip_can : ∀ {l : List (Int × Int)}, Can l → ∀ d ∈ zipD (l.map Vl.pairD) ((l.map Vl.pairD).drop 1), ∃ p q : Int × Int, d = .tup [.tup [.int p.1, .int p.2], .tup [.int q.1, .int q.2]] ∧ p.2 < q.1
  | [], _, d, h => by cases h
  | [p], _, d, h => by cases h
  | p :: q :: l, c, d, h => by
    obtain ⟨a1, a2, a3⟩ := c.tl
    have e : zipD ((p :: q :: l).map Vl.pairD) (((p :: q :: l).map Vl.pairD).drop 1) = .tup [Vl.pairD p, Vl.pairD q] :: zipD ((q :: l).map Vl.pairD) (((q :: l).map Vl.pairD).drop 1) := by
      unfold zipD; rfl
    rw [e] at h
    rcases List.mem_cons.mp h with rfl | h
    · exact ⟨p, q, rfl, a2 q (by simp)⟩
    · exact zip_can a3 d h
local macro_rules | `(tactic| k_places) => `(tactic| try simp only [Vl.WP_ok, Vl.WP_er, Vl.OP_some, Vl.WC_ok, Vl.WC_er, Vl.WI_ok, Vl.WI_er, Vl.FlE_nx, Vl.FlE_bk, Vl.FlE_ct, Vl.FlE_rt, Vl.WP_ite, Vl.OP_ite, Vl.WP_obind, Vl.WP_sbind, Vl.OP_map, Vl.cEnv_eq, Vl.W_mC, Vl.W_mV, Vl.AVs_fro, Vl.AVs_lst, Vl.AVs_dic, Vl.slO_some, Vl.get_tmp, Vl.get_loc, Vl.fz_tmp, Vl.fz_loc, Vl.W_mT, Vl.W_mAndT, Vl.W_mOrT, Vl.W_mNotT, Vl.W_mAnd, Vl.W_mOr, Vl.W_mIf, Vl.W_mB, Vl.chT_ff, Vl.chT_tt, Vl.chT_dec, Vl.W_mCh, Vl.W_mCons, Vl.W_mNil, Vl.W_mLst, Vl.W_mTup, Vl.W_m1, Vl.W_m2, Vl.W_m2s, Vl.W_mIx, Vl.W_mPart, Vl.W_mNoP, Vl.W_mSl, Vl.W_mRev, Vl.W_mRevX, Vl.W_mStp, Vl.revD_lst, Vl.revD_tup, Vl.W_mFC, Vl.W_mSC, Vl.W_mJoin, Vl.W_mDic0, Vl.W_mXA, Vl.W_mExc, Vl.W_mExcI, Vl.W_mCall, Vl.W_mCall0, Vl.W_mCallIo, Vl.W_ioTmp, Vl.W_ioLoc, Vl.W_mApp, Vl.W_mSkip, Vl.W_mBreak, Vl.W_mCont, Vl.W_mRetN, Vl.W_mYes, Vl.W_mSeq, Vl.W_mIfS, Vl.W_mExpr, Vl.W_mSet, Vl.rtP_tmp, Vl.rtP_loc, Vl.W_mRet, Vl.W_mRaiseI, Vl.W_mTry, Vl.W_mSetIx, Vl.W_mAsg, Vl.W_mPar, Vl.W_mPar3, Vl.W_mIt, Vl.W_mRng, Vl.W_mEnum, Vl.W_mEnumX, Vl.enA_lst, Vl.enA_tup, Vl.W_mZip, Vl.W_mFor, Vl.W_mLc, Vl.W_runC, Vl.W_runI, Vl.avBl_bl, Vl.avStr_str, Vl.avExc_exc, Vl.tInt_int, Vl.dInt_int, Vl.dBl_bl, Vl.dLst_lst, Vl.one1_one, Vl.hdtl_cons, Vl.two2_two, Vl.thr3_thr, Vl.slL_lst, Vl.nrm_nil, Vl.nrm_tmp, Vl.nrm_loc, Vl.pk_nil, Vl.pk_cons, Vl.er_fro, Vl.er_lst, Vl.er_dic0, Vl.erL_nil, Vl.erL_cons, Vl.erL_app, Vl.erL_map, Vl.nr_fro, Vl.nr_lst, Vl.nr_dic, Vl.nrL_nil, Vl.nrL_cons, Vl.nrL_fro, Vl.hd_non, Vl.hd_bl, Vl.hd_int, Vl.hd_str, Vl.hd_tup, Vl.hd_lst, Vl.hd_dic, Vl.hd_exc, Vl.hdL_nil, Vl.hdL_cons, Vl.hdL_app, Vl.fl_non, Vl.fl_bl, Vl.fl_int, Vl.fl_str, Vl.fl_tup, Vl.fl_lst, Vl.fl_dic, Vl.fl_exc, Vl.tru_non, Vl.tru_bl, Vl.tru_int, Vl.tru_tup, Vl.tru_lst, Vl.not_bl, Vl.not_non, Vl.neg_int, Vl.le_int, Vl.lt_int, Vl.ge_int, Vl.gt_int, Vl.lt_str, Vl.le_str, Vl.gt_str, Vl.ge_str, Vl.sub_int, Vl.mod_int, Vl.div_int, Vl.pow_int, Vl.mul_int, Vl.mul_lst, Vl.mul_str, Vl.add_int, Vl.add_str, Vl.add_lst, Vl.add_tup, Vl.is_non, Vl.is_bl, Vl.is_int, Vl.is_str, Vl.is_tup, Vl.is_lst, Vl.is_exc, Vl.isn_non, Vl.isn_bl, Vl.isn_int, Vl.isn_str, Vl.isn_tup, Vl.isn_lst, Vl.isn_exc, Vl.eq_int, Vl.ne_int, Vl.eq_str, Vl.ne_str, Vl.eq_bl, Vl.eq_tup0, Vl.len_lst, Vl.len_tup, Vl.len_str, Vl.min_int, Vl.max_int, Vl.abs_int, Vl.all_lst, Vl.any_lst, Vl.sum_lst, Vl.lof_lst, Vl.lof_tup, Vl.tof_lst, Vl.tof_tup, Vl.ix_lst, Vl.ix_tup, Vl.sl_lst, Vl.sl_tup, Vl.sl_str, Vl.at_0, Vl.at_1, Vl.at_2, Vl.at_3, Vl.at_4, Vl.at_5, Vl.at_6, Vl.at_7, Vl.at_8, Vl.vw_fro, Vl.vw_lst, Vl.vw_loc, Vl.vwT_fro, Vl.vwT_lst, Vl.fa_nil, Vl.fa_cons, Vl.fa_lst, Vl.fa_map, Vl.fa_app, Vl.its_lst, Vl.its_tup, Vl.its_str, Vl.tr_lst, Vl.tr_tup, Vl.tr_str, Vl.tr_int, Vl.tr_bl, Vl.tr_non, Vl.tgN_eq, Vl.tgT_eq, Vl.tgC_eq, Vl.tgNil_eq, Vl.wipe_nil, Vl.wipe_cons, Vl.bls_nil, Vl.bls_cons, Vl.bls_map, Vl.ints_map, Vl.strs_map, Vl.obnd_some, Vl.rng1, Vl.rng2, Vl.zip_lst, Vl.zip_tup, Vl.nd_tup, Vl.nd_int, Vl.nd_str, Vl.ndL_nil, Vl.ndL_cons, Vl.dv_int, Vl.dv_str, Vl.mRaiseA, Vl.W_mRaise, Vl.repr_bl, Vl.repr_non, List.flatten_cons, List.flatten_nil, List.append_nil, List.map_cons, List.map_nil, List.getElem?_cons_zero, List.getElem?_cons_succ, List.set_cons_zero, List.set_cons_succ, List.length_cons, List.length_nil, List.replicate_succ, List.replicate_zero, List.cons_append, List.nil_append, List.append_assoc, List.not_mem_nil, List.length_map, List.isEmpty_cons, List.isEmpty_nil, List.all_cons, List.all_nil, List.any_cons, List.any_nil, Bool.not_true, Bool.not_false, Bool.not_not, Bool.true_and, Bool.and_true, Bool.false_and, Bool.and_false, Bool.true_or, Bool.false_or, id_eq, if_true, if_false, ↓reduceIte, Bool.false_eq_true, Option.map_some, Option.map_none, Option.bind_some, decide_eq_true_eq, decide_true, decide_false, true_and, and_true, and_self, not_true_eq_false, not_false_eq_true, Nat.reduceAdd, Nat.reduceSub, Nat.reduceLeDiff, Nat.reduceLT, Nat.reduceEqDiff, Nat.reduceBEq, Int.reduceAdd, Int.reduceSub, Int.reduceNeg, Int.reduceLE, Int.reduceLT, Int.reduceBEq, Int.reduceBNe, Int.reduceEq, Int.reduceToNat, Nat.zero_add, Int.cast_ofNat_Int, beq_self_eq_true, ite_self, eq_self, ne_eq, Vl.ixn_1_0, Vl.ixn_2_0, Vl.ixn_2_1, Vl.ixn_3_0, Vl.ixn_3_1, Vl.ixn_3_2, Vl.ixn_4_0, Vl.ixn_4_1, Vl.ixn_4_2, Vl.ixn_4_3, Vl.ixn_5_0, Vl.ixn_5_1, Vl.ixn_5_2, Vl.ixn_5_3, Vl.ixn_5_4, Vl.ixn_6_0, Vl.ixn_6_1, Vl.ixn_6_2, Vl.ixn_6_3, Vl.ixn_6_4, Vl.ixn_6_5, Vl.ixn_7_0, Vl.ixn_7_1, Vl.ixn_7_2, Vl.ixn_7_3, Vl.ixn_7_4, Vl.ixn_7_5, Vl.ixn_7_6, Vl.ixn_8_0, Vl.ixn_8_1, Vl.ixn_8_2, Vl.ixn_8_3, Vl.ixn_8_4, Vl.ixn_8_5, Vl.ixn_8_6, Vl.ixn_8_7, Vl.ixn_9_0, Vl.ixn_9_1, Vl.ixn_9_2, Vl.ixn_9_3, Vl.ixn_9_4, Vl.ixn_9_5, Vl.ixn_9_6, Vl.ixn_9_7, Vl.ixn_9_8, Vl.ixn_10_0, Vl.ixn_10_1, Vl.ixn_10_2, Vl.ixn_10_3, Vl.ixn_10_4, Vl.ixn_10_5, Vl.ixn_10_6, Vl.ixn_10_7, Vl.ixn_10_8, Vl.ixn_10_9, Vl.ixn_11_0, Vl.ixn_11_1, Vl.ixn_11_2, Vl.ixn_11_3, Vl.ixn_11_4, Vl.ixn_11_5, Vl.ixn_11_6, Vl.ixn_11_7, Vl.ixn_11_8, Vl.ixn_11_9, Vl.ixn_11_10, Vl.ixn_12_0, Vl.ixn_12_1, Vl.ixn_12_2, Vl.ixn_12_3, Vl.ixn_12_4, Vl.ixn_12_5, Vl.ixn_12_6, Vl.ixn_12_7, Vl.ixn_12_8, Vl.ixn_12_9, Vl.ixn_12_10, Vl.ixn_12_11, e_isi0_non, e_isi0_bl, e_isi0_int, e_isi0_str, e_isi0_tup, e_isi0_lst, e_isi0_dic, e_isi1_non, e_isi1_bl, e_isi1_int, e_isi1_str, e_isi1_tup, e_isi1_lst, e_isi1_dic, e_isi2_non, e_isi2_bl, e_isi2_int, e_isi2_str, e_isi2_tup, e_isi2_lst, e_isi2_dic, e_isi3_non, e_isi3_bl, e_isi3_int, e_isi3_str, e_isi3_tup, e_isi3_lst, e_isi3_dic, e_isi4_non, e_isi4_bl, e_isi4_int, e_isi4_str, e_isi4_tup, e_isi4_lst, e_isi4_dic, exa_BondError, exa_BadDay, exa_BadName, exa_BadRules, exa_BadStretch, exa_BadNumber, lk_part_0, hard_pairs, neS, neX_rows])
local macro_rules | `(tactic| k_clsL) => `(tactic| simp only [Vl.WP_ok, Vl.WP_er, Vl.OP_some, Vl.WC_ok, Vl.WC_er, Vl.WI_ok, Vl.WI_er, Vl.FlE_nx, Vl.FlE_bk, Vl.FlE_ct, Vl.FlE_rt, Vl.WP_ite, Vl.OP_ite, Vl.WP_obind, Vl.WP_sbind, Vl.OP_map, Vl.cEnv_eq, Vl.W_mC, Vl.W_mV, Vl.AVs_fro, Vl.AVs_lst, Vl.AVs_dic, Vl.slO_some, Vl.get_tmp, Vl.get_loc, Vl.fz_tmp, Vl.fz_loc, Vl.W_mT, Vl.W_mAndT, Vl.W_mOrT, Vl.W_mNotT, Vl.W_mAnd, Vl.W_mOr, Vl.W_mIf, Vl.W_mB, Vl.chT_ff, Vl.chT_tt, Vl.chT_dec, Vl.W_mCh, Vl.W_mCons, Vl.W_mNil, Vl.W_mLst, Vl.W_mTup, Vl.W_m1, Vl.W_m2, Vl.W_m2s, Vl.W_mIx, Vl.W_mPart, Vl.W_mNoP, Vl.W_mSl, Vl.W_mRev, Vl.W_mRevX, Vl.W_mStp, Vl.revD_lst, Vl.revD_tup, Vl.W_mFC, Vl.W_mSC, Vl.W_mJoin, Vl.W_mDic0, Vl.W_mXA, Vl.W_mExc, Vl.W_mExcI, Vl.W_mCall, Vl.W_mCall0, Vl.W_mCallIo, Vl.W_ioTmp, Vl.W_ioLoc, Vl.W_mApp, Vl.W_mSkip, Vl.W_mBreak, Vl.W_mCont, Vl.W_mRetN, Vl.W_mYes, Vl.W_mSeq, Vl.W_mIfS, Vl.W_mExpr, Vl.W_mSet, Vl.rtP_tmp, Vl.rtP_loc, Vl.W_mRet, Vl.W_mRaiseI, Vl.W_mTry, Vl.W_mSetIx, Vl.W_mAsg, Vl.W_mPar, Vl.W_mPar3, Vl.W_mIt, Vl.W_mRng, Vl.W_mEnum, Vl.W_mEnumX, Vl.enA_lst, Vl.enA_tup, Vl.W_mZip, Vl.W_mFor, Vl.W_mLc, Vl.W_runC, Vl.W_runI, Vl.avBl_bl, Vl.avStr_str, Vl.avExc_exc, Vl.tInt_int, Vl.dInt_int, Vl.dBl_bl, Vl.dLst_lst, Vl.one1_one, Vl.hdtl_cons, Vl.two2_two, Vl.thr3_thr, Vl.slL_lst, Vl.nrm_nil, Vl.nrm_tmp, Vl.nrm_loc, Vl.pk_nil, Vl.pk_cons, Vl.er_fro, Vl.er_lst, Vl.er_dic0, Vl.erL_nil, Vl.erL_cons, Vl.erL_app, Vl.erL_map, Vl.nr_fro, Vl.nr_lst, Vl.nr_dic, Vl.nrL_nil, Vl.nrL_cons, Vl.nrL_fro, Vl.hd_non, Vl.hd_bl, Vl.hd_int, Vl.hd_str, Vl.hd_tup, Vl.hd_lst, Vl.hd_dic, Vl.hd_exc, Vl.hdL_nil, Vl.hdL_cons, Vl.hdL_app, Vl.fl_non, Vl.fl_bl, Vl.fl_int, Vl.fl_str, Vl.fl_tup, Vl.fl_lst, Vl.fl_dic, Vl.fl_exc, Vl.tru_non, Vl.tru_bl, Vl.tru_int, Vl.tru_tup, Vl.tru_lst, Vl.not_bl, Vl.not_non, Vl.neg_int, Vl.le_int, Vl.lt_int, Vl.ge_int, Vl.gt_int, Vl.lt_str, Vl.le_str, Vl.gt_str, Vl.ge_str, Vl.sub_int, Vl.mod_int, Vl.div_int, Vl.pow_int, Vl.mul_int, Vl.mul_lst, Vl.mul_str, Vl.add_int, Vl.add_str, Vl.add_lst, Vl.add_tup, Vl.is_non, Vl.is_bl, Vl.is_int, Vl.is_str, Vl.is_tup, Vl.is_lst, Vl.is_exc, Vl.isn_non, Vl.isn_bl, Vl.isn_int, Vl.isn_str, Vl.isn_tup, Vl.isn_lst, Vl.isn_exc, Vl.eq_int, Vl.ne_int, Vl.eq_str, Vl.ne_str, Vl.eq_bl, Vl.eq_tup0, Vl.len_lst, Vl.len_tup, Vl.len_str, Vl.min_int, Vl.max_int, Vl.abs_int, Vl.all_lst, Vl.any_lst, Vl.sum_lst, Vl.lof_lst, Vl.lof_tup, Vl.tof_lst, Vl.tof_tup, Vl.ix_lst, Vl.ix_tup, Vl.sl_lst, Vl.sl_tup, Vl.sl_str, Vl.at_0, Vl.at_1, Vl.at_2, Vl.at_3, Vl.at_4, Vl.at_5, Vl.at_6, Vl.at_7, Vl.at_8, Vl.vw_fro, Vl.vw_lst, Vl.vw_loc, Vl.vwT_fro, Vl.vwT_lst, Vl.fa_nil, Vl.fa_cons, Vl.fa_lst, Vl.fa_map, Vl.fa_app, Vl.its_lst, Vl.its_tup, Vl.its_str, Vl.tr_lst, Vl.tr_tup, Vl.tr_str, Vl.tr_int, Vl.tr_bl, Vl.tr_non, Vl.tgN_eq, Vl.tgT_eq, Vl.tgC_eq, Vl.tgNil_eq, Vl.wipe_nil, Vl.wipe_cons, Vl.bls_nil, Vl.bls_cons, Vl.bls_map, Vl.ints_map, Vl.strs_map, Vl.obnd_some, Vl.rng1, Vl.rng2, Vl.zip_lst, Vl.zip_tup, Vl.nd_tup, Vl.nd_int, Vl.nd_str, Vl.ndL_nil, Vl.ndL_cons, Vl.dv_int, Vl.dv_str, Vl.mRaiseA, Vl.W_mRaise, Vl.repr_bl, Vl.repr_non, List.flatten_cons, List.flatten_nil, List.append_nil, List.map_cons, List.map_nil, List.getElem?_cons_zero, List.getElem?_cons_succ, List.set_cons_zero, List.set_cons_succ, List.length_cons, List.length_nil, List.replicate_succ, List.replicate_zero, List.cons_append, List.nil_append, List.append_assoc, List.not_mem_nil, List.length_map, List.isEmpty_cons, List.isEmpty_nil, List.all_cons, List.all_nil, List.any_cons, List.any_nil, Bool.not_true, Bool.not_false, Bool.not_not, Bool.true_and, Bool.and_true, Bool.false_and, Bool.and_false, Bool.true_or, Bool.false_or, id_eq, if_true, if_false, ↓reduceIte, Bool.false_eq_true, Option.map_some, Option.map_none, Option.bind_some, decide_eq_true_eq, decide_true, decide_false, true_and, and_true, and_self, not_true_eq_false, not_false_eq_true, Nat.reduceAdd, Nat.reduceSub, Nat.reduceLeDiff, Nat.reduceLT, Nat.reduceEqDiff, Nat.reduceBEq, Int.reduceAdd, Int.reduceSub, Int.reduceNeg, Int.reduceLE, Int.reduceLT, Int.reduceBEq, Int.reduceBNe, Int.reduceEq, Int.reduceToNat, Nat.zero_add, Int.cast_ofNat_Int, beq_self_eq_true, ite_self, eq_self, ne_eq, Vl.ixn_1_0, Vl.ixn_2_0, Vl.ixn_2_1, Vl.ixn_3_0, Vl.ixn_3_1, Vl.ixn_3_2, Vl.ixn_4_0, Vl.ixn_4_1, Vl.ixn_4_2, Vl.ixn_4_3, Vl.ixn_5_0, Vl.ixn_5_1, Vl.ixn_5_2, Vl.ixn_5_3, Vl.ixn_5_4, Vl.ixn_6_0, Vl.ixn_6_1, Vl.ixn_6_2, Vl.ixn_6_3, Vl.ixn_6_4, Vl.ixn_6_5, Vl.ixn_7_0, Vl.ixn_7_1, Vl.ixn_7_2, Vl.ixn_7_3, Vl.ixn_7_4, Vl.ixn_7_5, Vl.ixn_7_6, Vl.ixn_8_0, Vl.ixn_8_1, Vl.ixn_8_2, Vl.ixn_8_3, Vl.ixn_8_4, Vl.ixn_8_5, Vl.ixn_8_6, Vl.ixn_8_7, Vl.ixn_9_0, Vl.ixn_9_1, Vl.ixn_9_2, Vl.ixn_9_3, Vl.ixn_9_4, Vl.ixn_9_5, Vl.ixn_9_6, Vl.ixn_9_7, Vl.ixn_9_8, Vl.ixn_10_0, Vl.ixn_10_1, Vl.ixn_10_2, Vl.ixn_10_3, Vl.ixn_10_4, Vl.ixn_10_5, Vl.ixn_10_6, Vl.ixn_10_7, Vl.ixn_10_8, Vl.ixn_10_9, Vl.ixn_11_0, Vl.ixn_11_1, Vl.ixn_11_2, Vl.ixn_11_3, Vl.ixn_11_4, Vl.ixn_11_5, Vl.ixn_11_6, Vl.ixn_11_7, Vl.ixn_11_8, Vl.ixn_11_9, Vl.ixn_11_10, Vl.ixn_12_0, Vl.ixn_12_1, Vl.ixn_12_2, Vl.ixn_12_3, Vl.ixn_12_4, Vl.ixn_12_5, Vl.ixn_12_6, Vl.ixn_12_7, Vl.ixn_12_8, Vl.ixn_12_9, Vl.ixn_12_10, Vl.ixn_12_11, e_isi0_non, e_isi0_bl, e_isi0_int, e_isi0_str, e_isi0_tup, e_isi0_lst, e_isi0_dic, e_isi1_non, e_isi1_bl, e_isi1_int, e_isi1_str, e_isi1_tup, e_isi1_lst, e_isi1_dic, e_isi2_non, e_isi2_bl, e_isi2_int, e_isi2_str, e_isi2_tup, e_isi2_lst, e_isi2_dic, e_isi3_non, e_isi3_bl, e_isi3_int, e_isi3_str, e_isi3_tup, e_isi3_lst, e_isi3_dic, e_isi4_non, e_isi4_bl, e_isi4_int, e_isi4_str, e_isi4_tup, e_isi4_lst, e_isi4_dic, exa_BondError, exa_BadDay, exa_BadName, exa_BadRules, exa_BadStretch, exa_BadNumber, lk_part_0, hard_pairs, neS, neX_rows])
local macro_rules | `(tactic| k_subL) => `(tactic| try simp only [Vl.WP_ok, Vl.WP_er, Vl.OP_some, Vl.WC_ok, Vl.WC_er, Vl.WI_ok, Vl.WI_er, Vl.FlE_nx, Vl.FlE_bk, Vl.FlE_ct, Vl.FlE_rt, Vl.WP_ite, Vl.OP_ite, Vl.WP_obind, Vl.WP_sbind, Vl.OP_map, Vl.cEnv_eq, Vl.W_mC, Vl.W_mV, Vl.AVs_fro, Vl.AVs_lst, Vl.AVs_dic, Vl.slO_some, Vl.get_tmp, Vl.get_loc, Vl.fz_tmp, Vl.fz_loc, Vl.W_mT, Vl.W_mAndT, Vl.W_mOrT, Vl.W_mNotT, Vl.W_mAnd, Vl.W_mOr, Vl.W_mIf, Vl.W_mB, Vl.chT_ff, Vl.chT_tt, Vl.chT_dec, Vl.W_mCh, Vl.W_mCons, Vl.W_mNil, Vl.W_mLst, Vl.W_mTup, Vl.W_m1, Vl.W_m2, Vl.W_m2s, Vl.W_mIx, Vl.W_mPart, Vl.W_mNoP, Vl.W_mSl, Vl.W_mRev, Vl.W_mRevX, Vl.W_mStp, Vl.revD_lst, Vl.revD_tup, Vl.W_mFC, Vl.W_mSC, Vl.W_mJoin, Vl.W_mDic0, Vl.W_mXA, Vl.W_mExc, Vl.W_mExcI, Vl.W_mCall, Vl.W_mCall0, Vl.W_mCallIo, Vl.W_ioTmp, Vl.W_ioLoc, Vl.W_mApp, Vl.W_mSkip, Vl.W_mBreak, Vl.W_mCont, Vl.W_mRetN, Vl.W_mYes, Vl.W_mSeq, Vl.W_mIfS, Vl.W_mExpr, Vl.W_mSet, Vl.rtP_tmp, Vl.rtP_loc, Vl.W_mRet, Vl.W_mRaiseI, Vl.W_mTry, Vl.W_mSetIx, Vl.W_mAsg, Vl.W_mPar, Vl.W_mPar3, Vl.W_mIt, Vl.W_mRng, Vl.W_mEnum, Vl.W_mEnumX, Vl.enA_lst, Vl.enA_tup, Vl.W_mZip, Vl.W_mFor, Vl.W_mLc, Vl.W_runC, Vl.W_runI, Vl.avBl_bl, Vl.avStr_str, Vl.avExc_exc, Vl.tInt_int, Vl.dInt_int, Vl.dBl_bl, Vl.dLst_lst, Vl.one1_one, Vl.hdtl_cons, Vl.two2_two, Vl.thr3_thr, Vl.slL_lst, Vl.nrm_nil, Vl.nrm_tmp, Vl.nrm_loc, Vl.pk_nil, Vl.pk_cons, Vl.er_fro, Vl.er_lst, Vl.er_dic0, Vl.erL_nil, Vl.erL_cons, Vl.erL_app, Vl.erL_map, Vl.nr_fro, Vl.nr_lst, Vl.nr_dic, Vl.nrL_nil, Vl.nrL_cons, Vl.nrL_fro, Vl.hd_non, Vl.hd_bl, Vl.hd_int, Vl.hd_str, Vl.hd_tup, Vl.hd_lst, Vl.hd_dic, Vl.hd_exc, Vl.hdL_nil, Vl.hdL_cons, Vl.hdL_app, Vl.fl_non, Vl.fl_bl, Vl.fl_int, Vl.fl_str, Vl.fl_tup, Vl.fl_lst, Vl.fl_dic, Vl.fl_exc, Vl.tru_non, Vl.tru_bl, Vl.tru_int, Vl.tru_tup, Vl.tru_lst, Vl.not_bl, Vl.not_non, Vl.neg_int, Vl.le_int, Vl.lt_int, Vl.ge_int, Vl.gt_int, Vl.lt_str, Vl.le_str, Vl.gt_str, Vl.ge_str, Vl.sub_int, Vl.mod_int, Vl.div_int, Vl.pow_int, Vl.mul_int, Vl.mul_lst, Vl.mul_str, Vl.add_int, Vl.add_str, Vl.add_lst, Vl.add_tup, Vl.is_non, Vl.is_bl, Vl.is_int, Vl.is_str, Vl.is_tup, Vl.is_lst, Vl.is_exc, Vl.isn_non, Vl.isn_bl, Vl.isn_int, Vl.isn_str, Vl.isn_tup, Vl.isn_lst, Vl.isn_exc, Vl.eq_int, Vl.ne_int, Vl.eq_str, Vl.ne_str, Vl.eq_bl, Vl.eq_tup0, Vl.len_lst, Vl.len_tup, Vl.len_str, Vl.min_int, Vl.max_int, Vl.abs_int, Vl.all_lst, Vl.any_lst, Vl.sum_lst, Vl.lof_lst, Vl.lof_tup, Vl.tof_lst, Vl.tof_tup, Vl.ix_lst, Vl.ix_tup, Vl.sl_lst, Vl.sl_tup, Vl.sl_str, Vl.at_0, Vl.at_1, Vl.at_2, Vl.at_3, Vl.at_4, Vl.at_5, Vl.at_6, Vl.at_7, Vl.at_8, Vl.vw_fro, Vl.vw_lst, Vl.vw_loc, Vl.vwT_fro, Vl.vwT_lst, Vl.fa_nil, Vl.fa_cons, Vl.fa_lst, Vl.fa_map, Vl.fa_app, Vl.its_lst, Vl.its_tup, Vl.its_str, Vl.tr_lst, Vl.tr_tup, Vl.tr_str, Vl.tr_int, Vl.tr_bl, Vl.tr_non, Vl.tgN_eq, Vl.tgT_eq, Vl.tgC_eq, Vl.tgNil_eq, Vl.wipe_nil, Vl.wipe_cons, Vl.bls_nil, Vl.bls_cons, Vl.bls_map, Vl.ints_map, Vl.strs_map, Vl.obnd_some, Vl.rng1, Vl.rng2, Vl.zip_lst, Vl.zip_tup, Vl.nd_tup, Vl.nd_int, Vl.nd_str, Vl.ndL_nil, Vl.ndL_cons, Vl.dv_int, Vl.dv_str, Vl.mRaiseA, Vl.W_mRaise, Vl.repr_bl, Vl.repr_non, List.flatten_cons, List.flatten_nil, List.append_nil, List.map_cons, List.map_nil, List.getElem?_cons_zero, List.getElem?_cons_succ, List.set_cons_zero, List.set_cons_succ, List.length_cons, List.length_nil, List.replicate_succ, List.replicate_zero, List.cons_append, List.nil_append, List.append_assoc, List.not_mem_nil, List.length_map, List.isEmpty_cons, List.isEmpty_nil, List.all_cons, List.all_nil, List.any_cons, List.any_nil, Bool.not_true, Bool.not_false, Bool.not_not, Bool.true_and, Bool.and_true, Bool.false_and, Bool.and_false, Bool.true_or, Bool.false_or, id_eq, if_true, if_false, ↓reduceIte, Bool.false_eq_true, Option.map_some, Option.map_none, Option.bind_some, decide_eq_true_eq, decide_true, decide_false, true_and, and_true, and_self, not_true_eq_false, not_false_eq_true, Nat.reduceAdd, Nat.reduceSub, Nat.reduceLeDiff, Nat.reduceLT, Nat.reduceEqDiff, Nat.reduceBEq, Int.reduceAdd, Int.reduceSub, Int.reduceNeg, Int.reduceLE, Int.reduceLT, Int.reduceBEq, Int.reduceBNe, Int.reduceEq, Int.reduceToNat, Nat.zero_add, Int.cast_ofNat_Int, beq_self_eq_true, ite_self, eq_self, ne_eq, Vl.ixn_1_0, Vl.ixn_2_0, Vl.ixn_2_1, Vl.ixn_3_0, Vl.ixn_3_1, Vl.ixn_3_2, Vl.ixn_4_0, Vl.ixn_4_1, Vl.ixn_4_2, Vl.ixn_4_3, Vl.ixn_5_0, Vl.ixn_5_1, Vl.ixn_5_2, Vl.ixn_5_3, Vl.ixn_5_4, Vl.ixn_6_0, Vl.ixn_6_1, Vl.ixn_6_2, Vl.ixn_6_3, Vl.ixn_6_4, Vl.ixn_6_5, Vl.ixn_7_0, Vl.ixn_7_1, Vl.ixn_7_2, Vl.ixn_7_3, Vl.ixn_7_4, Vl.ixn_7_5, Vl.ixn_7_6, Vl.ixn_8_0, Vl.ixn_8_1, Vl.ixn_8_2, Vl.ixn_8_3, Vl.ixn_8_4, Vl.ixn_8_5, Vl.ixn_8_6, Vl.ixn_8_7, Vl.ixn_9_0, Vl.ixn_9_1, Vl.ixn_9_2, Vl.ixn_9_3, Vl.ixn_9_4, Vl.ixn_9_5, Vl.ixn_9_6, Vl.ixn_9_7, Vl.ixn_9_8, Vl.ixn_10_0, Vl.ixn_10_1, Vl.ixn_10_2, Vl.ixn_10_3, Vl.ixn_10_4, Vl.ixn_10_5, Vl.ixn_10_6, Vl.ixn_10_7, Vl.ixn_10_8, Vl.ixn_10_9, Vl.ixn_11_0, Vl.ixn_11_1, Vl.ixn_11_2, Vl.ixn_11_3, Vl.ixn_11_4, Vl.ixn_11_5, Vl.ixn_11_6, Vl.ixn_11_7, Vl.ixn_11_8, Vl.ixn_11_9, Vl.ixn_11_10, Vl.ixn_12_0, Vl.ixn_12_1, Vl.ixn_12_2, Vl.ixn_12_3, Vl.ixn_12_4, Vl.ixn_12_5, Vl.ixn_12_6, Vl.ixn_12_7, Vl.ixn_12_8, Vl.ixn_12_9, Vl.ixn_12_10, Vl.ixn_12_11, e_isi0_non, e_isi0_bl, e_isi0_int, e_isi0_str, e_isi0_tup, e_isi0_lst, e_isi0_dic, e_isi1_non, e_isi1_bl, e_isi1_int, e_isi1_str, e_isi1_tup, e_isi1_lst, e_isi1_dic, e_isi2_non, e_isi2_bl, e_isi2_int, e_isi2_str, e_isi2_tup, e_isi2_lst, e_isi2_dic, e_isi3_non, e_isi3_bl, e_isi3_int, e_isi3_str, e_isi3_tup, e_isi3_lst, e_isi3_dic, e_isi4_non, e_isi4_bl, e_isi4_int, e_isi4_str, e_isi4_tup, e_isi4_lst, e_isi4_dic, exa_BondError, exa_BadDay, exa_BadName, exa_BadRules, exa_BadStretch, exa_BadNumber, lk_part_0, hard_pairs, neS, neX_rows, Vl.W_lc_cons, Vl.W_lc_nil, Vl.W_loop_cons, Vl.W_loop_nil])
theorem law_w (F : FSem) (hF : F = F_law) (ns : List Int) (hn : ns.length ≤ 63) {K : T → Prop} {E : Exn → Prop} (H : K (.fro (.bl true))) : WC (F [.fro (.lst (ns.map D.int))]) K E := by
  rw [hF]
  unfold F_law m_law
  k_places
  rw [if_pos (by omega)]
  k_places
  generalize hS : (D.lst (ns.map D.int)) = S
  have hc := cells hn
  refine W_loop (fun ρ => ∃ (x1 x2 x3 x4 x5 x6 x7 x8 x9 : Option T), ρ = [some (.fro S), x1, x2, x3, x4, x5, x6, x7, x8, x9]) ⟨_, _, _, _, _, _, _, _, _, rfl⟩ ?_ ?_
  · rintro d hd ρ ⟨x1, x2, x3, x4, x5, x6, x7, x8, x9, rfl⟩
    obtain ⟨k, c, rfl, k0, k1⟩ := hc d hd
    k_places
    refine stream_w k0 (by omega) fun l hs => ?_
    k_places
    refine rows_by_w hs (by omega) fun ps l1 hs1 hp1 hp2 => ?_
    unfold prs
    k_places
    rw [joined_w (.inl rfl) (by omega) hp2]
    unfold prs
    rw [show (isort leP ps).foldl jn [] = jr ps from rfl]
    obtain ⟨j1, j2, j3⟩ := jr_ok ps
    have hj := okP_jr hp2
    have hjj : jr (jr ps) = jr ps := by
      obtain ⟨b1, b2, _⟩ := jr_ok (jr ps)
      exact can_uni b1 j1 b2
    generalize jr ps = Jn at *
    k_places
    refine day_by_w hs1 (by omega) fun dd l2 hs2 d0 d1 => ?_
    k_places
    refine W_loopI (fun pre post ρ => ∃ (a b : List (Int × Int)) (ds : List Int) (y7 : Option T), ps = a ++ b ∧ post = b.map Vl.pairD ∧ (∀ d ∈ ds, 0 ≤ d ∧ d ≤ 99999) ∧ ds.length = 3 + 3 * a.length ∧ ρ = [some (.fro S), some (.fro (.int k)), some (.fro (.int c)), some (.lst l2), some (.fro (.lst (ps.map Vl.pairD))), some (.lst ((Jn.map Vl.pairD).map T.fro)), some (.lst ((ds.map D.int).map T.fro)), y7, x8, x9]) (pre := []) ?_ ?_ ?_
    · refine ⟨[], ps, [0, 99999, dd], _, rfl, rfl, fun d hd => ?_, rfl, rfl⟩
      simp only [List.mem_cons, List.not_mem_nil, or_false] at hd
      rcases hd with rfl | rfl | rfl <;> omega
    · rintro pre d post ρ ⟨a, b, ds, y7, h1, h2, h3, h4, rfl⟩
      cases b with
      | nil => cases h2
      | cons p b =>
        cases h2
        have hp := hp2 p (by rw [h1]; simp)
        have hal : a.length ≤ 8 := by rw [h1, List.length_append] at hp1; omega
        obtain ⟨g1, g2, g3, g4⟩ := hp
        rw [show Vl.pairD p = .tup [.int p.1, .int p.2] from rfl]
        k_places
        rw [if_pos (by omega)]
        k_places
        have hm : ∀ x y z : Int, ds.map D.int ++ [D.int x, D.int y, D.int z] = (ds ++ [x, y, z]).map D.int := fun x y z => by simp
        rw [hm]
        refine ⟨a ++ [p], b, _, _, by rw [h1]; simp, rfl, fun d hd => ?_, by rw [List.length_append, List.length_append, h4]; simp; omega, rfl⟩
        rcases List.mem_append.mp hd with z | z
        · exact h3 d z
        · simp only [List.mem_cons, List.not_mem_nil, or_false] at z
          rcases z with rfl | rfl | rfl <;> (constructor <;> (try split) <;> omega)
    · rintro pre ρ ⟨a, b, ds, y7, h1, h2, h3, h4, rfl⟩
      have hdl : ds.length ≤ 100 := by
        have := congrArg List.length h1
        rw [List.length_append] at this
        omega
      k_places
      rw [days_right_w hp2 hj (by omega) (by omega) j2 h3]
      k_places
      rw [counts_right_w hp2 hj (by omega) (by omega) j1 j2]
      k_places
      rw [joined_w (.inl rfl) (by omega) hj]
      unfold prs
      rw [show (isort leP Jn).foldl jn [] = jr Jn from rfl, hjj]
      k_places
      refine rules_right_w hs2 (by omega) fun l3 hs3 => ?_
      k_places
      rw [cut_hi' (by omega), show (1 : Int).toNat = 1 from rfl]
      refine W_lc_map (fun _ => false) (fun _ => .fro .non) (by rw [Vl.zipD_len, List.length_map]; simp; omega) (fun r hr => ?_) ?_
      · obtain ⟨p, q, rfl, hpq⟩ := zip_can j1 r hr
        k_places
        have : ¬ q.1 ≤ p.2 := by omega
        simp only [this]
        k_places
      rw [List.filter_eq_nil_iff.mpr (fun _ _ => by decide)]
      k_places
      exact ⟨_, _, _, _, _, _, _, _, _, rfl⟩
  · rintro ρ ⟨x1, x2, x3, x4, x5, x6, x7, x8, x9, rfl⟩
    k_places
    exact H
local macro_rules | `(tactic| k_places) => `(tactic| try simp only [Vl.WP_ok, Vl.WP_er, Vl.OP_some, Vl.WC_ok, Vl.WC_er, Vl.WI_ok, Vl.WI_er, Vl.FlE_nx, Vl.FlE_bk, Vl.FlE_ct, Vl.FlE_rt, Vl.WP_ite, Vl.OP_ite, Vl.WP_obind, Vl.WP_sbind, Vl.OP_map, Vl.cEnv_eq, Vl.W_mC, Vl.W_mV, Vl.AVs_fro, Vl.AVs_lst, Vl.AVs_dic, Vl.slO_some, Vl.get_tmp, Vl.get_loc, Vl.fz_tmp, Vl.fz_loc, Vl.W_mT, Vl.W_mAndT, Vl.W_mOrT, Vl.W_mNotT, Vl.W_mAnd, Vl.W_mOr, Vl.W_mIf, Vl.W_mB, Vl.chT_ff, Vl.chT_tt, Vl.chT_dec, Vl.W_mCh, Vl.W_mCons, Vl.W_mNil, Vl.W_mLst, Vl.W_mTup, Vl.W_m1, Vl.W_m2, Vl.W_m2s, Vl.W_mIx, Vl.W_mPart, Vl.W_mNoP, Vl.W_mSl, Vl.W_mRev, Vl.W_mRevX, Vl.W_mStp, Vl.revD_lst, Vl.revD_tup, Vl.W_mFC, Vl.W_mSC, Vl.W_mJoin, Vl.W_mDic0, Vl.W_mXA, Vl.W_mExc, Vl.W_mExcI, Vl.W_mCall, Vl.W_mCall0, Vl.W_mCallIo, Vl.W_ioTmp, Vl.W_ioLoc, Vl.W_mApp, Vl.W_mSkip, Vl.W_mBreak, Vl.W_mCont, Vl.W_mRetN, Vl.W_mYes, Vl.W_mSeq, Vl.W_mIfS, Vl.W_mExpr, Vl.W_mSet, Vl.rtP_tmp, Vl.rtP_loc, Vl.W_mRet, Vl.W_mRaiseI, Vl.W_mTry, Vl.W_mSetIx, Vl.W_mAsg, Vl.W_mPar, Vl.W_mPar3, Vl.W_mIt, Vl.W_mRng, Vl.W_mEnum, Vl.W_mEnumX, Vl.enA_lst, Vl.enA_tup, Vl.W_mZip, Vl.W_mFor, Vl.W_mLc, Vl.W_runC, Vl.W_runI, Vl.avBl_bl, Vl.avStr_str, Vl.avExc_exc, Vl.tInt_int, Vl.dInt_int, Vl.dBl_bl, Vl.dLst_lst, Vl.one1_one, Vl.hdtl_cons, Vl.two2_two, Vl.thr3_thr, Vl.slL_lst, Vl.nrm_nil, Vl.nrm_tmp, Vl.nrm_loc, Vl.pk_nil, Vl.pk_cons, Vl.er_fro, Vl.er_lst, Vl.er_dic0, Vl.erL_nil, Vl.erL_cons, Vl.erL_app, Vl.erL_map, Vl.nr_fro, Vl.nr_lst, Vl.nr_dic, Vl.nrL_nil, Vl.nrL_cons, Vl.nrL_fro, Vl.hd_non, Vl.hd_bl, Vl.hd_int, Vl.hd_str, Vl.hd_tup, Vl.hd_lst, Vl.hd_dic, Vl.hd_exc, Vl.hdL_nil, Vl.hdL_cons, Vl.hdL_app, Vl.fl_non, Vl.fl_bl, Vl.fl_int, Vl.fl_str, Vl.fl_tup, Vl.fl_lst, Vl.fl_dic, Vl.fl_exc, Vl.tru_non, Vl.tru_bl, Vl.tru_int, Vl.tru_tup, Vl.tru_lst, Vl.not_bl, Vl.not_non, Vl.neg_int, Vl.le_int, Vl.lt_int, Vl.ge_int, Vl.gt_int, Vl.lt_str, Vl.le_str, Vl.gt_str, Vl.ge_str, Vl.sub_int, Vl.mod_int, Vl.div_int, Vl.pow_int, Vl.mul_int, Vl.mul_lst, Vl.mul_str, Vl.add_int, Vl.add_str, Vl.add_lst, Vl.add_tup, Vl.is_non, Vl.is_bl, Vl.is_int, Vl.is_str, Vl.is_tup, Vl.is_lst, Vl.is_exc, Vl.isn_non, Vl.isn_bl, Vl.isn_int, Vl.isn_str, Vl.isn_tup, Vl.isn_lst, Vl.isn_exc, Vl.eq_int, Vl.ne_int, Vl.eq_str, Vl.ne_str, Vl.eq_bl, Vl.eq_tup0, Vl.len_lst, Vl.len_tup, Vl.len_str, Vl.min_int, Vl.max_int, Vl.abs_int, Vl.all_lst, Vl.any_lst, Vl.sum_lst, Vl.lof_lst, Vl.lof_tup, Vl.tof_lst, Vl.tof_tup, Vl.ix_lst, Vl.ix_tup, Vl.sl_lst, Vl.sl_tup, Vl.sl_str, Vl.at_0, Vl.at_1, Vl.at_2, Vl.at_3, Vl.at_4, Vl.at_5, Vl.at_6, Vl.at_7, Vl.at_8, Vl.vw_fro, Vl.vw_lst, Vl.vw_loc, Vl.vwT_fro, Vl.vwT_lst, Vl.fa_nil, Vl.fa_cons, Vl.fa_lst, Vl.fa_map, Vl.fa_app, Vl.its_lst, Vl.its_tup, Vl.its_str, Vl.tr_lst, Vl.tr_tup, Vl.tr_str, Vl.tr_int, Vl.tr_bl, Vl.tr_non, Vl.tgN_eq, Vl.tgT_eq, Vl.tgC_eq, Vl.tgNil_eq, Vl.wipe_nil, Vl.wipe_cons, Vl.bls_nil, Vl.bls_cons, Vl.bls_map, Vl.ints_map, Vl.strs_map, Vl.obnd_some, Vl.rng1, Vl.rng2, Vl.zip_lst, Vl.zip_tup, Vl.nd_tup, Vl.nd_int, Vl.nd_str, Vl.ndL_nil, Vl.ndL_cons, Vl.dv_int, Vl.dv_str, Vl.mRaiseA, Vl.W_mRaise, Vl.repr_bl, Vl.repr_non, List.flatten_cons, List.flatten_nil, List.append_nil, List.map_cons, List.map_nil, List.getElem?_cons_zero, List.getElem?_cons_succ, List.set_cons_zero, List.set_cons_succ, List.length_cons, List.length_nil, List.replicate_succ, List.replicate_zero, List.cons_append, List.nil_append, List.append_assoc, List.not_mem_nil, List.length_map, List.isEmpty_cons, List.isEmpty_nil, List.all_cons, List.all_nil, List.any_cons, List.any_nil, Bool.not_true, Bool.not_false, Bool.not_not, Bool.true_and, Bool.and_true, Bool.false_and, Bool.and_false, Bool.true_or, Bool.false_or, id_eq, if_true, if_false, ↓reduceIte, Bool.false_eq_true, Option.map_some, Option.map_none, Option.bind_some, decide_eq_true_eq, decide_true, decide_false, true_and, and_true, and_self, not_true_eq_false, not_false_eq_true, Nat.reduceAdd, Nat.reduceSub, Nat.reduceLeDiff, Nat.reduceLT, Nat.reduceEqDiff, Nat.reduceBEq, Int.reduceAdd, Int.reduceSub, Int.reduceNeg, Int.reduceLE, Int.reduceLT, Int.reduceBEq, Int.reduceBNe, Int.reduceEq, Int.reduceToNat, Nat.zero_add, Int.cast_ofNat_Int, beq_self_eq_true, ite_self, eq_self, ne_eq, Vl.ixn_1_0, Vl.ixn_2_0, Vl.ixn_2_1, Vl.ixn_3_0, Vl.ixn_3_1, Vl.ixn_3_2, Vl.ixn_4_0, Vl.ixn_4_1, Vl.ixn_4_2, Vl.ixn_4_3, Vl.ixn_5_0, Vl.ixn_5_1, Vl.ixn_5_2, Vl.ixn_5_3, Vl.ixn_5_4, Vl.ixn_6_0, Vl.ixn_6_1, Vl.ixn_6_2, Vl.ixn_6_3, Vl.ixn_6_4, Vl.ixn_6_5, Vl.ixn_7_0, Vl.ixn_7_1, Vl.ixn_7_2, Vl.ixn_7_3, Vl.ixn_7_4, Vl.ixn_7_5, Vl.ixn_7_6, Vl.ixn_8_0, Vl.ixn_8_1, Vl.ixn_8_2, Vl.ixn_8_3, Vl.ixn_8_4, Vl.ixn_8_5, Vl.ixn_8_6, Vl.ixn_8_7, Vl.ixn_9_0, Vl.ixn_9_1, Vl.ixn_9_2, Vl.ixn_9_3, Vl.ixn_9_4, Vl.ixn_9_5, Vl.ixn_9_6, Vl.ixn_9_7, Vl.ixn_9_8, Vl.ixn_10_0, Vl.ixn_10_1, Vl.ixn_10_2, Vl.ixn_10_3, Vl.ixn_10_4, Vl.ixn_10_5, Vl.ixn_10_6, Vl.ixn_10_7, Vl.ixn_10_8, Vl.ixn_10_9, Vl.ixn_11_0, Vl.ixn_11_1, Vl.ixn_11_2, Vl.ixn_11_3, Vl.ixn_11_4, Vl.ixn_11_5, Vl.ixn_11_6, Vl.ixn_11_7, Vl.ixn_11_8, Vl.ixn_11_9, Vl.ixn_11_10, Vl.ixn_12_0, Vl.ixn_12_1, Vl.ixn_12_2, Vl.ixn_12_3, Vl.ixn_12_4, Vl.ixn_12_5, Vl.ixn_12_6, Vl.ixn_12_7, Vl.ixn_12_8, Vl.ixn_12_9, Vl.ixn_12_10, Vl.ixn_12_11, e_isi0_non, e_isi0_bl, e_isi0_int, e_isi0_str, e_isi0_tup, e_isi0_lst, e_isi0_dic, e_isi1_non, e_isi1_bl, e_isi1_int, e_isi1_str, e_isi1_tup, e_isi1_lst, e_isi1_dic, e_isi2_non, e_isi2_bl, e_isi2_int, e_isi2_str, e_isi2_tup, e_isi2_lst, e_isi2_dic, e_isi3_non, e_isi3_bl, e_isi3_int, e_isi3_str, e_isi3_tup, e_isi3_lst, e_isi3_dic, e_isi4_non, e_isi4_bl, e_isi4_int, e_isi4_str, e_isi4_tup, e_isi4_lst, e_isi4_dic, exa_BondError, exa_BadDay, exa_BadName, exa_BadRules, exa_BadStretch, exa_BadNumber, lk_part_0])
local macro_rules | `(tactic| k_clsL) => `(tactic| simp only [Vl.WP_ok, Vl.WP_er, Vl.OP_some, Vl.WC_ok, Vl.WC_er, Vl.WI_ok, Vl.WI_er, Vl.FlE_nx, Vl.FlE_bk, Vl.FlE_ct, Vl.FlE_rt, Vl.WP_ite, Vl.OP_ite, Vl.WP_obind, Vl.WP_sbind, Vl.OP_map, Vl.cEnv_eq, Vl.W_mC, Vl.W_mV, Vl.AVs_fro, Vl.AVs_lst, Vl.AVs_dic, Vl.slO_some, Vl.get_tmp, Vl.get_loc, Vl.fz_tmp, Vl.fz_loc, Vl.W_mT, Vl.W_mAndT, Vl.W_mOrT, Vl.W_mNotT, Vl.W_mAnd, Vl.W_mOr, Vl.W_mIf, Vl.W_mB, Vl.chT_ff, Vl.chT_tt, Vl.chT_dec, Vl.W_mCh, Vl.W_mCons, Vl.W_mNil, Vl.W_mLst, Vl.W_mTup, Vl.W_m1, Vl.W_m2, Vl.W_m2s, Vl.W_mIx, Vl.W_mPart, Vl.W_mNoP, Vl.W_mSl, Vl.W_mRev, Vl.W_mRevX, Vl.W_mStp, Vl.revD_lst, Vl.revD_tup, Vl.W_mFC, Vl.W_mSC, Vl.W_mJoin, Vl.W_mDic0, Vl.W_mXA, Vl.W_mExc, Vl.W_mExcI, Vl.W_mCall, Vl.W_mCall0, Vl.W_mCallIo, Vl.W_ioTmp, Vl.W_ioLoc, Vl.W_mApp, Vl.W_mSkip, Vl.W_mBreak, Vl.W_mCont, Vl.W_mRetN, Vl.W_mYes, Vl.W_mSeq, Vl.W_mIfS, Vl.W_mExpr, Vl.W_mSet, Vl.rtP_tmp, Vl.rtP_loc, Vl.W_mRet, Vl.W_mRaiseI, Vl.W_mTry, Vl.W_mSetIx, Vl.W_mAsg, Vl.W_mPar, Vl.W_mPar3, Vl.W_mIt, Vl.W_mRng, Vl.W_mEnum, Vl.W_mEnumX, Vl.enA_lst, Vl.enA_tup, Vl.W_mZip, Vl.W_mFor, Vl.W_mLc, Vl.W_runC, Vl.W_runI, Vl.avBl_bl, Vl.avStr_str, Vl.avExc_exc, Vl.tInt_int, Vl.dInt_int, Vl.dBl_bl, Vl.dLst_lst, Vl.one1_one, Vl.hdtl_cons, Vl.two2_two, Vl.thr3_thr, Vl.slL_lst, Vl.nrm_nil, Vl.nrm_tmp, Vl.nrm_loc, Vl.pk_nil, Vl.pk_cons, Vl.er_fro, Vl.er_lst, Vl.er_dic0, Vl.erL_nil, Vl.erL_cons, Vl.erL_app, Vl.erL_map, Vl.nr_fro, Vl.nr_lst, Vl.nr_dic, Vl.nrL_nil, Vl.nrL_cons, Vl.nrL_fro, Vl.hd_non, Vl.hd_bl, Vl.hd_int, Vl.hd_str, Vl.hd_tup, Vl.hd_lst, Vl.hd_dic, Vl.hd_exc, Vl.hdL_nil, Vl.hdL_cons, Vl.hdL_app, Vl.fl_non, Vl.fl_bl, Vl.fl_int, Vl.fl_str, Vl.fl_tup, Vl.fl_lst, Vl.fl_dic, Vl.fl_exc, Vl.tru_non, Vl.tru_bl, Vl.tru_int, Vl.tru_tup, Vl.tru_lst, Vl.not_bl, Vl.not_non, Vl.neg_int, Vl.le_int, Vl.lt_int, Vl.ge_int, Vl.gt_int, Vl.lt_str, Vl.le_str, Vl.gt_str, Vl.ge_str, Vl.sub_int, Vl.mod_int, Vl.div_int, Vl.pow_int, Vl.mul_int, Vl.mul_lst, Vl.mul_str, Vl.add_int, Vl.add_str, Vl.add_lst, Vl.add_tup, Vl.is_non, Vl.is_bl, Vl.is_int, Vl.is_str, Vl.is_tup, Vl.is_lst, Vl.is_exc, Vl.isn_non, Vl.isn_bl, Vl.isn_int, Vl.isn_str, Vl.isn_tup, Vl.isn_lst, Vl.isn_exc, Vl.eq_int, Vl.ne_int, Vl.eq_str, Vl.ne_str, Vl.eq_bl, Vl.eq_tup0, Vl.len_lst, Vl.len_tup, Vl.len_str, Vl.min_int, Vl.max_int, Vl.abs_int, Vl.all_lst, Vl.any_lst, Vl.sum_lst, Vl.lof_lst, Vl.lof_tup, Vl.tof_lst, Vl.tof_tup, Vl.ix_lst, Vl.ix_tup, Vl.sl_lst, Vl.sl_tup, Vl.sl_str, Vl.at_0, Vl.at_1, Vl.at_2, Vl.at_3, Vl.at_4, Vl.at_5, Vl.at_6, Vl.at_7, Vl.at_8, Vl.vw_fro, Vl.vw_lst, Vl.vw_loc, Vl.vwT_fro, Vl.vwT_lst, Vl.fa_nil, Vl.fa_cons, Vl.fa_lst, Vl.fa_map, Vl.fa_app, Vl.its_lst, Vl.its_tup, Vl.its_str, Vl.tr_lst, Vl.tr_tup, Vl.tr_str, Vl.tr_int, Vl.tr_bl, Vl.tr_non, Vl.tgN_eq, Vl.tgT_eq, Vl.tgC_eq, Vl.tgNil_eq, Vl.wipe_nil, Vl.wipe_cons, Vl.bls_nil, Vl.bls_cons, Vl.bls_map, Vl.ints_map, Vl.strs_map, Vl.obnd_some, Vl.rng1, Vl.rng2, Vl.zip_lst, Vl.zip_tup, Vl.nd_tup, Vl.nd_int, Vl.nd_str, Vl.ndL_nil, Vl.ndL_cons, Vl.dv_int, Vl.dv_str, Vl.mRaiseA, Vl.W_mRaise, Vl.repr_bl, Vl.repr_non, List.flatten_cons, List.flatten_nil, List.append_nil, List.map_cons, List.map_nil, List.getElem?_cons_zero, List.getElem?_cons_succ, List.set_cons_zero, List.set_cons_succ, List.length_cons, List.length_nil, List.replicate_succ, List.replicate_zero, List.cons_append, List.nil_append, List.append_assoc, List.not_mem_nil, List.length_map, List.isEmpty_cons, List.isEmpty_nil, List.all_cons, List.all_nil, List.any_cons, List.any_nil, Bool.not_true, Bool.not_false, Bool.not_not, Bool.true_and, Bool.and_true, Bool.false_and, Bool.and_false, Bool.true_or, Bool.false_or, id_eq, if_true, if_false, ↓reduceIte, Bool.false_eq_true, Option.map_some, Option.map_none, Option.bind_some, decide_eq_true_eq, decide_true, decide_false, true_and, and_true, and_self, not_true_eq_false, not_false_eq_true, Nat.reduceAdd, Nat.reduceSub, Nat.reduceLeDiff, Nat.reduceLT, Nat.reduceEqDiff, Nat.reduceBEq, Int.reduceAdd, Int.reduceSub, Int.reduceNeg, Int.reduceLE, Int.reduceLT, Int.reduceBEq, Int.reduceBNe, Int.reduceEq, Int.reduceToNat, Nat.zero_add, Int.cast_ofNat_Int, beq_self_eq_true, ite_self, eq_self, ne_eq, Vl.ixn_1_0, Vl.ixn_2_0, Vl.ixn_2_1, Vl.ixn_3_0, Vl.ixn_3_1, Vl.ixn_3_2, Vl.ixn_4_0, Vl.ixn_4_1, Vl.ixn_4_2, Vl.ixn_4_3, Vl.ixn_5_0, Vl.ixn_5_1, Vl.ixn_5_2, Vl.ixn_5_3, Vl.ixn_5_4, Vl.ixn_6_0, Vl.ixn_6_1, Vl.ixn_6_2, Vl.ixn_6_3, Vl.ixn_6_4, Vl.ixn_6_5, Vl.ixn_7_0, Vl.ixn_7_1, Vl.ixn_7_2, Vl.ixn_7_3, Vl.ixn_7_4, Vl.ixn_7_5, Vl.ixn_7_6, Vl.ixn_8_0, Vl.ixn_8_1, Vl.ixn_8_2, Vl.ixn_8_3, Vl.ixn_8_4, Vl.ixn_8_5, Vl.ixn_8_6, Vl.ixn_8_7, Vl.ixn_9_0, Vl.ixn_9_1, Vl.ixn_9_2, Vl.ixn_9_3, Vl.ixn_9_4, Vl.ixn_9_5, Vl.ixn_9_6, Vl.ixn_9_7, Vl.ixn_9_8, Vl.ixn_10_0, Vl.ixn_10_1, Vl.ixn_10_2, Vl.ixn_10_3, Vl.ixn_10_4, Vl.ixn_10_5, Vl.ixn_10_6, Vl.ixn_10_7, Vl.ixn_10_8, Vl.ixn_10_9, Vl.ixn_11_0, Vl.ixn_11_1, Vl.ixn_11_2, Vl.ixn_11_3, Vl.ixn_11_4, Vl.ixn_11_5, Vl.ixn_11_6, Vl.ixn_11_7, Vl.ixn_11_8, Vl.ixn_11_9, Vl.ixn_11_10, Vl.ixn_12_0, Vl.ixn_12_1, Vl.ixn_12_2, Vl.ixn_12_3, Vl.ixn_12_4, Vl.ixn_12_5, Vl.ixn_12_6, Vl.ixn_12_7, Vl.ixn_12_8, Vl.ixn_12_9, Vl.ixn_12_10, Vl.ixn_12_11, e_isi0_non, e_isi0_bl, e_isi0_int, e_isi0_str, e_isi0_tup, e_isi0_lst, e_isi0_dic, e_isi1_non, e_isi1_bl, e_isi1_int, e_isi1_str, e_isi1_tup, e_isi1_lst, e_isi1_dic, e_isi2_non, e_isi2_bl, e_isi2_int, e_isi2_str, e_isi2_tup, e_isi2_lst, e_isi2_dic, e_isi3_non, e_isi3_bl, e_isi3_int, e_isi3_str, e_isi3_tup, e_isi3_lst, e_isi3_dic, e_isi4_non, e_isi4_bl, e_isi4_int, e_isi4_str, e_isi4_tup, e_isi4_lst, e_isi4_dic, exa_BondError, exa_BadDay, exa_BadName, exa_BadRules, exa_BadStretch, exa_BadNumber, lk_part_0])
local macro_rules | `(tactic| k_subL) => `(tactic| try simp only [Vl.WP_ok, Vl.WP_er, Vl.OP_some, Vl.WC_ok, Vl.WC_er, Vl.WI_ok, Vl.WI_er, Vl.FlE_nx, Vl.FlE_bk, Vl.FlE_ct, Vl.FlE_rt, Vl.WP_ite, Vl.OP_ite, Vl.WP_obind, Vl.WP_sbind, Vl.OP_map, Vl.cEnv_eq, Vl.W_mC, Vl.W_mV, Vl.AVs_fro, Vl.AVs_lst, Vl.AVs_dic, Vl.slO_some, Vl.get_tmp, Vl.get_loc, Vl.fz_tmp, Vl.fz_loc, Vl.W_mT, Vl.W_mAndT, Vl.W_mOrT, Vl.W_mNotT, Vl.W_mAnd, Vl.W_mOr, Vl.W_mIf, Vl.W_mB, Vl.chT_ff, Vl.chT_tt, Vl.chT_dec, Vl.W_mCh, Vl.W_mCons, Vl.W_mNil, Vl.W_mLst, Vl.W_mTup, Vl.W_m1, Vl.W_m2, Vl.W_m2s, Vl.W_mIx, Vl.W_mPart, Vl.W_mNoP, Vl.W_mSl, Vl.W_mRev, Vl.W_mRevX, Vl.W_mStp, Vl.revD_lst, Vl.revD_tup, Vl.W_mFC, Vl.W_mSC, Vl.W_mJoin, Vl.W_mDic0, Vl.W_mXA, Vl.W_mExc, Vl.W_mExcI, Vl.W_mCall, Vl.W_mCall0, Vl.W_mCallIo, Vl.W_ioTmp, Vl.W_ioLoc, Vl.W_mApp, Vl.W_mSkip, Vl.W_mBreak, Vl.W_mCont, Vl.W_mRetN, Vl.W_mYes, Vl.W_mSeq, Vl.W_mIfS, Vl.W_mExpr, Vl.W_mSet, Vl.rtP_tmp, Vl.rtP_loc, Vl.W_mRet, Vl.W_mRaiseI, Vl.W_mTry, Vl.W_mSetIx, Vl.W_mAsg, Vl.W_mPar, Vl.W_mPar3, Vl.W_mIt, Vl.W_mRng, Vl.W_mEnum, Vl.W_mEnumX, Vl.enA_lst, Vl.enA_tup, Vl.W_mZip, Vl.W_mFor, Vl.W_mLc, Vl.W_runC, Vl.W_runI, Vl.avBl_bl, Vl.avStr_str, Vl.avExc_exc, Vl.tInt_int, Vl.dInt_int, Vl.dBl_bl, Vl.dLst_lst, Vl.one1_one, Vl.hdtl_cons, Vl.two2_two, Vl.thr3_thr, Vl.slL_lst, Vl.nrm_nil, Vl.nrm_tmp, Vl.nrm_loc, Vl.pk_nil, Vl.pk_cons, Vl.er_fro, Vl.er_lst, Vl.er_dic0, Vl.erL_nil, Vl.erL_cons, Vl.erL_app, Vl.erL_map, Vl.nr_fro, Vl.nr_lst, Vl.nr_dic, Vl.nrL_nil, Vl.nrL_cons, Vl.nrL_fro, Vl.hd_non, Vl.hd_bl, Vl.hd_int, Vl.hd_str, Vl.hd_tup, Vl.hd_lst, Vl.hd_dic, Vl.hd_exc, Vl.hdL_nil, Vl.hdL_cons, Vl.hdL_app, Vl.fl_non, Vl.fl_bl, Vl.fl_int, Vl.fl_str, Vl.fl_tup, Vl.fl_lst, Vl.fl_dic, Vl.fl_exc, Vl.tru_non, Vl.tru_bl, Vl.tru_int, Vl.tru_tup, Vl.tru_lst, Vl.not_bl, Vl.not_non, Vl.neg_int, Vl.le_int, Vl.lt_int, Vl.ge_int, Vl.gt_int, Vl.lt_str, Vl.le_str, Vl.gt_str, Vl.ge_str, Vl.sub_int, Vl.mod_int, Vl.div_int, Vl.pow_int, Vl.mul_int, Vl.mul_lst, Vl.mul_str, Vl.add_int, Vl.add_str, Vl.add_lst, Vl.add_tup, Vl.is_non, Vl.is_bl, Vl.is_int, Vl.is_str, Vl.is_tup, Vl.is_lst, Vl.is_exc, Vl.isn_non, Vl.isn_bl, Vl.isn_int, Vl.isn_str, Vl.isn_tup, Vl.isn_lst, Vl.isn_exc, Vl.eq_int, Vl.ne_int, Vl.eq_str, Vl.ne_str, Vl.eq_bl, Vl.eq_tup0, Vl.len_lst, Vl.len_tup, Vl.len_str, Vl.min_int, Vl.max_int, Vl.abs_int, Vl.all_lst, Vl.any_lst, Vl.sum_lst, Vl.lof_lst, Vl.lof_tup, Vl.tof_lst, Vl.tof_tup, Vl.ix_lst, Vl.ix_tup, Vl.sl_lst, Vl.sl_tup, Vl.sl_str, Vl.at_0, Vl.at_1, Vl.at_2, Vl.at_3, Vl.at_4, Vl.at_5, Vl.at_6, Vl.at_7, Vl.at_8, Vl.vw_fro, Vl.vw_lst, Vl.vw_loc, Vl.vwT_fro, Vl.vwT_lst, Vl.fa_nil, Vl.fa_cons, Vl.fa_lst, Vl.fa_map, Vl.fa_app, Vl.its_lst, Vl.its_tup, Vl.its_str, Vl.tr_lst, Vl.tr_tup, Vl.tr_str, Vl.tr_int, Vl.tr_bl, Vl.tr_non, Vl.tgN_eq, Vl.tgT_eq, Vl.tgC_eq, Vl.tgNil_eq, Vl.wipe_nil, Vl.wipe_cons, Vl.bls_nil, Vl.bls_cons, Vl.bls_map, Vl.ints_map, Vl.strs_map, Vl.obnd_some, Vl.rng1, Vl.rng2, Vl.zip_lst, Vl.zip_tup, Vl.nd_tup, Vl.nd_int, Vl.nd_str, Vl.ndL_nil, Vl.ndL_cons, Vl.dv_int, Vl.dv_str, Vl.mRaiseA, Vl.W_mRaise, Vl.repr_bl, Vl.repr_non, List.flatten_cons, List.flatten_nil, List.append_nil, List.map_cons, List.map_nil, List.getElem?_cons_zero, List.getElem?_cons_succ, List.set_cons_zero, List.set_cons_succ, List.length_cons, List.length_nil, List.replicate_succ, List.replicate_zero, List.cons_append, List.nil_append, List.append_assoc, List.not_mem_nil, List.length_map, List.isEmpty_cons, List.isEmpty_nil, List.all_cons, List.all_nil, List.any_cons, List.any_nil, Bool.not_true, Bool.not_false, Bool.not_not, Bool.true_and, Bool.and_true, Bool.false_and, Bool.and_false, Bool.true_or, Bool.false_or, id_eq, if_true, if_false, ↓reduceIte, Bool.false_eq_true, Option.map_some, Option.map_none, Option.bind_some, decide_eq_true_eq, decide_true, decide_false, true_and, and_true, and_self, not_true_eq_false, not_false_eq_true, Nat.reduceAdd, Nat.reduceSub, Nat.reduceLeDiff, Nat.reduceLT, Nat.reduceEqDiff, Nat.reduceBEq, Int.reduceAdd, Int.reduceSub, Int.reduceNeg, Int.reduceLE, Int.reduceLT, Int.reduceBEq, Int.reduceBNe, Int.reduceEq, Int.reduceToNat, Nat.zero_add, Int.cast_ofNat_Int, beq_self_eq_true, ite_self, eq_self, ne_eq, Vl.ixn_1_0, Vl.ixn_2_0, Vl.ixn_2_1, Vl.ixn_3_0, Vl.ixn_3_1, Vl.ixn_3_2, Vl.ixn_4_0, Vl.ixn_4_1, Vl.ixn_4_2, Vl.ixn_4_3, Vl.ixn_5_0, Vl.ixn_5_1, Vl.ixn_5_2, Vl.ixn_5_3, Vl.ixn_5_4, Vl.ixn_6_0, Vl.ixn_6_1, Vl.ixn_6_2, Vl.ixn_6_3, Vl.ixn_6_4, Vl.ixn_6_5, Vl.ixn_7_0, Vl.ixn_7_1, Vl.ixn_7_2, Vl.ixn_7_3, Vl.ixn_7_4, Vl.ixn_7_5, Vl.ixn_7_6, Vl.ixn_8_0, Vl.ixn_8_1, Vl.ixn_8_2, Vl.ixn_8_3, Vl.ixn_8_4, Vl.ixn_8_5, Vl.ixn_8_6, Vl.ixn_8_7, Vl.ixn_9_0, Vl.ixn_9_1, Vl.ixn_9_2, Vl.ixn_9_3, Vl.ixn_9_4, Vl.ixn_9_5, Vl.ixn_9_6, Vl.ixn_9_7, Vl.ixn_9_8, Vl.ixn_10_0, Vl.ixn_10_1, Vl.ixn_10_2, Vl.ixn_10_3, Vl.ixn_10_4, Vl.ixn_10_5, Vl.ixn_10_6, Vl.ixn_10_7, Vl.ixn_10_8, Vl.ixn_10_9, Vl.ixn_11_0, Vl.ixn_11_1, Vl.ixn_11_2, Vl.ixn_11_3, Vl.ixn_11_4, Vl.ixn_11_5, Vl.ixn_11_6, Vl.ixn_11_7, Vl.ixn_11_8, Vl.ixn_11_9, Vl.ixn_11_10, Vl.ixn_12_0, Vl.ixn_12_1, Vl.ixn_12_2, Vl.ixn_12_3, Vl.ixn_12_4, Vl.ixn_12_5, Vl.ixn_12_6, Vl.ixn_12_7, Vl.ixn_12_8, Vl.ixn_12_9, Vl.ixn_12_10, Vl.ixn_12_11, e_isi0_non, e_isi0_bl, e_isi0_int, e_isi0_str, e_isi0_tup, e_isi0_lst, e_isi0_dic, e_isi1_non, e_isi1_bl, e_isi1_int, e_isi1_str, e_isi1_tup, e_isi1_lst, e_isi1_dic, e_isi2_non, e_isi2_bl, e_isi2_int, e_isi2_str, e_isi2_tup, e_isi2_lst, e_isi2_dic, e_isi3_non, e_isi3_bl, e_isi3_int, e_isi3_str, e_isi3_tup, e_isi3_lst, e_isi3_dic, e_isi4_non, e_isi4_bl, e_isi4_int, e_isi4_str, e_isi4_tup, e_isi4_lst, e_isi4_dic, exa_BondError, exa_BadDay, exa_BadName, exa_BadRules, exa_BadStretch, exa_BadNumber, lk_part_0, Vl.W_lc_cons, Vl.W_lc_nil, Vl.W_loop_cons, Vl.W_loop_nil])
theorem law_pure (ns : List Int) (hn : ns.length ≤ 63) : ∃ ts, F_law [.fro (.lst (ns.map D.int))] = some (.ok (.fro (.bl true)), ts) := by
  generalize hF : F_law = F
  exact WC_eq fun _ _ h => law_w F hF.symm ns hn h

end bondyears_k08_whole_days_together
theorem PySem.Challenge.cw_bondyears_k08_whole_days_together_holds : PySem.Challenge.rw_bondyears_k08_whole_days_together.Holds :=
  bondyears_k08_whole_days_together.row_holds bondyears_k08_whole_days_together.law_pure
#print axioms PySem.Challenge.cw_bondyears_k08_whole_days_together_holds
