import PyProof.Rows.All
import Wide.All
import OpenK.AllK
import Wide.FinOn
import HandS.ForMost
import HandS.ForSpec
import HandS.Wide
import HandS.Deep
import HandS.IsInst
import HandS.Replace
import HandS.Style
import HandS.SortInts
import HandS.Conv
import HandS.Zip
import HandS.CallSlots
import HandS.ExcInit
import HandS.ExcField
import HandS.ExcIs
import HandS.TryOnly
import HandS.Text
import HandS.Flt
import HandS.More
import KE.KExcIs
import PySem.Challenge.RW_oneline_k21_a_broken_end
set_option Elab.async false
set_option linter.all false
set_option maxRecDepth 100000
set_option maxHeartbeats 4000000
/-! Sim: a deterministic reading of the fragment over plain data, and what it promises of the layer's readings. -/
namespace Sim
open PySem PySem.Spec L2

/-! ### data -/
inductive D where
  | non | bl (b : Bool) | int (i : Int) | str (s : Str) | tup (ds : List D) | fl (ds : List D) | scr (ns : List Int) | ref (n : Nat)
  deriving Inhabited
inductive SO where
  | lst (ds : List D) | dct (kvs : List (Key × D)) | ins (c : Nat) (fs : List (Str × D))
  deriving Inhabited
structure Cell where
  o : SO
  lk : Bool
  deriving Inhabited
abbrev Store := List Cell
/-- an error in the air: its class' code, its fields (none: it has no dict) -/
structure Exn where
  c : Nat
  fs : Option (List (Str × D))
abbrev Sl := List (Option D)
abbrev Out (α : Type) := Option (Except Exn α × Store)
abbrev M (α : Type) := Store → Out α
inductive Fl where
  | nx (l : Sl) | bk (l : Sl) | ct (l : Sl) | rt (d : D) | ex (x : Exn) (l : Sl)
abbrev OutS := Option (Fl × Store)
abbrev ME := Sl → M D
abbrev MT := Sl → M Bool
abbrev MA := Sl → M (List D)
abbrev MS := Sl → Store → OutS

/-! ### the relation -/
section
variable (K : PySem.W.Frag) (ca : Nat → Addr)
/-- the script: readable as these ints, untouched by stores -/
def Scr (ρ φ : List Addr) (H : Hp) (p : Addr) (ns : List Int) : Prop :=
  (Rd H p (.lst (ns.map V.int)) ∧ p ∉ ρ ∧ p ∉ φ) ∨ ∀ H' : Hp, SqL K H' p (ns.map V.int)
mutual
inductive Rel (ρ φ : List Addr) (H : Hp) : V → D → Prop
  | non : Rel ρ φ H .non .non
  | bl (b : Bool) : Rel ρ φ H (.bl b) (.bl b)
  | int (i : Int) : Rel ρ φ H (.int i) (.int i)
  | str (s : Str) : Rel ρ φ H (.str s) (.str s)
  | tup {p : Addr} {xs : List V} {ds : List D} (h : H p = some (.tup xs)) (n : p ∉ ρ) (m : p ∉ φ) (r : Rels ρ φ H xs ds) : Rel ρ φ H (.ref p) (.tup ds)
  | fl {p : Addr} {xs : List V} {ds : List D} (h : H p = some (.lst xs)) (n : p ∉ ρ) (m : p ∉ φ) (r : Rels ρ φ H xs ds) : Rel ρ φ H (.ref p) (.fl ds)
  | scr {p : Addr} {ns : List Int} (h : Scr K ρ φ H p ns) : Rel ρ φ H (.ref p) (.scr ns)
  | ref {a : Addr} {n : Nat} (h : ρ[n]? = some a) : Rel ρ φ H (.ref a) (.ref n)
inductive Rels (ρ φ : List Addr) (H : Hp) : List V → List D → Prop
  | nil : Rels ρ φ H [] []
  | cons {v : V} {d : D} {vs : List V} {ds : List D} (r : Rel ρ φ H v d) (rs : Rels ρ φ H vs ds) : Rels ρ φ H (v :: vs) (d :: ds)
end
/-- pairs of names and values -/
inductive RelK {κ : Type} (ρ φ : List Addr) (H : Hp) : List (κ × V) → List (κ × D) → Prop
  | nil : RelK ρ φ H [] []
  | cons {k : κ} {v : V} {d : D} {vs : List (κ × V)} {ds : List (κ × D)} (r : Rel K ρ φ H v d) (rs : RelK ρ φ H vs ds) : RelK ρ φ H ((k, v) :: vs) ((k, d) :: ds)
def RelO (ρ φ : List Addr) (H : Hp) : HO → SO → Prop
  | .lst xs, .lst ds => Rels K ρ φ H xs ds
  | .dK kvs, .dct ks => RelK K ρ φ H kvs ks
  | .ins C _ fs, .ins c gs => C = ca c ∧ RelK K ρ φ H fs gs
  | _, _ => False
def At (H : Hp) (a : Addr) (ho : HO) (lk : Bool) : Prop := if lk = true then ∃ o, H a = some (.frz o ho) else H a = some ho
structure SR (ρ φ : List Addr) (S : Store) (H : Hp) : Prop where
  nd : ρ.Nodup
  len : ρ.length = S.length
  dj : ∀ a ∈ φ, a ∉ ρ
  ph : ∀ a ∈ φ, H a ≠ none
  ob : ∀ (n : Nat) (a : Addr) (c : Cell), ρ[n]? = some a → S[n]? = some c → ∃ ho, At H a ho c.lk ∧ RelO K ca ρ φ H ho c.o
/-- later: more of the store, the frozen things stand -/
structure Ext (ρ : List Addr) (H : Hp) (ρ' : List Addr) (H' : Hp) : Prop where
  pre : ∃ t, ρ' = ρ ++ t ∧ ∀ q ∈ t, H q = none
  keep : ∀ b o, H b = some o → b ∉ ρ → H' b = some o
  trk : ∀ b, H b ≠ none → H' b ≠ none
  fz : ∀ b o u, H b = some (.frz o u) → H' b = some (.frz o u)
inductive SlR (ρ φ : List Addr) (H : Hp) : St → Sl → Prop
  | nil : SlR ρ φ H [] []
  | no {o : Option V} {σ : St} {l : Sl} (r : SlR ρ φ H σ l) : SlR ρ φ H (o :: σ) (Option.none :: l)
  | so {v : V} {d : D} {σ : St} {l : Sl} (h : Rel K ρ φ H v d) (r : SlR ρ φ H σ l) : SlR ρ φ H (Option.some v :: σ) (Option.some d :: l)
end

section
variable {K : PySem.W.Frag} {ca : Nat → Addr} {ρ ρ' ρ'' φ : List Addr} {S S' : Store} {H H' H'' : Hp}
theorem Ext.refl (ρ : List Addr) (H : Hp) : Ext ρ H ρ H := ⟨⟨[], by simp, by simp⟩, fun _ _ h _ => h, fun _ h => h, fun _ _ _ h => h⟩
theorem Ext.notin (e : Ext ρ H ρ' H') {b : Addr} (h : H b ≠ none) (n : b ∉ ρ) : b ∉ ρ' := by
  obtain ⟨t, rfl, ht⟩ := e.pre
  intro hm
  rcases List.mem_append.mp hm with q | q
  · exact n q
  · exact h (ht b q)
theorem Ext.trans (a : Ext ρ H ρ' H') (b : Ext ρ' H' ρ'' H'') : Ext ρ H ρ'' H'' := by
  refine ⟨?_, fun c o h n => b.keep c o (a.keep c o h n) (a.notin (by rw [h]; simp) n), fun c h => b.trk c (a.trk c h), fun c o u h => b.fz c o u (a.fz c o u h)⟩
  obtain ⟨t, rfl, ht⟩ := a.pre
  obtain ⟨u, rfl, hu⟩ := b.pre
  refine ⟨t ++ u, by simp, fun q hq => ?_⟩
  rcases List.mem_append.mp hq with h | h
  · exact ht q h
  · cases e : H q with
    | none => rfl
    | some o => exact absurd (hu q h) (a.trk q (by rw [e]; simp))
theorem Ext.at (e : Ext ρ H ρ' H') {n : Nat} {a : Addr} (h : ρ[n]? = some a) : ρ'[n]? = some a := by
  obtain ⟨t, rfl, _⟩ := e.pre
  rw [List.getElem?_append_left (List.getElem?_eq_some_iff.mp h).1]
  exact h
theorem Scr.mono (e : Ext ρ H ρ' H') {p : Addr} {ns : List Int} (h : Scr K ρ φ H p ns) : Scr K ρ' φ H' p ns := by
  rcases h with ⟨h, n, m⟩ | h
  · refine .inl ⟨?_, ?_, m⟩
    · rcases h with h | ⟨o, h⟩
      · exact .inl (e.keep _ _ h n)
      · exact .inr ⟨o, e.keep _ _ h n⟩
    · refine e.notin ?_ n
      rcases h with h | ⟨o, h⟩ <;> (rw [h]; simp)
  · exact .inr h
mutual
theorem Rel.mono (e : Ext ρ H ρ' H') : ∀ {v : V} {d : D}, Rel K ρ φ H v d → Rel K ρ' φ H' v d
  | _, _, .non => .non
  | _, _, .bl b => .bl b
  | _, _, .int i => .int i
  | _, _, .str s => .str s
  | _, _, .tup h n m r => .tup (e.keep _ _ h n) (e.notin (by rw [h]; simp) n) m (Rels.mono e r)
  | _, _, .fl h n m r => .fl (e.keep _ _ h n) (e.notin (by rw [h]; simp) n) m (Rels.mono e r)
  | _, _, .scr h => .scr (h.mono e)
  | _, _, .ref h => .ref (e.at h)
theorem Rels.mono (e : Ext ρ H ρ' H') : ∀ {vs : List V} {ds : List D}, Rels K ρ φ H vs ds → Rels K ρ' φ H' vs ds
  | _, _, .nil => .nil
  | _, _, .cons r rs => .cons (Rel.mono e r) (Rels.mono e rs)
end
theorem RelK.mono {κ : Type} (e : Ext ρ H ρ' H') : ∀ {vs : List (κ × V)} {ds : List (κ × D)}, RelK K ρ φ H vs ds → RelK K ρ' φ H' vs ds
  | _, _, .nil => .nil
  | _, _, .cons r rs => .cons (r.mono e) (RelK.mono e rs)
theorem RelO.mono (e : Ext ρ H ρ' H') {ho : HO} {so : SO} (h : RelO K ca ρ φ H ho so) : RelO K ca ρ' φ H' ho so := by
  unfold RelO at h ⊢
  split at h
  · exact h.mono e
  · exact h.mono e
  · exact ⟨h.1, h.2.mono e⟩
  · exact h.elim
theorem SlR.mono (e : Ext ρ H ρ' H') : ∀ {σ : St} {l : Sl}, SlR K ρ φ H σ l → SlR K ρ' φ H' σ l
  | _, _, .nil => .nil
  | _, _, .no r => .no (SlR.mono e r)
  | _, _, .so h r => .so (h.mono e) (SlR.mono e r)
theorem Rels.length : ∀ {vs : List V} {ds : List D}, Rels K ρ φ H vs ds → vs.length = ds.length
  | _, _, .nil => rfl
  | _, _, .cons _ rs => by rw [List.length_cons, List.length_cons, Rels.length rs]
theorem Rels.get : ∀ {vs : List V} {ds : List D} {i : Nat} {d : D}, Rels K ρ φ H vs ds → ds[i]? = some d → ∃ v, vs[i]? = some v ∧ Rel K ρ φ H v d
  | _, _, _, _, .nil, h => by simp at h
  | _, _, 0, _, .cons r _, h => by
    have e := Option.some.inj h
    subst e
    exact ⟨_, rfl, r⟩
  | _, _, i + 1, _, .cons _ rs, h => Rels.get (i := i) rs h
theorem Rels.getV : ∀ {vs : List V} {ds : List D} {i : Nat} {v : V}, Rels K ρ φ H vs ds → vs[i]? = some v → ∃ d, ds[i]? = some d ∧ Rel K ρ φ H v d
  | _, _, _, _, .nil, h => by simp at h
  | _, _, 0, _, .cons r _, h => by
    have e := Option.some.inj h
    subst e
    exact ⟨_, rfl, r⟩
  | _, _, i + 1, _, .cons _ rs, h => Rels.getV (i := i) rs h
theorem Rels.append : ∀ {vs ws : List V} {ds es : List D}, Rels K ρ φ H vs ds → Rels K ρ φ H ws es → Rels K ρ φ H (vs ++ ws) (ds ++ es)
  | _, _, _, _, .nil, s => s
  | _, _, _, _, .cons r rs, s => .cons r (Rels.append rs s)
theorem Rels.take : ∀ {vs : List V} {ds : List D} (n : Nat), Rels K ρ φ H vs ds → Rels K ρ φ H (vs.take n) (ds.take n)
  | _, _, 0, _ => .nil
  | _, _, _ + 1, .nil => .nil
  | _, _, n + 1, .cons r rs => .cons r (Rels.take n rs)
theorem Rels.drop : ∀ {vs : List V} {ds : List D} (n : Nat), Rels K ρ φ H vs ds → Rels K ρ φ H (vs.drop n) (ds.drop n)
  | _, _, 0, r => r
  | _, _, _ + 1, .nil => .nil
  | _, _, n + 1, .cons _ rs => Rels.drop n rs
theorem Rels.set {v : V} {d : D} (q : Rel K ρ φ H v d) : ∀ {vs : List V} {ds : List D} (n : Nat), Rels K ρ φ H vs ds → Rels K ρ φ H (vs.set n v) (ds.set n d)
  | _, _, _, .nil => .nil
  | _, _, 0, .cons _ rs => .cons q rs
  | _, _, n + 1, .cons r rs => .cons r (Rels.set q n rs)
theorem Rels.eraseIdx : ∀ {vs : List V} {ds : List D} (n : Nat), Rels K ρ φ H vs ds → Rels K ρ φ H (vs.eraseIdx n) (ds.eraseIdx n)
  | _, _, _, .nil => .nil
  | _, _, 0, .cons _ rs => rs
  | _, _, n + 1, .cons r rs => .cons r (Rels.eraseIdx n rs)
theorem Rels.ints : ∀ {vs : List V} {ns : List Int}, Rels K ρ φ H vs (ns.map D.int) → vs = ns.map V.int
  | _, [], h => by cases h; rfl
  | _, n :: ns, h => by
    cases h with
    | cons r rs => cases r; rw [Rels.ints rs]; rfl
theorem Rels.ofInts : ∀ (ns : List Int), Rels K ρ φ H (ns.map V.int) (ns.map D.int)
  | [] => .nil
  | n :: ns => .cons (.int n) (Rels.ofInts ns)
theorem SlR.get : ∀ {σ : St} {l : Sl} {i : Nat} {d : D}, SlR K ρ φ H σ l → l[i]? = some (some d) → ∃ v, σ[i]? = some (some v) ∧ Rel K ρ φ H v d
  | _, _, _, _, .nil, h => by simp at h
  | _, _, 0, _, .no r, h => by cases h
  | _, _, 0, _, .so q r, h => by cases h; exact ⟨_, rfl, q⟩
  | _, _, i + 1, _, .no r, h => SlR.get (i := i) r h
  | _, _, i + 1, _, .so q r, h => SlR.get (i := i) r h
theorem SlR.set {v : V} {d : D} (q : Rel K ρ φ H v d) : ∀ {σ : St} {l : Sl} (i : Nat), SlR K ρ φ H σ l → SlR K ρ φ H (σ.set i (some v)) (l.set i (some d))
  | _, _, _, .nil => .nil
  | _, _, 0, .no r => .so q r
  | _, _, 0, .so _ r => .so q r
  | _, _, i + 1, .no r => .no (SlR.set q i r)
  | _, _, i + 1, .so h r => .so h (SlR.set q i r)
theorem SlR.unset {o : Option V} : ∀ {σ : St} {l : Sl} (i : Nat), SlR K ρ φ H σ l → SlR K ρ φ H (σ.set i o) (l.set i none)
  | _, _, _, .nil => .nil
  | _, _, 0, .no r => .no r
  | _, _, 0, .so _ r => .no r
  | _, _, i + 1, .no r => .no (SlR.unset i r)
  | _, _, i + 1, .so h r => .so h (SlR.unset i r)
theorem SlR.start : ∀ {vs : List V} {ds : List D} (k : Nat), Rels K ρ φ H vs ds → SlR K ρ φ H (vs.map some ++ List.replicate k none) (ds.map some ++ List.replicate k none)
  | _, _, 0, .nil => .nil
  | _, _, k + 1, .nil => .no (SlR.start (vs := []) (ds := []) k .nil)
  | _, _, k, .cons r rs => .so r (SlR.start k rs)
theorem RelK.lookup {f : Str} : ∀ {vs : List (Str × V)} {ds : List (Str × D)} {d : D}, RelK K ρ φ H vs ds → ds.lookup f = some d → ∃ v, vs.lookup f = some v ∧ Rel K ρ φ H v d
  | _, _, _, .nil, h => by cases h
  | (k, v) :: vs, (_, d) :: ds, e, .cons r rs, h => by
    rw [List.lookup_cons] at h ⊢
    cases c : (f == k) with
    | true => rw [c] at h; cases h; exact ⟨v, rfl, r⟩
    | false => rw [c] at h; exact RelK.lookup rs h
theorem RelK.lookup_none {f : Str} : ∀ {vs : List (Str × V)} {ds : List (Str × D)}, RelK K ρ φ H vs ds → ds.lookup f = none → vs.lookup f = none
  | _, _, .nil, h => rfl
  | (k, v) :: vs, (_, d) :: ds, .cons r rs, h => by
    rw [List.lookup_cons] at h ⊢
    cases c : (f == k) with
    | true => rw [c] at h; cases h
    | false => rw [c] at h; exact RelK.lookup_none rs h
theorem RelK.length {κ : Type} : ∀ {vs : List (κ × V)} {ds : List (κ × D)}, RelK K ρ φ H vs ds → vs.length = ds.length
  | _, _, .nil => rfl
  | _, _, .cons _ rs => by rw [List.length_cons, List.length_cons, RelK.length rs]
/-- fewer private addresses -/
theorem Scr.less {ψ : List Addr} (h : ∀ a ∈ ψ, a ∈ φ) {p : Addr} {ns : List Int} (q : Scr K ρ φ H p ns) : Scr K ρ ψ H p ns := by
  rcases q with ⟨a, b, c⟩ | q
  · exact .inl ⟨a, b, fun z => c (h _ z)⟩
  · exact .inr q
mutual
theorem Rel.less {ψ : List Addr} (h : ∀ a ∈ ψ, a ∈ φ) : ∀ {v : V} {d : D}, Rel K ρ φ H v d → Rel K ρ ψ H v d
  | _, _, .non => .non
  | _, _, .bl b => .bl b
  | _, _, .int i => .int i
  | _, _, .str s => .str s
  | _, _, .tup a n m r => .tup a n (fun z => m (h _ z)) (Rels.less h r)
  | _, _, .fl a n m r => .fl a n (fun z => m (h _ z)) (Rels.less h r)
  | _, _, .scr a => .scr (a.less h)
  | _, _, .ref a => .ref a
theorem Rels.less {ψ : List Addr} (h : ∀ a ∈ ψ, a ∈ φ) : ∀ {vs : List V} {ds : List D}, Rels K ρ φ H vs ds → Rels K ρ ψ H vs ds
  | _, _, .nil => .nil
  | _, _, .cons r rs => .cons (Rel.less h r) (Rels.less h rs)
end
theorem RelK.less {κ : Type} {ψ : List Addr} (h : ∀ a ∈ ψ, a ∈ φ) : ∀ {vs : List (κ × V)} {ds : List (κ × D)}, RelK K ρ φ H vs ds → RelK K ρ ψ H vs ds
  | _, _, .nil => .nil
  | _, _, .cons r rs => .cons (r.less h) (RelK.less h rs)
theorem RelO.less {ψ : List Addr} (h : ∀ a ∈ ψ, a ∈ φ) {ho : HO} {so : SO} (q : RelO K ca ρ φ H ho so) : RelO K ca ρ ψ H ho so := by
  unfold RelO at q ⊢
  split at q
  · exact q.less h
  · exact q.less h
  · exact ⟨q.1, q.2.less h⟩
  · exact q.elim
theorem SlR.less {ψ : List Addr} (h : ∀ a ∈ ψ, a ∈ φ) : ∀ {σ : St} {l : Sl}, SlR K ρ φ H σ l → SlR K ρ ψ H σ l
  | _, _, .nil => .nil
  | _, _, .no r => .no (SlR.less h r)
  | _, _, .so q r => .so (q.less h) (SlR.less h r)
/-- a general change of the ground -/
structure Move (ρ φ : List Addr) (H : Hp) (ρ' φ' : List Addr) (H' : Hp) : Prop where
  keep : ∀ p o, H p = some o → p ∉ ρ → p ∉ φ → H' p = some o ∧ p ∉ ρ' ∧ p ∉ φ'
  at_ : ∀ (n : Nat) (a : Addr), ρ[n]? = some a → ρ'[n]? = some a
section
variable {φ' : List Addr}
theorem Scr.move (e : Move ρ φ H ρ' φ' H') {p : Addr} {ns : List Int} (h : Scr K ρ φ H p ns) : Scr K ρ' φ' H' p ns := by
  rcases h with ⟨h, n, m⟩ | h
  · rcases h with h | ⟨o, h⟩
    · obtain ⟨a, b, c⟩ := e.keep _ _ h n m
      exact .inl ⟨.inl a, b, c⟩
    · obtain ⟨a, b, c⟩ := e.keep _ _ h n m
      exact .inl ⟨.inr ⟨o, a⟩, b, c⟩
  · exact .inr h
mutual
theorem Rel.move (e : Move ρ φ H ρ' φ' H') : ∀ {v : V} {d : D}, Rel K ρ φ H v d → Rel K ρ' φ' H' v d
  | _, _, .non => .non
  | _, _, .bl b => .bl b
  | _, _, .int i => .int i
  | _, _, .str s => .str s
  | _, _, .tup h n m r => .tup (e.keep _ _ h n m).1 (e.keep _ _ h n m).2.1 (e.keep _ _ h n m).2.2 (Rels.move e r)
  | _, _, .fl h n m r => .fl (e.keep _ _ h n m).1 (e.keep _ _ h n m).2.1 (e.keep _ _ h n m).2.2 (Rels.move e r)
  | _, _, .scr h => .scr (h.move e)
  | _, _, .ref h => .ref (e.at_ _ _ h)
theorem Rels.move (e : Move ρ φ H ρ' φ' H') : ∀ {vs : List V} {ds : List D}, Rels K ρ φ H vs ds → Rels K ρ' φ' H' vs ds
  | _, _, .nil => .nil
  | _, _, .cons r rs => .cons (Rel.move e r) (Rels.move e rs)
end
theorem RelK.move {κ : Type} (e : Move ρ φ H ρ' φ' H') : ∀ {vs : List (κ × V)} {ds : List (κ × D)}, RelK K ρ φ H vs ds → RelK K ρ' φ' H' vs ds
  | _, _, .nil => .nil
  | _, _, .cons r rs => .cons (r.move e) (RelK.move e rs)
theorem RelO.move (e : Move ρ φ H ρ' φ' H') {ho : HO} {so : SO} (h : RelO K ca ρ φ H ho so) : RelO K ca ρ' φ' H' ho so := by
  unfold RelO at h ⊢
  split at h
  · exact h.move e
  · exact h.move e
  · exact ⟨h.1, h.2.move e⟩
  · exact h.elim
theorem SlR.move (e : Move ρ φ H ρ' φ' H') : ∀ {σ : St} {l : Sl}, SlR K ρ φ H σ l → SlR K ρ' φ' H' σ l
  | _, _, .nil => .nil
  | _, _, .no r => .no (SlR.move e r)
  | _, _, .so h r => .so (h.move e) (SlR.move e r)
end
end
/-- in an except suite: the slot of the error, its address, its dict, its fields -/
structure XI where
  i : Nat
  a : Addr
  d : Option Addr
  fs : Option (List (Str × D))
/-- the error's fields stand -/
def XF (K : PySem.W.Frag) (ρ φ : List Addr) (H : Hp) (d : Option Addr) (fs : Option (List (Str × D))) : Prop := match fs with
  | none => d = none
  | some gs => ∃ dd hs, d = some dd ∧ H dd = some (.xd hs) ∧ dd ∉ ρ ∧ dd ∉ φ ∧ RelK K ρ φ H hs gs
/-- what a code's run is asked beside: the wish of errors; the error that a suite holds -/
structure WW where
  f : WX
  x : Option XI
/-- the slots; the error's slot holds it -/
structure SlX (ξ : Option XI) (K : PySem.W.Frag) (ρ φ : List Addr) (H : Hp) (σ : St) (l : Sl) : Prop where
  sl : SlR K ρ φ H σ l
  er : ∀ z, ξ = some z → σ[z.i]? = some (some (.ref z.a)) ∧ XF K ρ φ H z.d z.fs
section
variable {ξ : Option XI} {K : PySem.W.Frag} {ρ φ ρ' φ' : List Addr} {H H' : Hp} {σ : St} {l : Sl}
theorem XF.move {d : Option Addr} {fs : Option (List (Str × D))} (h : XF K ρ φ H d fs) (e : Move ρ φ H ρ' φ' H') : XF K ρ' φ' H' d fs := by
  cases fs with
  | none => exact h
  | some gs =>
    obtain ⟨dd, hs, h1, h2, h3, h4, h5⟩ := h
    exact ⟨dd, hs, h1, (e.keep _ _ h2 h3 h4).1, (e.keep _ _ h2 h3 h4).2.1, (e.keep _ _ h2 h3 h4).2.2, h5.move e⟩
theorem XF.mono {d : Option Addr} {fs : Option (List (Str × D))} (h : XF K ρ φ H d fs) (e : Ext ρ H ρ' H') : XF K ρ' φ H' d fs := by
  cases fs with
  | none => exact h
  | some gs =>
    obtain ⟨dd, hs, h1, h2, h3, h4, h5⟩ := h
    exact ⟨dd, hs, h1, e.keep _ _ h2 h3, e.notin (by rw [h2]; simp) h3, h4, h5.mono e⟩
theorem SlX.mono (h : SlX ξ K ρ φ H σ l) (e : Ext ρ H ρ' H') : SlX ξ K ρ' φ H' σ l := ⟨h.sl.mono e, fun z hz => ⟨(h.er z hz).1, (h.er z hz).2.mono e⟩⟩
theorem SlX.move (h : SlX ξ K ρ φ H σ l) (e : Move ρ φ H ρ' φ' H') : SlX ξ K ρ' φ' H' σ l := ⟨h.sl.move e, fun z hz => ⟨(h.er z hz).1, (h.er z hz).2.move e⟩⟩
theorem SlX.get (h : SlX ξ K ρ φ H σ l) {i : Nat} {d : D} (e : l[i]? = some (some d)) : ∃ v, σ[i]? = some (some v) ∧ Rel K ρ φ H v d := h.sl.get e
/-- the slot i is not the error's -/
def freeS (ξ : Option XI) (i : Nat) : Prop := ∀ z, ξ = some z → z.i ≠ i
theorem SlX.set (h : SlX ξ K ρ φ H σ l) {v : V} {d : D} (q : Rel K ρ φ H v d) {i : Nat} (hi : freeS ξ i) : SlX ξ K ρ φ H (σ.set i (some v)) (l.set i (some d)) :=
  ⟨h.sl.set q i, fun z e => ⟨by rw [List.getElem?_set_ne (hi z e).symm]; exact (h.er z e).1, (h.er z e).2⟩⟩
theorem SlX.none (h : SlX ξ K ρ φ H σ l) : SlX Option.none K ρ φ H σ l := ⟨h.sl, fun _ z => nomatch z⟩
theorem SlX.of (h : SlR K ρ φ H σ l) : SlX Option.none K ρ φ H σ l := ⟨h, fun _ z => nomatch z⟩
theorem freeS.none {i : Nat} : freeS Option.none i := fun _ z => nomatch z
theorem SlR.len : ∀ {σ : St} {l : Sl}, SlR K ρ φ H σ l → σ.length = l.length
  | _, _, .nil => rfl
  | _, _, .no r => by rw [List.length_cons, List.length_cons, SlR.len r]
  | _, _, .so _ r => by rw [List.length_cons, List.length_cons, SlR.len r]
end
end Sim

/-! Sim: the operations on plain data, and the constructs. -/
namespace Sim
open PySem PySem.Spec L2

/-! ### reading -/
def listOf (d : D) (S : Store) : Option (List D) :=
  match d with
  | .fl ds => some ds
  | .scr ns => some (ns.map D.int)
  | .ref n => match S[n]? with
    | some ⟨.lst ds, _⟩ => some ds
    | _ => none
  | _ => none
/-- a list that may be joined: no script, not locked -/
def catOf (d : D) (S : Store) : Option (List D) :=
  match d with
  | .fl ds => some ds
  | .ref n => match S[n]? with
    | some ⟨.lst ds, false⟩ => some ds
    | _ => none
  | _ => none
def seqOf (d : D) (S : Store) : Option (List D) :=
  match d with
  | .tup ds => some ds
  | d => listOf d S
def dctOf (d : D) (S : Store) : Option (List (Key × D)) :=
  match d with
  | .ref n => match S[n]? with
    | some ⟨.dct kvs, _⟩ => some kvs
    | _ => none
  | _ => none
def dctU (d : D) (S : Store) : Option (List (Key × D)) :=
  match d with
  | .ref n => match S[n]? with
    | some ⟨.dct kvs, false⟩ => some kvs
    | _ => none
  | _ => none
def insOf (d : D) (S : Store) : Option (Nat × List (Str × D)) :=
  match d with
  | .ref n => match S[n]? with
    | some ⟨.ins c fs, false⟩ => some (c, fs)
    | _ => none
  | _ => none
def keyOf : D → Option Key
  | .int i => some (.inl i)
  | .str s => some (.inr s)
  | _ => none
def valD (kvs : List (Key × D)) (k : Key) : Option D := (kvs.find? fun kv => decide (kv.1 = k)).map (·.2)
def putD (kvs : List (Key × D)) (k : Key) (v : D) : List (Key × D) :=
  if (kvs.any fun kv => decide (kv.1 = k)) = true then kvs.map (fun kv => if kv.1 = k then (kv.1, v) else kv) else kvs ++ [(k, v)]
def putFD (f : Str) (v : D) : List (Str × D) → List (Str × D)
  | [] => [(f, v)]
  | (g, x) :: r => if g = f then (g, v) :: r else (g, x) :: putFD f v r
/-- as data of any depth -/
def pyD (S : Store) : Nat → D → Option PyData
  | 0, _ => none
  | _ + 1, .non => some .none
  | _ + 1, .bl b => some (.bool b)
  | _ + 1, .int i => some (.int i)
  | _ + 1, .str s => some (.str s)
  | k + 1, .tup ds => (ds.mapM (pyD S k)).map .tuple
  | k + 1, .fl ds => (ds.mapM (pyD S k)).map .list
  | k + 1, .scr ns => some (.list (ns.map PyData.int))
  | k + 1, .ref n => match S[n]? with
    | some ⟨.lst ds, _⟩ => (ds.mapM (pyD S k)).map .list
    | _ => none
def okV {α : Type} (a : α) : M α := fun S => some (.ok a, S)
def stuck {α : Type} : M α := fun _ => none
def ofOpt {α : Type} (o : Option α) : M α := fun S => match o with
  | some a => some (.ok a, S)
  | none => none
def guard (c : Bool) {α : Type} (m : M α) : M α := fun S => if c = true then m S else none

/-! ### two-place operations -/
def lineN : Nat := 16777216
def fAdd (a b : D) : M D := fun S =>
  match a, b with
  | .int i, .int j => some (.ok (.int (i + j)), S)
  | .str s, .str t => if s.length + t.length ≤ lineN then some (.ok (.str (s ++ t)), S) else none
  | a, b => match catOf a S, catOf b S with
    | some xs, some ys => if xs.length + ys.length ≤ lineN then some (.ok (.fl (xs ++ ys)), S) else none
    | _, _ => none
def fSub (a b : D) : M D := fun S =>
  match a, b with
  | .int i, .int j => some (.ok (.int (i - j)), S)
  | _, _ => none
def fMul (a b : D) : M D := fun S =>
  match a, b with
  | .int i, .int j => if (-18446744073709551616 < i ∧ i < 18446744073709551616) ∨ (-18446744073709551616 < j ∧ j < 18446744073709551616) then some (.ok (.int (i * j)), S) else none
  | a, .int k => match catOf a S with
    | some xs => if -1000000 ≤ k ∧ k ≤ 1000000 ∧ xs.length * k.toNat ≤ lineN then some (.ok (.fl (List.replicate k.toNat xs).flatten), S) else none
    | none => none
  | _, _ => none
def fDiv (a b : D) : M D := fun S =>
  match a, b with
  | .int i, .int j => if 0 < j ∧ j < 1606938044258990275541962092341162602522202993782792835301376 then some (.ok (.int (i / j)), S) else none
  | _, _ => none
def fMod (a b : D) : M D := fun S =>
  match a, b with
  | .int i, .int j => if 0 < j then some (.ok (.int (i % j)), S) else none
  | _, _ => none
def fPow (a b : D) : M D := fun S =>
  match a, b with
  | .int i, .int j => if 0 ≤ j ∧ j ≤ 1000 ∧ i.natAbs < 18446744073709551616 then some (.ok (.int (i ^ j.toNat)), S) else none
  | _, _ => none
def fCmpI (p : Int → Int → Bool) (a b : D) : M D := fun S =>
  match a, b with
  | .int i, .int j => some (.ok (.bl (p i j)), S)
  | _, _ => none
def intsOf : List D → Option (List Int)
  | [] => some []
  | .int i :: r => (intsOf r).map (i :: ·)
  | _ :: _ => none
def fLt (a b : D) : M D := fun S =>
  match a, b with
  | .int i, .int j => some (.ok (.bl (decide (i < j))), S)
  | .tup xs, .tup ys => match intsOf xs, intsOf ys with
    | some ns, some ms => some (.ok (.bl (HT.lexLt ns ms)), S)
    | _, _ => none
  | _, _ => none
abbrev fLe := fCmpI fun i j => decide (i ≤ j)
abbrev fGt := fCmpI fun i j => decide (j < i)
abbrev fGe := fCmpI fun i j => decide (j ≤ i)
def pyDepth : Nat := 8
def eqD (a b : D) (S : Store) : Option Bool :=
  match pyD S pyDepth a, pyD S pyDepth b with
  | some x, some y => if SeqAt.shaped x = true ∧ SeqAt.shaped y = true then some (PyData.eqv x y) else none
  | _, _ => none
def fEq (a b : D) : M D := fun S => match eqD a b S with
  | some k => some (.ok (.bl k), S)
  | none => none
def fNe (a b : D) : M D := fun S => match eqD a b S with
  | some k => some (.ok (.bl (!k)), S)
  | none => none
def isNon : D → Bool
  | .non => true
  | _ => false
def fIs (a b : D) : M D := fun S => match b with
  | .non => some (.ok (.bl (isNon a)), S)
  | .bl k => match a with
    | .bl j => some (.ok (.bl (decide (j = k))), S)
    | _ => none
  | _ => none
def fIsNot (a b : D) : M D := fun S => match b with
  | .non => some (.ok (.bl (!isNon a)), S)
  | _ => none
def inD (a b : D) (S : Store) : Option Bool :=
  match b with
  | .str z => match a with
    | .str w => match w.cps with
      | ⟨[c]⟩ => some (decide (c ∈ z.cps.toList))
      | _ => none
    | _ => none
  | b => match dctOf b S with
    | some kvs => match keyOf a with
      | some k => some (valD kvs k).isSome
      | none => none
    | none => match pyD S pyDepth a, pyD S pyDepth b with
      | some x, some (.list ys) => if SeqAt.shaped x = true ∧ SeqAt.shaped (.list ys) = true then some (ys.any fun z => PyData.eqv z x) else none
      | _, _ => none
def fIn (a b : D) : M D := fun S => match inD a b S with
  | some k => some (.ok (.bl k), S)
  | none => none
def fNotIn (a b : D) : M D := fun S => match inD a b S with
  | some k => some (.ok (.bl (!k)), S)
  | none => none
/-- a[b] -/
def fIx (a b : D) : M D := fun S =>
  match a with
  | .str z => match b with
    | .int i => match (if z.length ≤ lineN then atI z.cps.toList i else none) with
      | some c => some (.ok (.str ⟨#[c]⟩), S)
      | none => none
    | _ => none
  | a => match dctOf a S with
    | some kvs => match keyOf b with
      | some k => match valD kvs k with
        | some d => some (.ok d, S)
        | none => none
      | none => none
    | none => match seqOf a S, b with
      | some ds, .int i => match atI ds i with
        | some d => some (.ok d, S)
        | none => none
      | _, _ => none
def cutD (xs : List D) (lo hi : Option Int) : List D := (xs.drop (HT.sIx xs.length 0 lo)).take (HT.sIx xs.length xs.length hi - HT.sIx xs.length 0 lo)
/-- a[lo:hi] of a list -/
def fSl (a : D) (lo hi : Option Int) : M D := fun S =>
  match a with
  | .tup ds => if HT.sIx ds.length 0 lo = 0 ∧ HT.sIx ds.length ds.length hi = ds.length then none else some (.ok (.tup (cutD ds lo hi)), S)
  | a => match listOf a S with
    | some ds => some (.ok (.fl (cutD ds lo hi)), S)
    | none => none

/-! ### one-place operations -/
def fNeg (a : D) : M D := fun S => match a with
  | .int i => some (.ok (.int (-i)), S)
  | _ => none
def fFld (c : Nat) (f : Str) (a : D) : M D := fun S => match insOf a S with
  | some (c', fs) => if c' = c then (match fs.lookup f with
    | some d => some (.ok d, S)
    | none => none) else none
  | none => none
def fLen (a : D) : M D := fun S => match a with
  | .str z => if z.length ≤ lineN then some (.ok (.int z.length), S) else none
  | a => match dctU a S with
    | some kvs => some (.ok (.int kvs.length), S)
    | none => match seqOf a S with
      | some ds => some (.ok (.int ds.length), S)
      | none => none
/-- list(a), frozen | stored -/
def fList (a : D) : M D := fun S => match seqOf a S with
  | some ds => some (.ok (.fl ds), S)
  | none => none
def newO (o : SO) : M D := fun S => some (.ok (.ref S.length), S ++ [⟨o, false⟩])
def fListR (a : D) : M D := fun S => match seqOf a S with
  | some ds => newO (.lst ds) S
  | none => none
def fInt (a : D) : M D := fun S => match a with
  | .int i => some (.ok (.int i), S)
  | .bl k => some (.ok (.int (if k then 1 else 0)), S)
  | _ => none
def fSum (a : D) : M D := fun S => match listOf a S with
  | some ds => match intsOf ds with
    | some ns => some (.ok (.int ns.sum), S)
    | none => none
  | none => none
def tyD (a : D) (S : Store) : Option String := match a with
  | .non => some "NoneType"
  | .bl _ => some "bool"
  | .int _ => some "int"
  | .str _ => some "str"
  | .tup _ => some "tuple"
  | .fl _ => some "list"
  | .scr _ => none
  | .ref n => match S[n]? with
    | some ⟨.lst _, false⟩ => some "list"
    | some ⟨.dct _, false⟩ => some "dict"
    | _ => none
/-- isinstance(a, T), T a built-in class -/
def fIsi (T : String) (a : D) : M D := fun S => match tyD a S with
  | some t => some (.ok (.bl (t == T || (t == "bool" && T == "int"))), S)
  | none => none
/-- s.index(t), l.index(x) -/
def fIndexS (a b : D) : M D := fun S => match a, b with
  | .str z, .str w => match Builtin.Str.occurrences z w 0 z.length 1 with
    | i :: _ => some (.ok (.int (i : Nat)), S)
    | [] => none
  | _, _ => none
def fIndexL (a b : D) : M D := fun S => match pyD S pyDepth a, pyD S pyDepth b with
  | some (.list ys), some x => if SeqAt.shaped x = true ∧ SeqAt.shaped (.list ys) = true then (match ys.findIdx? (fun z => PyData.eqv z x) with
    | some j => some (.ok (.int (j : Nat)), S)
    | none => none) else none
  | _, _ => none

def a1 (f : D → M D) (ds : List D) : M D := match ds with
  | [a] => f a
  | _ => stuck
def a2 (f : D → D → M D) (ds : List D) : M D := match ds with
  | [a, b] => f a b
  | _ => stuck
def fMax2 (a b : D) : M D := fun S => match a, b with
  | .int i, .int j => some (.ok (.int (if j > i then j else i)), S)
  | _, _ => none
def fMin2 (a b : D) : M D := fun S => match a, b with
  | .int i, .int j => some (.ok (.int (if j < i then j else i)), S)
  | _, _ => none
/-- isinstance(x, C), C an own class -/
def fIsC (c : Nat) (d : D) : M D := fun S => match insOf d S with
  | some (c', _) => if c' = c then some (.ok (.bl true), S) else none
  | none => none

/-! ### sequencing -/
def bnd {α β : Type} (m : Out α) (f : α → M β) : Out β := match m with
  | some (.ok a, S) => f a S
  | some (.error x, S) => some (.error x, S)
  | none => none
def eVar (i : Nat) : ME := fun l S => match l[i]? with
  | some (some d) => some (.ok d, S)
  | _ => none
def eC (d : D) : ME := fun _ S => some (.ok d, S)
def e1 (f : D → M D) (a : ME) : ME := fun l S => bnd (a l S) f
def e2 (f : D → D → M D) (a b : ME) : ME := fun l S => bnd (a l S) fun x S1 => bnd (b l S1) fun y => f x y
def aNil : MA := fun _ S => some (.ok [], S)
def aCons (a : ME) (r : MA) : MA := fun l S => bnd (a l S) fun x S1 => bnd (r l S1) fun xs S2 => some (.ok (x :: xs), S2)
def eA (f : List D → M D) (a : MA) : ME := fun l S => bnd (a l S) f
def eTup (a : MA) : ME := eA (fun ds => guard (decide (ds.length ≤ lineN)) (okV (.tup ds))) a
def eLst (a : MA) : ME := eA (fun ds => guard (decide (ds.length ≤ lineN)) (okV (.fl ds))) a
def eLstR (a : MA) : ME := eA (fun ds => guard (decide (ds.length ≤ lineN)) (newO (.lst ds))) a
def blOf (d : D) : M Bool := fun S => match d with
  | .bl b => some (.ok b, S)
  | _ => none
def tOf (a : ME) : MT := fun l S => bnd (a l S) blOf
def tAnd (a b : MT) : MT := fun l S => bnd (a l S) fun c S1 => if c = true then b l S1 else some (.ok false, S1)
def tOr (a b : MT) : MT := fun l S => bnd (a l S) fun c S1 => if c = true then some (.ok true, S1) else b l S1
def tNot (a : MT) : MT := fun l S => bnd (a l S) fun c S1 => some (.ok (!c), S1)
def eAnd (a b : ME) : ME := fun l S => bnd (tOf a l S) fun c S1 => if c = true then b l S1 else some (.ok (.bl false), S1)
def eOr (a b : ME) : ME := fun l S => bnd (tOf a l S) fun c S1 => if c = true then some (.ok (.bl true), S1) else b l S1
def eNot (a : ME) : ME := fun l S => bnd (tOf a l S) fun c S1 => some (.ok (.bl (!c)), S1)
def eIf (t : MT) (a b : ME) : ME := fun l S => bnd (t l S) fun c S1 => if c = true then a l S1 else b l S1
/-- a < b < c: two comparisons, b asked once -/
def eChain (f g : D → D → M D) (a b c : ME) : ME := fun l S => bnd (a l S) fun x S1 => bnd (b l S1) fun y S2 => bnd (f x y S2) fun z S3 => match z with
  | .bl true => bnd (c l S3) fun w S4 => g y w S4
  | .bl false => some (.ok (.bl false), S3)
  | _ => none
def iofD (d : D) : M (Option Int) := fun S => match d with
  | .int i => some (.ok (some i), S)
  | _ => none
def oNo : Sl → M (Option Int) := fun _ S => some (.ok none, S)
def oSo (a : ME) : Sl → M (Option Int) := fun l S => bnd (a l S) iofD
def eSl (a : ME) (lo hi : Sl → M (Option Int)) : ME := fun l S => bnd (a l S) fun x S1 => bnd (lo l S1) fun i S2 => bnd (hi l S2) fun j S3 => fSl x i j S3
/-- o.m(..) of a built-in thing: chk is asked of o ahead of the arguments -/
def eBM (chk : D → Store → Bool) (f : D → List D → M D) (o : ME) (a : MA) : ME := fun l S => bnd (o l S) fun x S1 => if chk x S1 = true then bnd (a l S1) fun ds S2 => f x ds S2 else none
def isL (d : D) (S : Store) : Bool := (listOf d S).isSome
def isS (d : D) (_ : Store) : Bool := match d with
  | .str _ => true
  | _ => false
def m1 (f : D → D → M D) (x : D) (ds : List D) : M D := match ds with
  | [a] => f x a
  | _ => stuck
def eIndex (o : ME) (a : MA) : ME := fun l S => bnd (o l S) fun x S1 => if isS x S1 = true then (bnd (a l S1) fun ds S2 => m1 fIndexS x ds S2) else if isL x S1 = true then bnd (a l S1) fun ds S2 => m1 fIndexL x ds S2 else none
/-- o.m(..) of an instance of the class c -/
def eMeth (c : Nat) (m : Str) (g : List D → M D) (o : ME) (a : MA) : ME := fun l S => bnd (o l S) fun x S1 => match insOf x S1 with
  | some (c', fs) => if c' = c ∧ fs.lookup m = none then bnd (a l S1) fun ds S2 => g (x :: ds) S2 else none
  | none => none
/-- a new instance of the class c, its __init__ -/
def fMake (c : Nat) (init : List D → M D) (ds : List D) : M D := fun S => match init (.ref S.length :: ds) (S ++ [⟨.ins c [], false⟩]) with
  | some (.ok .non, S') => some (.ok (.ref S.length), S')
  | some (.error x, S') => some (.error x, S')
  | _ => none
/-- a new dict with written keys -/
def newDct (ks : List Key) (ds : List D) : M D := fun S => if ks.length = ds.length ∧ ks.length ≤ 15 then newO (.dct ((ks.zip ds).foldl (fun acc kv => putD acc kv.1 kv.2) [])) S else none

/-! ### statements -/
def sNext : MS := fun l S => some (.nx l, S)
def sSeq (a b : MS) : MS := fun l S => match a l S with
  | some (.nx l', S') => b l' S'
  | r => r
def bndS {α : Type} (l : Sl) (m : Out α) (f : α → Store → OutS) : OutS := match m with
  | some (.ok a, S) => f a S
  | some (.error x, S) => some (.ex x l, S)
  | none => none
def sBreak : MS := fun l S => some (.bk l, S)
def sCont : MS := fun l S => some (.ct l, S)
def sDrop (a : ME) : MS := fun l S => bndS l (a l S) fun _ S' => some (.nx l, S')
def sRet (a : ME) : MS := fun l S => bndS l (a l S) fun d S' => some (.rt d, S')
def sRetN : MS := fun _ S => some (.rt .non, S)
def sSet (i : Nat) (a : ME) : MS := fun l S => bndS l (a l S) fun d S' => some (.nx (l.set i (some d)), S')
def sIf (t : MT) (a b : MS) : MS := fun l S => bndS l (t l S) fun c S' => if c = true then a l S' else b l S'
/-- targets: a name, names of a tuple -/
def setAll : List Nat → List D → Sl → Option Sl
  | [], [], l => some l
  | i :: is, d :: ds, l => setAll is ds (l.set i (some d))
  | _, _, _ => none
inductive Tg where
  | one (i : Nat) | many (is : List Nat)
def tgIx : Tg → List Nat
  | .one i => [i]
  | .many is => is
def tgSet (t : Tg) (d : D) (l : Sl) : Option Sl := match t with
  | .one i => some (l.set i (some d))
  | .many is => match d with
    | .tup ds => setAll is ds l
    | _ => none
def sSetT (is : List Nat) (a : ME) : MS := fun l S => bndS l (a l S) fun d S' => match tgSet (.many is) d l with
  | some l' => some (.nx l', S')
  | none => none
def putFldD (c : Nat) (f : Str) (x d : D) : Store → Option Store := fun S => match x with
  | .ref n => match S[n]? with
    | some ⟨.ins c' fs, false⟩ => if c' = c ∧ fs.length < 1000 then some (S.set n ⟨.ins c (putFD f d fs), false⟩) else none
    | _ => none
  | _ => none
/-- o.f = e: e first -/
def sFld (c : Nat) (o : ME) (f : Str) (e : ME) : MS := fun l S => bndS l (e l S) fun d S1 => bndS l (o l S1) fun x S2 => match putFldD c f x d S2 with
  | some S3 => some (.nx l, S3)
  | none => none
def putIxD (x i d : D) : Store → Option Store := fun S => match x with
  | .ref n => match S[n]? with
    | some ⟨.lst ds, false⟩ => match i with
      | .int k => match ixN ds.length k with
        | some j => some (S.set n ⟨.lst (ds.set j d), false⟩)
        | none => none
      | _ => none
    | some ⟨.dct kvs, false⟩ => match keyOf i with
      | some k => if kvs.length < lineN then some (S.set n ⟨.dct (putD kvs k d), false⟩) else none
      | none => none
    | _ => none
  | _ => none
/-- o[i] = e: e first, then o, then i -/
def sPut (o i e : ME) : MS := fun l S => bndS l (e l S) fun d S1 => bndS l (o l S1) fun x S2 => bndS l (i l S2) fun k S3 => match putIxD x k d S3 with
  | some S4 => some (.nx l, S4)
  | none => none
def fAppend (x d : D) : M D := fun S => match x with
  | .ref n => match S[n]? with
    | some ⟨.lst ds, false⟩ => if ds.length < lineN then some (.ok .non, S.set n ⟨.lst (ds ++ [d]), false⟩) else none
    | _ => none
  | _ => none
def fPopAt (x i : D) : M D := fun S => match x with
  | .ref n => match S[n]? with
    | some ⟨.lst ds, false⟩ => match i with
      | .int 0 => match ds with
        | d :: r => if ds.length ≤ lineN then some (.ok d, S.set n ⟨.lst r, false⟩) else none
        | [] => none
      | _ => none
    | _ => none
  | _ => none
/-- d.get(k), d.get(k, x) -/
def fGet1 (x k : D) : M D := fun S => match dctOf x S, keyOf k with
  | some kvs, some k => some (.ok ((valD kvs k).getD .non), S)
  | _, _ => none
def fGet2 (x k d : D) : M D := fun S => match dctOf x S, keyOf k with
  | some kvs, some k => some (.ok ((valD kvs k).getD d), S)
  | _, _ => none
def eGet1 (o a : ME) : ME := fun l S => bnd (o l S) fun x S1 => match dctOf x S1 with
  | some _ => bnd (a l S1) fun k S2 => fGet1 x k S2
  | none => none
def eGet2 (o a b : ME) : ME := fun l S => bnd (o l S) fun x S1 => match dctOf x S1 with
  | some _ => bnd (a l S1) fun k S2 => bnd (b l S2) fun d S3 => fGet2 x k d S3
  | none => none

/-! ### loops -/
/-- the body at each item -/
def forL (tg : Tg) (body : MS) : List D → Sl → Store → OutS
  | [], l, S => some (.nx l, S)
  | d :: ds, l, S => match tgSet tg d l with
    | none => none
    | some l1 => match body l1 S with
      | some (.nx l', S') => forL tg body ds l' S'
      | some (.ct l', S') => forL tg body ds l' S'
      | some (.bk l', S') => some (.nx l', S')
      | r => r
/-- what is walked, as the store stands -/
abbrev Src := Store → Option (List D)
def forG (src : Src) (tg : Tg) (body : MS) : Nat → Nat → Sl → Store → OutS
  | 0, _, _, _ => none
  | k + 1, i, l, S => match src S with
    | none => none
    | some ds => match ds[i]? with
      | none => some (.nx l, S)
      | some d => match tgSet tg d l with
        | none => none
        | some l1 => match body l1 S with
          | some (.nx l', S') => forG src tg body k (i + 1) l' S'
          | some (.ct l', S') => forG src tg body k (i + 1) l' S'
          | some (.bk l', S') => some (.nx l', S')
          | r => r
def sFor (items : Sl → M Src) (tg : Tg) (body : MS) : MS := fun l S => bndS l (items l S) fun src S1 => match src S1 with
  | none => none
  | some ds => forG src tg body (ds.length + 1) 0 l S1
/-- a list -/
def iL (a : ME) : Sl → M Src := fun l S => bnd (a l S) fun x S1 => if isL x S1 = true then some (.ok (listOf x), S1) else none
def signsOf (z : Str) : List D := z.cps.toList.map fun c => D.str ⟨#[c]⟩
/-- a text, sign by sign -/
def iS (a : ME) : Sl → M Src := fun l S => bnd (a l S) fun x S1 => match x with
  | .str z => some (.ok (fun _ => some (signsOf z)), S1)
  | _ => none
def rangeD (lo : Int) (n : Nat) : List D := (List.range n).map fun (i : Nat) => D.int (lo + (i : Int))
def bigI (i : Int) : Bool := decide (-4611686018427387904 ≤ i ∧ i < 4611686018427387904)
def iR1 (a : ME) : Sl → M Src := fun l S => bnd (a l S) fun x S1 => match x with
  | .int n => if bigI n = true then some (.ok (fun _ => some (rangeD 0 n.toNat)), S1) else none
  | _ => none
def iR2 (a b : ME) : Sl → M Src := fun l S => bnd (a l S) fun x S1 => bnd (b l S1) fun y S2 => match x, y with
  | .int lo, .int hi => if bigI lo = true ∧ bigI hi = true then some (.ok (fun _ => some (rangeD lo (hi - lo).toNat)), S2) else none
  | _, _ => none
def enumD (ds : List D) : List D := ds.zipIdx.map fun p => D.tup [.int (p.2 : Nat), p.1]
def iEn (a : ME) : Sl → M Src := fun l S => bnd (a l S) fun x S1 => if isL x S1 = true then some (.ok (fun S' => (listOf x S').map enumD), S1) else none
def zipD (xs ys : List D) : List D := List.zipWith (fun x y => D.tup [x, y]) xs ys
def iZ (a b : ME) : Sl → M Src := fun l S => bnd (a l S) fun x S1 => bnd (b l S1) fun y S2 => if isL x S2 = true ∧ isL y S2 = true then some (.ok (fun S' => match listOf x S', listOf y S' with
  | some xs, some ys => some (zipD xs ys)
  | _, _ => none), S2) else none
def fuelN : Nat := 1000000
def whileF (t : MT) (body : MS) : Nat → Sl → Store → OutS
  | 0, _, _ => none
  | k + 1, l, S => bndS l (t l S) fun c S1 => if c = true then (match body l S1 with
      | some (.nx l', S') => whileF t body k l' S'
      | some (.ct l', S') => whileF t body k l' S'
      | some (.bk l', S') => some (.nx l', S')
      | r => r) else some (.nx l, S1)
def sWhile (t : MT) (body : MS) : MS := whileF t body fuelN
/-- what a comprehension's block sees -/
def wipeD (l : Sl) : List Nat → Sl
  | [] => l
  | v :: vs => (wipeD l vs).set v none
/-- no error leaves -/
def bndN {α β : Type} (m : Out α) (f : α → M β) : Out β := match m with
  | some (.ok a, S) => f a S
  | _ => none
def compG (src : Src) (tg : Tg) (t : MT) (e : ME) (l : Sl) : Nat → Nat → List D → M D
  | 0, _, _, _ => none
  | k + 1, i, acc, S => match src S with
    | none => none
    | some ds => match ds[i]? with
      | none => some (.ok (.fl acc), S)
      | some d => match tgSet tg d l with
        | none => none
        | some l1 => bndN (t l1 S) fun c S1 => if c = true then (bndN (e l1 S1) fun x S2 => if acc.length < lineN then compG src tg t e l k (i + 1) (acc ++ [x]) S2 else none) else compG src tg t e l k (i + 1) acc S1
def tYes' : MT := fun _ S => some (.ok true, S)
def eComp (vs : List Nat) (items : Sl → M Src) (tg : Tg) (t : MT) (e : ME) : ME := fun l S => bnd (items l S) fun src S1 => match src S1 with
  | none => none
  | some ds => compG src tg t e (wipeD l vs) (ds.length + 1) 0 [] S1
/-- .. of a list, all items kept -/
def compL (tg : Tg) (t : MT) (e : ME) (l : Sl) : List D → List D → M D
  | acc, [], S => some (.ok (.fl acc), S)
  | acc, d :: ds, S => match tgSet tg d l with
    | none => none
    | some l1 => bndN (t l1 S) fun c S1 => if c = true then (bndN (e l1 S1) fun x S2 => if acc.length < lineN then compL tg t e l (acc ++ [x]) ds S2 else none) else compL tg t e l acc ds S1
theorem forG_const {tg : Tg} {body : MS} (ds : List D) : ∀ (k i : Nat) (l : Sl) (S : Store), ds.length < k + i → i ≤ ds.length → forG (fun _ => some ds) tg body k i l S = forL tg body (ds.drop i) l S
  | 0, i, l, S, h, h' => absurd h (by omega)
  | k + 1, i, l, S, h, h' => by
    unfold forG
    cases e : ds[i]? with
    | none =>
      rw [List.drop_eq_nil_of_le (List.getElem?_eq_none_iff.mp e)]
      simp only [e]
      rfl
    | some d =>
      obtain ⟨hi, e2⟩ := List.getElem?_eq_some_iff.mp e
      rw [List.drop_eq_getElem_cons hi, e2]
      simp only [e]
      unfold forL
      cases tgSet tg d l with
      | none => rfl
      | some l1 =>
        simp only
        cases body l1 S with
        | none => rfl
        | some p =>
          obtain ⟨f, S'⟩ := p
          cases f with
          | nx l' => exact forG_const ds k (i + 1) l' S' (by omega) (by omega)
          | ct l' => exact forG_const ds k (i + 1) l' S' (by omega) (by omega)
          | bk l' => rfl
          | rt d => rfl
          | ex x l' => rfl
theorem forG_all {tg : Tg} {body : MS} {ds : List D} {l : Sl} {S : Store} : forG (fun _ => some ds) tg body (ds.length + 1) 0 l S = forL tg body ds l S := forG_const ds _ 0 l S (by omega) (by omega)
theorem compG_const {tg : Tg} {t : MT} {e : ME} {l : Sl} (ds : List D) : ∀ (k i : Nat) (acc : List D) (S : Store), ds.length < k + i → i ≤ ds.length → compG (fun _ => some ds) tg t e l k i acc S = compL tg t e l acc (ds.drop i) S
  | 0, i, acc, S, h, h' => absurd h (by omega)
  | k + 1, i, acc, S, h, h' => by
    unfold compG
    cases q : ds[i]? with
    | none =>
      rw [List.drop_eq_nil_of_le (List.getElem?_eq_none_iff.mp q)]
      simp only [q]
      rfl
    | some d =>
      obtain ⟨hi, e2⟩ := List.getElem?_eq_some_iff.mp q
      rw [List.drop_eq_getElem_cons hi, e2]
      simp only [q]
      unfold compL
      cases tgSet tg d l with
      | none => rfl
      | some l1 =>
        simp only
        have ih := fun acc S => compG_const (tg := tg) (t := t) (e := e) (l := l) ds k (i + 1) acc S (by omega) (by omega)
        simp only [ih]
theorem compG_all {tg : Tg} {t : MT} {e : ME} {l : Sl} {ds acc : List D} {S : Store} : compG (fun _ => some ds) tg t e l (ds.length + 1) 0 acc S = compL tg t e l acc ds S := compG_const ds _ 0 acc S (by omega) (by omega)
/-- a def: its slots, its body -/
def fnM (n : Nat) (np : Nat) (body : MS) : List D → M D := fun ds S => if ds.length = np then (match body (ds.map some ++ List.replicate (n - np) none) S with
  | some (.nx _, S') => some (.ok .non, S')
  | some (.rt d, S') => some (.ok d, S')
  | some (.ex x _, S') => some (.error x, S')
  | _ => none) else none
/-- raise C(..) -/
def sRaise (c : Nat) (fs : Option (List Str)) (a : MA) : MS := fun l S => bndS l (a l S) fun ds S' => match fs with
  | none => some (.ex ⟨c, none⟩ l, S')
  | some ns => if ns.length = ds.length then some (.ex ⟨c, some (ns.zip ds)⟩ l, S') else none
def noEx (r : OutS) : OutS := match r with
  | some (.ex _ _, _) => none
  | r => r
def unsetS (i : Nat) (r : OutS) : OutS := match r with
  | some (.nx l, S) => some (.nx (l.set i none), S)
  | some (.bk l, S) => some (.bk (l.set i none), S)
  | some (.ct l, S) => some (.ct (l.set i none), S)
  | some (.rt d, S) => some (.rt d, S)
  | _ => none
/-- try: body / except C [as slot i]: suite -/
def sTry (body : MS) (catch_ : Nat → Option Bool) (i : Option Nat) (suite : Exn → MS) : MS := fun l S => match body l S with
  | some (.ex x l', S') => match catch_ x.c with
    | some true => (match i with
      | none => noEx (suite x l' S')
      | some i => if i < l'.length then unsetS i (suite x (l'.set i none) S') else none)
    | some false => some (.ex x l', S')
    | none => none
  | r => r
/-- a field of the error that a suite holds -/
def eXF (c : Nat) (f : Str) (x : Exn) : ME := fun _ S => if x.c = c then (match x.fs with
  | some gs => match gs.lookup f with
    | some d => some (.ok d, S)
    | none => none
  | none => none) else none
/-- isinstance of that error -/
def eIsE (tab : Nat → Option Bool) (x : Exn) : ME := fun _ S => match x.fs with
  | some _ => none
  | none => match tab x.c with
    | some b => some (.ok (.bl b), S)
    | none => none
/-- raise C('..'), raise C(e) -/
def sRaiseB (c : Nat) : MS := fun l S => some (.ex ⟨c, none⟩ l, S)
def sRaiseN (c : Nat) (f : Str) (a : MA) : MS := fun l S => bndS l (a l S) fun ds S' => match ds with
  | [d] => some (.ex ⟨c, some [(f, d)]⟩ l, S')
  | _ => none
/-- no error comes out -/
def noErr {α : Type} (m : M α) : M α := fun S => match m S with
  | some (.ok a, S') => some (.ok a, S')
  | _ => none
end Sim

/-! Sim: what a run of the constructs promises of the layer's readings. -/
namespace Sim
open PySem PySem.Spec L2

section
variable (K : PySem.W.Frag) (ca : Nat → Addr)
/-- an error in the air -/
def XR (ρ φ : List Addr) (H : Hp) (cls : Value) (d : Option Addr) (x : Exn) : Prop := cls = .ref (ca x.c) ∧ XF K ρ φ H d x.fs
def AtM {α β : Type} (W : WW) (R : List Addr → List Addr → Hp → β → α → Prop) (ρ φ : List Addr) (H : Hp) (σ : St) (c : Out α) (Q : β → Hp → Prop) : Prop :=
  match c with
  | some (.ok a, S') => ∀ (ρ' : List Addr) (H' : Hp) (b : β), SR K ca ρ' φ S' H' → Ext ρ H ρ' H' → R ρ' φ H' b a → Q b H'
  | some (.error x, S') => ∀ (ρ' : List Addr) (H' : Hp) (C : Value) (d : Option Addr), SR K ca ρ' φ S' H' → Ext ρ H ρ' H' → XR K ca ρ' φ H' C d x → W.f C d σ H'
  | none => False
def Tm {α β : Type} (W : WW) (R : List Addr → List Addr → Hp → β → α → Prop) (m : Sl → M α) : St → Hp → (β → Hp → Prop) → Prop := fun σ H Q =>
  ∃ (ρ φ : List Addr) (S : Store) (l : Sl), SR K ca ρ φ S H ∧ SlX W.x K ρ φ H σ l ∧ AtM K ca W R ρ φ H σ (m l S) Q
def AtS (W : WW) (ρ φ : List Addr) (H : Hp) (c : OutS) (D : Ends) : Prop :=
  match c with
  | some (.nx l', S') => ∀ (ρ' : List Addr) (H' : Hp) (σ' : St), SR K ca ρ' φ S' H' → Ext ρ H ρ' H' → SlX W.x K ρ' φ H' σ' l' → D.nx σ' H'
  | some (.bk l', S') => ∀ (ρ' : List Addr) (H' : Hp) (σ' : St), SR K ca ρ' φ S' H' → Ext ρ H ρ' H' → SlX W.x K ρ' φ H' σ' l' → D.bk σ' H'
  | some (.ct l', S') => ∀ (ρ' : List Addr) (H' : Hp) (σ' : St), SR K ca ρ' φ S' H' → Ext ρ H ρ' H' → SlX W.x K ρ' φ H' σ' l' → D.ct σ' H'
  | some (.rt d, S') => ∀ (ρ' : List Addr) (H' : Hp) (v : V), SR K ca ρ' φ S' H' → Ext ρ H ρ' H' → Rel K ρ' φ H' v d → D.rt v H'
  | some (.ex x l', S') => ∀ (ρ' : List Addr) (H' : Hp) (σ' : St) (C : Value) (d : Option Addr), SR K ca ρ' φ S' H' → Ext ρ H ρ' H' → SlX W.x K ρ' φ H' σ' l' → XR K ca ρ' φ H' C d x → W.f C d σ' H'
  | none => False
def TmS (W : WW) (m : MS) : TS := fun D σ H => ∃ (ρ φ : List Addr) (S : Store) (l : Sl), SR K ca ρ φ S H ∧ SlX W.x K ρ φ H σ l ∧ AtS K ca W ρ φ H (m l S) D
/-- equal, whatever the heap -/
def REq {α : Type} (_ _ : List Addr) (_ : Hp) (b a : α) : Prop := b = a
end

section
variable (ca : Nat → Addr) (W : WW) (X : Cx)
def SE (e : Expr) (m : ME) : Prop := PE X e (Tm X.K ca W (Rel X.K) m)
def ST (e : Expr) (m : MT) : Prop := PT X e (Tm X.K ca W REq m)
def SW (e : Expr) (m : MT) : Prop := PW X e (Tm X.K ca W REq m)
def SA (es : List Expr) (m : MA) : Prop := PA X es (Tm X.K ca W (Rels X.K) m)
def SO' (e : Option Expr) (m : Sl → M (Option Int)) : Prop := PO X e (Tm X.K ca W REq m)
def SS (st : Stmt) (m : MS) : Prop := PS X st (TmS X.K ca W m)
def SSs (st : List Stmt) (m : MS) : Prop := PSs X st (TmS X.K ca W m)
end

section
variable {X : Cx}
theorem pe_imp {e : Expr} {t t' : TE} (h : PE X e t) (i : ∀ σ H Q, t' σ H Q → t σ H Q) : PE X e t' := ⟨fun pins s σ H Q I q => h.run pins s σ H Q I (i σ H Q q)⟩
theorem pt_imp {e : Expr} {t t' : TT} (h : PT X e t) (i : ∀ σ H Q, t' σ H Q → t σ H Q) : PT X e t' := ⟨fun pins s σ H Q I q => h.run pins s σ H Q I (i σ H Q q)⟩
theorem pw_imp {e : Expr} {t t' : TT} (h : PW X e t) (i : ∀ σ H Q, t' σ H Q → t σ H Q) : PW X e t' := ⟨fun wh pins s σ H Q I q => h.run wh pins s σ H Q I (i σ H Q q)⟩
theorem pa_imp {e : List Expr} {t t' : TA} (h : PA X e t) (i : ∀ σ H Q, t' σ H Q → t σ H Q) : PA X e t' := ⟨fun pos pins s σ H Q I q => h.run pos pins s σ H Q I (i σ H Q q)⟩
theorem ps_imp {e : Stmt} {t t' : TS} (h : PS X e t) (i : ∀ D σ H, t' D σ H → t D σ H) : PS X e t' := ⟨fun pins s σ H D I q => h.run pins s σ H D I (i D σ H q)⟩
theorem pss_imp {e : List Stmt} {t t' : TS} (h : PSs X e t) (i : ∀ D σ H, t' D σ H → t D σ H) : PSs X e t' := ⟨fun pins s σ H D I q => h.run pins s σ H D I (i D σ H q)⟩
/-- one or the other -/
theorem pe_or2 {e : Expr} {t u : TE} (h : PE X e t) (k : PE X e u) : PE X e (fun σ H Q => t σ H Q ∨ u σ H Q) := ⟨fun pins s σ H Q I q => q.elim (h.run pins s σ H Q I) (k.run pins s σ H Q I)⟩
theorem ps_or2 {e : Stmt} {t u : TS} (h : PS X e t) (k : PS X e u) : PS X e (fun D σ H => t D σ H ∨ u D σ H) := ⟨fun pins s σ H D I q => q.elim (h.run pins s σ H D I) (k.run pins s σ H D I)⟩
theorem opR_or {f : Value → Value → Sem Value} {r r' : R2} (h : OpR X f r) (k : OpR X f r') : OpR X f (fun x y H Q => r x y H Q ∨ r' x y H Q) := by
  intro pins s σ H x y v u Q I rx ry q
  exact q.elim (h pins s σ H x y v u Q I rx ry) (k pins s σ H x y v u Q I rx ry)
theorem callR_or {f : Value} {r r' : List V → Hp → VK → Prop} (h : CallR X f r) (k : CallR X f r') : CallR X f (fun xs H Q => r xs H Q ∨ r' xs H Q) := by
  intro pins s σ H xs us Q I rx q
  exact q.elim (h pins s σ H xs us Q I rx) (k pins s σ H xs us Q I rx)
end

section
variable {K : PySem.W.Frag} {ca : Nat → Addr} {ρ ρ' φ : List Addr} {S S' : Store} {H H' : Hp}
theorem XR.mono {C : Value} {d : Option Addr} {x : Exn} (e : Ext ρ H ρ' H') (h : XR K ca ρ φ H C d x) : XR K ca ρ' φ H' C d x := ⟨h.1, h.2.mono e⟩
theorem SR.trk (h : SR K ca ρ φ S H) {a : Addr} (ha : a ∈ ρ) : H a ≠ none := by
  obtain ⟨n, hn⟩ := List.mem_iff_getElem?.mp ha
  have hl : n < S.length := by rw [← h.len]; exact (List.getElem?_eq_some_iff.mp hn).1
  obtain ⟨ho, q, _⟩ := h.ob n a (S[n]) hn (List.getElem?_eq_getElem hl)
  unfold At at q
  split at q
  · obtain ⟨o, q⟩ := q; rw [q]; simp
  · rw [q]; simp
theorem SR.fresh (h : SR K ca ρ φ S H) {p : Addr} (hp : H p = none) : p ∉ ρ ∧ p ∉ φ := ⟨fun z => h.trk z hp, fun z => h.ph p z hp⟩
theorem Ext.lay {p : Addr} {o : HO} (hp : H p = none) : Ext ρ H ρ (upd H p o) :=
  ⟨⟨[], by simp, by simp⟩, fun b u hb _ => by rw [upd_ne (ne_of_none hb hp)]; exact hb, fun b hb => by
    by_cases c : b = p
    · subst c; rw [upd_same]; simp
    · rw [upd_ne c]; exact hb, fun b o u hb => by rw [upd_ne (ne_of_none hb hp)]; exact hb⟩
theorem At.lay {a p : Addr} {ho o : HO} {k : Bool} (h : At H a ho k) (hp : H p = none) : At (upd H p o) a ho k := by
  cases k with
  | true =>
    obtain ⟨u, h⟩ := (show ∃ u, H a = some (.frz u ho) from h)
    exact (show ∃ u, upd H p o a = some (.frz u ho) from ⟨u, by rw [upd_ne (ne_of_none h hp)]; exact h⟩)
  | false =>
    have h' : H a = some ho := h
    show upd H p o a = some ho
    rw [upd_ne (ne_of_none h' hp)]; exact h'
theorem At.put {a p : Addr} {ho o : HO} {k : Bool} (h : At H a ho k) (hp : a ≠ p) : At (upd H p o) a ho k := by
  cases k with
  | true =>
    obtain ⟨u, h⟩ := (show ∃ u, H a = some (.frz u ho) from h)
    exact (show ∃ u, upd H p o a = some (.frz u ho) from ⟨u, by rw [upd_ne hp]; exact h⟩)
  | false =>
    have h' : H a = some ho := h
    show upd H p o a = some ho
    rw [upd_ne hp]; exact h'
/-- a new frozen thing -/
theorem SR.lay (h : SR K ca ρ φ S H) {p : Addr} {o : HO} (hp : H p = none) : SR K ca ρ φ S (upd H p o) :=
  ⟨h.nd, h.len, h.dj, fun a ha => Ext.trk (Ext.lay (ρ := ρ) hp) a (h.ph a ha), fun n a c h1 h2 => by
    obtain ⟨ho, q1, q2⟩ := h.ob n a c h1 h2
    exact ⟨ho, q1.lay hp, q2.mono (Ext.lay hp)⟩⟩
/-- a new stored thing -/
theorem SR.grow (h : SR K ca ρ φ S H) {p : Addr} {ho : HO} {so : SO} (hp : H p = none) (r : RelO K ca (ρ ++ [p]) φ (upd H p ho) ho so) : SR K ca (ρ ++ [p]) φ (S ++ [⟨so, false⟩]) (upd H p ho) := by
  obtain ⟨f1, f2⟩ := h.fresh hp
  have e : Ext ρ H (ρ ++ [p]) (upd H p ho) := ⟨⟨[p], rfl, fun q hq => by rw [List.mem_singleton.mp hq]; exact hp⟩, (Ext.lay (ρ := ρ) hp).keep, (Ext.lay (ρ := ρ) hp).trk, (Ext.lay (ρ := ρ) hp).fz⟩
  refine ⟨?_, by simp [h.len], fun a ha hm => ?_, fun a ha => e.trk a (h.ph a ha), fun n a c h1 h2 => ?_⟩
  · rw [List.nodup_append]
    exact ⟨h.nd, by simp, fun a ha b hb z => by rw [List.mem_singleton.mp hb] at z; subst z; exact f1 ha⟩
  · rcases List.mem_append.mp hm with z | z
    · exact h.dj a ha z
    · rw [List.mem_singleton.mp z] at ha; exact f2 ha
  · by_cases hn : n < ρ.length
    · rw [List.getElem?_append_left hn] at h1
      rw [List.getElem?_append_left (by rw [← h.len]; exact hn)] at h2
      obtain ⟨ho', q1, q2⟩ := h.ob n a c h1 h2
      exact ⟨ho', q1.lay hp, q2.mono e⟩
    · rw [List.getElem?_append_right (by omega)] at h1
      rw [List.getElem?_append_right (by rw [← h.len]; omega)] at h2
      have hz : n - ρ.length = 0 := by
        have := (List.getElem?_eq_some_iff.mp h1).1
        simpa using this
      rw [hz] at h1
      rw [← h.len, hz] at h2
      cases h1; cases h2
      exact ⟨ho, upd_same, r⟩
theorem Ext.grow {p : Addr} {ho : HO} (hp : H p = none) : Ext ρ H (ρ ++ [p]) (upd H p ho) :=
  ⟨⟨[p], rfl, fun q hq => by rw [List.mem_singleton.mp hq]; exact hp⟩, (Ext.lay (ρ := ρ) hp).keep, (Ext.lay (ρ := ρ) hp).trk, (Ext.lay (ρ := ρ) hp).fz⟩
/-- no lock stands on it -/
def NoFz (H : Hp) (p : Addr) : Prop := ∀ o u, H p ≠ some (.frz o u)
theorem Ext.put {p : Addr} {ho : HO} (hp : p ∈ ρ) (ht : H p ≠ none) (hz : NoFz H p) : Ext ρ H ρ (upd H p ho) :=
  ⟨⟨[], by simp, by simp⟩, fun b u hb n => by rw [upd_ne (fun z => n (by rw [z]; exact hp))]; exact hb, fun b hb => by
    by_cases c : b = p
    · subst c; rw [upd_same]; simp
    · rw [upd_ne c]; exact hb, fun b o u hb => by
    by_cases c : b = p
    · subst c; exact absurd hb (hz o u)
    · rw [upd_ne c]; exact hb⟩
theorem nofz_lst {p : Addr} {xs : List V} (h : H p = some (.lst xs)) : NoFz H p := fun o u z => by rw [h] at z; cases z
theorem nofz_dK {p : Addr} {xs : List (Key × V)} (h : H p = some (.dK xs)) : NoFz H p := fun o u z => by rw [h] at z; cases z
theorem nofz_ins {p C d : Addr} {xs : List (Str × V)} (h : H p = some (.ins C d xs)) : NoFz H p := fun o u z => by rw [h] at z; cases z
theorem nd_ix' {α : Type} {l : List α} (hN : l.Nodup) {i j : Nat} {x : α} (a : l[i]? = some x) (b : l[j]? = some x) : i = j := by
  obtain ⟨h1, e1⟩ := List.getElem?_eq_some_iff.mp a
  obtain ⟨h2, e2⟩ := List.getElem?_eq_some_iff.mp b
  exact (List.getElem_inj hN).mp (e1.trans e2.symm)
/-- a stored thing changes -/
theorem SR.put (h : SR K ca ρ φ S H) {n : Nat} {p : Addr} {c : Cell} {ho : HO} {so : SO} (hn : ρ[n]? = some p) (hz : NoFz H p) (r : RelO K ca ρ φ (upd H p ho) ho so) : SR K ca ρ φ (S.set n ⟨so, false⟩) (upd H p ho) := by
  have hp : p ∈ ρ := List.mem_of_getElem? hn
  have e : Ext ρ H ρ (upd H p ho) := Ext.put hp (h.trk hp) hz
  refine ⟨h.nd, by rw [List.length_set]; exact h.len, h.dj, fun a ha => e.trk a (h.ph a ha), fun m a c' h1 h2 => ?_⟩
  by_cases hm : n = m
  · subst hm
    have z : p = a := Option.some.inj (hn.symm.trans h1)
    subst z
    rw [List.getElem?_set_self (by rw [← h.len]; exact (List.getElem?_eq_some_iff.mp hn).1)] at h2
    cases h2
    exact ⟨ho, upd_same, r⟩
  · rw [List.getElem?_set_ne hm] at h2
    obtain ⟨ho', q1, q2⟩ := h.ob m a c' h1 h2
    exact ⟨ho', q1.put (fun z => hm (nd_ix' h.nd hn (z ▸ h1))), q2.mono e⟩

/-! ### outcomes -/
section
variable {α β γ δ : Type} {W : WW} {R : List Addr → List Addr → Hp → β → α → Prop} {R' : List Addr → List Addr → Hp → δ → γ → Prop} {σ : St} {l : Sl} {Q : β → Hp → Prop} {Q' : δ → Hp → Prop}
theorem AtM.mono {c : Out α} (e : Ext ρ H ρ' H') (h : AtM K ca W R ρ φ H σ c Q) : AtM K ca W R ρ' φ H' σ c Q := by
  unfold AtM at h ⊢
  split at h
  · exact fun ρ2 H2 b hS e2 r => h ρ2 H2 b hS (e.trans e2) r
  · exact fun ρ2 H2 C d hS e2 r => h ρ2 H2 C d hS (e.trans e2) r
  · exact h
theorem AtM.here {a : α} {b : β} (h : AtM K ca W R ρ φ H σ (some (.ok a, S)) Q) (hS : SR K ca ρ φ S H) (r : R ρ φ H b a) : Q b H := h ρ H b hS (Ext.refl ρ H) r
theorem bindAt {m : Sl → M α} {k : α → M γ} (hS : SR K ca ρ φ S H) (hl : SlX W.x K ρ φ H σ l) (h : AtM K ca W R' ρ φ H σ (bnd (m l S) k) Q')
    (q : ∀ a S1 ρ1 H1 b, m l S = some (.ok a, S1) → SR K ca ρ1 φ S1 H1 → Ext ρ H ρ1 H1 → R ρ1 φ H1 b a → AtM K ca W R' ρ1 φ H1 σ (k a S1) Q' → Q b H1) : Tm K ca W R m σ H Q := by
  refine ⟨ρ, φ, S, l, hS, hl, ?_⟩
  cases hm : m l S with
  | none => rw [hm] at h; exact h
  | some p =>
    obtain ⟨r, S1⟩ := p
    rw [hm] at h
    cases r with
    | error x => exact h
    | ok a => exact fun ρ1 H1 b hS1 e1 r1 => q a S1 ρ1 H1 b hm hS1 e1 r1 (h.mono e1)
theorem bindC {c : Out α} {k : α → M γ} (h : AtM K ca W R' ρ φ H σ (bnd c k) Q')
    (q : ∀ a S1 ρ1 H1 b, SR K ca ρ1 φ S1 H1 → Ext ρ H ρ1 H1 → R ρ1 φ H1 b a → AtM K ca W R' ρ1 φ H1 σ (k a S1) Q' → Q b H1) : AtM K ca W R ρ φ H σ c Q := by
  cases c with
  | none => exact h
  | some p =>
    obtain ⟨r, S1⟩ := p
    cases r with
    | error x => exact h
    | ok a => exact fun ρ1 H1 b hS1 e1 r1 => q a S1 ρ1 H1 b hS1 e1 r1 (h.mono e1)
theorem bindAtS {m : Sl → M α} {k : α → Store → OutS} {D : Ends} (hS : SR K ca ρ φ S H) (hl : SlX W.x K ρ φ H σ l) (h : AtS K ca W ρ φ H (bndS l (m l S) k) D)
    (mono : ∀ {ρ1 H1 c}, Ext ρ H ρ1 H1 → AtS K ca W ρ φ H c D → AtS K ca W ρ1 φ H1 c D)
    (q : ∀ a S1 ρ1 H1 b, m l S = some (.ok a, S1) → SR K ca ρ1 φ S1 H1 → Ext ρ H ρ1 H1 → R ρ1 φ H1 b a → AtS K ca W ρ1 φ H1 (k a S1) D → Q b H1) : Tm K ca W R m σ H Q := by
  refine ⟨ρ, φ, S, l, hS, hl, ?_⟩
  cases hm : m l S with
  | none => rw [hm] at h; exact h
  | some p =>
    obtain ⟨r, S1⟩ := p
    rw [hm] at h
    cases r with
    | error x => exact fun ρ1 H1 C d hS1 e1 r1 => h ρ1 H1 σ C d hS1 e1 (hl.mono e1) r1
    | ok a => exact fun ρ1 H1 b hS1 e1 r1 => q a S1 ρ1 H1 b hm hS1 e1 r1 (mono e1 h)
end
theorem AtS.mono {W : WW} {c : OutS} {D : Ends} (e : Ext ρ H ρ' H') (h : AtS K ca W ρ φ H c D) : AtS K ca W ρ' φ H' c D := by
  unfold AtS at h ⊢
  split at h
  · exact fun ρ2 H2 b hS e2 r => h ρ2 H2 b hS (e.trans e2) r
  · exact fun ρ2 H2 b hS e2 r => h ρ2 H2 b hS (e.trans e2) r
  · exact fun ρ2 H2 b hS e2 r => h ρ2 H2 b hS (e.trans e2) r
  · exact fun ρ2 H2 b hS e2 r => h ρ2 H2 b hS (e.trans e2) r
  · exact fun ρ2 H2 b C d hS e2 r => h ρ2 H2 b C d hS (e.trans e2) r
  · exact h
end

section
variable {K : PySem.W.Frag} {ca : Nat → Addr} {ρ ρ' φ : List Addr} {S S' : Store} {H H' : Hp} {v : V} {d : D}
/-! ### reading data -/
theorem SR.obj (h : SR K ca ρ φ S H) {n : Nat} {a : Addr} {so : SO} {k : Bool} (hn : ρ[n]? = some a) (hs : S[n]? = some ⟨so, k⟩) : ∃ ho, At H a ho k ∧ RelO K ca ρ φ H ho so := h.ob n a ⟨so, k⟩ hn hs
theorem At.rd {a : Addr} {ho : HO} {k : Bool} (h : At H a ho k) : Rd H a ho := by
  unfold At at h
  split at h
  · exact .inr h
  · exact .inl h
theorem At.tr {a : Addr} {ho : HO} (h : At H a ho false) : H a = some ho := h
theorem scr_sq {p : Addr} {ns : List Int} (h : Scr K ρ φ H p ns) : SqL K H p (ns.map V.int) := by
  rcases h with ⟨h, _, _⟩ | h
  · exact .inl h
  · exact h H
theorem list_rel (hS : SR K ca ρ φ S H) (r : Rel K ρ φ H v d) {ds : List D} (h : listOf d S = some ds) : ∃ p xs, v = .ref p ∧ SqL K H p xs ∧ Rels K ρ φ H xs ds := by
  cases r with
  | fl h1 n m r =>
    rename_i p xs es
    cases h
    exact ⟨p, xs, rfl, .inl (.inl h1), r⟩
  | scr h1 =>
    rename_i p ns
    cases h
    exact ⟨p, _, rfl, scr_sq h1, Rels.ofInts ns⟩
  | ref h1 =>
    rename_i a n
    unfold listOf at h
    simp only at h
    split at h
    · rename_i es k hs
      cases h
      obtain ⟨ho, q1, q2⟩ := hS.obj h1 hs
      unfold RelO at q2
      split at q2
      · rename_i xs es' e; cases e; exact ⟨a, xs, rfl, .inl q1.rd, q2⟩
      · rename_i e; cases e
      · rename_i e; cases e
      · exact q2.elim
    · cases h
  | _ => cases h
theorem cat_rel (hS : SR K ca ρ φ S H) (r : Rel K ρ φ H v d) {ds : List D} (h : catOf d S = some ds) : ∃ p xs, v = .ref p ∧ H p = some (.lst xs) ∧ Rels K ρ φ H xs ds := by
  cases r with
  | fl h1 n m r =>
    rename_i p xs es
    cases h
    exact ⟨p, xs, rfl, h1, r⟩
  | ref h1 =>
    rename_i a n
    unfold catOf at h
    simp only at h
    split at h
    · rename_i es hs
      cases h
      obtain ⟨ho, q1, q2⟩ := hS.obj h1 hs
      unfold RelO at q2
      split at q2
      · rename_i xs es' e; cases e; exact ⟨a, xs, rfl, q1, q2⟩
      · rename_i e; cases e
      · rename_i e; cases e
      · exact q2.elim
    · cases h
  | _ => cases h
theorem seq_rel (hS : SR K ca ρ φ S H) (r : Rel K ρ φ H v d) {ds : List D} (h : seqOf d S = some ds) : ∃ p xs, v = .ref p ∧ (SqL K H p xs ∨ SqT K H p xs) ∧ Rels K ρ φ H xs ds := by
  unfold seqOf at h
  split at h
  · cases h
    cases r with
    | tup h1 n m r => exact ⟨_, _, rfl, .inr (.inl (.inl h1)), r⟩
  · obtain ⟨p, xs, e, q, r⟩ := list_rel hS r h
    exact ⟨p, xs, e, .inl q, r⟩
theorem dct_rel (hS : SR K ca ρ φ S H) (r : Rel K ρ φ H v d) {ks : List (Key × D)} (h : dctOf d S = some ks) : ∃ p kvs, v = .ref p ∧ Rd H p (.dK kvs) ∧ RelK K ρ φ H kvs ks := by
  cases r with
  | ref h1 =>
    rename_i a n
    unfold dctOf at h
    simp only at h
    split at h
    · rename_i es k hs
      cases h
      obtain ⟨ho, q1, q2⟩ := hS.obj h1 hs
      unfold RelO at q2
      split at q2
      · rename_i e; cases e
      · rename_i xs es' e; cases e; exact ⟨a, xs, rfl, q1.rd, q2⟩
      · rename_i e; cases e
      · exact q2.elim
    · cases h
  | _ => cases h
theorem ins_rel (hS : SR K ca ρ φ S H) (r : Rel K ρ φ H v d) {c : Nat} {gs : List (Str × D)} (h : insOf d S = some (c, gs)) : ∃ n p dx fs, d = .ref n ∧ v = .ref p ∧ ρ[n]? = some p ∧ S[n]? = some ⟨.ins c gs, false⟩ ∧ H p = some (.ins (ca c) dx fs) ∧ RelK K ρ φ H fs gs := by
  cases r with
  | ref h1 =>
    rename_i a n
    unfold insOf at h
    simp only at h
    split at h
    · rename_i c' es hs
      cases h
      obtain ⟨ho, q1, q2⟩ := hS.obj h1 hs
      unfold RelO at q2
      split at q2
      · rename_i e; cases e
      · rename_i e; cases e
      · rename_i C dx fs c2 gs2 e
        cases e
        obtain ⟨q3, q4⟩ := q2
        subst q3
        exact ⟨n, a, dx, fs, rfl, rfl, h1, hs, q1, q4⟩
      · exact q2.elim
    · cases h
  | _ => cases h
theorem dctU_rel (hS : SR K ca ρ φ S H) (r : Rel K ρ φ H v d) {ks : List (Key × D)} (h : dctU d S = some ks) : ∃ p kvs, v = .ref p ∧ H p = some (.dK kvs) ∧ RelK K ρ φ H kvs ks := by
  cases r with
  | ref h1 =>
    rename_i a n
    unfold dctU at h
    simp only at h
    split at h
    · rename_i es hs
      cases h
      obtain ⟨ho, q1, q2⟩ := hS.obj h1 hs
      unfold RelO at q2
      split at q2
      · rename_i e; cases e
      · rename_i xs es' e; cases e; exact ⟨a, xs, rfl, q1, q2⟩
      · rename_i e; cases e
      · exact q2.elim
    · cases h
  | _ => cases h
theorem relK_val {k : Key} : ∀ {vs : List (Key × V)} {ds : List (Key × D)}, RelK K ρ φ H vs ds → (valV vs k = none ∧ valD ds k = none) ∨ ∃ v d, valV vs k = some v ∧ valD ds k = some d ∧ Rel K ρ φ H v d
  | _, _, .nil => .inl ⟨rfl, rfl⟩
  | (k', v) :: vs, (_, d) :: ds, .cons r rs => by
    by_cases c : k' = k
    · exact .inr ⟨v, d, by simp [valV, List.find?_cons, c], by simp [valD, List.find?_cons, c], r⟩
    · have e1 : valV ((k', v) :: vs) k = valV vs k := by simp [valV, List.find?_cons, c]
      have e2 : valD ((k', d) :: ds) k = valD ds k := by simp [valD, List.find?_cons, c]
      rw [e1, e2]
      exact relK_val rs
theorem relK_any {k : Key} : ∀ {vs : List (Key × V)} {ds : List (Key × D)}, RelK K ρ φ H vs ds → (vs.any fun kv => decide (kv.1 = k)) = (ds.any fun kv => decide (kv.1 = k))
  | _, _, .nil => rfl
  | _, _, .cons r rs => by rw [List.any_cons, List.any_cons, relK_any rs]
theorem relK_append {κ : Type} : ∀ {vs ws : List (κ × V)} {ds es : List (κ × D)}, RelK K ρ φ H vs ds → RelK K ρ φ H ws es → RelK K ρ φ H (vs ++ ws) (ds ++ es)
  | _, _, _, _, .nil, s => s
  | _, _, _, _, .cons r rs, s => .cons r (relK_append rs s)
theorem relK_put {k : Key} (q : Rel K ρ φ H v d) {vs : List (Key × V)} {ds : List (Key × D)} (h : RelK K ρ φ H vs ds) : RelK K ρ φ H (putK vs k v) (putD ds k d) := by
  have hm : ∀ {vs : List (Key × V)} {ds : List (Key × D)}, RelK K ρ φ H vs ds → RelK K ρ φ H (vs.map (fun kv => if kv.1 = k then (kv.1, v) else kv)) (ds.map (fun kv => if kv.1 = k then (kv.1, d) else kv)) := by
    intro vs ds h
    induction h with
    | nil => exact .nil
    | cons r rs ih =>
      rename_i k' v' d' vs' ds'
      rw [List.map_cons, List.map_cons]
      by_cases c : k' = k
      · rw [if_pos c, if_pos c]; exact .cons q ih
      · rw [if_neg c, if_neg c]; exact .cons r ih
  unfold putK putD
  rw [relK_any h]
  split
  · exact hm h
  · exact relK_append h (.cons q .nil)
theorem relK_putF {f : Str} (q : Rel K ρ φ H v d) : ∀ {vs : List (Str × V)} {ds : List (Str × D)}, RelK K ρ φ H vs ds → RelK K ρ φ H (putF f v vs) (putFD f d ds)
  | _, _, .nil => .cons q .nil
  | (g, x) :: vs, (_, y) :: ds, .cons r rs => by
    unfold putF putFD
    by_cases c : g = f
    · rw [if_pos c, if_pos c]; exact .cons q rs
    · rw [if_neg c, if_neg c]; exact .cons r (relK_putF q rs)
theorem putF_len {f : Str} {v : V} : ∀ {fs : List (Str × V)} , (putF f v fs).length ≤ fs.length + 1
  | [] => Nat.le_refl _
  | (g, x) :: r => by
    unfold putF
    split
    · exact Nat.le_succ _
    · simpa using putF_len (fs := r)
theorem ints_rel : ∀ {vs : List V} {ds : List D} {ns : List Int}, Rels K ρ φ H vs ds → intsOf ds = some ns → vs = ns.map V.int
  | _, _, _, .nil, h => by cases h; rfl
  | _, _, _, .cons r rs, h => by
    cases r <;> first | (cases h; done) | skip
    rename_i i
    unfold intsOf at h
    rename_i ds
    cases e : intsOf ds with
    | none => rw [e] at h; cases h
    | some ms => rw [e] at h; cases h; rw [ints_rel rs e]; rfl
theorem dp_ints : ∀ (ns : List Int), DpAll K H (ns.map V.int) (ns.map PyData.int)
  | [] => .nil
  | n :: ns => .cons (.int n) (dp_ints ns)
theorem py_all {k : Nat} (ih : ∀ {v : V} {d : D} {x : PyData}, Rel K ρ φ H v d → pyD S k d = some x → Dp K H v x) : ∀ {vs : List V} {ds : List D} {xs : List PyData}, Rels K ρ φ H vs ds → ds.mapM (pyD S k) = some xs → DpAll K H vs xs
  | _, _, xs, .nil, h => by
    rw [List.mapM_nil] at h
    cases h
    exact .nil
  | _, d :: ds, xs, .cons r rs, h => by
    rw [List.mapM_cons] at h
    cases e : pyD S k d with
    | none => rw [e] at h; cases h
    | some x =>
      rw [e] at h
      cases e2 : ds.mapM (pyD S k) with
      | none => rw [e2] at h; cases h
      | some ys => rw [e2] at h; cases h; exact .cons (ih r e) (py_all ih rs e2)
theorem py_rel (hS : SR K ca ρ φ S H) : ∀ (k : Nat) {v : V} {d : D} {x : PyData}, Rel K ρ φ H v d → pyD S k d = some x → Dp K H v x
  | 0, _, _, _, _, h => by unfold pyD at h; cases h
  | k + 1, v, d, x, r, h => by
    cases r with
    | non => unfold pyD at h; cases h; exact .non
    | bl b => unfold pyD at h; cases h; exact .bl b
    | int i => unfold pyD at h; cases h; exact .int i
    | str s => unfold pyD at h; cases h; exact .str s
    | tup h1 n m r =>
      rename_i p xs ds
      unfold pyD at h
      cases e : ds.mapM (pyD S k) with
      | none => rw [e] at h; cases h
      | some ys => rw [e] at h; cases h; exact .tup (.inl (.inl h1)) (py_all (py_rel hS k) r e)
    | fl h1 n m r =>
      rename_i p xs ds
      unfold pyD at h
      cases e : ds.mapM (pyD S k) with
      | none => rw [e] at h; cases h
      | some ys => rw [e] at h; cases h; exact .lst (.inl (.inl h1)) (py_all (py_rel hS k) r e)
    | scr h1 =>
      unfold pyD at h
      cases h
      exact .lst (scr_sq h1) (dp_ints _)
    | ref h1 =>
      rename_i a n
      unfold pyD at h
      split at h
      · rename_i ds b hs
        cases e : ds.mapM (pyD S k) with
        | none => rw [e] at h; cases h
        | some ys =>
          rw [e] at h
          cases h
          obtain ⟨ho, q1, q2⟩ := hS.obj h1 hs
          unfold RelO at q2
          split at q2
          · rename_i xs es' e'; cases e'; exact .lst (.inl q1.rd) (py_all (py_rel hS k) q2 e)
          · rename_i e'; cases e'
          · rename_i e'; cases e'
          · exact q2.elim
      · cases h
end
end Sim

/-! Sim: rules for expressions. -/
namespace Sim
open PySem PySem.Spec L2 PyProof.Rows

theorem line_le {n : Nat} (h : n ≤ lineN) : n ≤ sizeLine := by rw [sizeLine_eq]; exact h
theorem line_lt {n : Nat} (h : n < lineN) : n < sizeLine := by rw [sizeLine_eq]; exact h

section
variable {X : Cx} {ca : Nat → Addr} {W : WW} {e a b c : Expr} {ma mb mc : ME} {pos : Pos}

/-! ### names and constants -/
theorem se_var {i : Nat} {x : Str} (hN : X.N[i]? = some x) (hv : Vis X.env.scope x) (hd : (x == ("__debug__" : Str)) = false) (hcd : (x == ("__classdict__" : Str)) = false) : SE ca W X (.Name x pos) (eVar i) :=
  pe_imp (pe_var hN hv hd hcd) fun σ H Q ⟨ρ, φ, S, l, hS, hl, h⟩ => by
    unfold eVar at h
    split at h
    · rename_i d hd
      obtain ⟨v, hv, r⟩ := hl.get hd
      exact ⟨v, hv, h.here hS r⟩
    · exact h.elim
/-- constants -/
inductive Cst : V → D → Prop
  | non : Cst .non .non
  | bl (b : Bool) : Cst (.bl b) (.bl b)
  | int (i : Int) : Cst (.int i) (.int i)
  | str (s : Str) : Cst (.str s) (.str s)
theorem Cst.rel {K : PySem.W.Frag} {ρ φ : List Addr} {H : Hp} {v : V} {d : D} (h : Cst v d) : Rel K ρ φ H v d := by
  cases h with
  | non => exact .non
  | bl b => exact .bl b
  | int i => exact .int i
  | str s => exact .str s
theorem se_tc {v : V} {d : D} (h : PE X e (tC v)) (c : Cst v d) : SE ca W X e (eC d) :=
  pe_imp h fun σ H Q ⟨ρ, φ, S, l, hS, hl, h⟩ => AtM.here (b := v) h hS c.rel
theorem se_int {i : Int} {j : Tok} : SE ca W X (.Constant (.int i) j pos) (eC (.int i)) := se_tc pe_int (.int i)
theorem se_bl {b : Bool} {j : Tok} : SE ca W X (.Constant (.bool b) j pos) (eC (.bl b)) := se_tc pe_bl (.bl b)
theorem se_non {j : Tok} : SE ca W X (.Constant .none j pos) (eC .non) := se_tc pe_non .non
theorem se_str {s : Str} {j : Tok} : SE ca W X (.Constant (.str s) j pos) (eC (.str s)) := se_tc pe_str (.str s)
theorem se_globI {x : Str} {i : Int} (hm : ∃ t : Tok, X.mg x = some (.int i t)) (hg : Gl X x) (hd : (x == ("__debug__" : Str)) = false) : SE ca W X (.Name x pos) (eC (.int i)) := by
  obtain ⟨t, hm⟩ := hm
  exact se_tc (pe_glob (v := .int i) hg hm (show ∃ t', Value.int i t = Value.int i t' from ⟨t, rfl⟩) hd) (.int i)
theorem se_globS {x : Str} {s : Str} (hm : ∃ t : Tok, X.mg x = some (.str s t)) (hg : Gl X x) (hd : (x == ("__debug__" : Str)) = false) : SE ca W X (.Name x pos) (eC (.str s)) := by
  obtain ⟨t, hm⟩ := hm
  exact se_tc (pe_glob (v := .str s) hg hm (show ∃ t', Value.str s t = Value.str s t' from ⟨t, rfl⟩) hd) (.str s)

/-! ### two-place operations -/
/-- the reading r is met by the operation f -/
def OpS (K : PySem.W.Frag) (ca : Nat → Addr) (r : R2) (f : D → D → M D) : Prop := ∀ (W : WW) (ρ φ : List Addr) (S : Store) (H : Hp) (σ : L2.St) (x y : V) (a b : D) (Q : VK),
  SR K ca ρ φ S H → Rel K ρ φ H x a → Rel K ρ φ H y b → AtM K ca W (Rel K) ρ φ H σ (f a b S) Q → r x y H Q
theorem op_run {r : R2} {f : D → D → M D} (hs : OpS X.K ca r f) {σ : L2.St} {H : Hp} {Q : VK} (h : Tm X.K ca W (Rel X.K) (e2 f ma mb) σ H Q) : tOp r (Tm X.K ca W (Rel X.K) ma) (Tm X.K ca W (Rel X.K) mb) σ H Q := by
  obtain ⟨ρ, φ, S, l, hS, hl, h⟩ := h
  exact bindAt hS hl h fun a S1 ρ1 H1 x m1 hS1 e1 rx h1 => bindAt hS1 (hl.mono e1) h1 fun b S2 ρ2 H2 y m2 hS2 e2 ry h2 => hs _ _ _ _ _ _ _ _ _ _ _ hS2 (rx.mono e2) ry h2
theorem se_bin {op : Operator} {r : R2} {f : D → D → M D} (ho : OpR X (binaryOp op) r) (hs : OpS X.K ca r f) (ha : SE ca W X a ma) (hb : SE ca W X b mb) : SE ca W X (.BinOp a op b pos) (e2 f ma mb) :=
  pe_imp (pe_op ho ha hb) fun _ _ _ h => op_run hs h
theorem se_cmp {op : CmpOp} {r : R2} {f : D → D → M D} (ho : OpR X (compareOp op) r) (hs : OpS X.K ca r f) (ha : SE ca W X a ma) (hb : SE ca W X b mb) (hm : behindInMarks op b = false) : SE ca W X (.Compare a [op] [b] pos) (e2 f ma mb) :=
  pe_imp (pe_cmpR ho ha hb hm) fun _ _ _ h => op_run hs h
theorem st_of {t : TE} {m : ME} (h : ∀ σ H Q, Tm X.K ca W (Rel X.K) m σ H Q → t σ H Q) (p : PT X e (tTest t)) : ST ca W X e (tOf m) :=
  pt_imp p fun σ H Q ⟨ρ, φ, S, l, hS, hl, q⟩ => h _ _ _ (bindAt hS hl q fun d S1 ρ1 H1 x m1 hS1 e1 rx h1 => by
    cases rx <;> first | exact h1.elim | skip
    rename_i k
    exact ⟨k, rfl, AtM.here (b := k) h1 hS1 rfl⟩)
theorem st_cmp {op : CmpOp} {r : R2} {f : D → D → M D} (ho : OpR X (compareOp op) r) (hs : OpS X.K ca r f) (ha : SE ca W X a ma) (hb : SE ca W X b mb) (hm : behindInMarks op b = false) : ST ca W X (.Compare a [op] [b] pos) (tOf (e2 f ma mb)) :=
  st_of (fun _ _ _ h => op_run hs h) (pt_cmpR ho ha hb hm)
theorem chain_run {r r' : R2} {f g : D → D → M D} (hf : OpS X.K ca r f) (hg : OpS X.K ca r' g) {σ : L2.St} {H : Hp} {Q : VK} (h : Tm X.K ca W (Rel X.K) (eChain f g ma mb mc) σ H Q) :
    tChain r r' (Tm X.K ca W (Rel X.K) ma) (Tm X.K ca W (Rel X.K) mb) (Tm X.K ca W (Rel X.K) mc) σ H Q := by
  obtain ⟨ρ, φ, S, l, hS, hl, h⟩ := h
  refine bindAt hS hl h fun a S1 ρ1 H1 x m1 hS1 e1 rx h1 => bindAt hS1 (hl.mono e1) h1 fun b S2 ρ2 H2 y m2 hS2 e2 ry h2 => ?_
  refine hf W ρ2 φ S2 H2 σ x y a b _ hS2 (rx.mono e2) ry (bindC h2 fun d S3 ρ3 H3 z hS3 e3 r3 h3 => ?_)
  cases r3 <;> first | exact h3.elim | skip
  rename_i k
  refine ⟨k, rfl, ?_⟩
  cases k with
  | true =>
    rw [if_pos rfl]
    exact bindAt hS3 ((hl.mono (e1.trans e2)).mono e3) h3 fun w S4 ρ4 H4 u m4 hS4 e4 ru h4 => hg _ _ _ _ _ _ _ _ _ _ _ hS4 ((ry.mono e3).mono e4) ru h4
  | false =>
    rw [if_neg Bool.false_ne_true]
    exact AtM.here (b := V.bl false) h3 hS3 (.bl false)
theorem se_chain {op op' : CmpOp} {r r' : R2} {f g : D → D → M D} (ho : OpR X (compareOp op) r) (ho' : OpR X (compareOp op') r') (hf : OpS X.K ca r f) (hg : OpS X.K ca r' g) (ha : SE ca W X a ma) (hb : SE ca W X b mb) (hc : SE ca W X c mc) (hm : lastMarks [op, op'] [b, c] = false) :
    SE ca W X (.Compare a [op, op'] [b, c] pos) (eChain f g ma mb mc) := pe_imp (pe_chain ho ho' ha hb hc hm) fun _ _ _ h => chain_run hf hg h
theorem st_chain {op op' : CmpOp} {r r' : R2} {f g : D → D → M D} (ho : OpR X (compareOp op) r) (ho' : OpR X (compareOp op') r') (hf : OpS X.K ca r f) (hg : OpS X.K ca r' g) (ha : SE ca W X a ma) (hb : SE ca W X b mb) (hc : SE ca W X c mc) (hm : lastMarks [op, op'] [b, c] = false) :
    ST ca W X (.Compare a [op, op'] [b, c] pos) (tOf (eChain f g ma mb mc)) := st_of (fun _ _ _ h => chain_run hf hg h) (pt_chain ho ho' ha hb hc hm)

/-! ### the operations -/
theorem opI_S {f : D → D → M D} {g : Int → Int → V} {g' : Int → Int → D} (hg : ∀ i j, Cst (g i j) (g' i j)) (hf : ∀ a b S r, f a b S = some r → ∃ i j, a = .int i ∧ b = .int j ∧ r = (.ok (g' i j), S)) : OpS X.K ca (rI0 g) f := by
  intro W ρ φ S H σ x y a b Q hS rx ry h
  cases hm : f a b S with
  | none => rw [hm] at h; exact h.elim
  | some r =>
    obtain ⟨i, j, rfl, rfl, rfl⟩ := hf a b S r hm
    rw [hm] at h
    cases rx; cases ry
    exact ⟨i, j, rfl, rfl, AtM.here h hS (hg i j).rel⟩
theorem opIC_S {C : Int → Int → Prop} {f : D → D → M D} {g : Int → Int → V} {g' : Int → Int → D} (hg : ∀ i j, Cst (g i j) (g' i j)) (hf : ∀ a b S r, f a b S = some r → ∃ i j, a = .int i ∧ b = .int j ∧ C i j ∧ r = (.ok (g' i j), S)) : OpS X.K ca (rI C g) f := by
  intro W ρ φ S H σ x y a b Q hS rx ry h
  cases hm : f a b S with
  | none => rw [hm] at h; exact h.elim
  | some r =>
    obtain ⟨i, j, rfl, rfl, hc, rfl⟩ := hf a b S r hm
    rw [hm] at h
    cases rx; cases ry
    exact ⟨i, j, rfl, rfl, hc, AtM.here h hS (hg i j).rel⟩
/-- a new frozen list -/
theorem new_fl {ρ φ : List Addr} {S : Store} {H : Hp} {σ : L2.St} {xs : List V} {ds : List D} {Q : VK} (hS : SR X.K ca ρ φ S H) (r : Rels X.K ρ φ H xs ds) (h : AtM X.K ca W (Rel X.K) ρ φ H σ (some (.ok (.fl ds), S)) Q) : ∀ p, H p = none → Q (.ref p) (upd H p (.lst xs)) :=
  fun p hp => h ρ _ (.ref p) (hS.lay hp) (Ext.lay hp) (.fl upd_same (hS.fresh hp).1 (hS.fresh hp).2 (r.mono (Ext.lay hp)))
theorem new_tup {ρ φ : List Addr} {S : Store} {H : Hp} {σ : L2.St} {xs : List V} {ds : List D} {Q : VK} (hS : SR X.K ca ρ φ S H) (r : Rels X.K ρ φ H xs ds) (h : AtM X.K ca W (Rel X.K) ρ φ H σ (some (.ok (.tup ds), S)) Q) : ∀ p, H p = none → Q (.ref p) (upd H p (.tup xs)) :=
  fun p hp => h ρ _ (.ref p) (hS.lay hp) (Ext.lay hp) (.tup upd_same (hS.fresh hp).1 (hS.fresh hp).2 (r.mono (Ext.lay hp)))
/-- a new stored list -/
theorem new_lst {ρ φ : List Addr} {S : Store} {H : Hp} {σ : L2.St} {xs : List V} {ds : List D} {Q : VK} (hS : SR X.K ca ρ φ S H) (r : Rels X.K ρ φ H xs ds) (h : AtM X.K ca W (Rel X.K) ρ φ H σ (newO (.lst ds) S) Q) : ∀ p, H p = none → Q (.ref p) (upd H p (.lst xs)) :=
  fun p hp => h (ρ ++ [p]) _ (.ref p) (hS.grow hp (r.mono (Ext.grow hp))) (Ext.grow hp) (.ref (by rw [hS.len.symm]; simp))
def rStr : R2 := fun x y H Q => ∃ i j, x = .str i ∧ y = .str j ∧ i.length + j.length ≤ sizeLine ∧ Q (.str (i ++ j)) H
def rAddA : R2 := fun x y H Q => rI0 (fun i j => .int (i + j)) x y H Q ∨ (rStr x y H Q ∨ rCat x y H Q)
theorem op_addA : OpR X (binaryOp .Add) rAddA := opR_or op_add (opR_or op_add_str op_cat)
theorem add_S : OpS X.K ca rAddA fAdd := by
  intro W ρ φ S H σ x y a b Q hS rx ry h
  unfold fAdd at h
  split at h
  · cases rx; cases ry
    exact .inl ⟨_, _, rfl, rfl, AtM.here h hS (.int _)⟩
  · cases rx; cases ry
    split at h
    · rename_i hl
      exact .inr (.inl ⟨_, _, rfl, rfl, line_le hl, AtM.here h hS (.str _)⟩)
    · exact h.elim
  · split at h
    · rename_i xs ys h1 h2
      split at h
      · rename_i hl
        obtain ⟨p, vs, rfl, q1, r1⟩ := cat_rel hS rx h1
        obtain ⟨q, ws, rfl, q2, r2⟩ := cat_rel hS ry h2
        exact .inr (.inr ⟨p, q, vs, ws, rfl, rfl, q1, q2, line_le (by rw [r1.length, r2.length]; exact hl), new_fl hS (r1.append r2) h⟩)
      · exact h.elim
    · exact h.elim
theorem sub_S : OpS X.K ca (rI0 fun i j => .int (i - j)) fSub := opI_S (g' := fun i j => .int (i - j)) (fun _ _ => .int _) fun a b S r h => by
  unfold fSub at h
  split at h
  · cases h; exact ⟨_, _, rfl, rfl, rfl⟩
  · cases h
theorem div_S : OpS X.K ca (rI CDivW fun i j => .int (i / j)) fDiv := opIC_S (g' := fun i j => .int (i / j)) (fun _ _ => .int _) fun a b S r h => by
  unfold fDiv at h
  split at h
  · rename_i i j
    split at h
    · rename_i hc
      cases h
      refine ⟨_, _, rfl, rfl, wide_div (b := 200) hc.1 ?_ (by decide) (by decide), rfl⟩
      have e : (2 : Nat) ^ 200 = 1606938044258990275541962092341162602522202993782792835301376 := by decide +kernel
      rw [e]; omega
    · cases h
  · cases h
theorem mod_S : OpS X.K ca (rI (fun _ j => 0 < j) fun i j => .int (i % j)) fMod := opIC_S (g' := fun i j => .int (i % j)) (fun _ _ => .int _) fun a b S r h => by
  unfold fMod at h
  split at h
  · split at h
    · rename_i hc; cases h; exact ⟨_, _, rfl, rfl, hc, rfl⟩
    · cases h
  · cases h
theorem pow_S : OpS X.K ca (rI CPow fun i j => .int (i ^ j.toNat)) fPow := opIC_S (g' := fun i j => .int (i ^ j.toNat)) (fun _ _ => .int _) fun a b S r h => by
  unfold fPow at h
  split at h
  · split at h
    · rename_i hc; cases h; exact ⟨_, _, rfl, rfl, ⟨hc.1, by omega, hc.2.2⟩, rfl⟩
    · cases h
  · cases h
theorem cmpI_S {p : Int → Int → Bool} : OpS X.K ca (rI0 fun i j => .bl (p i j)) (fCmpI p) := opI_S (g' := fun i j => .bl (p i j)) (fun _ _ => .bl _) fun a b S r h => by
  unfold fCmpI at h
  split at h
  · cases h; exact ⟨_, _, rfl, rfl, rfl⟩
  · cases h
def rLtA (K : PySem.W.Frag) : R2 := fun x y H Q => rI0 (fun i j => .bl (decide (i < j))) x y H Q ∨ rLtT K x y H Q
theorem op_ltA (hu : X.A.units < cLine) : OpR X (compareOp .Lt) (rLtA X.K) := opR_or op_lt (op_ltT hu)
theorem lt_S : OpS X.K ca (rLtA X.K) fLt := by
  intro W ρ φ S H σ x y a b Q hS rx ry h
  unfold fLt at h
  split at h
  · cases rx; cases ry
    exact .inl ⟨_, _, rfl, rfl, AtM.here h hS (.bl _)⟩
  · split at h
    · rename_i ns ms h1 h2
      cases rx with
      | tup a1 a2 a3 a4 =>
        cases ry with
        | tup b1 b2 b3 b4 =>
          have z1 := ints_rel a4 h1
          have z2 := ints_rel b4 h2
          subst z1 z2
          exact .inr ⟨_, _, ns, ms, rfl, rfl, .inl (.inl a1), .inl (.inl b1), AtM.here h hS (.bl _)⟩
    · exact h.elim
  · exact h.elim
theorem eq_S : OpS X.K ca (rEqD X.K) fEq := by
  intro W ρ φ S H σ x y a b Q hS rx ry h
  unfold fEq eqD at h
  split at h
  · rename_i k hk
    split at hk
    · rename_i u w h1 h2
      split at hk
      · rename_i hc
        cases hk
        exact ⟨u, w, py_rel hS _ rx h1, py_rel hS _ ry h2, hc.1, hc.2, AtM.here h hS (.bl _)⟩
      · cases hk
    · cases hk
  · exact h.elim
theorem ne_S : OpS X.K ca (rNeD X.K) fNe := by
  intro W ρ φ S H σ x y a b Q hS rx ry h
  unfold fNe eqD at h
  split at h
  · rename_i k hk
    split at hk
    · rename_i u w h1 h2
      split at hk
      · rename_i hc
        cases hk
        exact ⟨u, w, py_rel hS _ rx h1, py_rel hS _ ry h2, hc.1, hc.2, AtM.here h hS (.bl _)⟩
      · cases hk
    · cases hk
  · exact h.elim
theorem isNon_rel {K : PySem.W.Frag} {ρ φ : List Addr} {H : Hp} {v : V} {d : D} (r : Rel K ρ φ H v d) : decide (v = .non) = isNon d := by
  cases r <;> rfl
def rIsNo : R2 := fun x y H Q => y = .non ∧ Q (.bl (decide (x = .non))) H
def rIsNotNo : R2 := fun x y H Q => y = .non ∧ Q (.bl (!decide (x = .non))) H
def rIsBo : R2 := fun x y H Q => ∃ a b, x = .bl a ∧ y = .bl b ∧ Q (.bl (decide (a = b))) H
def rIsA : R2 := fun x y H Q => rIsNo x y H Q ∨ rIsBo x y H Q
theorem op_isA : OpR X (compareOp .Is) rIsA := opR_or op_isN op_isBl
theorem is_S : OpS X.K ca rIsA fIs := by
  intro W ρ φ S H σ x y a b Q hS rx ry h
  unfold fIs at h
  split at h
  · cases ry
    refine .inl ⟨rfl, ?_⟩
    rw [isNon_rel rx]
    exact AtM.here h hS (.bl _)
  · split at h
    · cases rx
      cases ry
      exact .inr ⟨_, _, rfl, rfl, AtM.here h hS (.bl _)⟩
    · exact h.elim
  · exact h.elim
theorem isNot_S : OpS X.K ca rIsNotNo fIsNot := by
  intro W ρ φ S H σ x y a b Q hS rx ry h
  unfold fIsNot at h
  split at h
  · cases ry
    refine ⟨rfl, ?_⟩
    rw [isNon_rel rx]
    exact AtM.here h hS (.bl _)
  · exact h.elim
def rMulA : R2 := fun x y H Q => rI CMul (fun i j => .int (i * j)) x y H Q ∨ rRep x y H Q
theorem op_mulA : OpR X (binaryOp .Mult) rMulA := opR_or op_mul op_rep
end
end Sim

/-! Sim: further rules for expressions. -/
namespace Sim
open PySem PySem.Spec L2 PyProof.Rows
section
variable {X : Cx} {ca : Nat → Addr} {W : WW} {e a b c o : Expr} {ma mb mc mo : ME} {pos : Pos}
theorem mul_S : OpS X.K ca rMulA fMul := by
  intro W ρ φ S H σ x y a b Q hS rx ry h
  unfold fMul at h
  split at h
  · cases rx; cases ry
    split at h
    · rename_i hc
      exact .inl ⟨_, _, rfl, rfl, by unfold CMul; omega, AtM.here h hS (.int _)⟩
    · exact h.elim
  · cases ry
    split at h
    · rename_i xs h1
      split at h
      · rename_i hc
        obtain ⟨p, vs, rfl, q1, r1⟩ := cat_rel hS rx h1
        refine .inr ⟨p, _, vs, rfl, rfl, q1, by omega, by omega, line_le (by rw [r1.length]; exact hc.2.2), new_fl hS ?_ h⟩
        generalize Int.toNat _ = k
        induction k with
        | zero => exact .nil
        | succ k ih =>
          rw [List.replicate_succ, List.flatten_cons, List.replicate_succ, List.flatten_cons]
          exact r1.append ih
      · exact h.elim
    · exact h.elim
  · exact h.elim
/-! ### in -/
def rInS : R2 := fun x y H Q => ∃ (c : Nat) (z : Str), x = .str ⟨#[c]⟩ ∧ y = .str z ∧ Q (.bl (decide (c ∈ z.cps.toList))) H
def rNotInS : R2 := fun x y H Q => ∃ (c : Nat) (z : Str), x = .str ⟨#[c]⟩ ∧ y = .str z ∧ Q (.bl (!decide (c ∈ z.cps.toList))) H
def rInA (K : PySem.W.Frag) : R2 := fun x y H Q => rInS x y H Q ∨ rInD K x y H Q
def rNotInA (K : PySem.W.Frag) : R2 := fun x y H Q => rNotInS x y H Q ∨ rNotInD K x y H Q
theorem key_rel {K : PySem.W.Frag} {ρ φ : List Addr} {H : Hp} {v : V} {d : D} {k : Key} (r : Rel K ρ φ H v d) (h : keyOf d = some k) : v = kV k := by
  cases r <;> first | (cases h; done) | (cases h; rfl)
theorem dget_rel {K : PySem.W.Frag} {ca : Nat → Addr} {ρ φ : List Addr} {S : Store} {H : Hp} {x y : V} {d e : D} {ks : List (Key × D)} {k : Key} (hS : SR K ca ρ φ S H) (rd : Rel K ρ φ H x d) (rk : Rel K ρ φ H y e) (h1 : dctOf d S = some ks) (h2 : keyOf e = some k) :
    ∃ p o, x = .ref p ∧ IsD H p ∧ DGet H p y o ∧ ((o = none ∧ valD ks k = none) ∨ ∃ v u, o = some v ∧ valD ks k = some u ∧ Rel K ρ φ H v u) := by
  obtain ⟨p, kvs, rfl, q1, q2⟩ := dct_rel hS rd h1
  have e2 := key_rel rk h2
  subst e2
  rcases relK_val (k := k) q2 with ⟨z1, z2⟩ | ⟨v, u, z1, z2, z3⟩
  · exact ⟨p, none, rfl, .inl ⟨kvs, q1⟩, .inl ⟨kvs, k, q1, rfl, z1.symm⟩, .inl ⟨rfl, z2⟩⟩
  · exact ⟨p, some v, rfl, .inl ⟨kvs, q1⟩, .inl ⟨kvs, k, q1, rfl, z1.symm⟩, .inr ⟨v, u, rfl, z2, z3⟩⟩
theorem str1 {w : Str} {c : Nat} (h : w.cps = ⟨[c]⟩) : w = ⟨#[c]⟩ := by
  cases w with
  | mk cps => cases h; rfl
theorem in_seq {W : WW} {ρ φ : List Addr} {S : Store} {H : Hp} {σ : L2.St} {x y : V} {a b : D} {Q : VK} (hS : SR X.K ca ρ φ S H) (rx : Rel X.K ρ φ H x a) (ry : Rel X.K ρ φ H y b) (hd : dctOf b S = none)
    (h : AtM X.K ca W (Rel X.K) ρ φ H σ (fIn a b S) Q) : rInA X.K x y H Q := by
  unfold fIn at h
  split at h
  · rename_i k hk
    unfold inD at hk
    split at hk
    · cases ry
      split at hk
      · cases rx
        split at hk
        · rename_i c hc
          cases hk
          exact .inl ⟨c, _, by rw [str1 hc], rfl, AtM.here h hS (.bl _)⟩
        · cases hk
      · cases hk
    · rw [hd] at hk
      simp only at hk
      split at hk
      · rename_i u ys h1 h2
        split at hk
        · rename_i hc
          cases hk
          exact .inr ⟨u, ys, py_rel hS _ rx h1, py_rel hS _ ry h2, hc.1, hc.2, AtM.here h hS (.bl _)⟩
        · cases hk
      · cases hk
  · exact h.elim
theorem notIn_seq {W : WW} {ρ φ : List Addr} {S : Store} {H : Hp} {σ : L2.St} {x y : V} {a b : D} {Q : VK} (hS : SR X.K ca ρ φ S H) (rx : Rel X.K ρ φ H x a) (ry : Rel X.K ρ φ H y b) (hd : dctOf b S = none)
    (h : AtM X.K ca W (Rel X.K) ρ φ H σ (fNotIn a b S) Q) : rNotInA X.K x y H Q := by
  unfold fNotIn at h
  split at h
  · rename_i k hk
    unfold inD at hk
    split at hk
    · cases ry
      split at hk
      · cases rx
        split at hk
        · rename_i c hc
          cases hk
          exact .inl ⟨c, _, by rw [str1 hc], rfl, AtM.here h hS (.bl _)⟩
        · cases hk
      · cases hk
    · rw [hd] at hk
      simp only at hk
      split at hk
      · rename_i u ys h1 h2
        split at hk
        · rename_i hc
          cases hk
          exact .inr ⟨u, ys, py_rel hS _ rx h1, py_rel hS _ ry h2, hc.1, hc.2, AtM.here h hS (.bl _)⟩
        · cases hk
      · cases hk
  · exact h.elim
theorem in_dct {W : WW} {ρ φ : List Addr} {S : Store} {H : Hp} {σ : L2.St} {x y : V} {a b : D} {ks : List (Key × D)} {Q : VK} (hS : SR X.K ca ρ φ S H) (rx : Rel X.K ρ φ H x a) (ry : Rel X.K ρ φ H y b) (hd : dctOf b S = some ks)
    (h : AtM X.K ca W (Rel X.K) ρ φ H σ (fIn a b S) Q) : ∃ p o, y = .ref p ∧ DGet H p x o ∧ Q (.bl o.isSome) H := by
  unfold fIn inD at h
  cases ry <;> first | (cases hd; done) | skip
  rename_i p n hn
  simp only [hd] at h
  cases hk : keyOf a with
  | none => rw [hk] at h; exact h.elim
  | some k =>
    rw [hk] at h
    simp only at h
    obtain ⟨p', o, e, _, q1, q2⟩ := dget_rel hS (.ref hn) rx hd hk
    cases e
    refine ⟨p, o, rfl, q1, ?_⟩
    rcases q2 with ⟨rfl, z⟩ | ⟨v, u, rfl, z, _⟩
    · rw [z] at h; exact AtM.here h hS (.bl _)
    · rw [z] at h; exact AtM.here h hS (.bl _)
theorem notIn_dct {W : WW} {ρ φ : List Addr} {S : Store} {H : Hp} {σ : L2.St} {x y : V} {a b : D} {ks : List (Key × D)} {Q : VK} (hS : SR X.K ca ρ φ S H) (rx : Rel X.K ρ φ H x a) (ry : Rel X.K ρ φ H y b) (hd : dctOf b S = some ks)
    (h : AtM X.K ca W (Rel X.K) ρ φ H σ (fNotIn a b S) Q) : ∃ p o, y = .ref p ∧ DGet H p x o ∧ Q (.bl (!o.isSome)) H := by
  unfold fNotIn inD at h
  cases ry <;> first | (cases hd; done) | skip
  rename_i p n hn
  simp only [hd] at h
  cases hk : keyOf a with
  | none => rw [hk] at h; exact h.elim
  | some k =>
    rw [hk] at h
    simp only at h
    obtain ⟨p', o, e, _, q1, q2⟩ := dget_rel hS (.ref hn) rx hd hk
    cases e
    refine ⟨p, o, rfl, q1, ?_⟩
    rcases q2 with ⟨rfl, z⟩ | ⟨v, u, rfl, z, _⟩
    · rw [z] at h; exact AtM.here h hS (.bl _)
    · rw [z] at h; exact AtM.here h hS (.bl _)
/-- which of two roads: by what the second part gives -/
theorem e2_road {f : D → D → M D} {σ : L2.St} {H : Hp} {Q : VK} (P : D → Store → Prop) {A B : Prop}
    (h : Tm X.K ca W (Rel X.K) (e2 f ma mb) σ H Q)
    (hA : (∀ (ρ φ : List Addr) (S : Store) (l : Sl), SR X.K ca ρ φ S H → SlX W.x X.K ρ φ H σ l → AtM X.K ca W (Rel X.K) ρ φ H σ (e2 f ma mb l S) Q → (∀ x S1 y S2, ma l S = some (.ok x, S1) → mb l S1 = some (.ok y, S2) → P y S2) → A))
    (hB : (∀ (ρ φ : List Addr) (S : Store) (l : Sl), SR X.K ca ρ φ S H → SlX W.x X.K ρ φ H σ l → AtM X.K ca W (Rel X.K) ρ φ H σ (e2 f ma mb l S) Q → (∀ x S1 y S2, ma l S = some (.ok x, S1) → mb l S1 = some (.ok y, S2) → ¬ P y S2) → B)) : A ∨ B := by
  obtain ⟨ρ, φ, S, l, hS, hl, h⟩ := h
  by_cases c : ∀ x S1 y S2, ma l S = some (.ok x, S1) → mb l S1 = some (.ok y, S2) → P y S2
  · exact .inl (hA ρ φ S l hS hl h c)
  · refine .inr (hB ρ φ S l hS hl h fun x S1 y S2 m1 m2 hp => c fun x' S1' y' S2' n1 n2 => ?_)
    rw [m1] at n1
    cases n1
    rw [m2] at n2
    cases n2
    exact hp
theorem in_run {σ : L2.St} {H : Hp} {Q : VK} (h : Tm X.K ca W (Rel X.K) (e2 fIn ma mb) σ H Q) :
    tOp (rInA X.K) (Tm X.K ca W (Rel X.K) ma) (Tm X.K ca W (Rel X.K) mb) σ H Q ∨ tDIn (Tm X.K ca W (Rel X.K) ma) (Tm X.K ca W (Rel X.K) mb) σ H Q :=
  e2_road (fun y S => dctOf y S = none) h
    (fun ρ φ S l hS hl h c => bindAt hS hl h fun a S1 ρ1 H1 x m1 hS1 e1 rx h1 => bindAt hS1 (hl.mono e1) h1 fun b S2 ρ2 H2 y m2 hS2 e2 ry h2 => in_seq hS2 (rx.mono e2) ry (c _ _ _ _ m1 m2) h2)
    (fun ρ φ S l hS hl h c => bindAt hS hl h fun a S1 ρ1 H1 x m1 hS1 e1 rx h1 => bindAt hS1 (hl.mono e1) h1 fun b S2 ρ2 H2 y m2 hS2 e2 ry h2 => by
      obtain ⟨ks, hk⟩ := Option.ne_none_iff_exists'.mp (c _ _ _ _ m1 m2)
      exact in_dct hS2 (rx.mono e2) ry hk h2)
theorem notIn_run {σ : L2.St} {H : Hp} {Q : VK} (h : Tm X.K ca W (Rel X.K) (e2 fNotIn ma mb) σ H Q) :
    tOp (rNotInA X.K) (Tm X.K ca W (Rel X.K) ma) (Tm X.K ca W (Rel X.K) mb) σ H Q ∨ tDNotIn (Tm X.K ca W (Rel X.K) ma) (Tm X.K ca W (Rel X.K) mb) σ H Q :=
  e2_road (fun y S => dctOf y S = none) h
    (fun ρ φ S l hS hl h c => bindAt hS hl h fun a S1 ρ1 H1 x m1 hS1 e1 rx h1 => bindAt hS1 (hl.mono e1) h1 fun b S2 ρ2 H2 y m2 hS2 e2 ry h2 => notIn_seq hS2 (rx.mono e2) ry (c _ _ _ _ m1 m2) h2)
    (fun ρ φ S l hS hl h c => bindAt hS hl h fun a S1 ρ1 H1 x m1 hS1 e1 rx h1 => bindAt hS1 (hl.mono e1) h1 fun b S2 ρ2 H2 y m2 hS2 e2 ry h2 => by
      obtain ⟨ks, hk⟩ := Option.ne_none_iff_exists'.mp (c _ _ _ _ m1 m2)
      exact notIn_dct hS2 (rx.mono e2) ry hk h2)
theorem op_inA (hu : X.A.units + 65 < cLine) : OpR X (compareOp .In) (rInA X.K) := opR_or op_in_sign (op_inD hu)
theorem op_notInA (hu : X.A.units + 65 < cLine) : OpR X (compareOp .NotIn) (rNotInA X.K) := opR_or op_notIn_sign (op_notInD hu)
theorem se_in (hu : X.A.units + 65 < cLine) (ha : SE ca W X a ma) (hb : SE ca W X b mb) (hm : behindInMarks .In b = false) : SE ca W X (.Compare a [.In] [b] pos) (e2 fIn ma mb) :=
  pe_imp (pe_or2 (pe_cmpR (op_inA hu) ha hb hm) (pe_cmp (pc_din (by omega) ha hb) hm)) fun _ _ _ h => in_run h
theorem se_notIn (hu : X.A.units + 65 < cLine) (ha : SE ca W X a ma) (hb : SE ca W X b mb) (hm : behindInMarks .NotIn b = false) : SE ca W X (.Compare a [.NotIn] [b] pos) (e2 fNotIn ma mb) :=
  pe_imp (pe_or2 (pe_cmpR (op_notInA hu) ha hb hm) (pe_cmp (pc_dnotin (by omega) ha hb) hm)) fun _ _ _ h => notIn_run h
theorem pt_or2 {e : Expr} {t u : TT} (h : PT X e t) (k : PT X e u) : PT X e (fun σ H Q => t σ H Q ∨ u σ H Q) := ⟨fun pins s σ H Q I q => q.elim (h.run pins s σ H Q I) (k.run pins s σ H Q I)⟩
theorem tof_push {m : ME} {σ : L2.St} {H : Hp} {Q : Bool → Hp → Prop} (h : Tm X.K ca W REq (tOf m) σ H Q) : Tm X.K ca W (Rel X.K) m σ H (fun x H' => ∃ k, x = .bl k ∧ Q k H') := by
  obtain ⟨ρ, φ, S, l, hS, hl, q⟩ := h
  exact bindAt hS hl q fun d S1 ρ1 H1 x m1 hS1 e1 rx h1 => by
    cases rx <;> first | exact h1.elim | skip
    rename_i k
    exact ⟨k, rfl, AtM.here (b := k) h1 hS1 rfl⟩
theorem st_in (hu : X.A.units + 65 < cLine) (ha : SE ca W X a ma) (hb : SE ca W X b mb) (hm : behindInMarks .In b = false) : ST ca W X (.Compare a [.In] [b] pos) (tOf (e2 fIn ma mb)) :=
  pt_imp (pt_or2 (pt_cmpR (op_inA hu) ha hb hm) (pt_cmp (pc_din (by omega) ha hb) hm)) fun σ H Q h => in_run (tof_push h)
theorem st_notIn (hu : X.A.units + 65 < cLine) (ha : SE ca W X a ma) (hb : SE ca W X b mb) (hm : behindInMarks .NotIn b = false) : ST ca W X (.Compare a [.NotIn] [b] pos) (tOf (e2 fNotIn ma mb)) :=
  pt_imp (pt_or2 (pt_cmpR (op_notInA hu) ha hb hm) (pt_cmp (pc_dnotin (by omega) ha hb) hm)) fun σ H Q h => notIn_run (tof_push h)

/-! ### tests and truth values -/
theorem st_val (h : SE ca W X e ma) (he : ∀ whole, isTrue e X.env whole = (do let v ← whole; standAt e.pos; holding [v] (truthy v))) : ST ca W X e (tOf ma) :=
  pt_imp (pt_val h he) fun σ H Q h => tof_push h
theorem st_not {t : MT} (h : ST ca W X a t) : ST ca W X (.UnaryOp .Not a pos) (tNot t) := pt_imp (pt_not h) fun σ H Q ⟨ρ, φ, S, l, hS, hl, q⟩ =>
  bindAt hS hl q fun k S1 ρ1 H1 x m1 hS1 e1 rx h1 => by
    cases rx
    exact AtM.here (b := !k) h1 hS1 rfl
theorem sw_and1 {t : MT} (h : ST ca W X a t) : SW ca W X (.BoolOp .And [a] pos) t := pw_and1 h
theorem sw_or1 {t : MT} (h : ST ca W X a t) : SW ca W X (.BoolOp .Or [a] pos) t := pw_or1 h
theorem sw_and {t u : MT} {rest : List Expr} (h : ST ca W X a t) (k : SW ca W X (.BoolOp .And (b :: rest) pos) u) : SW ca W X (.BoolOp .And (a :: b :: rest) pos) (tAnd t u) :=
  pw_imp (pw_and h k) fun σ H Q ⟨ρ, φ, S, l, hS, hl, q⟩ => bindAt hS hl q fun k S1 ρ1 H1 x m1 hS1 e1 rx h1 => by
    cases rx
    cases k with
    | true => exact (show Tm X.K ca W REq u σ H1 Q from ⟨ρ1, φ, S1, l, hS1, hl.mono e1, h1⟩)
    | false => exact AtM.here (b := false) h1 hS1 rfl
theorem sw_or {t u : MT} {rest : List Expr} (h : ST ca W X a t) (k : SW ca W X (.BoolOp .Or (b :: rest) pos) u) : SW ca W X (.BoolOp .Or (a :: b :: rest) pos) (tOr t u) :=
  pw_imp (pw_or h k) fun σ H Q ⟨ρ, φ, S, l, hS, hl, q⟩ => bindAt hS hl q fun k S1 ρ1 H1 x m1 hS1 e1 rx h1 => by
    cases rx
    cases k with
    | false => exact (show Tm X.K ca W REq u σ H1 Q from ⟨ρ1, φ, S1, l, hS1, hl.mono e1, h1⟩)
    | true => exact AtM.here (b := true) h1 hS1 rfl
theorem st_w {t : MT} (h : SW ca W X e t) : ST ca W X e t := PW.pt h
theorem se_one {op : BoolOp} (h : SE ca W X a ma) : SE ca W X (.BoolOp op [a] pos) ma := pe_one h
theorem se_and {rest : List Expr} (h : SE ca W X a ma) (k : SE ca W X (.BoolOp .And (b :: rest) pos) mb) : SE ca W X (.BoolOp .And (a :: b :: rest) pos) (eAnd ma mb) :=
  pe_imp (pe_and h k) fun σ H Q ⟨ρ, φ, S, l, hS, hl, q⟩ => by
    have q' : AtM X.K ca W (Rel X.K) ρ φ H σ (bnd (ma l S) fun d S1 => bnd (blOf d S1) fun c S1 => if c = true then mb l S1 else some (.ok (.bl false), S1)) Q := by
      unfold eAnd tOf at q
      cases hm : ma l S with
      | none => rw [hm] at q; exact q
      | some p => obtain ⟨r, S1⟩ := p; rw [hm] at q; cases r <;> exact q
    exact bindAt hS hl q' fun d S1 ρ1 H1 x m1 hS1 e1 rx h1 => by
      cases rx <;> first | exact h1.elim | skip
      rename_i k
      refine ⟨k, rfl, ?_⟩
      cases k with
      | true => exact (show Tm X.K ca W (Rel X.K) mb σ H1 Q from ⟨ρ1, φ, S1, l, hS1, hl.mono e1, h1⟩)
      | false => exact AtM.here (b := V.bl false) h1 hS1 (.bl false)
theorem se_or {rest : List Expr} (h : SE ca W X a ma) (k : SE ca W X (.BoolOp .Or (b :: rest) pos) mb) : SE ca W X (.BoolOp .Or (a :: b :: rest) pos) (eOr ma mb) :=
  pe_imp (pe_or h k) fun σ H Q ⟨ρ, φ, S, l, hS, hl, q⟩ => by
    have q' : AtM X.K ca W (Rel X.K) ρ φ H σ (bnd (ma l S) fun d S1 => bnd (blOf d S1) fun c S1 => if c = true then some (.ok (.bl true), S1) else mb l S1) Q := by
      unfold eOr tOf at q
      cases hm : ma l S with
      | none => rw [hm] at q; exact q
      | some p => obtain ⟨r, S1⟩ := p; rw [hm] at q; cases r <;> exact q
    exact bindAt hS hl q' fun d S1 ρ1 H1 x m1 hS1 e1 rx h1 => by
      cases rx <;> first | exact h1.elim | skip
      rename_i k
      refine ⟨k, rfl, ?_⟩
      cases k with
      | false => exact (show Tm X.K ca W (Rel X.K) mb σ H1 Q from ⟨ρ1, φ, S1, l, hS1, hl.mono e1, h1⟩)
      | true => exact AtM.here (b := V.bl true) h1 hS1 (.bl true)
theorem se_not (h : SE ca W X a ma) : SE ca W X (.UnaryOp .Not a pos) (eNot ma) :=
  pe_imp (pe_not h) fun σ H Q ⟨ρ, φ, S, l, hS, hl, q⟩ => by
    have q' : AtM X.K ca W (Rel X.K) ρ φ H σ (bnd (ma l S) fun d S1 => bnd (blOf d S1) fun c S1 => some (.ok (.bl (!c)), S1)) Q := by
      unfold eNot tOf at q
      cases hm : ma l S with
      | none => rw [hm] at q; exact q
      | some p => obtain ⟨r, S1⟩ := p; rw [hm] at q; cases r <;> exact q
    exact bindAt hS hl q' fun d S1 ρ1 H1 x m1 hS1 e1 rx h1 => by
      cases rx <;> first | exact h1.elim | skip
      rename_i k
      exact ⟨k, rfl, AtM.here (b := V.bl (!k)) h1 hS1 (.bl (!k))⟩
theorem se_if {t : MT} (ht : ST ca W X c t) (ha : SE ca W X a ma) (hb : SE ca W X b mb) : SE ca W X (.IfExp c a b pos) (eIf t ma mb) :=
  pe_imp (pe_ifExp ht ha hb) fun σ H Q ⟨ρ, φ, S, l, hS, hl, q⟩ => bindAt hS hl q fun k S1 ρ1 H1 x m1 hS1 e1 rx h1 => by
    cases rx
    cases k with
    | true => exact (show Tm X.K ca W (Rel X.K) ma σ H1 Q from ⟨ρ1, φ, S1, l, hS1, hl.mono e1, h1⟩)
    | false => exact (show Tm X.K ca W (Rel X.K) mb σ H1 Q from ⟨ρ1, φ, S1, l, hS1, hl.mono e1, h1⟩)
theorem se_neg (h : SE ca W X a ma) : SE ca W X (.UnaryOp .USub a pos) (e1 fNeg ma) :=
  pe_imp (pe_un un_neg h) fun σ H Q ⟨ρ, φ, S, l, hS, hl, q⟩ => bindAt hS hl q fun d S1 ρ1 H1 x m1 hS1 e1 rx h1 => by
    cases rx <;> first | exact h1.elim | skip
    exact ⟨_, rfl, AtM.here h1 hS1 (.int _)⟩

/-! ### argument lists, displays -/
theorem sa_nil : SA ca W X [] aNil := pa_imp pa_nil fun σ H Q ⟨ρ, φ, S, l, hS, hl, q⟩ => AtM.here (b := ([] : List V)) q hS .nil
theorem sa_cons {es : List Expr} {m : MA} (ha : SE ca W X e ma) (hr : SA ca W X es m) (hs : starEach (e :: es) X.env = (false, eval e X.env) :: starEach es X.env) : SA ca W X (e :: es) (aCons ma m) :=
  pa_imp (pa_cons ha hr hs) fun σ H Q ⟨ρ, φ, S, l, hS, hl, q⟩ => bindAt hS hl q fun d S1 ρ1 H1 x m1 hS1 e1 rx h1 => bindAt hS1 (hl.mono e1) h1 fun ds S2 ρ2 H2 xs m2 hS2 e2 rs h2 => AtM.here (b := x :: xs) h2 hS2 (.cons (rx.mono e2) rs)
theorem guard_at {α β : Type} {R : List Addr → List Addr → Hp → β → α → Prop} {ρ φ : List Addr} {H : Hp} {σ : L2.St} {S : Store} {c : Bool} {m : M α} {Q : β → Hp → Prop} (h : AtM X.K ca W R ρ φ H σ (guard c m S) Q) : c = true ∧ AtM X.K ca W R ρ φ H σ (m S) Q := by
  unfold guard at h
  cases c with
  | true => exact ⟨rfl, h⟩
  | false => exact h.elim
theorem se_tup {es : List Expr} {x1} {m : MA} (h : SA ca W X es m) : SE ca W X (.Tuple es x1 pos) (eTup m) :=
  pe_imp (pe_tup h) fun σ H Q ⟨ρ, φ, S, l, hS, hl, q⟩ => bindAt hS hl q fun ds S1 ρ1 H1 xs m1 hS1 e1 rs h1 => by
    obtain ⟨hc, h1⟩ := guard_at h1
    exact ⟨line_le (by rw [rs.length]; exact of_decide_eq_true hc), new_tup hS1 rs h1⟩
theorem se_lst {es : List Expr} {m : MA} (h : SA ca W X es m) : SE ca W X (.List es pos) (eLst m) :=
  pe_imp (pe_lst h) fun σ H Q ⟨ρ, φ, S, l, hS, hl, q⟩ => bindAt hS hl q fun ds S1 ρ1 H1 xs m1 hS1 e1 rs h1 => by
    obtain ⟨hc, h1⟩ := guard_at h1
    exact ⟨line_le (by rw [rs.length]; exact of_decide_eq_true hc), new_fl hS1 rs h1⟩
theorem se_lstR {es : List Expr} {m : MA} (h : SA ca W X es m) : SE ca W X (.List es pos) (eLstR m) :=
  pe_imp (pe_lst h) fun σ H Q ⟨ρ, φ, S, l, hS, hl, q⟩ => bindAt hS hl q fun ds S1 ρ1 H1 xs m1 hS1 e1 rs h1 => by
    obtain ⟨hc, h1⟩ := guard_at h1
    exact ⟨line_le (by rw [rs.length]; exact of_decide_eq_true hc), new_lst hS1 rs h1⟩
/-! ### attributes -/
/-- the field f of the class of code c -/
structure FldF (K : PySem.W.Frag) (ca : Nat → Addr) (c : Nat) (f : Str) : Prop where
  cl : Cls K (ca c)
  no : NoAttr K (ca c) f
theorem se_fld {cc : Nat} {f : Str} (T : FldF X.K ca cc f) (h : SE ca W X e ma) (hb : attributeBase e f X.env (eval e X.env) = eval e X.env) : SE ca W X (.Attribute e f pos) (e1 (fFld cc f) ma) :=
  pe_imp (pe_fld h hb) fun σ H Q ⟨ρ, φ, S, l, hS, hl, q⟩ => bindAt hS hl q fun d S1 ρ1 H1 x m1 hS1 e1 rx h1 => by
    unfold fFld at h1
    split at h1
    · rename_i c' gs hi
      split at h1
      · rename_i hc
        subst hc
        obtain ⟨n, p, dx, fs, rfl, rfl, hn, hs, hp, hr⟩ := ins_rel hS1 rx hi
        split at h1
        · rename_i d' hd
          obtain ⟨v, hv, rv⟩ := hr.lookup hd
          exact ⟨p, _, dx, fs, v, rfl, hp, T.cl, T.no, hv, AtM.here h1 hS1 rv⟩
        · exact h1.elim
      · exact h1.elim
    · exact h1.elim
/-! ### subscripts -/
theorem ixN_len {n : Nat} {i : Int} {j : Nat} (h : ixN n i = some j) : j < n := by
  unfold ixN at h
  split at h
  · split at h
    · cases h; omega
    · cases h
  · split at h
    · cases h; omega
    · cases h
theorem at_rel {K : PySem.W.Frag} {ρ φ : List Addr} {H : Hp} {xs : List V} {ds : List D} {i : Int} {d : D} (r : Rels K ρ φ H xs ds) (h : atI ds i = some d) : ∃ v, atI xs i = some v ∧ Rel K ρ φ H v d := by
  unfold atI at h ⊢
  rw [r.length]
  cases e : ixN ds.length i with
  | none => rw [e] at h; cases h
  | some j => rw [e] at h; exact r.get (i := j) h
theorem dct_not_seq {d : D} {S : Store} (h : dctOf d S ≠ none) : seqOf d S = none := by
  unfold dctOf at h
  split at h
  · unfold seqOf listOf
    simp only
    split at h
    · rename_i hs; simp [hs]
    · exact absurd rfl h
  · exact absurd rfl h
/-- by what the first part gives -/
theorem e2_road1 {f : D → D → M D} {σ : L2.St} {H : Hp} {Q : VK} (P : D → Store → Prop) {A B : Prop}
    (h : Tm X.K ca W (Rel X.K) (e2 f ma mb) σ H Q)
    (hA : (∀ (ρ φ : List Addr) (S : Store) (l : Sl), SR X.K ca ρ φ S H → SlX W.x X.K ρ φ H σ l → AtM X.K ca W (Rel X.K) ρ φ H σ (e2 f ma mb l S) Q → (∀ x S1 y S2, ma l S = some (.ok x, S1) → mb l S1 = some (.ok y, S2) → P x S2) → A))
    (hB : (∀ (ρ φ : List Addr) (S : Store) (l : Sl), SR X.K ca ρ φ S H → SlX W.x X.K ρ φ H σ l → AtM X.K ca W (Rel X.K) ρ φ H σ (e2 f ma mb l S) Q → (∀ x S1 y S2, ma l S = some (.ok x, S1) → mb l S1 = some (.ok y, S2) → ¬ P x S2) → B)) : A ∨ B := by
  obtain ⟨ρ, φ, S, l, hS, hl, h⟩ := h
  by_cases c : ∀ x S1 y S2, ma l S = some (.ok x, S1) → mb l S1 = some (.ok y, S2) → P x S2
  · exact .inl (hA ρ φ S l hS hl h c)
  · refine .inr (hB ρ φ S l hS hl h fun x S1 y S2 m1 m2 hp => c fun x' S1' y' S2' n1 n2 => ?_)
    rw [m1] at n1
    cases n1
    rw [m2] at n2
    cases n2
    exact hp
theorem ix_seqS {W : WW} {ρ φ : List Addr} {S : Store} {H : Hp} {σ : L2.St} {x y : V} {a b : D} {Q : VK} (hS : SR X.K ca ρ φ S H) (rx : Rel X.K ρ φ H x a) (ry : Rel X.K ρ φ H y b) (hd : dctOf a S = none)
    (h : AtM X.K ca W (Rel X.K) ρ φ H σ (fIx a b S) Q) : rIx X.K x y H Q := by
  unfold fIx at h
  split at h
  · cases rx
    split at h
    · cases ry
      split at h
      · rename_i c hc
        split at hc
        · rename_i hz
          exact .inr (.inr ⟨_, _, c, rfl, rfl, line_le hz, hc, AtM.here h hS (.str _)⟩)
        · cases hc
      · exact h.elim
    · exact h.elim
  · rw [hd] at h
    simp only at h
    split at h
    · rename_i ds i hs
      cases ry
      split at h
      · rename_i d hd'
        obtain ⟨p, xs, rfl, q1, r1⟩ := seq_rel hS rx hs
        obtain ⟨v, hv, rv⟩ := at_rel r1 hd'
        rcases q1 with q1 | q1
        · exact .inl ⟨p, xs, _, v, rfl, rfl, q1, hv, AtM.here h hS rv⟩
        · exact .inr (.inl ⟨p, xs, _, v, rfl, rfl, q1, hv, AtM.here h hS rv⟩)
      · exact h.elim
    · exact h.elim
theorem ix_dct {W : WW} {ρ φ : List Addr} {S : Store} {H : Hp} {σ : L2.St} {x y : V} {a b : D} {ks : List (Key × D)} {Q : VK} (hS : SR X.K ca ρ φ S H) (rx : Rel X.K ρ φ H x a) (ry : Rel X.K ρ φ H y b) (hd : dctOf a S = some ks)
    (h : AtM X.K ca W (Rel X.K) ρ φ H σ (fIx a b S) Q) : ∃ p v, x = .ref p ∧ DGet H p y (some v) ∧ Q v H := by
  unfold fIx at h
  cases rx <;> first | (cases hd; done) | skip
  rename_i p n hn
  simp only [hd] at h
  cases hk : keyOf b with
  | none => rw [hk] at h; exact h.elim
  | some k =>
    rw [hk] at h
    simp only at h
    obtain ⟨p', o, e, _, q1, q2⟩ := dget_rel hS (.ref hn) ry hd hk
    cases e
    rcases q2 with ⟨rfl, z⟩ | ⟨v, u, rfl, z, rv⟩
    · rw [z] at h; exact h.elim
    · rw [z] at h; exact ⟨p, v, rfl, q1, AtM.here h hS rv⟩
theorem se_ix (hu : X.A.units + 1 < cLine) (ha : SE ca W X a ma) (hb : SE ca W X b mb) (h1 : PlainIx b) : SE ca W X (.Subscript a b pos) (e2 fIx ma mb) :=
  pe_imp (pe_or2 (pe_ix ix_seq ha hb h1) (pe_dget hu ha hb h1)) fun σ H Q h => e2_road1 (fun x S => dctOf x S = none) h
    (fun ρ φ S l hS hl h c => bindAt hS hl h fun a S1 ρ1 H1 x m1 hS1 e1 rx h1 => bindAt hS1 (hl.mono e1) h1 fun b S2 ρ2 H2 y m2 hS2 e2 ry h2 => ix_seqS hS2 (rx.mono e2) ry (c _ _ _ _ m1 m2) h2)
    (fun ρ φ S l hS hl h c => bindAt hS hl h fun a S1 ρ1 H1 x m1 hS1 e1 rx h1 => bindAt hS1 (hl.mono e1) h1 fun b S2 ρ2 H2 y m2 hS2 e2 ry h2 => by
      obtain ⟨ks, hk⟩ := Option.ne_none_iff_exists'.mp (c _ _ _ _ m1 m2)
      exact ix_dct hS2 (rx.mono e2) ry hk h2)
/-! ### slices -/
theorem so_no : SO' ca W X none oNo := ⟨fun pins s σ H Q I ⟨ρ, φ, S, l, hS, hl, q⟩ => po_none.run pins s σ H Q I (AtM.here (b := (none : Option Int)) q hS rfl)⟩
theorem so_so (h : SE ca W X e ma) : SO' ca W X (some e) (oSo ma) := ⟨fun pins s σ H Q I ⟨ρ, φ, S, l, hS, hl, q⟩ => (po_some h).run pins s σ H Q I (bindAt hS hl q fun d S1 ρ1 H1 x m1 hS1 e1 rx h1 => by
  cases rx <;> first | exact h1.elim | skip
  exact ⟨_, rfl, AtM.here (b := some _) h1 hS1 rfl⟩)⟩
def rSlA (K : PySem.W.Frag) : V → Option Int → Option Int → Hp → VK → Prop := fun x lo hi H Q => rSlL K x lo hi H Q ∨ rSlT K x lo hi H Q
theorem sl_A : L2.SlR X (rSlA X.K) := by
  intro pins s σ H x v vl vu lo hi sl Q I rx hs pl pu h
  rcases h with h | h
  · exact sl_list pins s σ H x v vl vu lo hi sl Q I rx hs pl pu h
  · exact sl_tup pins s σ H x v vl vu lo hi sl Q I rx hs pl pu h
theorem cut_rel {K : PySem.W.Frag} {ρ φ : List Addr} {H : Hp} {xs : List V} {ds : List D} {lo hi : Option Int} (r : Rels K ρ φ H xs ds) : Rels K ρ φ H (cutV xs lo hi) (cutD ds lo hi) := by
  unfold cutV cutD
  rw [r.length]
  exact (r.drop _).take _
theorem se_sl {lo hi : Option Expr} {p2 : Pos} {ml mh : Sl → M (Option Int)} (ha : SE ca W X a ma) (hl : SO' ca W X lo ml) (hh : SO' ca W X hi mh) : SE ca W X (.Subscript a (.Slice lo hi none p2) pos) (eSl ma ml mh) :=
  pe_imp (pe_slice sl_A ha hl hh) fun σ H Q ⟨ρ, φ, S, l, hS, hl, q⟩ => bindAt hS hl q fun d S1 ρ1 H1 x m1 hS1 e1 rx h1 => bindAt hS1 (hl.mono e1) h1 fun i S2 ρ2 H2 i' m2 hS2 e2 ri h2 => bindAt hS2 ((hl.mono e1).mono e2) h2 fun j S3 ρ3 H3 j' m3 hS3 e3 rj h3 => by
    cases ri
    cases rj
    have rx3 := (rx.mono e2).mono e3
    unfold fSl at h3
    split at h3
    · cases rx3 with
      | tup a1 a2 a3 a4 =>
        split at h3
        · exact h3.elim
        · rename_i hc
          exact .inr ⟨_, _, rfl, .inl (.inl a1), by rw [a4.length]; exact hc, new_tup hS3 (cut_rel a4) h3⟩
    · split at h3
      · rename_i ds hd
        obtain ⟨p, xs, rfl, q1, r1⟩ := list_rel hS3 rx3 hd
        exact .inl ⟨p, xs, rfl, q1, new_fl hS3 (cut_rel r1) h3⟩
      · exact h3.elim
end
end Sim

/-! Sim: calls. -/
namespace Sim
open PySem PySem.Spec L2 PyProof.Rows
section
variable {X : Cx} {ca : Nat → Addr} {W : WW} {e a b c o : Expr} {es : List Expr} {ma mb mc mo : ME} {m : MA} {pos p apos : Pos}
/-- a call by values is met by f -/
def CallS (K : PySem.W.Frag) (ca : Nat → Addr) (r : List V → Hp → VK → Prop) (f : List D → M D) : Prop := ∀ (W : WW) (ρ φ : List Addr) (S : Store) (H : Hp) (σ : L2.St) (xs : List V) (ds : List D) (Q : VK),
  SR K ca ρ φ S H → Rels K ρ φ H xs ds → AtM K ca W (Rel K) ρ φ H σ (f ds S) Q → r xs H Q
theorem cb_run {r : List V → Hp → VK → Prop} {f : List D → M D} (hs : CallS X.K ca r f) {σ : L2.St} {H : Hp} {Q : VK} (h : Tm X.K ca W (Rel X.K) (eA f m) σ H Q) : tCB r (Tm X.K ca W (Rels X.K) m) σ H Q := by
  obtain ⟨ρ, φ, S, l, hS, hl, h⟩ := h
  exact bindAt hS hl h fun ds S1 ρ1 H1 xs m1 hS1 e1 rx h1 => hs _ _ _ _ _ _ _ _ _ hS1 rx h1
/-- what a call's text must show -/
structure CallT (X : Cx) (e : Expr) (es : List Expr) (pos : Pos) : Prop where
  he : starEach (e :: es) X.env = (false, eval e X.env) :: starEach es X.env
  hpl : (backTo pos (starEach es X.env)).any (·.1) = false
theorem se_cb {x : Str} {id : String} {r : List V → Hp → VK → Prop} {f : List D → M D} (hc : CallR X (.builtin id) r) (hs : CallS X.K ca r f) (hm : X.mg x = none) (hv : bootBuiltins x = some (.builtin id)) (hn : x ≠ "__name__") (hdb : (x == ("__debug__" : Str)) = false) (hg : Gl X x)
    (ha : SA ca W X (e :: es) m) (T : CallT X e es pos) : SE ca W X (.Call (.Name x p) (e :: es) [] pos) (eA f m) := pe_imp (pe_callB hc hg hm hv ha hn hdb T.he T.hpl) fun _ _ _ h => cb_run hs h
theorem se_ct {x : Str} {id : String} {r : List V → Hp → VK → Prop} {f : List D → M D} (hc : CallR X (.type id) r) (hs : CallS X.K ca r f) (hm : X.mg x = none) (hv : bootBuiltins x = some (.type id)) (hn : x ≠ "__name__") (hdb : (x == ("__debug__" : Str)) = false) (hg : Gl X x)
    (ha : SA ca W X (e :: es) m) (T : CallT X e es pos) : SE ca W X (.Call (.Name x p) (e :: es) [] pos) (eA f m) := pe_imp (pe_callTy hc hg hm hv ha hn hdb T.he T.hpl) fun _ _ _ h => cb_run hs h
theorem one_of {f : D → M D} {W : WW} {K : PySem.W.Frag} {ρ φ : List Addr} {S : Store} {H : Hp} {σ : L2.St} {xs : List V} {ds : List D} {Q : VK} (r : Rels K ρ φ H xs ds) (h : AtM K ca W (Rel K) ρ φ H σ (a1 f ds S) Q) : ∃ x d, xs = [x] ∧ ds = [d] ∧ Rel K ρ φ H x d ∧ AtM K ca W (Rel K) ρ φ H σ (f d S) Q := by
  unfold a1 at h
  split at h
  · cases r with
    | cons r1 r2 => cases r2; exact ⟨_, _, rfl, rfl, r1, h⟩
  · exact h.elim
theorem two_of {f : D → D → M D} {W : WW} {K : PySem.W.Frag} {ρ φ : List Addr} {S : Store} {H : Hp} {σ : L2.St} {xs : List V} {ds : List D} {Q : VK} (r : Rels K ρ φ H xs ds) (h : AtM K ca W (Rel K) ρ φ H σ (a2 f ds S) Q) : ∃ x d y e, xs = [x, y] ∧ ds = [d, e] ∧ Rel K ρ φ H x d ∧ Rel K ρ φ H y e ∧ AtM K ca W (Rel K) ρ φ H σ (f d e S) Q := by
  unfold a2 at h
  split at h
  · cases r with
    | cons r1 r2 =>
      cases r2 with
      | cons r2 r3 => cases r3; exact ⟨_, _, _, _, rfl, rfl, r1, r2, h⟩
  · exact h.elim
/-! ### len, list, tuple, int, sum, isinstance -/
def rLenA (K : PySem.W.Frag) : List V → Hp → VK → Prop := fun xs H Q => (∃ p ys, xs = [.ref p] ∧ (SqL K H p ys ∨ SqT K H p ys) ∧ Q (.int ys.length) H) ∨ ((∃ z, xs = [.str z] ∧ z.length ≤ sizeLine ∧ Q (.int z.length) H) ∨ (∃ a kvs, xs = [V.ref a] ∧ H a = some (.dK kvs) ∧ Q (.int kvs.length) H))
theorem call_lenA : CallR X (.builtin "len") (rLenA X.K) := callR_or call_len_seq (callR_or call_len_str call_lenD)
theorem len_S : CallS X.K ca (rLenA X.K) (a1 fLen) := by
  intro W ρ φ S H σ xs ds Q hS rx h
  obtain ⟨x, d, rfl, rfl, r, h⟩ := one_of rx h
  unfold fLen at h
  split at h
  · cases r
    split at h
    · rename_i hz
      exact .inr (.inl ⟨_, rfl, line_le hz, AtM.here h hS (.int _)⟩)
    · exact h.elim
  · split at h
    · rename_i kvs hd
      obtain ⟨p, ks, rfl, q1, q2⟩ := dctU_rel hS r hd
      refine .inr (.inr ⟨p, ks, rfl, q1, ?_⟩)
      rw [q2.length]
      exact AtM.here h hS (.int _)
    · split at h
      · rename_i es hs
        obtain ⟨p, ys, rfl, q1, r1⟩ := seq_rel hS r hs
        refine .inl ⟨p, ys, rfl, q1, ?_⟩
        rw [r1.length]
        exact AtM.here h hS (.int _)
      · exact h.elim
def rListA (K : PySem.W.Frag) : List V → Hp → VK → Prop := fun xs H Q => ∃ p ys, xs = [.ref p] ∧ (SqL K H p ys ∨ SqT K H p ys) ∧ ∀ l, H l = none → Q (.ref l) (upd H l (.lst ys))
theorem call_listA : CallR X (.type "list") (rListA X.K) := call_list_of
theorem list_S : CallS X.K ca (rListA X.K) (a1 fList) := by
  intro W ρ φ S H σ xs ds Q hS rx h
  obtain ⟨x, d, rfl, rfl, r, h⟩ := one_of rx h
  unfold fList at h
  split at h
  · rename_i es hs
    obtain ⟨p, ys, rfl, q1, r1⟩ := seq_rel hS r hs
    exact ⟨p, ys, rfl, q1, new_fl hS r1 h⟩
  · exact h.elim
theorem listR_S : CallS X.K ca (rListA X.K) (a1 fListR) := by
  intro W ρ φ S H σ xs ds Q hS rx h
  obtain ⟨x, d, rfl, rfl, r, h⟩ := one_of rx h
  unfold fListR at h
  split at h
  · rename_i es hs
    obtain ⟨p, ys, rfl, q1, r1⟩ := seq_rel hS r hs
    exact ⟨p, ys, rfl, q1, new_lst hS r1 h⟩
  · exact h.elim
def rIntA : List V → Hp → VK → Prop := fun xs H Q => (∃ i, xs = [.int i] ∧ Q (.int i) H) ∨ ∃ k, xs = [.bl k] ∧ Q (.int (if k then 1 else 0)) H
theorem call_intA : CallR X (.type "int") rIntA := call_int1
theorem int_S : CallS X.K ca rIntA (a1 fInt) := by
  intro W ρ φ S H σ xs ds Q hS rx h
  obtain ⟨x, d, rfl, rfl, r, h⟩ := one_of rx h
  unfold fInt at h
  split at h
  · cases r; exact .inl ⟨_, rfl, AtM.here h hS (.int _)⟩
  · cases r; exact .inr ⟨_, rfl, AtM.here h hS (.int _)⟩
  · exact h.elim
theorem sum_S : CallS X.K ca (rSum X.K) (a1 fSum) := by
  intro W ρ φ S H σ xs ds Q hS rx h
  obtain ⟨x, d, rfl, rfl, r, h⟩ := one_of rx h
  unfold fSum at h
  split at h
  · rename_i es hs
    split at h
    · rename_i ns hn
      obtain ⟨p, ys, rfl, q1, r1⟩ := list_rel hS r hs
      have z := ints_rel r1 hn
      subst z
      exact ⟨p, ns, rfl, q1, AtM.here h hS (.int _)⟩
    · exact h.elim
  · exact h.elim
def rMax2 : List V → Hp → VK → Prop := fun xs H Q => ∃ i j, xs = [.int i, .int j] ∧ Q (.int (if j > i then j else i)) H
def rMin2 : List V → Hp → VK → Prop := fun xs H Q => ∃ i j, xs = [.int i, .int j] ∧ Q (.int (if j < i then j else i)) H
theorem call_max2A (hc : X.calm = true) : CallR X (.builtin "max") rMax2 := call_max2 hc
theorem call_min2A (hc : X.calm = true) : CallR X (.builtin "min") rMin2 := call_min2 hc
theorem max2_S : CallS X.K ca rMax2 (a2 fMax2) := by
  intro W ρ φ S H σ xs ds Q hS rx h
  obtain ⟨x, d, y, e, rfl, rfl, r, r', h⟩ := two_of rx h
  unfold fMax2 at h
  split at h
  · cases r; cases r'; exact ⟨_, _, rfl, AtM.here h hS (.int _)⟩
  · exact h.elim
theorem min2_S : CallS X.K ca rMin2 (a2 fMin2) := by
  intro W ρ φ S H σ xs ds Q hS rx h
  obtain ⟨x, d, y, e, rfl, rfl, r, r', h⟩ := two_of rx h
  unfold fMin2 at h
  split at h
  · cases r; cases r'; exact ⟨_, _, rfl, AtM.here h hS (.int _)⟩
  · exact h.elim
/-! ### isinstance -/
def tysA : List String := ["NoneType", "bool", "int", "str", "tuple", "list", "dict"]
def tysB : List String := ["bool", "int", "str", "tuple", "list", "dict"]
theorem kit_tab : ∀ t ∈ tysA, ∀ T ∈ tysB, kitB t T = some (t == T || (t == "bool" && T == "int")) := by decide +kernel
theorem ty_rel {ρ φ : List Addr} {S : Store} {H : Hp} {v : V} {d : D} {t : String} (hS : SR X.K ca ρ φ S H) (r : Rel X.K ρ φ H v d) (h : tyD d S = some t) : t ∈ tysA ∧ TyX X.K H v (.type t) := by
  cases r with
  | non => cases h; exact ⟨by decide, .base .non⟩
  | bl b => cases h; exact ⟨by decide, .base (.bl b)⟩
  | int i => cases h; exact ⟨by decide, .base (.int i)⟩
  | str s => cases h; exact ⟨by decide, .base (.str s)⟩
  | tup h1 n m r => cases h; exact ⟨by decide, .base (.tup h1)⟩
  | fl h1 n m r => cases h; exact ⟨by decide, .base (.lst h1)⟩
  | scr h1 => cases h
  | ref h1 =>
    unfold tyD at h
    simp only at h
    split at h
    · rename_i es hs
      cases h
      obtain ⟨p, xs, e, q, _⟩ := cat_rel hS (.ref h1) (ds := es) (by unfold catOf; simp only [hs])
      cases e
      exact ⟨by decide, .base (.lst q)⟩
    · rename_i es hs
      cases h
      obtain ⟨p, xs, e, q, _⟩ := dctU_rel hS (.ref h1) (ks := es) (by unfold dctU; simp only [hs])
      cases e
      exact ⟨by decide, .base (.dK q)⟩
    · cases h
theorem se_isi {T : String} {x : Str} {px p1 : Pos} (hT : T ∈ tysB) (hm : X.mg "isinstance" = none) (hg : Gl X "isinstance") (hmT : X.mg x = none) (hgT : Gl X x) (hvT : bootBuiltins x = some (.type T)) (hn : x ≠ "__name__") (hdb : (x == ("__debug__" : Str)) = false)
    (ha : SE ca W X a ma) (T1 : CallT X a [.Name x px] pos) (T2 : CallT X (.Name x px) [] pos) : SE ca W X (.Call (.Name "isinstance" p1) [a, .Name x px] [] pos) (e1 (fIsi T) ma) := by
  have hp : PA X [a, .Name x px] (tCons (Tm X.K ca W (Rel X.K) ma) (tCons (tC (.ty T)) tNil)) := pa_cons ha (pa_cons (pe_bltn hgT hmT hvT (show Value.type T = Value.type T from rfl) hn hdb) pa_nil T2.he) T1.he
  refine pe_imp (pe_callB call_isi hg hm (by decide +kernel) hp (by decide) (by decide) T1.he T1.hpl) fun σ H Q ⟨ρ, φ, S, l, hS, hl, q⟩ => bindAt hS hl q fun d S1 ρ1 H1 x m1 hS1 e1 rx h1 => ?_
  show rIsi X.K [x, .ty T] H1 Q
  unfold fIsi at h1
  split at h1
  · rename_i t ht
    obtain ⟨t1, t2⟩ := ty_rel hS1 rx ht
    exact ⟨x, .ty T, .type t, .type T, _, rfl, .ty T, t2, kit_ty (kit_tab t t1 T hT), AtM.here h1 hS1 (.bl _)⟩
  · exact h1.elim
structure ClsI (K : PySem.W.Frag) (mg : Str → Option Value) (ca : Nat → Addr) (c : Nat) (x : Str) : Prop where
  mg : mg x = some (.ref (ca c))
  cl : Cls K (ca c)
  ha : PySem.W.findIn K (.ref (ca c)) "__class__" = some (some (.builtin "object.__class__"))
  hn : PySem.W.specialIn K (.builtin "object.__class__") "__get__" = some (some (.builtin "getset_descriptor.__get__"))
  ht : PySem.W.takesIn K (.builtin "object.__class__") = some true
  hm : PySem.W.mroIn K (ca c) (.type "object") = some true
  kit : PySem.W.kitOne K (.ref (ca c)) (.ref (ca c)) = some true
theorem se_isC {cc : Nat} {x : Str} {px p1 : Pos} (T : ClsI X.K X.mg ca cc x) (hm : X.mg "isinstance" = none) (hg : Gl X "isinstance") (hgT : Gl X x) (hdb : (x == ("__debug__" : Str)) = false)
    (ha : SE ca W X a ma) (T1 : CallT X a [.Name x px] pos) (T2 : CallT X (.Name x px) [] pos) : SE ca W X (.Call (.Name "isinstance" p1) [a, .Name x px] [] pos) (e1 (fIsC cc) ma) := by
  have hp : PA X [a, .Name x px] (tCons (Tm X.K ca W (Rel X.K) ma) (tCons (tC (.ref (ca cc))) tNil)) := pa_cons ha (pa_cons (pe_glob hgT T.mg (show Value.ref (ca cc) = Value.ref (ca cc) from rfl) hdb) pa_nil T2.he) T1.he
  refine pe_imp (pe_callB call_isi hg hm (by decide +kernel) hp (by decide) (by decide) T1.he T1.hpl) fun σ H Q ⟨ρ, φ, S, l, hS, hl, q⟩ => bindAt hS hl q fun d S1 ρ1 H1 x m1 hS1 e1 rx h1 => ?_
  show rIsi X.K [x, .ref (ca cc)] H1 Q
  unfold fIsC at h1
  split at h1
  · rename_i c' gs hi
    split at h1
    · rename_i hc
      subst hc
      obtain ⟨n, p, dx, fs, rfl, rfl, hn, hs, hp, hr⟩ := ins_rel hS1 rx hi
      exact ⟨_, _, _, _, _, rfl, .own _, .base (.ins hp T.cl T.ha T.hn T.ht T.hm), T.kit, AtM.here h1 hS1 (.bl _)⟩
    · exact h1.elim
  · exact h1.elim

/-! ### methods of lists, dicts, texts -/
/-- what a method call's text must show -/
structure MethT (X : Cx) (o : Expr) (name : Str) (es : List Expr) (apos cpos : Pos) : Prop where
  base : attributeBase o name X.env (eval o X.env) = eval o X.env
  few : ((backTo cpos (starEach es X.env)).all (fun x => !x.1) && (backToKw cpos (keywordEach [] X.env)).all (fun x => x.1.isSome)
    && decide (es.length + ([] : List Keyword).length + (if ([] : List Keyword).isEmpty then 0 else 1) < 30)) = true
  line : (apos.endLine == cpos.line) = true
theorem lst_at {K : PySem.W.Frag} {ρ φ : List Addr} {S : Store} {H : Hp} {v : V} {n : Nat} {ds : List D} (hS : SR K ca ρ φ S H) (r : Rel K ρ φ H v (.ref n)) (h : S[n]? = some ⟨.lst ds, false⟩) : ∃ p xs, v = .ref p ∧ ρ[n]? = some p ∧ H p = some (.lst xs) ∧ Rels K ρ φ H xs ds := by
  cases r with
  | ref h1 =>
    rename_i a
    obtain ⟨ho, q1, q2⟩ := hS.obj h1 h
    unfold RelO at q2
    split at q2
    · rename_i xs es' e; cases e; exact ⟨a, xs, rfl, h1, q1, q2⟩
    · rename_i e; cases e
    · rename_i e; cases e
    · exact q2.elim
theorem put_at {K : PySem.W.Frag} {ρ φ : List Addr} {S : Store} {H : Hp} {σ : L2.St} {W : WW} {n : Nat} {p : Addr} {xs : List V} {ds : List D} {v : V} {d : D} {Q : VK} (hS : SR K ca ρ φ S H) (hn : ρ[n]? = some p) (hz : NoFz H p) (r : Rels K ρ φ H xs ds) (rv : Rel K ρ φ H v d)
    (h : AtM K ca W (Rel K) ρ φ H σ (some (.ok d, S.set n ⟨.lst ds, false⟩)) Q) : Q v (upd H p (.lst xs)) := by
  have hp : p ∈ ρ := List.mem_of_getElem? hn
  have e : Ext ρ H ρ (upd H p (.lst xs)) := Ext.put hp (hS.trk hp) hz
  exact h ρ _ v (hS.put (c := ⟨.lst ds, false⟩) hn hz (r.mono e)) e (rv.mono e)
/-- a method by values is met by f -/
def MthS (K : PySem.W.Frag) (ca : Nat → Addr) (r : V → List V → Hp → VK → Prop) (f : D → List D → M D) : Prop := ∀ (W : WW) (ρ φ : List Addr) (S : Store) (H : Hp) (σ : L2.St) (x : V) (a : D) (xs : List V) (ds : List D) (Q : VK),
  SR K ca ρ φ S H → Rel K ρ φ H x a → Rels K ρ φ H xs ds → AtM K ca W (Rel K) ρ φ H σ (f a ds S) Q → r x xs H Q
structure StarT (X : Cx) (e : Expr) (es : List Expr) (cpos : Pos) : Prop where
  hs : starEach (e :: es) X.env = (false, eval e X.env) :: starEach es X.env
  hp : (backTo cpos (starEach es X.env)).any (·.1) = false
theorem bm_run {T : String} {r : V → List V → Hp → VK → Prop} {f : D → List D → M D} {chk : D → Store → Bool} (hs : MthS X.K ca r f)
    (hk : ∀ (ρ φ : List Addr) (S : Store) (H : Hp) (v : V) (d : D), SR X.K ca ρ φ S H → Rel X.K ρ φ H v d → chk d S = true → tyV X.K T v H) {σ : L2.St} {H : Hp} {Q : VK} (h : Tm X.K ca W (Rel X.K) (eBM chk f mo m) σ H Q) : tBM X.K T r (Tm X.K ca W (Rel X.K) mo) (Tm X.K ca W (Rels X.K) m) σ H Q := by
  obtain ⟨ρ, φ, S, l, hS, hl, q⟩ := h
  refine bindAt hS hl q fun x S1 ρ1 H1 v m1 hS1 e1 rx h1 => ?_
  cases hc : chk x S1 with
  | false => rw [hc] at h1; exact h1.elim
  | true =>
    rw [hc] at h1
    exact ⟨hk _ _ _ _ _ _ hS1 rx hc, bindAt hS1 (hl.mono e1) h1 fun d S2 ρ2 H2 w m2 hS2 e2 rd h2 => hs _ _ _ _ _ _ _ _ _ _ _ hS2 (rx.mono e2) rd h2⟩
theorem isL_ty {K : PySem.W.Frag} (ρ φ : List Addr) (S : Store) (H : Hp) (v : V) (d : D) (hS : SR K ca ρ φ S H) (r : Rel K ρ φ H v d) (h : isL d S = true) : tyV K "list" v H := by
  unfold isL at h
  cases e : listOf d S with
  | none => rw [e] at h; cases h
  | some ds =>
    obtain ⟨p, xs, rfl, q, _⟩ := list_rel hS r e
    exact .inl ⟨rfl, xs, q⟩
theorem isS_ty {K : PySem.W.Frag} (ρ φ : List Addr) (S : Store) (H : Hp) (v : V) (d : D) (hS : SR K ca ρ φ S H) (r : Rel K ρ φ H v d) (h : isS d S = true) : tyV K "str" v H := by
  cases r <;> first | (cases h; done) | rfl
theorem append_S : MthS X.K ca rAppend (m1 fAppend) := by
  intro W ρ φ S H σ x a xs ds Q hS rx rs h
  unfold m1 at h
  split at h
  · rename_i y
    cases rs with
    | cons ry rn =>
      cases rn
      unfold fAppend at h
      split at h
      · split at h
        · rename_i n es hn
          split at h
          · rename_i hz
            obtain ⟨p, vs, rfl, h1, h2, h3⟩ := lst_at hS rx hn
            exact ⟨p, vs, _, rfl, rfl, h2, line_lt (by rw [h3.length]; exact hz), put_at hS h1 (nofz_lst h2) (h3.append (.cons ry .nil)) .non h⟩
          · exact h.elim
        · exact h.elim
      · exact h.elim
  · exact h.elim
theorem se_append (ho : SE ca W X o mo) (ha : SA ca W X [e] m) (T : MethT X o "append" [e] apos pos) (R : StarT X e [] pos) : SE ca W X (.Call (.Attribute o "append" apos) [e] [] pos) (eBM isL (m1 fAppend) mo m) :=
  pe_imp (pe_bm PySem.F.plainAttrs_list PySem.F.slot_list_append PySem.F.type_list_append mt_append ho ha T.base T.few T.line R.hs R.hp) fun σ H Q h => bm_run append_S isL_ty h
theorem pop_S : MthS X.K ca rPopAt (m1 fPopAt) := by
  intro W ρ φ S H σ x a xs ds Q hS rx rs h
  unfold m1 at h
  split at h
  · rename_i y
    cases rs with
    | cons ry rn =>
      cases rn
      unfold fPopAt at h
      split at h
      · split at h
        · rename_i n es hn
          split at h
          · split at h
            · rename_i d r
              split at h
              · rename_i hz
                obtain ⟨p, vs, rfl, h1, h2, h3⟩ := lst_at hS rx hn
                cases ry
                cases h3 with
                | cons r1 r2 =>
                  rename_i v vs
                  refine ⟨p, v :: vs, 0, 0, v, rfl, rfl, h2, by decide, by decide, ?_, rfl, put_at hS h1 (nofz_lst h2) r2 r1 h⟩
                  unfold seqIndex?
                  simp
              · exact h.elim
            · exact h.elim
          · exact h.elim
        · exact h.elim
      · exact h.elim
  · exact h.elim
theorem se_pop (ho : SE ca W X o mo) (ha : SA ca W X [e] m) (T : MethT X o "pop" [e] apos pos) (R : StarT X e [] pos) : SE ca W X (.Call (.Attribute o "pop" apos) [e] [] pos) (eBM isL (m1 fPopAt) mo m) :=
  pe_imp (pe_bm PySem.F.plainAttrs_list PySem.F.slot_list_pop PySem.F.type_list_pop mt_popAt ho ha T.base T.few T.line R.hs R.hp) fun σ H Q h => bm_run pop_S isL_ty h
def rSIndex : V → List V → Hp → VK → Prop := fun x xs H Q => ∃ a b i rest, x = .str a ∧ xs = [.str b] ∧ Builtin.Str.occurrences a b 0 a.length 1 = i :: rest ∧ Q (.int (i : Nat)) H
theorem sindex_S : MthS X.K ca rSIndex (m1 fIndexS) := by
  intro W ρ φ S H σ x a xs ds Q hS rx rs h
  unfold m1 at h
  split at h
  · rename_i y
    cases rs with
    | cons ry rn =>
      cases rn
      unfold fIndexS at h
      split at h
      · split at h
        · rename_i i r hr
          cases rx
          cases ry
          exact ⟨_, _, i, r, rfl, rfl, hr, AtM.here h hS (.int _)⟩
        · exact h.elim
      · exact h.elim
  · exact h.elim
theorem lindex_S : MthS X.K ca (rIndexD X.K) (m1 fIndexL) := by
  intro W ρ φ S H σ x a xs ds Q hS rx rs h
  unfold m1 at h
  split at h
  · rename_i y
    cases rs with
    | cons ry rn =>
      cases rn
      unfold fIndexL at h
      split at h
      · rename_i ys u h1 h2
        split at h
        · rename_i hc
          split at h
          · rename_i j hj
            have d1 := py_rel hS _ rx h1
            have d2 := py_rel hS _ ry h2
            obtain ⟨hj1, hj2, hj3⟩ := List.findIdx?_eq_some_iff_getElem.mp hj
            cases d1 with
            | lst q1 q2 => exact ⟨_, _, u, ys, j, _, rfl, rfl, .lst q1 q2, d2, hc.2, hc.1, List.getElem?_eq_getElem hj1, hj2, fun m z' hm hz => (by
                obtain ⟨hm1, hm2⟩ := List.getElem?_eq_some_iff.mp hz
                have := hj3 m hm
                subst hm2
                simpa using this), AtM.here h hS (.int _)⟩
          · exact h.elim
        · exact h.elim
      · exact h.elim
  · exact h.elim
theorem se_index (hu : X.A.units + 65 < cLine) (ho : SE ca W X o mo) (ha : SA ca W X [e] m) (T : MethT X o "index" [e] apos pos) (R : StarT X e [] pos) : SE ca W X (.Call (.Attribute o "index" apos) [e] [] pos) (eIndex mo m) := by
  refine pe_imp (pe_or2 (pe_bm PySem.F.plainAttrs_str PySem.F.slot_str_index PySem.F.type_str_index mt_sindex ho ha T.base T.few T.line R.hs R.hp)
    (pe_bm PySem.F.plainAttrs_list PySem.F.slot_list_index PySem.F.type_list_index (mt_indexD hu) ho ha T.base T.few T.line R.hs R.hp)) fun σ H Q ⟨ρ, φ, S, l, hS, hl, q⟩ => ?_
  by_cases c : ∀ x S1, mo l S = some (.ok x, S1) → isS x S1 = true
  · refine .inl (bm_run (r := rSIndex) (f := m1 fIndexS) (chk := isS) sindex_S isS_ty ⟨ρ, φ, S, l, hS, hl, ?_⟩)
    unfold eIndex at q
    unfold eBM
    cases e : mo l S with
    | none => rw [e] at q; exact q
    | some p =>
      obtain ⟨r, S1⟩ := p
      cases r with
      | error z => rw [e] at q; exact q
      | ok x =>
        have z := c x S1 e
        rw [e] at q
        simp only [bnd, z, if_true] at q ⊢
        exact q
  · refine .inr (bm_run (r := rIndexD X.K) (f := m1 fIndexL) (chk := isL) lindex_S isL_ty ⟨ρ, φ, S, l, hS, hl, ?_⟩)
    unfold eIndex at q
    unfold eBM
    cases e : mo l S with
    | none => rw [e] at q; exact q
    | some p =>
      obtain ⟨r, S1⟩ := p
      cases r with
      | error z => rw [e] at q; exact q
      | ok x =>
        have z : isS x S1 = false := by
          cases z : isS x S1 with
          | false => rfl
          | true =>
            refine absurd (fun x' S1' e' => ?_) c
            rw [e] at e'
            cases e'
            exact z
        rw [e] at q
        simp only [bnd, z, Bool.false_eq_true, if_false] at q ⊢
        exact q
/-! ### d.get -/
theorem se_get1 (hu : X.A.units + 1 < cLine) (ho : SE ca W X o mo) (ha : SE ca W X e ma) (T : M1 X o "get" apos e pos) : SE ca W X (.Call (.Attribute o "get" apos) [e] [] pos) (eGet1 mo ma) :=
  pe_imp (pe_dget1 hu ho ha T) fun σ H Q ⟨ρ, φ, S, l, hS, hl, q⟩ => bindAt hS hl q fun x S1 ρ1 H1 v m1 hS1 e1 rx h1 => by
    cases hc : dctOf x S1 with
    | none => rw [hc] at h1; exact h1.elim
    | some ks =>
      rw [hc] at h1
      obtain ⟨p, kvs, rfl, q1, _⟩ := dct_rel hS1 rx hc
      refine ⟨p, rfl, .inl ⟨kvs, q1⟩, bindAt hS1 (hl.mono e1) h1 fun y S2 ρ2 H2 w m2 hS2 e2 ry h2 => ?_⟩
      unfold fGet1 at h2
      split at h2
      · rename_i ks2 k hk1 hk2
        obtain ⟨p', o, e', _, g1, g2⟩ := dget_rel hS2 (rx.mono e2) ry hk1 hk2
        cases e'
        refine ⟨o, g1, ?_⟩
        rcases g2 with ⟨rfl, z⟩ | ⟨v, u, rfl, z, rv⟩
        · rw [z] at h2; exact AtM.here h2 hS2 .non
        · rw [z] at h2; exact AtM.here h2 hS2 rv
      · exact h2.elim
theorem se_get2 {f : Expr} (hu : X.A.units + 1 < cLine) (ho : SE ca W X o mo) (ha : SE ca W X e ma) (hf : SE ca W X f mb) (T : M2 X o "get" apos e f pos) : SE ca W X (.Call (.Attribute o "get" apos) [e, f] [] pos) (eGet2 mo ma mb) :=
  pe_imp (pe_dget2 hu ho ha hf T) fun σ H Q ⟨ρ, φ, S, l, hS, hl, q⟩ => bindAt hS hl q fun x S1 ρ1 H1 v m1 hS1 e1 rx h1 => by
    cases hc : dctOf x S1 with
    | none => rw [hc] at h1; exact h1.elim
    | some ks =>
      rw [hc] at h1
      obtain ⟨p, kvs, rfl, q1, _⟩ := dct_rel hS1 rx hc
      refine ⟨p, rfl, .inl ⟨kvs, q1⟩, bindAt hS1 (hl.mono e1) h1 fun y S2 ρ2 H2 w m2 hS2 e2 ry h2 => bindAt hS2 ((hl.mono e1).mono e2) h2 fun z S3 ρ3 H3 t m3 hS3 e3 rz h3 => ?_⟩
      unfold fGet2 at h3
      split at h3
      · rename_i ks2 k hk1 hk2
        obtain ⟨p', o, e', _, g1, g2⟩ := dget_rel hS3 ((rx.mono e2).mono e3) (ry.mono e3) hk1 hk2
        cases e'
        refine ⟨o, g1, ?_⟩
        rcases g2 with ⟨rfl, z'⟩ | ⟨v, u, rfl, z', rv⟩
        · rw [z'] at h3; exact AtM.here h3 hS3 rz
        · rw [z'] at h3; exact AtM.here h3 hS3 rv
      · exact h3.elim
end
end Sim

/-! Sim: calls of own defs, what is walked, comprehensions. -/
namespace Sim
open PySem PySem.Spec L2 PyProof.Rows
/-- no wish: no error leaves -/
def W0 (ξ : Option XI) : WW := ⟨fun _ _ _ _ => False, ξ⟩
/-- what a def promises that runs as g -/
def spM (K : PySem.W.Frag) (ca : Nat → Addr) (g : List D → M D) : Sp := fun vs H Q E =>
  ∃ (ρ φ : List Addr) (S : Store) (ds : List D), SR K ca ρ φ S H ∧ Rels K ρ φ H vs ds ∧ AtM K ca ⟨fun C d _ H' => E C d H', none⟩ (Rel K) ρ φ H [] (g ds S) Q
section
variable {K : PySem.W.Frag} {ca : Nat → Addr}
theorem at_slot {α β : Type} {R : List Addr → List Addr → Hp → β → α → Prop} {W W' : WW} {ρ φ : List Addr} {H : Hp} {σ σ' : L2.St} {c : Out α} {Q : β → Hp → Prop} (hw : ∀ C d H', W.f C d σ H' → W'.f C d σ' H') (h : AtM K ca W R ρ φ H σ c Q) : AtM K ca W' R ρ φ H σ' c Q := by
  unfold AtM at h ⊢
  split at h
  · exact h
  · exact fun ρ' H' C d h1 h2 h3 => hw _ _ _ (h ρ' H' C d h1 h2 h3)
  · exact h
theorem at_noErr {α β : Type} {R : List Addr → List Addr → Hp → β → α → Prop} {W W' : WW} {ρ φ : List Addr} {H : Hp} {σ σ' : L2.St} {m : M α} {S : Store} {Q : β → Hp → Prop} (h : AtM K ca W R ρ φ H σ (noErr m S) Q) : AtM K ca W' R ρ φ H σ' (m S) Q := by
  unfold noErr at h
  split at h
  · rename_i e; rw [e]; exact h
  · exact h.elim
end
/-- a def at a module's name: it runs as g, at most k calls deep -/
structure FnS (P : Program) (w : World) (K : PySem.W.Frag) (mg : Str → Option Value) (base : Heap) (ca : Nat → Addr) (k : Nat) (x : Str) (g : List D → M D) : Prop where
  ex : ∃ (f : Addr) (fd : FuncData) (ps : List Str), FnOk P w K mg base (L2.CX P w) k f fd ps (spM K ca g) ∧ mg x = some (.ref f) ∧ PySem.W.keepIn K (.ref f) = true ∧ Binds K fd ps []
/-- a method of the class of code c -/
structure MeS (P : Program) (w : World) (K : PySem.W.Frag) (mg : Str → Option Value) (base : Heap) (ca : Nat → Addr) (k : Nat) (c : Nat) (m : Str) (g : List D → M D) : Prop where
  cl : Cls K (ca c)
  ex : ∃ (f : Addr) (fd : FuncData) (ps : List Str), FnOk P w K mg base (L2.CX P w) k f fd ps (spM K ca g) ∧ Meth K (ca c) m f ∧ Binds K fd ps []
/-- a class by its __init__ -/
structure MkS (P : Program) (w : World) (K : PySem.W.Frag) (mg : Str → Option Value) (base : Heap) (ca : Nat → Addr) (k : Nat) (c : Nat) (x : Str) (g : List D → M D) : Prop where
  ex : ∃ (f : Addr) (fd : FuncData) (ps : List Str), FnOk P w K mg base (L2.CX P w) k f fd ps (spM K ca g) ∧ Mk K (ca c) f ∧ mg x = some (.ref (ca c)) ∧ Binds K fd ps []
section
variable {X : Cx} {ca : Nat → Addr} {W : WW} {e a b c o : Expr} {es : List Expr} {ma mb mc mo : ME} {m : MA} {g : List D → M D} {pos p apos : Pos} {k : Nat} {x : Str}
theorem sp_of {ρ φ : List Addr} {S : Store} {H : Hp} {σ : L2.St} {vs : List V} {ds : List D} {Q : VK} (hS : SR X.K ca ρ φ S H) (r : Rels X.K ρ φ H vs ds) (h : AtM X.K ca W (Rel X.K) ρ φ H σ (g ds S) Q) : spM X.K ca g vs H Q (WE W.f σ) :=
  ⟨ρ, φ, S, ds, hS, r, at_slot (fun _ _ _ z => z) h⟩
theorem se_call (F : FnS X.prog X.w X.K X.mg X.base ca k x g) (hr : Room k X.A) (tk : Takes X W.f) (hg : Gl X x) (hdb : (x == ("__debug__" : Str)) = false) (ha : SA ca W X (e :: es) m) (T : CallT X e es pos) : SE ca W X (.Call (.Name x p) (e :: es) [] pos) (eA g m) := by
  obtain ⟨f, fd, ps, F1, hm, hk, hb⟩ := F.ex
  exact pe_imp (pe_callS F1 hr hg hm hk hb (passAt tk) ha hdb T.he T.hpl) fun σ H Q ⟨ρ, φ, S, l, hS, hl, q⟩ => bindAt hS hl q fun ds S1 ρ1 H1 xs m1 hS1 e1 rs h1 => sp_of hS1 rs h1
theorem se_call0 (F : FnS X.prog X.w X.K X.mg X.base ca k x g) (hr : Room k X.A) (hg : Gl X x) (hdb : (x == ("__debug__" : Str)) = false) : SE ca W X (.Call (.Name x p) [] [] pos) (eA (fun ds => noErr (g ds)) aNil) := by
  obtain ⟨f, fd, ps, F1, hm, hk, hb⟩ := F.ex
  exact pe_imp (pe_call0 F1 hr hg hm hk hb .nil passL hdb) fun σ H Q ⟨ρ, φ, S, l, hS, hl, q⟩ => by
    show spM X.K ca g ([] ++ []) H Q E0
    exact ⟨ρ, φ, S, [], hS, .nil, at_noErr q⟩
/-! ### methods -/
theorem meth_run {c : Nat} {mn : Str} {σ : L2.St} {H : Hp} {Q : VK} (h : Tm X.K ca W (Rel X.K) (eMeth c mn g mo m) σ H Q) :
    Tm X.K ca W (Rel X.K) mo σ H (fun x H1 => ∃ a dx fs, x = .ref a ∧ H1 a = some (.ins (ca c) dx fs) ∧ fs.lookup mn = none ∧ Tm X.K ca W (Rels X.K) m σ H1 (fun vs H2 => spM X.K ca g (x :: vs) H2 Q (WE W.f σ))) := by
  obtain ⟨ρ, φ, S, l, hS, hl, q⟩ := h
  refine bindAt hS hl q fun x S1 ρ1 H1 v m1 hS1 e1 rx h1 => ?_
  cases hi : insOf x S1 with
  | none => rw [hi] at h1; exact h1.elim
  | some cf =>
    obtain ⟨c', gs⟩ := cf
    rw [hi] at h1
    simp only at h1
    split at h1
    · rename_i hc
      obtain ⟨hc1, hc2⟩ := hc
      subst hc1
      obtain ⟨n, p, dx, fs, rfl, rfl, hn, hs, hp, hr⟩ := ins_rel hS1 rx hi
      refine ⟨p, dx, fs, rfl, hp, hr.lookup_none hc2, bindAt hS1 (hl.mono e1) h1 fun ds S2 ρ2 H2 vs m2 hS2 e2 rs h2 => ?_⟩
      exact sp_of hS2 (.cons (rx.mono e2) rs) h2
    · exact h1.elim
/-- what a method's call must show -/
structure OMeth (X : Cx) (o : Expr) (mn : Str) (es : List Expr) (apos pos : Pos) : Prop where
  ht : ∃ pl : Sem Bool, eval (.Call (.Attribute o mn apos) es [] pos) X.env = (do
      let ov ← eval o X.env
      standAt apos.atName
      let (f, first) ← holding [ov] (getMethod ov mn pl)
      callWith pos f first (backTo pos (starEach es X.env)) (backToKw pos (keywordEach [] X.env)))
theorem se_meth {c : Nat} {mn : Str} (F : MeS X.prog X.w X.K X.mg X.base ca k c mn g) (hr : Room k X.A) (tk : Takes X W.f) (ho : SE ca W X o mo) (ha : SA ca W X (e :: es) m) (T : CallT X e es pos) (O : OMeth X o mn (e :: es) apos pos) :
    SE ca W X (.Call (.Attribute o mn apos) (e :: es) [] pos) (eMeth c mn g mo m) := by
  obtain ⟨f, fd, ps, F1, hm, hb⟩ := F.ex
  obtain ⟨pl, ht⟩ := O.ht
  refine ⟨fun pins s σ H Q I h => ?_⟩
  refine PySem.W.methodCall_KW (pl := pl) (thn (ho.run pins s σ H _ I (meth_run h)) fun u s1 ⟨x, H1, I1, rx, a, dx, fs, ex, ea, l, q⟩ => ?_) ht
  subst ex
  obtain rfl : u = Value.ref a := rx
  refine getmeth_ok I1 ea F.cl hm l ?_
  refine PySem.W.callWith_K (first := [.ref a]) (h₀ := X.base) I.ok.mod.kin hm.kp (thn (ha.run pos pins s1 σ H1 _ I1 q) fun us s2 ⟨vs, H2, I2, r, q2⟩ => ⟨I2.kIn, ?_⟩) T.he T.hpl
  exact run_fnS (us := .ref a :: us) (vs := .ref a :: vs) (E := WE W.f) F1 hr hb (passAt tk σ) I2 (.cons rfl r) q2
theorem se_meth0 {c : Nat} {mn : Str} (F : MeS X.prog X.w X.K X.mg X.base ca k c mn g) (hr : Room k X.A) (tk : Takes X W.f) (ho : SE ca W X o mo) (O : OMeth X o mn [] apos pos) :
    SE ca W X (.Call (.Attribute o mn apos) [] [] pos) (eMeth c mn g mo aNil) := by
  obtain ⟨f, fd, ps, F1, hm, hb⟩ := F.ex
  obtain ⟨pl, ht⟩ := O.ht
  refine ⟨fun pins s σ H Q I h => ?_⟩
  refine PySem.W.methodCall_KW (pl := pl) (thn (ho.run pins s σ H _ I (meth_run h)) fun u s1 ⟨x, H1, I1, rx, a, dx, fs, ex, ea, l, q⟩ => ?_) ht
  subst ex
  obtain rfl : u = Value.ref a := rx
  refine getmeth_ok I1 ea F.cl hm l ?_
  obtain ⟨ρ2, φ2, S2, l2, hS2, hl2, q2⟩ := q
  have q3 : spM X.K ca g [.ref a] H1 Q (WE W.f σ) := AtM.here (b := ([] : List V)) q2 hS2 .nil
  exact PySem.W.callWith_K0 (first := [.ref a]) I1.kIn hm.kp (run_fnS (us := [.ref a]) (vs := [.ref a]) (E := WE W.f) F1 hr hb (passAt tk σ) I1 (.cons rfl .nil) q3)
/-! ### a new instance -/
theorem make_run {c : Nat} {ρ φ : List Addr} {S : Store} {H : Hp} {σ : L2.St} {vs : List V} {ds : List D} {Q : VK} (hS : SR X.K ca ρ φ S H) (r : Rels X.K ρ φ H vs ds) (h : AtM X.K ca W (Rel X.K) ρ φ H σ (fMake c (fun ds => noErr (g ds)) ds S) Q) :
    ∀ x dx, H x = none → H dx = none → dx ≠ x → spM X.K ca g (.ref x :: (vs ++ [])) (upd (upd H dx (.own x)) x (.ins (ca c) dx [])) (fun v H2 => v = .non ∧ Q (.ref x) H2) E0 := by
  intro x dx hx hdx hne
  have hx' : upd H dx (.own x) x = none := by rw [upd_ne (Ne.symm hne)]; exact hx
  have e1 : Ext ρ H ρ (upd H dx (.own x)) := Ext.lay hdx
  have hS1 := hS.lay (o := .own x) hdx
  have e2 : Ext ρ (upd H dx (.own x)) (ρ ++ [x]) (upd (upd H dx (.own x)) x (.ins (ca c) dx [])) := Ext.grow hx'
  have hS2 : SR X.K ca (ρ ++ [x]) φ (S ++ [⟨.ins c [], false⟩]) (upd (upd H dx (.own x)) x (.ins (ca c) dx [])) := hS1.grow hx' ⟨rfl, .nil⟩
  have hx3 : (ρ ++ [x])[S.length]? = some x := by rw [← hS.len]; simp
  refine ⟨ρ ++ [x], φ, _, .ref S.length :: ds, hS2, .cons (.ref hx3) (by rw [List.append_nil]; exact r.mono (e1.trans e2)), ?_⟩
  unfold fMake at h
  simp only at h
  refine at_noErr (W := W) (σ := σ) ?_
  split at h
  · rename_i S' hm
    rw [hm]
    intro ρ' H' v hS' e' rv
    cases rv
    exact ⟨rfl, h ρ' H' (.ref x) hS' ((e1.trans e2).trans e') (.ref (e'.at hx3))⟩
  · rename_i y S' hm
    unfold noErr at hm
    split at hm <;> cases hm
  · exact h.elim
theorem se_make {c : Nat} (F : MkS X.prog X.w X.K X.mg X.base ca k c x g) (hr : Room (k + 1) X.A) (hg : Gl X x) (hdb : (x == ("__debug__" : Str)) = false) (ha : SA ca W X (e :: es) m) (T : CallT X e es pos) : SE ca W X (.Call (.Name x p) (e :: es) [] pos) (eA (fMake c (fun ds => noErr (g ds))) m) := by
  obtain ⟨f, fd, ps, F1, M, hm, hb⟩ := F.ex
  exact pe_imp (pe_make M F1 hr hg hm hb .nil passL ha hdb T.he T.hpl) fun σ H Q ⟨ρ, φ, S, l, hS, hl, q⟩ => bindAt hS hl q fun ds S1 ρ1 H1 xs m1 hS1 e1 rs h1 => make_run hS1 rs h1
theorem se_make0 {c : Nat} (F : MkS X.prog X.w X.K X.mg X.base ca k c x g) (hr : Room (k + 1) X.A) (hg : Gl X x) (hdb : (x == ("__debug__" : Str)) = false) : SE ca W X (.Call (.Name x p) [] [] pos) (eA (fMake c (fun ds => noErr (g ds))) aNil) := by
  obtain ⟨f, fd, ps, F1, M, hm, hb⟩ := F.ex
  exact pe_imp (pe_make0 M F1 hr hg hm hb .nil passL hdb) fun σ H Q ⟨ρ, φ, S, l, hS, hl, q⟩ => make_run (ds := []) hS .nil q
end
/-! ### what is walked -/
/-- J gives the items that src tells, as the store stands -/
def Feeds (K : PySem.W.Frag) (ca : Nat → Addr) (ρ φ : List Addr) (H : Hp) (J : It) (src : Src) : Prop :=
  ∀ (ρ' φ' : List Addr) (S' : Store) (H' : Hp) (ds : List D), SR K ca ρ' φ' S' H' → Ext ρ H ρ' H' → (∀ a ∈ φ', a ∈ φ ∨ H a = none) → src S' = some ds → ∀ i : Nat,
    (∀ d, ds[i]? = some d → J.go i H' ∧ ∀ x H'', J.yld i H' x H'' → SR K ca ρ' φ' S' H'' ∧ Ext ρ' H' ρ' H'' ∧ Rel K ρ' φ' H'' x d) ∧ (ds[i]? = none → J.stop i H')
def SI (ca : Nat → Addr) (W : WW) (X : Cx) (tg iter : Expr) (m : Sl → M Src) : Prop := PI X tg iter (Tm X.K ca W (Feeds X.K ca) m)
section
variable {X : Cx} {ca : Nat → Addr} {W : WW} {tg e a b : Expr} {ma mb : ME} {pos p tpos : Pos}
theorem move_of {ρ φ ρ' φ' : List Addr} {H H' : Hp} (e : Ext ρ H ρ' H') (hp : ∀ a ∈ φ', a ∈ φ ∨ H a = none) : Move ρ φ H ρ' φ' H' :=
  ⟨fun q o h n m => ⟨e.keep q o h n, e.notin (by rw [h]; simp) n, fun z => by
    rcases hp q z with y | y
    · exact m y
    · rw [h] at y; cases y⟩, fun n a h => e.at h⟩
theorem pi_imp {e : Expr} {t t' : TI} (h : PI X tg e t) (i : ∀ σ H R, t' σ H R → t σ H R) : PI X tg e t' := ⟨fun pins s σ H R I q => h.run pins s σ H R I (i σ H R q)⟩
theorem isL_rel {ρ φ : List Addr} {S : Store} {H : Hp} {v : V} {d : D} (hS : SR X.K ca ρ φ S H) (r : Rel X.K ρ φ H v d) (h : isL d S = true) : ∃ p xs, v = .ref p ∧ SqL X.K H p xs := by
  unfold isL at h
  cases e : listOf d S with
  | none => rw [e] at h; cases h
  | some ds =>
    obtain ⟨p, xs, rfl, q, _⟩ := list_rel hS r e
    exact ⟨p, xs, rfl, q⟩
theorem feeds_list {ρ φ : List Addr} {H : Hp} {p : Addr} {x : D} (r : Rel X.K ρ φ H (.ref p) x) : Feeds X.K ca ρ φ H (Itl X.K p) (listOf x) := by
  intro ρ' φ' S' H' ds hS' e' hp hs i
  obtain ⟨q, xs, ep, q1, q2⟩ := list_rel hS' (r.move (move_of e' hp)) hs
  cases ep
  refine ⟨fun d hd => ?_, fun hd => ⟨xs, q1, by rw [q2.length]; exact List.getElem?_eq_none_iff.mp hd⟩⟩
  obtain ⟨v, hv, rv⟩ := q2.get hd
  refine ⟨⟨xs, v, q1, hv⟩, fun y H'' hy => ?_⟩
  obtain ⟨rfl, hy⟩ := hy
  have z := hy xs q1
  rw [hv] at z
  cases z
  exact ⟨hS', Ext.refl _ _, rv⟩
theorem si_list (h : SE ca W X e ma) : SI ca W X tg e (iL ma) :=
  pi_imp (pi_list h) fun σ H R ⟨ρ, φ, S, l, hS, hl, q⟩ => bindAt hS hl q fun x S1 ρ1 H1 v m1 hS1 e1 rx h1 => by
    split at h1
    · rename_i hc
      obtain ⟨p, xs, rfl, q1⟩ := isL_rel hS1 rx hc
      exact ⟨p, rfl, ⟨xs, q1⟩, AtM.here (b := Itl X.K p) h1 hS1 (feeds_list rx)⟩
    · exact h1.elim
theorem signs_get {z : Str} {i : Nat} {d : D} (h : (signsOf z)[i]? = some d) : ∃ c, z.cps[i]? = some c ∧ d = .str ⟨#[c]⟩ := by
  unfold signsOf at h
  rw [List.getElem?_map] at h
  cases e : z.cps.toList[i]? with
  | none => rw [e] at h; cases h
  | some c => rw [e] at h; cases h; exact ⟨c, by simpa using e, rfl⟩
theorem si_str (h : SE ca W X e ma) : SI ca W X tg e (iS ma) :=
  pi_imp (pi_str h) fun σ H R ⟨ρ, φ, S, l, hS, hl, q⟩ => bindAt hS hl q fun x S1 ρ1 H1 v m1 hS1 e1 rx h1 => by
    cases rx <;> first | exact h1.elim | skip
    rename_i z
    refine ⟨z, rfl, AtM.here (b := Its z) h1 hS1 ?_⟩
    intro ρ' φ' S' H' ds hS' e' hp hs i
    cases hs
    refine ⟨fun d hd => ?_, fun hd => ?_⟩
    · obtain ⟨c, hc, rfl⟩ := signs_get hd
      refine ⟨(Array.getElem?_eq_some_iff.mp hc).1, fun y H'' hy => ?_⟩
      obtain ⟨rfl, c', hc', rfl⟩ := hy
      rw [hc] at hc'
      cases hc'
      exact ⟨hS', Ext.refl _ _, .str _⟩
    · have := List.getElem?_eq_none_iff.mp hd
      unfold signsOf at this
      show z.cps.size ≤ i
      simpa using this
theorem range_get {lo : Int} {n i : Nat} {d : D} (h : (rangeD lo n)[i]? = some d) : i < n ∧ d = .int (lo + (i : Int)) := by
  unfold rangeD at h
  rw [List.getElem?_map] at h
  by_cases c : i < n
  · rw [List.getElem?_range c] at h
    cases h
    exact ⟨c, rfl⟩
  · rw [List.getElem?_eq_none (by simpa using c)] at h
    cases h
theorem feeds_range {ρ φ : List Addr} {H : Hp} {lo : Int} {n : Nat} : Feeds X.K ca ρ φ H (Itr lo n) (fun _ => some (rangeD lo n)) := by
  intro ρ' φ' S' H' ds hS' e' hp hs i
  cases hs
  refine ⟨fun d hd => ?_, fun hd => ?_⟩
  · obtain ⟨h1, rfl⟩ := range_get hd
    refine ⟨h1, fun y H'' hy => ?_⟩
    obtain ⟨rfl, rfl⟩ := hy
    exact ⟨hS', Ext.refl _ _, .int _⟩
  · have := List.getElem?_eq_none_iff.mp hd
    unfold rangeD at this
    show n ≤ i
    simpa using this
theorem big_of {i : Int} (h : bigI i = true) : -(2 ^ 62) ≤ i ∧ i < 2 ^ 62 := by
  unfold bigI at h
  have := of_decide_eq_true h
  omega
theorem si_r1 (hm : X.mg "range" = none) (hg : Gl X "range") (h : SE ca W X a ma) (hs : starEach [a] X.env = [(false, eval a X.env)]) (hs' : starEach [a] X.env = (false, eval a X.env) :: starEach [] X.env) : SI ca W X tg (.Call (.Name "range" p) [a] [] pos) (iR1 ma) :=
  pi_imp (pi_range1 hg hm (pa_cons h pa_nil hs') hs) fun σ H R ⟨ρ, φ, S, l, hS, hl, q⟩ => bindAt hS hl q fun x S1 ρ1 H1 v m1 hS1 e1 rx h1 => by
    cases rx <;> first | exact h1.elim | skip
    rename_i n
    simp only at h1
    split at h1
    · rename_i hb
      obtain ⟨b1, b2⟩ := big_of hb
      exact ⟨n, rfl, b1, b2, AtM.here (b := Itr 0 n.toNat) h1 hS1 feeds_range⟩
    · exact h1.elim
theorem si_r2 (hm : X.mg "range" = none) (hg : Gl X "range") (h : SE ca W X a ma) (k : SE ca W X b mb) (hs : starEach [a, b] X.env = [(false, eval a X.env), (false, eval b X.env)]) (hs2 : starEach [b] X.env = [(false, eval b X.env)])
    (hs' : starEach [a, b] X.env = (false, eval a X.env) :: starEach [b] X.env) (hs2' : starEach [b] X.env = (false, eval b X.env) :: starEach [] X.env) : SI ca W X tg (.Call (.Name "range" p) [a, b] [] pos) (iR2 ma mb) :=
  pi_imp (pi_range2 hg hm (pa_cons h (pa_cons k pa_nil hs2') hs') hs hs2) fun σ H R ⟨ρ, φ, S, l, hS, hl, q⟩ => bindAt hS hl q fun x S1 ρ1 H1 v m1 hS1 e1 rx h1 => bindAt hS1 (hl.mono e1) h1 fun y S2 ρ2 H2 w m2 hS2 e2 ry h2 => by
    cases rx <;> first | exact h2.elim | skip
    cases ry <;> first | exact h2.elim | skip
    rename_i lo hi
    simp only at h2
    split at h2
    · rename_i hb
      obtain ⟨b1, b2⟩ := big_of hb.1
      obtain ⟨b3, b4⟩ := big_of hb.2
      exact ⟨lo, hi, rfl, ⟨b1, b2, b3, b4⟩, AtM.here (b := Itr lo (hi - lo).toNat) h2 hS2 feeds_range⟩
    · exact h2.elim
theorem enum_get {ds : List D} {i : Nat} {d : D} (h : (enumD ds)[i]? = some d) : ∃ x, ds[i]? = some x ∧ d = .tup [.int (i : Nat), x] := by
  unfold enumD at h
  rw [List.getElem?_map, List.getElem?_zipIdx] at h
  cases e : ds[i]? with
  | none => rw [e] at h; cases h
  | some x => rw [e] at h; cases h; exact ⟨x, rfl, by simp⟩
theorem si_enum {elts : List Expr} {kk : Nat} (hm : X.mg "enumerate" = none) (hg : Gl X "enumerate") (h : SE ca W X e ma) (hs : starEach [e] X.env = [(false, eval e X.env)]) (hs' : starEach [e] X.env = (false, eval e X.env) :: starEach [] X.env) :
    SI ca W X (.Tuple elts kk tpos) (.Call (.Name "enumerate" p) [e] [] pos) (iEn ma) :=
  pi_imp (pi_enum hg hm (pa_cons h pa_nil hs') hs) fun σ H R ⟨ρ, φ, S, l, hS, hl, q⟩ => bindAt hS hl q fun x S1 ρ1 H1 v m1 hS1 e1 rx h1 => by
    split at h1
    · rename_i hc
      obtain ⟨p, xs, rfl, q1⟩ := isL_rel hS1 rx hc
      refine ⟨p, xs, rfl, q1, AtM.here (b := Ite X.K p) h1 hS1 ?_⟩
      intro ρ' φ' S' H' ds hS' e' hp hs i
      cases e3 : listOf x S' with
      | none => simp only [e3] at hs; cases hs
      | some es =>
        simp only [e3] at hs
        cases hs
        obtain ⟨q', ys, ep, q2, q3⟩ := list_rel hS' (rx.move (move_of e' hp)) e3
        cases ep
        refine ⟨fun d hd => ?_, fun hd => ⟨ys, q2, ?_⟩⟩
        · obtain ⟨y, hy, rfl⟩ := enum_get hd
          obtain ⟨v, hv, rv⟩ := q3.get hy
          refine ⟨⟨ys, v, q2, hv⟩, fun z H'' hz => ?_⟩
          obtain ⟨T, w, rfl, hT, rfl, hw⟩ := hz
          have z2 := hw ys q2
          rw [hv] at z2
          cases z2
          have e5 : Ext ρ' H' ρ' (upd H' T (.tup [.int (i : Nat), v])) := Ext.lay hT
          exact ⟨hS'.lay hT, e5, .tup upd_same (hS'.fresh hT).1 (hS'.fresh hT).2 (.cons (.int _) (.cons (rv.mono e5) .nil))⟩
        · rw [q3.length]
          have := List.getElem?_eq_none_iff.mp hd
          unfold enumD at this
          simpa using this
    · exact h1.elim
theorem zip_get : ∀ {xs ys : List D} {i : Nat} {d : D}, (zipD xs ys)[i]? = some d → ∃ x y, xs[i]? = some x ∧ ys[i]? = some y ∧ d = .tup [x, y] := by
  intro xs ys i d h
  unfold zipD at h
  rw [List.getElem?_zipWith] at h
  cases e1 : xs[i]? with
  | none => simp [e1] at h
  | some x =>
    cases e2 : ys[i]? with
    | none => simp [e1, e2] at h
    | some y => simp [e1, e2] at h; exact ⟨x, y, rfl, rfl, h.symm⟩
theorem zip_none : ∀ {xs ys : List D} {i : Nat}, (zipD xs ys)[i]? = none → xs.length ≤ i ∨ ys.length ≤ i := by
  intro xs ys i h
  have := List.getElem?_eq_none_iff.mp h
  unfold zipD at this
  rw [List.length_zipWith] at this
  omega
theorem si_zip {elts : List Expr} {kk : Nat} (hm : X.mg "zip" = none) (hg : Gl X "zip") (h : SE ca W X a ma) (k : SE ca W X b mb) (hs1 : starEach [a, b] X.env = (false, eval a X.env) :: starEach [b] X.env) (hs2 : starEach [b] X.env = (false, eval b X.env) :: starEach [] X.env)
    (hpl : (backTo pos (starEach [b] X.env)).any (·.1) = false) : SI ca W X (.Tuple elts kk tpos) (.Call (.Name "zip" p) [a, b] [] pos) (iZ ma mb) :=
  pi_imp (pi_zip hg hm (pa_cons h (pa_cons k pa_nil hs2) hs1) hs1 hpl) fun σ H R ⟨ρ, φ, S, l, hS, hl, q⟩ => bindAt hS hl q fun x S1 ρ1 H1 v m1 hS1 e1 rx h1 => bindAt hS1 (hl.mono e1) h1 fun y S2 ρ2 H2 w m2 hS2 e2 ry h2 => by
    split at h2
    · rename_i hc
      have rx2 := rx.mono e2
      obtain ⟨p, xs, rfl, q1⟩ := isL_rel hS2 rx2 hc.1
      obtain ⟨q, ys, rfl, q2⟩ := isL_rel hS2 ry hc.2
      refine ⟨p, q, xs, ys, rfl, q1, q2, AtM.here (b := Itz X.K p q) h2 hS2 ?_⟩
      intro ρ' φ' S' H' ds hS' e' hp hs i
      simp only at hs
      split at hs
      · rename_i es fs h3 h4
        cases hs
        obtain ⟨p', us, ep, g1, g2⟩ := list_rel hS' (rx2.move (move_of e' hp)) h3
        cases ep
        obtain ⟨q', ws, eq', g3, g4⟩ := list_rel hS' (ry.move (move_of e' hp)) h4
        cases eq'
        refine ⟨fun d hd => ?_, fun hd => ⟨us, ws, g1, g3, ?_⟩⟩
        · obtain ⟨d1, d2, hd1, hd2, rfl⟩ := zip_get hd
          obtain ⟨v1, hv1, rv1⟩ := g2.get hd1
          obtain ⟨v2, hv2, rv2⟩ := g4.get hd2
          refine ⟨⟨us, ws, v1, v2, g1, g3, hv1, hv2⟩, fun z H'' hz => ?_⟩
          obtain ⟨T, t1, t2, rfl, hT, rfl, ht1, ht2⟩ := hz
          have z1 := ht1 us g1
          rw [hv1] at z1
          cases z1
          have z2 := ht2 ws g3
          rw [hv2] at z2
          cases z2
          have e5 : Ext ρ' H' ρ' (upd H' T (.tup [v1, v2])) := Ext.lay hT
          exact ⟨hS'.lay hT, e5, .tup upd_same (hS'.fresh hT).1 (hS'.fresh hT).2 (.cons (rv1.mono e5) (.cons (rv2.mono e5) .nil))⟩
        · rw [g2.length, g4.length]
          exact zip_none hd
      · cases hs
    · exact h2.elim
/-! ### targets -/
/-- the target's reading stores what tgSet stores; vs: the slots that it may change -/
def TgOk (K : PySem.W.Frag) (ξ : Option XI) (g : TG) (tg : Tg) : Prop := ∀ (ρ φ : List Addr) (H : Hp) (σ : L2.St) (l l' : Sl) (x : V) (d : D) (Q : L2.St → Hp → Prop),
  SlX ξ K ρ φ H σ l → Rel K ρ φ H x d → tgSet tg d l = some l' → (∀ σ', SlX ξ K ρ φ H σ' l' → (∀ vs, (∀ i ∈ tgIx tg, i ∈ vs) → wipe σ' vs = wipe σ vs) → Q σ' H) → g x σ H Q
theorem wipe_set {i : Nat} {o : Option V} : ∀ {vs : List Nat} {σ : L2.St}, i ∈ vs → wipe (σ.set i o) vs = wipe σ vs
  | v :: vs, σ, h => by
    show (wipe (σ.set i o) vs).set v none = (wipe σ vs).set v none
    by_cases c : i ∈ vs
    · rw [wipe_set c]
    · have e : i = v := (List.mem_cons.mp h).resolve_right c
      subst e
      have q : ∀ (vs : List Nat) (σ : L2.St), i ∉ vs → wipe (σ.set i o) vs = (wipe σ vs).set i o := by
        intro vs
        induction vs with
        | nil => intro σ _; rfl
        | cons w ws ih =>
          intro σ hn
          show (wipe (σ.set i o) ws).set w none = ((wipe σ ws).set w none).set i o
          rw [ih σ (fun z => hn (List.mem_cons_of_mem _ z)), List.set_comm]
          intro z
          subst z
          exact hn List.mem_cons_self
      rw [q vs σ c, List.set_set]
theorem tg_one {ξ : Option XI} {i : Nat} (hi : freeS ξ i) : TgOk X.K ξ (gName i) (.one i) := by
  intro ρ φ H σ l l' x d Q hl r h q
  cases h
  exact q _ (hl.set r hi) fun vs hv => wipe_set (hv i (List.mem_singleton.mpr rfl))
theorem tgs_ok {ξ : Option XI} : ∀ (is : List Nat) (hi : ∀ i ∈ is, freeS ξ i) (ρ φ : List Addr) (H : Hp) (σ : L2.St) (l l' : Sl) (xs : List V) (ds : List D) (Q : L2.St → Hp → Prop),
    SlX ξ X.K ρ φ H σ l → Rels X.K ρ φ H xs ds → setAll is ds l = some l' → (∀ σ', SlX ξ X.K ρ φ H σ' l' → (∀ vs, (∀ i ∈ is, i ∈ vs) → wipe σ' vs = wipe σ vs) → Q σ' H) → (is.foldr (fun i t => gCons (gName i) t) gNil) xs σ H Q
  | [], _, ρ, φ, H, σ, l, l', _, _, Q, hl, .nil, h, q => by
    cases h
    exact ⟨rfl, q _ hl fun _ _ => rfl⟩
  | [], _, ρ, φ, H, σ, l, l', _, _, Q, hl, .cons r rs, h, q => by cases h
  | i :: is, hi, ρ, φ, H, σ, l, l', _, _, Q, hl, .nil, h, q => by cases h
  | i :: is, hi, ρ, φ, H, σ, l, l', _, _, Q, hl, .cons r rs, h, q => by
    refine ⟨_, _, rfl, ?_⟩
    exact tgs_ok is (fun j hj => hi j (List.mem_cons_of_mem _ hj)) ρ φ H _ _ l' _ _ Q (hl.set r (hi i List.mem_cons_self)) rs h fun σ' h1 h2 => q σ' h1 fun vs hv => by
      rw [h2 vs fun j hj => hv j (List.mem_cons_of_mem _ hj), wipe_set (hv i List.mem_cons_self)]
theorem setAll_len : ∀ {is : List Nat} {ds : List D} {l l' : Sl}, setAll is ds l = some l' → ds.length = is.length
  | [], [], _, _, _ => rfl
  | i :: is, d :: ds, l, l', h => by rw [List.length_cons, List.length_cons, setAll_len (is := is) h]
  | [], _ :: _, _, _, h => by cases h
  | _ :: _, [], _, _, h => by cases h
theorem tg_many {ξ : Option XI} {is : List Nat} (hi : ∀ i ∈ is, freeS ξ i) : TgOk X.K ξ (gTup X.K is.length (is.foldr (fun i t => gCons (gName i) t) gNil)) (.many is) := by
  intro ρ φ H σ l l' x d Q hl r h q
  unfold tgSet at h
  simp only at h
  cases r <;> first | (cases h; done) | skip
  rename_i p xs ds h1 h2 h3 h4
  refine ⟨p, xs, rfl, .inl (.inl h1), by rw [h4.length]; exact setAll_len h, ?_⟩
  exact tgs_ok is hi ρ φ H σ l l' xs ds Q hl h4 h q
end
end Sim

/-! Sim: comprehensions. -/
namespace Sim
open PySem PySem.Spec L2 PyProof.Rows
section
variable {K : PySem.W.Frag} {ca : Nat → Addr} {ρ ρ' φ : List Addr} {S : Store} {H H' : Hp}
/-- a private place is laid -/
theorem SR.hide (h : SR K ca ρ φ S H) {p : Addr} {o : HO} (hp : H p = none) : SR K ca ρ (p :: φ) S (upd H p o) := by
  obtain ⟨f1, f2⟩ := h.fresh hp
  have mv : Move ρ φ H ρ (p :: φ) (upd H p o) := ⟨fun q u hq n m => ⟨by rw [upd_ne (ne_of_none hq hp)]; exact hq, n, fun z => by
    rcases List.mem_cons.mp z with y | y
    · subst y; rw [hq] at hp; cases hp
    · exact m y⟩, fun _ _ z => z⟩
  refine ⟨h.nd, h.len, fun a ha => ?_, fun a ha => ?_, fun n a c h1 h2 => ?_⟩
  · rcases List.mem_cons.mp ha with y | y
    · subst y; exact f1
    · exact h.dj a y
  · rcases List.mem_cons.mp ha with y | y
    · subst y; rw [upd_same]; simp
    · exact Ext.trk (Ext.lay (ρ := ρ) hp) a (h.ph a y)
  · obtain ⟨ho, q1, q2⟩ := h.ob n a c h1 h2
    exact ⟨ho, q1.lay hp, q2.move mv⟩
theorem hide_move {p : Addr} {o : HO} (hp : H p = none) : Move ρ φ H ρ (p :: φ) (upd H p o) := ⟨fun q u hq n m => ⟨by rw [upd_ne (ne_of_none hq hp)]; exact hq, n, fun z => by
    rcases List.mem_cons.mp z with y | y
    · subst y; rw [hq] at hp; cases hp
    · exact m y⟩, fun _ _ z => z⟩
theorem priv_move {p : Addr} {o : HO} (hp : p ∈ φ) : Move ρ φ H ρ φ (upd H p o) := ⟨fun q u hq n m => ⟨by rw [upd_ne (fun z => m (by rw [z]; exact hp))]; exact hq, n, m⟩, fun _ _ z => z⟩
/-- a private place changes -/
theorem SR.priv (h : SR K ca ρ φ S H) {p : Addr} {o : HO} (hp : p ∈ φ) : SR K ca ρ φ S (upd H p o) := by
  refine ⟨h.nd, h.len, h.dj, fun a ha => ?_, fun n a c h1 h2 => ?_⟩
  · by_cases c : a = p
    · subst c; rw [upd_same]; simp
    · rw [upd_ne c]; exact h.ph a ha
  · obtain ⟨ho, q1, q2⟩ := h.ob n a c h1 h2
    exact ⟨ho, q1.put (fun z => h.dj p hp (z ▸ List.mem_of_getElem? h1)), q2.move (priv_move hp)⟩
theorem SR.less {ψ : List Addr} (h : SR K ca ρ φ S H) (hp : ∀ a ∈ ψ, a ∈ φ) : SR K ca ρ ψ S H :=
  ⟨h.nd, h.len, fun a ha => h.dj a (hp a ha), fun a ha => h.ph a (hp a ha), fun n a c h1 h2 => by
    obtain ⟨ho, q1, q2⟩ := h.ob n a c h1 h2
    exact ⟨ho, q1, q2.less hp⟩⟩
theorem XF.less {ψ : List Addr} {d : Option Addr} {fs : Option (List (Str × D))} (h : XF K ρ φ H d fs) (hp : ∀ a ∈ ψ, a ∈ φ) : XF K ρ ψ H d fs := by
  cases fs with
  | none => exact h
  | some gs =>
    obtain ⟨dd, hs, h1, h2, h3, h4, h5⟩ := h
    exact ⟨dd, hs, h1, h2, h3, fun z => h4 (hp _ z), h5.less hp⟩
theorem SlX.less {ξ : Option XI} {ψ : List Addr} {σ : L2.St} {l : Sl} (h : SlX ξ K ρ φ H σ l) (hp : ∀ a ∈ ψ, a ∈ φ) : SlX ξ K ρ ψ H σ l := ⟨h.sl.less hp, fun z hz => ⟨(h.er z hz).1, (h.er z hz).2.less hp⟩⟩
theorem SlR.wipe {σ : L2.St} {l : Sl} (h : SlR K ρ φ H σ l) : ∀ vs : List Nat, SlR K ρ φ H (wipe σ vs) (wipeD l vs)
  | [] => h
  | v :: vs => (SlR.wipe h vs).unset v
theorem bindN {α β γ δ : Type} {W : WW} {ξ : Option XI} {R : List Addr → List Addr → Hp → β → α → Prop} {R' : List Addr → List Addr → Hp → δ → γ → Prop} {σ τ : L2.St} {l : Sl} {Q : β → Hp → Prop} {Q' : δ → Hp → Prop} {m : Sl → M α} {k : α → M γ} {ψ ρb : List Addr} {Hb : Hp} (hS : SR K ca ρ φ S H) (hl : SlX ξ K ρ φ H σ l) (h : AtM K ca W R' ρb ψ Hb τ (bndN (m l S) k) Q')
    (q : ∀ a S1 ρ1 H1 b, m l S = some (.ok a, S1) → SR K ca ρ1 φ S1 H1 → Ext ρ H ρ1 H1 → R ρ1 φ H1 b a → AtM K ca W R' ρb ψ Hb τ (k a S1) Q' → Q b H1) : Tm K ca (W0 ξ) R m σ H Q := by
  refine ⟨ρ, φ, S, l, hS, hl, ?_⟩
  cases hm : m l S with
  | none => rw [hm] at h; exact h
  | some p =>
    obtain ⟨r, S1⟩ := p
    rw [hm] at h
    cases r with
    | error x => exact h.elim
    | ok a => exact fun ρ1 H1 b hS1 e1 r1 => q a S1 ρ1 H1 b hm hS1 e1 r1 h
theorem ext_new {p : Addr} {o : HO} (e : Ext ρ H ρ' H') (hp : H p = none) : Ext ρ H ρ' (upd H' p o) :=
  ⟨e.pre, fun b u hb n => by rw [upd_ne (ne_of_none hb hp)]; exact e.keep b u hb n, fun b hb => by
    by_cases c : b = p
    · subst c; rw [upd_same]; simp
    · rw [upd_ne c]; exact e.trk b hb, fun b o' u hb => by rw [upd_ne (ne_of_none hb hp)]; exact e.fz b o' u hb⟩
theorem wipe_wipe (σ : L2.St) : ∀ vs : List Nat, wipe (wipe σ vs) vs = wipe σ vs := by
  have q : ∀ (ws vs : List Nat), (∀ w ∈ ws, w ∈ vs) → wipe (wipe σ ws) vs = wipe σ vs := by
    intro ws
    induction ws with
    | nil => intro vs _; rfl
    | cons w ws ih =>
      intro vs h
      show wipe ((wipe σ ws).set w none) vs = wipe σ vs
      rw [wipe_set (h w List.mem_cons_self), ih vs fun x hx => h x (List.mem_cons_of_mem _ hx)]
  exact fun vs => q vs vs fun _ h => h
end
section
variable {X : Cx} {ca : Nat → Addr} {W : WW}
/-- the tests of a comprehension -/
def STs (ca : Nat → Addr) (X : Cx) (ifs : List Expr) (t : MT) : Prop := PTs X ifs (Tm X.K ca (W0 none) REq t)
theorem pts_imp {e : List Expr} {t t' : TT} (h : PTs X e t) (i : ∀ σ H Q, t' σ H Q → t σ H Q) : PTs X e t' := ⟨fun pins s σ H Q I q => h.run pins s σ H Q I (i σ H Q q)⟩
theorem ts_nil : STs ca X [] tYes' := pts_imp pts_nil fun σ H Q ⟨ρ, φ, S, l, hS, hl, q⟩ => AtM.here (b := true) q hS rfl
theorem ts_one {c : Expr} {t : MT} (h : ST ca (W0 none) X c t) : STs ca X [c] t := pts_one h
/-- the block of a comprehension -/
abbrev blkX (X : Cx) (scope : Scope) (s : Shared) (H : Hp) (C : Addr) (cl : List (Str × Addr)) (fp : List Addr) : Cx := X.blk s H scope (compEnvC scope cl C X.env) fp
/-- what a comprehension's text must show -/
structure CompT (X : Cx) (tg iter : Expr) (ifs : List Expr) (elt : Expr) (scope : Scope) (own : List (Str × Nat)) (g : TG) (tgd : Tg) (ca : Nat → Addr) (t : MT) (me : ME) : Prop where
  calm : X.calm = true
  nd : X.N.Nodup
  ok : BlkOk X.N X.env.scope scope own
  tgs : TgOk X.K none g tgd
  ix : ∀ i ∈ tgIx tgd, i ∈ own.map (·.2)
  pg : ∀ (s : Shared) (H : Hp) (C : Addr) (cl : List (Str × Addr)) (fp : List Addr), PG (blkX X scope s H C cl fp) tg g
  ts : ∀ (s : Shared) (H : Hp) (C : Addr) (cl : List (Str × Addr)) (fp : List Addr), STs ca (blkX X scope s H C cl fp) ifs t
  el : ∀ (s : Shared) (H : Hp) (C : Addr) (cl : List (Str × Addr)) (fp : List Addr), SE ca (W0 none) (blkX X scope s H C cl fp) elt me
  fs : ∀ x, foldedSetIterable iter X.env x = pure x
theorem comp_run {mi : Sl → M Src} {g : TG} {tgd : Tg} {t : MT} {me : ME} {vs : List Nat} {σ : L2.St} {H : Hp} {Q : VK} (hg : TgOk X.K none g tgd) (hix : ∀ i ∈ tgIx tgd, i ∈ vs)
    (h : Tm X.K ca W (Rel X.K) (eComp vs mi tgd t me) σ H Q) : tLc (Tm X.K ca W (Feeds X.K ca) mi) g (Tm X.K ca (W0 none) REq t) (Tm X.K ca (W0 none) (Rel X.K) me) vs σ H Q := by
  obtain ⟨ρ, φ, S, l, hS, hl, q⟩ := h
  refine bindAt hS hl q fun src S1 ρ1 H1 J m1 hS1 e1 fd h1 => ?_
  have hl1 := hl.mono e1
  intro Dd hD
  split at h1
  · exact h1.elim
  rename_i ds0 hds0
  have hD1 : Dd ∉ ρ1 := (hS1.fresh hD).1
  have hD2 : Dd ∉ φ := (hS1.fresh hD).2
  refine ⟨fun i m H' => ∃ (ρ' : List Addr) (S' : Store) (xs : List V) (acc : List D), SR X.K ca ρ' (Dd :: φ) S' H' ∧ Ext ρ1 H1 ρ' H' ∧ H' Dd = some (.lst xs) ∧ Rels X.K ρ' (Dd :: φ) H' xs acc ∧ AtM X.K ca W (Rel X.K) ρ1 φ H1 σ (compG src tgd t me (wipeD l vs) m i acc S') Q,
    ⟨ds0.length + 1, ρ1, S1, [], [], hS1.hide hD, Ext.lay hD, upd_same, .nil, h1⟩, ?_⟩
  rintro i m H' ⟨ρ', S', xs, acc, hS', e', hx, hr, ha⟩
  have hDρ : Dd ∉ ρ' := hS'.dj Dd List.mem_cons_self
  cases m with
  | zero => exact ha.elim
  | succ m =>
    unfold compG at ha
    cases hs : src S' with
    | none => rw [hs] at ha; exact ha.elim
    | some ds =>
      rw [hs] at ha
      simp only at ha
      have hp : ∀ a ∈ Dd :: φ, a ∈ φ ∨ H1 a = none := fun a hm => by
        rcases List.mem_cons.mp hm with y | y
        · subst y; exact .inr hD
        · exact .inl y
      obtain ⟨f1, f2⟩ := fd ρ' (Dd :: φ) S' H' ds hS' e' hp hs i
      cases hi : ds[i]? with
      | none =>
        rw [hi] at ha
        refine .inl ⟨f2 hi, ?_⟩
        exact ha ρ' H' (V.ref Dd) (hS'.less fun a hm => List.mem_cons_of_mem _ hm) e' (.fl hx hDρ hD2 (hr.less fun a hm => List.mem_cons_of_mem _ hm))
      | some d =>
        rw [hi] at ha
        simp only at ha
        obtain ⟨g1, g2⟩ := f1 d hi
        refine .inr ⟨g1, fun H'' => ∃ (ρ' : List Addr) (S' : Store) (xs : List V) (acc : List D), SR X.K ca ρ' (Dd :: φ) S' H'' ∧ Ext ρ1 H1 ρ' H'' ∧ H'' Dd = some (.lst xs) ∧ Rels X.K ρ' (Dd :: φ) H'' xs acc ∧ AtM X.K ca W (Rel X.K) ρ1 φ H1 σ (compG src tgd t me (wipeD l vs) m (i + 1) acc S') Q,
          fun H'' z => ⟨m, Nat.lt_succ_self m, z⟩, fun x H2 hy => ?_⟩
        obtain ⟨hS2, e2, rx⟩ := g2 x H2 hy
        cases ht : tgSet tgd d (wipeD l vs) with
        | none => rw [ht] at ha; exact ha.elim
        | some l1 =>
          rw [ht] at ha
          simp only at ha
          have hlw : SlX none X.K ρ' (Dd :: φ) H2 (wipe σ vs) (wipeD l vs) := ⟨(hl1.sl.move (move_of (e'.trans e2) hp)).wipe vs, fun _ z => nomatch z⟩
          refine hg ρ' (Dd :: φ) H2 _ _ _ x d _ hlw rx ht fun σ2 hl2 hw => ⟨(hw vs hix).trans (wipe_wipe σ vs), ?_⟩
          refine bindN (ψ := φ) (R := REq) (ρ := ρ') (τ := σ) (W := W) (R' := Rel X.K) (Q' := Q) hS2 hl2 ha fun c S3 ρ3 H3 c' m3 hS3 e3 rc h3 => ?_
          have rc' : c' = c := rc
          subst rc'
          have eX := (e'.trans e2).trans e3
          have keepD : ∀ {ρa : List Addr} {Ha : Hp}, Ext ρ' H' ρa Ha → Ha Dd = some (.lst xs) := fun e => e.keep _ _ hx hDρ
          cases c' with
          | true =>
            rw [if_pos rfl]
            refine bindN (ψ := φ) (R := Rel X.K) (ρ := ρ3) (τ := σ) (W := W) (R' := Rel X.K) (Q' := Q) hS3 (hl2.mono e3) h3 fun d4 S4 ρ4 H4 y m4 hS4 e4 ry h4 => ?_
            split at h4
            · rename_i hz
              have e04 := (e2.trans e3).trans e4
              have hr4 := hr.mono e04
              refine ⟨xs, keepD e04, line_lt (by rw [hr.length]; exact hz), ρ4, S4, xs ++ [y], acc ++ [d4], hS4.priv List.mem_cons_self, ?_, upd_same, (hr4.append (.cons ry .nil)).move (priv_move List.mem_cons_self), ?_⟩
              · exact ext_new (eX.trans e4) hD
              · exact h4
            · exact h4.elim
          | false =>
            rw [if_neg Bool.false_ne_true]
            exact ⟨ρ3, S3, xs, acc, hS3, eX, keepD (e2.trans e3), hr.mono (e2.trans e3), h3⟩
theorem se_comp {tg iter : Expr} {ifs : List Expr} {elt : Expr} {scope : Scope} {own : List (Str × Nat)} {g : TG} {tgd : Tg} {t : MT} {me : ME} {mi : Sl → M Src} {pos : Pos} (T : CompT X tg iter ifs elt scope own g tgd ca t me) (hi : SI ca W X tg iter mi) :
    SE ca W X (.ListComp elt [⟨tg, iter, ifs, 0⟩] scope pos) (eComp (own.map (·.2)) mi tgd t me) :=
  pe_imp (pe_lc (tt := Tm X.K ca (W0 none) REq t) (te := Tm X.K ca (W0 none) (Rel X.K) me) T.calm T.nd hi T.ok T.pg T.ts T.el T.fs) fun σ H Q h => comp_run T.tgs T.ix h
end
end Sim

/-! Sim: statements. -/
namespace Sim
open PySem PySem.Spec L2 PyProof.Rows
section
variable {X : Cx} {ca : Nat → Addr} {W : WW} {e a b c o : Expr} {ma mb mc mo : ME} {pos p : Pos} {st : Stmt} {rest : List Stmt} {u v : MS}
theorem ss_nil : SSs ca W X [] sNext := pss_imp pss_nil fun D σ H ⟨ρ, φ, S, l, hS, hl, q⟩ => q ρ H σ hS (Ext.refl _ _) hl
theorem seq_run {D : Ends} {σ : L2.St} {H : Hp} (h : TmS X.K ca W (sSeq u v) D σ H) : TmS X.K ca W u { D with nx := TmS X.K ca W v D } σ H := by
  obtain ⟨ρ, φ, S, l, hS, hl, q⟩ := h
  refine ⟨ρ, φ, S, l, hS, hl, ?_⟩
  unfold sSeq at q
  cases hm : u l S with
  | none => rw [hm] at q; exact q
  | some p =>
    obtain ⟨f, S'⟩ := p
    rw [hm] at q
    cases f with
    | nx l' => exact fun ρ' H' σ' hS' e' hl' => ⟨ρ', φ, S', l', hS', hl', q.mono e'⟩
    | bk l' => exact q
    | ct l' => exact q
    | rt d => exact q
    | ex x l' => exact q
theorem ss_cons (h1 : SS ca W X st u) (h2 : SSs ca W X rest v) : SSs ca W X (st :: rest) (sSeq u v) := pss_imp (pss_cons h1 h2) fun D σ H h => seq_run h
theorem ss_one (h1 : SS ca W X st u) : SSs ca W X [st] u := pss_one h1
theorem ss_pass : SS ca W X (.Pass pos) sNext := ps_imp ps_pass fun D σ H ⟨ρ, φ, S, l, hS, hl, q⟩ => q ρ H σ hS (Ext.refl _ _) hl
theorem ss_break : SS ca W X (.Break pos) sBreak := ps_imp ps_break fun D σ H ⟨ρ, φ, S, l, hS, hl, q⟩ => q ρ H σ hS (Ext.refl _ _) hl
theorem ss_cont : SS ca W X (.Continue pos) sCont := ps_imp ps_continue fun D σ H ⟨ρ, φ, S, l, hS, hl, q⟩ => q ρ H σ hS (Ext.refl _ _) hl
theorem ss_retN : SS ca W X (.Return none pos) sRetN := ps_imp ps_retN fun D σ H ⟨ρ, φ, S, l, hS, hl, q⟩ => q ρ H .non hS (Ext.refl _ _) .non
theorem bindS {α β : Type} {R : List Addr → List Addr → Hp → β → α → Prop} {ρ φ : List Addr} {S : Store} {H : Hp} {σ : L2.St} {l : Sl} {Q : β → Hp → Prop} {m : Sl → M α} {k : α → Store → OutS} {D : Ends} (hS : SR X.K ca ρ φ S H) (hl : SlX W.x X.K ρ φ H σ l) (h : AtS X.K ca W ρ φ H (bndS l (m l S) k) D)
    (q : ∀ a S1 ρ1 H1 b, m l S = some (.ok a, S1) → SR X.K ca ρ1 φ S1 H1 → Ext ρ H ρ1 H1 → R ρ1 φ H1 b a → AtS X.K ca W ρ1 φ H1 (k a S1) D → Q b H1) : Tm X.K ca W R m σ H Q := bindAtS hS hl h (fun e h => h.mono e) q
theorem ss_drop (h : SE ca W X e ma) (hs : swapsWith e none pos.line X.env = pure false) : SS ca W X (.Expr e pos) (sDrop ma) :=
  ps_imp (ps_expr h hs) fun D σ H ⟨ρ, φ, S, l, hS, hl, q⟩ => bindS hS hl q fun d S1 ρ1 H1 x m1 hS1 e1 rx h1 => h1 ρ1 H1 σ hS1 (Ext.refl _ _) (hl.mono e1)
theorem ss_ret (h : SE ca W X e ma) : SS ca W X (.Return (some e) pos) (sRet ma) :=
  ps_imp (ps_ret h) fun D σ H ⟨ρ, φ, S, l, hS, hl, q⟩ => bindS hS hl q fun d S1 ρ1 H1 x m1 hS1 e1 rx h1 => h1 ρ1 H1 x hS1 (Ext.refl _ _) rx
theorem set_run {i : Nat} (hi : freeS W.x i) {D : Ends} {σ : L2.St} {H : Hp} (h : TmS X.K ca W (sSet i ma) D σ H) : tAsg (Tm X.K ca W (Rel X.K) ma) (gName i) D σ H := by
  obtain ⟨ρ, φ, S, l, hS, hl, q⟩ := h
  exact bindS hS hl q fun d S1 ρ1 H1 x m1 hS1 e1 rx h1 => h1 ρ1 H1 _ hS1 (Ext.refl _ _) ((hl.mono e1).set rx hi)
theorem ss_set {i : Nat} {x : Str} {pos' : Pos} (hN : X.N.Nodup) (hi : X.N[i]? = some x) (hx : Loc X.env.scope x) (hf : freeS W.x i) (h : SE ca W X e ma) (hs : swapsWith e (some (.Name x pos')) pos.line X.env = pure false) (hg : X.fn x = true ∨ X.env.scope.names.lookup x = some .local) :
    SS ca W X (.Assign [.Name x pos'] e pos) (sSet i ma) := ps_imp (ps_set hN hi hx h hs hg) fun D σ H h => set_run hf h
/-- y = [.. for ..] -/
theorem ss_setLc {i : Nat} {y : Str} {py : Pos} {elt tg iter : Expr} {ifs : List Expr} {scope : Scope} {own : List (Str × Nat)} {spos : Pos} {g : TG} {tgd : Tg} {t : MT} {me : ME} {mi : Sl → M Src} (T : CompT X tg iter ifs elt scope own g tgd ca t me) (hy : X.N[i]? = some y) (hyl : X.env.scope.names.lookup y = some .local) (hf : freeS W.x i)
    (hsw : swapsWith (.ListComp elt [⟨tg, iter, ifs, 0⟩] scope pos) (some (.Name y py)) spos.line X.env = pure true) (hi : SI ca W X tg iter mi) :
    SS ca W X (.Assign [.Name y py] (.ListComp elt [⟨tg, iter, ifs, 0⟩] scope pos) spos) (sSet i (eComp (own.map (·.2)) mi tgd t me)) :=
  ps_imp (ps_setLc (tt := Tm X.K ca (W0 none) REq t) (te := Tm X.K ca (W0 none) (Rel X.K) me) T.calm T.nd hy hyl hsw hi T.ok T.pg T.ts T.el T.fs) fun D σ H ⟨ρ, φ, S, l, hS, hl, q⟩ =>
    comp_run (W := W) T.tgs T.ix (bindS hS hl q fun d S1 ρ1 H1 x m1 hS1 e1 rx h1 => h1 ρ1 H1 _ hS1 (Ext.refl _ _) ((hl.mono e1).set rx hf))
/-- a, b, .. = e -/
theorem ss_setT {is : List Nat} {es : List Expr} {k : Nat} {pt : Pos} {g : TG} (hf : ∀ i ∈ is, freeS W.x i) (hg : PG X (.Tuple es k pt) g) (eg : g = gTup X.K is.length (is.foldr (fun i t => gCons (gName i) t) gNil)) (h : SE ca W X e ma)
    (hs : swapsWithSole [.Tuple es k pt] e pos.line X.env = pure false) (hw : swappedStores [.Tuple es k pt] e X.env = pure none) (h1 : (assignEach [.Tuple es k pt] X.env).map (·.2) = [assign (.Tuple es k pt) X.env]) : SS ca W X (.Assign [.Tuple es k pt] e pos) (sSetT is ma) := by
  subst eg
  exact ps_imp (ps_asg h hg hs hw h1) fun D σ H ⟨ρ, φ, S, l, hS, hl, q⟩ => bindS hS hl q fun d S1 ρ1 H1 x m1 hS1 e1 rx h1 => by
    split at h1
    · rename_i l' hl'
      exact tg_many hf ρ1 φ H1 σ l l' x d D.nx (hl.mono e1) rx hl' fun σ' hl2 _ => h1 ρ1 H1 σ' hS1 (Ext.refl _ _) hl2
    · exact h1.elim
theorem ss_if {t : MT} {xs ys : List Stmt} (h : ST ca W X c t) (h1 : SSs ca W X xs u) (h2 : SSs ca W X ys v) : SS ca W X (.If c xs ys pos) (sIf t u v) :=
  ps_imp (ps_if h h1 h2) fun D σ H ⟨ρ, φ, S, l, hS, hl, q⟩ => bindS hS hl q fun k S1 ρ1 H1 x m1 hS1 e1 rx h1 => by
    have rx' : x = k := rx
    subst rx'
    cases x with
    | true => exact (show TmS X.K ca W u D σ H1 from ⟨ρ1, φ, S1, l, hS1, hl.mono e1, h1⟩)
    | false => exact (show TmS X.K ca W v D σ H1 from ⟨ρ1, φ, S1, l, hS1, hl.mono e1, h1⟩)
/-! ### stores -/
theorem ss_fld {cc : Nat} {f : Str} {pos' : Pos} (T : FldF X.K ca cc f) (ho : SE ca W X o mo) (h : SE ca W X e ma) (hs : swapsWith e (some (.Attribute o f pos')) pos.line X.env = pure false) : SS ca W X (.Assign [.Attribute o f pos'] e pos) (sFld cc mo f ma) :=
  ps_imp (ps_fld ho h hs) fun D σ H ⟨ρ, φ, S, l, hS, hl, q⟩ => bindS hS hl q fun d S1 ρ1 H1 y m1 hS1 e1 ry h1 => bindS hS1 (hl.mono e1) h1 fun x S2 ρ2 H2 w m2 hS2 e2 rx h2 => by
    split at h2
    · rename_i S3 h3
      unfold putFldD at h3
      split at h3
      · split at h3
        · rename_i n c' fs hn
          split at h3
          · rename_i hc
            obtain ⟨hc1, hc2⟩ := hc
            subst hc1
            cases h3
            obtain ⟨n', p, dx, gs, en, rfl, hp, hs, hH, hr⟩ := ins_rel hS2 rx (c := c') (gs := fs) (by unfold insOf; simp only [hn])
            cases en
            have e3 : Ext ρ2 H2 ρ2 (upd H2 p (.ins (ca c') dx (putF f y gs))) := Ext.put (List.mem_of_getElem? hp) (hS2.trk (List.mem_of_getElem? hp)) (nofz_ins hH)
            refine ⟨p, _, dx, gs, rfl, hH, T.cl, T.no, by rw [hr.length]; exact hc2, ?_⟩
            exact h2 ρ2 _ σ (hS2.put (c := ⟨.ins c' fs, false⟩) hp (nofz_ins hH) ⟨rfl, relK_putF ((ry.mono e2).mono e3) (hr.mono e3)⟩) e3 (((hl.mono e1).mono e2).mono e3)
          · cases h3
        · cases h3
      · cases h3
    · exact h2.elim
theorem ss_put {i : Expr} {mi : ME} {pos' : Pos} (hu : X.A.units + 1 < cLine) (ho : SE ca W X o mo) (hi : SE ca W X i mi) (h : SE ca W X e ma) (hs : swapsWith e (some (.Subscript o i pos')) pos.line X.env = pure false)
    (hs2 : swapsWithSole [.Subscript o i pos'] e pos.line X.env = pure false) (hw : swappedStores [.Subscript o i pos'] e X.env = pure none) (h1 : (assignEach [.Subscript o i pos'] X.env).map (·.2) = [assign (.Subscript o i pos') X.env])
    (hsub : ∀ v, assign (.Subscript o i pos') X.env v = (do
      let ov ← holding [v] (eval o X.env)
      let iv ← holding [v, ov] (eval i X.env)
      standAt pos'
      holding [v, ov, iv] (setItem ov iv v)
      release [v, ov, iv] [])) : SS ca W X (.Assign [.Subscript o i pos'] e pos) (sPut mo mi ma) :=
  ps_imp (ps_or2 (ps_asg h (pg_sub ho hi set_list hsub) hs2 hw h1) (ps_dput hu ho hi h hs)) fun D σ H ⟨ρ, φ, S, l, hS, hl, q⟩ => by
    by_cases c : ∀ d S1 x S2 k S3, ma l S = some (.ok d, S1) → mo l S1 = some (.ok x, S2) → mi l S2 = some (.ok k, S3) → dctOf x S3 = none
    · refine .inl (bindS hS hl q fun d S1 ρ1 H1 y m1 hS1 e1 ry h1 => bindS hS1 (hl.mono e1) h1 fun x S2 ρ2 H2 w m2 hS2 e2 rx h2 => bindS hS2 ((hl.mono e1).mono e2) h2 fun k S3 ρ3 H3 z m3 hS3 e3 rk h3 => ?_)
      have hd := c _ _ _ _ _ _ m1 m2 m3
      split at h3
      · rename_i S4 h4
        unfold putIxD at h4
        split at h4
        · rename_i n
          split at h4
          · rename_i ds hn
            split at h4
            · split at h4
              · rename_i j hj
                cases h4
                obtain ⟨p, xs, rfl, g1, g2, g3⟩ := lst_at hS3 (rx.mono e3) hn
                cases rk
                have e4 : Ext ρ3 H3 ρ3 (upd H3 p (.lst (xs.set j y))) := Ext.put (List.mem_of_getElem? g1) (hS3.trk (List.mem_of_getElem? g1)) (nofz_lst g2)
                refine ⟨p, xs, _, j, rfl, rfl, g2, by rw [g3.length]; exact hj, ?_⟩
                exact h3 ρ3 _ σ (hS3.put (c := ⟨.lst ds, false⟩) g1 (nofz_lst g2) (Rels.set ((ry.mono (e2.trans e3)).mono e4) j (g3.mono e4))) e4 ((((hl.mono e1).mono e2).mono e3).mono e4)
              · cases h4
            · cases h4
          · rename_i kvs hn
            unfold dctOf at hd
            simp only [hn] at hd
            cases hd
          · cases h4
        · cases h4
      · exact h3.elim
    · refine .inr (bindS hS hl q fun d S1 ρ1 H1 y m1 hS1 e1 ry h1 => bindS hS1 (hl.mono e1) h1 fun x S2 ρ2 H2 w m2 hS2 e2 rx h2 => bindS hS2 ((hl.mono e1).mono e2) h2 fun k S3 ρ3 H3 z m3 hS3 e3 rk h3 => ?_)
      have hd : dctOf x S3 ≠ none := fun hd => c fun d' S1' x' S2' k' S3' n1 n2 n3 => by
        rw [m1] at n1; cases n1
        rw [m2] at n2; cases n2
        rw [m3] at n3; cases n3
        exact hd
      split at h3
      · rename_i S4 h4
        unfold putIxD at h4
        split at h4
        · rename_i n
          split at h4
          · rename_i ds hn
            unfold dctOf at hd
            simp only [hn] at hd
            exact absurd rfl hd
          · rename_i kvs hn
            split at h4
            · rename_i kk hk
              split at h4
              · rename_i hz
                cases h4
                obtain ⟨p, ks, ep, g1, g2⟩ := dctU_rel hS3 (rx.mono e3) (ks := kvs) (by unfold dctU; simp only [hn])
                subst ep
                cases rx with
                | ref hp =>
                  have hp3 := e3.at hp
                  have ez := key_rel rk hk
                  subst ez
                  have e4 : Ext ρ3 H3 ρ3 (upd H3 p (.dK (putK ks kk y))) := Ext.put (List.mem_of_getElem? hp3) (hS3.trk (List.mem_of_getElem? hp3)) (nofz_dK g1)
                  refine ⟨p, _, rfl, DPut.k g1 (line_lt (by rw [g2.length]; exact hz)), ?_⟩
                  exact h3 ρ3 _ σ (hS3.put (c := ⟨.dct kvs, false⟩) hp3 (nofz_dK g1) (relK_put ((ry.mono (e2.trans e3)).mono e4) (g2.mono e4))) e4 ((((hl.mono e1).mono e2).mono e3).mono e4)
              · cases h4
            · cases h4
          · cases h4
        · cases h4
      · exact h3.elim
/-! ### loops -/
theorem for_run {mi : Sl → M Src} {g : TG} {tgd : Tg} {D : Ends} {σ : L2.St} {H : Hp} (hg : TgOk X.K W.x g tgd) (h : TmS X.K ca W (sFor mi tgd u) D σ H) : tFor (Tm X.K ca W (Feeds X.K ca) mi) g (TmS X.K ca W u) D σ H := by
  obtain ⟨ρ, φ, S, l, hS, hl, q⟩ := h
  refine bindS hS hl q fun src S1 ρ1 H1 J m1 hS1 e1 fd h1 => ?_
  have hl1 := hl.mono e1
  split at h1
  · exact h1.elim
  rename_i ds0 hds0
  refine ⟨fun i m σ' H' => ∃ (ρ' : List Addr) (S' : Store) (l' : Sl), SR X.K ca ρ' φ S' H' ∧ Ext ρ1 H1 ρ' H' ∧ SlX W.x X.K ρ' φ H' σ' l' ∧ AtS X.K ca W ρ' φ H' (forG src tgd u m i l' S') D,
    ⟨ds0.length + 1, ρ1, S1, l, hS1, Ext.refl _ _, hl1, h1⟩, ?_⟩
  rintro i m σ' H' ⟨ρ', S', l', hS', e', hl', ha⟩
  cases m with
  | zero => exact ha.elim
  | succ m =>
    unfold forG at ha
    cases hs : src S' with
    | none => rw [hs] at ha; exact ha.elim
    | some ds =>
      rw [hs] at ha
      simp only at ha
      obtain ⟨f1, f2⟩ := fd ρ' φ S' H' ds hS' e' (fun a h => .inl h) hs i
      cases hi : ds[i]? with
      | none =>
        rw [hi] at ha
        exact .inl ⟨f2 hi, ha ρ' H' σ' hS' (Ext.refl _ _) hl'⟩
      | some d =>
        rw [hi] at ha
        simp only at ha
        obtain ⟨g1, g2⟩ := f1 d hi
        refine .inr ⟨g1, fun σ'' H'' => ∃ (ρ' : List Addr) (S' : Store) (l' : Sl), SR X.K ca ρ' φ S' H'' ∧ Ext ρ1 H1 ρ' H'' ∧ SlX W.x X.K ρ' φ H'' σ'' l' ∧ AtS X.K ca W ρ' φ H'' (forG src tgd u m (i + 1) l' S') D,
          fun σ'' H'' z => ⟨m, Nat.lt_succ_self m, z⟩, fun x H2 hy => ?_⟩
        obtain ⟨hS2, e2, rx⟩ := g2 x H2 hy
        cases ht : tgSet tgd d l' with
        | none => rw [ht] at ha; exact ha.elim
        | some l1 =>
          rw [ht] at ha
          simp only at ha
          refine hg ρ' φ H2 σ' l' l1 x d _ (hl'.mono e2) rx ht fun σ2 hl2 _ => ?_
          refine ⟨ρ', φ, S', l1, hS2, hl2, ?_⟩
          have ha := ha.mono e2
          cases hb : u l1 S' with
          | none => rw [hb] at ha; exact ha.elim
          | some pr =>
            obtain ⟨f, S3⟩ := pr
            rw [hb] at ha
            cases f with
            | nx l3 => exact fun ρ3 H3 σ3 hS3 e3 hl3 => ⟨ρ3, S3, l3, hS3, (e'.trans e2).trans e3, hl3, ha.mono e3⟩
            | ct l3 => exact fun ρ3 H3 σ3 hS3 e3 hl3 => ⟨ρ3, S3, l3, hS3, (e'.trans e2).trans e3, hl3, ha.mono e3⟩
            | bk l3 => exact ha
            | rt d3 => exact ha
            | ex x3 l3 => exact ha
theorem ss_for {tg iter : Expr} {body : List Stmt} {mi : Sl → M Src} {g : TG} {tgd : Tg} (hp : PassesOwn (model X.prog X.w) X.A X.env X.xe) (hc : X.calm = true) (hg : TgOk X.K W.x g tgd) (hpg : PG X tg g) (hi : SI ca W X tg iter mi) (hb : SSs ca W X body u) (hs : ∀ x, foldedSetIterable iter X.env x = pure x) :
    SS ca W X (.For tg iter body [] pos) (sFor mi tgd u) := ps_imp (ps_for hp hc hi hpg hb hs) fun D σ H h => for_run hg h
theorem while_run {t : MT} {D : Ends} {σ : L2.St} {H : Hp} (h : TmS X.K ca W (sWhile t u) D σ H) : tWhile (Tm X.K ca W REq t) (TmS X.K ca W u) D σ H := by
  obtain ⟨ρ0, φ, S0, l0, hS0, hl0, q0⟩ := h
  refine ⟨fun m σ H => ∃ (ρ : List Addr) (S : Store) (l : Sl), SR X.K ca ρ φ S H ∧ SlX W.x X.K ρ φ H σ l ∧ AtS X.K ca W ρ φ H (whileF t u m l S) D, ⟨fuelN, ρ0, S0, l0, hS0, hl0, q0⟩, ?_⟩
  rintro m σ H ⟨ρ, S, l, hS, hl, q⟩
  cases m with
  | zero => exact ⟨ρ, φ, S, l, hS, hl, q.elim⟩
  | succ m =>
    refine bindS hS hl q fun k S1 ρ1 H1 x m1 hS1 e1 rx h1 => ?_
    have rx' : x = k := rx
    subst rx'
    have hl1 := hl.mono e1
    cases x with
    | false =>
      rw [if_neg Bool.false_ne_true]
      exact h1 ρ1 H1 σ hS1 (Ext.refl _ _) hl1
    | true =>
      rw [if_pos rfl]
      refine ⟨fun σ H => ∃ (ρ : List Addr) (S : Store) (l : Sl), SR X.K ca ρ φ S H ∧ SlX W.x X.K ρ φ H σ l ∧ AtS X.K ca W ρ φ H (whileF t u m l S) D, fun σ' H' z => ⟨m, Nat.lt_succ_self m, z⟩, ?_⟩
      refine ⟨ρ1, φ, S1, l, hS1, hl1, ?_⟩
      simp only [if_true] at h1
      cases hb : u l S1 with
      | none => rw [hb] at h1; exact h1.elim
      | some pr =>
        obtain ⟨f, S3⟩ := pr
        rw [hb] at h1
        cases f with
        | nx l3 => exact fun ρ3 H3 σ3 hS3 e3 hl3 => ⟨ρ3, S3, l3, hS3, hl3, h1.mono e3⟩
        | ct l3 => exact fun ρ3 H3 σ3 hS3 e3 hl3 => ⟨ρ3, S3, l3, hS3, hl3, h1.mono e3⟩
        | bk l3 => exact h1
        | rt d3 => exact h1
        | ex x3 l3 => exact h1
theorem ss_while {body : List Stmt} {t : MT} (hp : PassesOwn (model X.prog X.w) X.A X.env X.xe) (h : ST ca W X c t) (hb : SSs ca W X body u) : SS ca W X (.While c body [] pos) (sWhile t u) := ps_imp (ps_while hp h hb) fun D σ H h => while_run h
end
end Sim

/-! Sim: errors, defs. -/
namespace Sim
open PySem PySem.Spec L2 PyProof.Rows
/-- an own error class without an __init__ of its own -/
structure ExB (K : PySem.W.Frag) (mg : Str → Option Value) (ca : Nat → Addr) (c : Nat) (x : Str) : Prop where
  q : PySem.W.excIn K (ca c) [.type "ValueError", .type "Exception", .type "BaseException", .type "object"] "ValueError.__new__" = true
  g : mg x = some (.ref (ca c))
  k : PySem.W.keepIn K (.ref (ca c)) = true
  b : PySem.W.subIn K (.ref (ca c)) (.type "BaseException") = some true
  t : PySem.W.typeIn K (.ref (ca c)) = some (.type "type")
section
variable {X : Cx} {ca : Nat → Addr} {W : WW} {e a b c o : Expr} {ma mb mc mo : ME} {pos p : Pos}
theorem ss_raiseB {cc : Nat} {x m : Str} {j : Nat} {p2 pos' : Pos} (T : ExB X.K X.mg ca cc x) (hc : X.calm = true) (tk : Takes X W.f) (hg : Gl X x) (hdb : (x == ("__debug__" : Str)) = false) : SS ca W X (.Raise (some (.Call (.Name x p) [.Constant (.str m) j p2] [] pos)) none pos') (sRaiseB cc) :=
  ps_imp (ps_raise hc tk (pmk_own PySem.F.excBase_ValueError T.q T.g T.k (raises_own T.b T.t) hg hdb)) fun D σ H ⟨ρ, φ, S, l, hS, hl, q⟩ => q ρ H σ (.ref (ca cc)) none hS (Ext.refl _ _) hl ⟨rfl, rfl⟩
/-! ### an error class whose __init__ keeps its argument -/
/-- what that __init__ does -/
def spInitE (K : PySem.W.Frag) (C : Addr) (f : Str) : Sp := fun vs H Q _ => ∃ (a : Addr) (v : V), vs = [.ref a, v] ∧ H a = some (exo a C none) ∧ ∀ dx, H dx = none → dx ≠ a → Q .non (upd (upd H dx (exd dx [(f, v)])) a (exo a C (some dx)))
/-- such a class, its __init__ at most k calls deep -/
structure ExN (P : Program) (w : World) (K : PySem.W.Frag) (mg : Str → Option Value) (base : Heap) (ca : Nat → Addr) (k : Nat) (c : Nat) (x f : Str) : Prop where
  T : OexC K (ca c)
  g : mg x = some (.ref (ca c))
  ex : ∃ (fI : Addr) (fd : FuncData) (ps : List Str), PySem.W.findIn K (.ref (ca c)) "__init__" = some (some (.ref fI)) ∧ PySem.W.typeIn K (.ref fI) = some (.type "function") ∧ FnOk P w K mg base (L2.CX P w) k fI fd ps (spInitE K (ca c) f) ∧ Binds K fd ps []
theorem ss_raiseN {cc : Nat} {x f : Str} {k : Nat} {m : MA} {pos' : Pos} (T : ExN X.prog X.w X.K X.mg X.base ca k cc x f) (hr : Room (k + 1) X.A) (hc : X.calm = true) (tk : Takes X W.f) (hg : Gl X x) (hdb : (x == ("__debug__" : Str)) = false) (ha : SA ca W X [e] m) (Tc : CallT X e [] pos) :
    SS ca W X (.Raise (some (.Call (.Name x p) [e] [] pos)) none pos') (sRaiseN cc f m) := by
  obtain ⟨fI, fd, ps, h1, h2, F, hb⟩ := T.ex
  refine ps_imp (ps_raise hc tk (pmk_oex T.T h1 h2 F hr hb .nil passL hg T.g ha hdb Tc.he Tc.hpl)) fun D σ H ⟨ρ, φ, S, l, hS, hl, q⟩ => bindS hS hl q fun ds S1 ρ1 H1 vs m1 hS1 e1 rs h1 => ?_
  split at h1
  · rename_i d
    cases rs with
    | cons rv rn =>
      cases rn
      rename_i v
      refine ⟨(show 1 ≤ 1000 by decide), fun a' hna => ?_⟩
      refine ⟨a', v, rfl, upd_same, fun dx hdx hne => ⟨rfl, dx, [(f, v)], upd_same, ?_, ?_, ?_⟩⟩
      · rw [upd_ne hne, upd_same]
      · rw [upd_ne hne] at hdx; exact hdx
      · have hd1 : H1 dx = none := by rw [upd_ne hne] at hdx; exact hdx
        have eH : upd (del (upd (upd (upd H1 a' (exo a' (ca cc) none)) dx (exd dx [(f, v)])) a' (exo a' (ca cc) (some dx))) a') dx (.xd [(f, v)]) = upd H1 dx (.xd [(f, v)]) := by
          funext z
          by_cases z1 : z = dx
          · subst z1; rw [upd_same, upd_same]
          · rw [upd_ne z1, upd_ne z1]
            by_cases z2 : z = a'
            · subst z2; rw [del_same]; exact hna.symm
            · rw [del_ne z2, upd_ne z2, upd_ne z1, upd_ne z2]
        rw [eH]
        have e2 : Ext ρ1 H1 ρ1 (upd H1 dx (.xd [(f, v)])) := Ext.lay hd1
        exact h1 ρ1 _ σ (.ref (ca cc)) (some dx) (hS1.lay hd1) e2 ((hl.mono e1).mono e2) ⟨rfl, dx, [(f, v)], rfl, upd_same, (hS1.fresh hd1).1, (hS1.fresh hd1).2, .cons (rv.mono e2) .nil⟩
  · exact h1.elim
/-! ### try -/
theorem suite_no {D : Ends} {ρ φ : List Addr} {H : Hp} {r : OutS} {ξ : Option XI} (hW : W.x = none) (h : AtS X.K ca W ρ φ H (noEx r) D) : AtS X.K ca (W0 none) ρ φ H r D := by
  unfold noEx at h
  cases r with
  | none => exact h
  | some p =>
    obtain ⟨f, S⟩ := p
    cases f with
    | nx l => exact fun ρ' H' σ' h1 h2 h3 => h ρ' H' σ' h1 h2 (by rw [hW]; exact h3)
    | bk l => exact fun ρ' H' σ' h1 h2 h3 => h ρ' H' σ' h1 h2 (by rw [hW]; exact h3)
    | ct l => exact fun ρ' H' σ' h1 h2 h3 => h ρ' H' σ' h1 h2 (by rw [hW]; exact h3)
    | rt d => exact h
    | ex x l => exact h.elim
theorem pss_ex {α : Type} {p : α → Prop} {sts : List Stmt} {t : α → TS} (h : ∀ x, p x → PSs X sts (t x)) : PSs X sts (fun D σ H => ∃ x, p x ∧ t x D σ H) := ⟨fun pins s σ H D I ⟨x, hx, q⟩ => (h x hx).run pins s σ H D I q⟩
/-- except X: .., without a name -/
theorem ss_try0 {x : Str} {cv : Value} {body suite : List Stmt} {b0 : Stmt} {np pos' : Pos} {u : MS} {v : Exn → MS} {catch_ : Nat → Option Bool} (hW : W.x = none) (hs : X.stack = X.env :: X.outer) (hf : X.env.frame = some X.env.locals) (hc : Names X x cv) (tk : Takes X W.f)
    (hk : ∀ c b, catch_ c = some b → PySem.W.exmOne X.K (.ref (ca c)) cv = some b)
    (hb : ∀ (Wf : WX) (pn : List (Addr × Obj)) (xe : Value → Shared → Prop), Takes (X.tr pn xe) Wf → PassesOwn (model X.prog X.w) X.A X.env xe → SSs ca ⟨Wf, none⟩ (X.tr pn xe) body u)
    (hsu : ∀ (a : Addr) (oe : Obj) (cls : Value) (d : Option Addr) (pn : List (Addr × Obj)), Zc cls d oe → (∃ vs, oe.data = .fields vs) → ∀ xn : Exn, SSs ca (W0 none) (X.suite a ((a, oe) :: pn)) (b0 :: suite) (v xn)) :
    SS ca W X (.Try body [.ExceptHandler (some (.Name x np)) none (b0 :: suite) pos'] [] [] pos) (sTry u catch_ none v) := by
  refine ps_imp (ps_try_only (tb := fun Wf => TmS X.K ca ⟨Wf, none⟩ u) (ts := fun a cls d D σ H => ∃ xn : Exn, True ∧ TmS X.K ca (W0 none) (v xn) D σ H) hs hf hc tk (fun Wf pn xe t1 t2 => hb Wf pn xe t1 t2)
    (fun a oe cls d pn z1 z2 => pss_ex fun xn _ => hsu a oe cls d pn z1 z2 xn)) fun D σ H ⟨ρ, φ, S, l, hS, hl, q⟩ => ?_
  refine ⟨ρ, φ, S, l, hS, by rw [hW] at hl; exact hl, ?_⟩
  unfold sTry at q
  cases hm : u l S with
  | none => rw [hm] at q; exact q
  | some pr =>
    obtain ⟨f, S1⟩ := pr
    rw [hm] at q
    cases f with
    | nx l1 => exact fun ρ' H' σ' h1 h2 h3 => q ρ' H' σ' h1 h2 (by rw [hW]; exact h3)
    | bk l1 => exact fun ρ' H' σ' h1 h2 h3 => q ρ' H' σ' h1 h2 (by rw [hW]; exact h3)
    | ct l1 => exact fun ρ' H' σ' h1 h2 h3 => q ρ' H' σ' h1 h2 (by rw [hW]; exact h3)
    | rt d1 => exact q
    | ex xn l1 =>
      intro ρ1 H1 σ1 C d hS1 e1 hl1 hx
      simp only at q
      cases hk1 : catch_ xn.c with
      | none => rw [hk1] at q; exact q.elim
      | some b =>
        rw [hk1] at q
        have hx1 : C = .ref (ca xn.c) := hx.1
        subst hx1
        refine ⟨b, hk xn.c b hk1, fun hb1 a' ha' => ?_, fun hb1 => ?_⟩
        · subst hb1
          refine ⟨xn, trivial, ρ1, φ, S1, l1, hS1, hl1, suite_no (ξ := none) hW (q.mono e1)⟩
        · subst hb1
          exact q ρ1 H1 σ1 _ d hS1 e1 (by rw [hW]; exact hl1) hx
theorem slx_unset {K : PySem.W.Frag} {ξ : Option XI} {ρ φ : List Addr} {H : Hp} {σ : L2.St} {l : Sl} {i : Nat} (h : SlX ξ K ρ φ H σ l) : SlX Option.none K ρ φ H (σ.set i Option.none) (l.set i Option.none) := SlX.of (h.sl.unset i)
/-- except X as n: .. -/
theorem ss_tryN {x n : Str} {cv : Value} {i : Nat} {body suite : List Stmt} {b0 : Stmt} {np pos' : Pos} {u : MS} {v : Exn → MS} {catch_ : Nat → Option Bool} (hW : W.x = none) (hs : X.stack = X.env :: X.outer) (hf : X.env.frame = some X.env.locals) (hN : X.N.Nodup) (hi : X.N[i]? = some n) (hln : X.env.kindOf n = some .local) (hc : Names X x cv) (tk : Takes X W.f)
    (hk : ∀ c b, catch_ c = some b → PySem.W.exmOne X.K (.ref (ca c)) cv = some b)
    (hb : ∀ (Wf : WX) (pn : List (Addr × Obj)) (xe : Value → Shared → Prop), Takes (X.tr pn xe) Wf → PassesOwn (model X.prog X.w) X.A X.env xe → SSs ca ⟨Wf, none⟩ (X.tr pn xe) body u)
    (hsu : ∀ (a : Addr) (oe : Obj) (cls : Value) (d : Option Addr) (pn : List (Addr × Obj)), Zc cls d oe → (∃ vs, oe.data = .fields vs) → ∀ xn : Exn, cls = .ref (ca xn.c) → SSs ca (W0 (some ⟨i, a, d, xn.fs⟩)) (X.suite a ((a, oe) :: pn)) (b0 :: suite) (v xn)) :
    SS ca W X (.Try body [.ExceptHandler (some (.Name x np)) (some n) (b0 :: suite) pos'] [] [] pos) (sTry u catch_ (some i) v) := by
  refine ps_imp (ps_try_as (tb := fun Wf => TmS X.K ca ⟨Wf, none⟩ u) (ts := fun a cls d D σ H => ∃ xn : Exn, cls = .ref (ca xn.c) ∧ TmS X.K ca (W0 (some ⟨i, a, d, xn.fs⟩)) (v xn) D σ H) hs hf hN hi hln hc tk (fun Wf pn xe t1 t2 => hb Wf pn xe t1 t2)
    (fun a oe cls d pn z1 z2 => pss_ex fun xn z => hsu a oe cls d pn z1 z2 xn z)) fun D σ H ⟨ρ, φ, S, l, hS, hl, q⟩ => ?_
  refine ⟨ρ, φ, S, l, hS, by rw [hW] at hl; exact hl, ?_⟩
  unfold sTry at q
  cases hm : u l S with
  | none => rw [hm] at q; exact q
  | some pr =>
    obtain ⟨f, S1⟩ := pr
    rw [hm] at q
    cases f with
    | nx l1 => exact fun ρ' H' σ' h1 h2 h3 => q ρ' H' σ' h1 h2 (by rw [hW]; exact h3)
    | bk l1 => exact fun ρ' H' σ' h1 h2 h3 => q ρ' H' σ' h1 h2 (by rw [hW]; exact h3)
    | ct l1 => exact fun ρ' H' σ' h1 h2 h3 => q ρ' H' σ' h1 h2 (by rw [hW]; exact h3)
    | rt d1 => exact q
    | ex xn l1 =>
      intro ρ1 H1 σ1 C d hS1 e1 hl1 hx
      simp only at q
      cases hk1 : catch_ xn.c with
      | none => rw [hk1] at q; exact q.elim
      | some b =>
        rw [hk1] at q
        have hx1 : C = .ref (ca xn.c) := hx.1
        subst hx1
        refine ⟨b, hk xn.c b hk1, fun hb1 a' ha' => ?_, fun hb1 => ?_⟩
        · subst hb1
          simp only at q
          split at q
          · rename_i hlen
            refine ⟨xn, rfl, ρ1, φ, S1, l1.set i none, hS1, ⟨hl1.sl.unset i, fun z hz => ?_⟩, ?_⟩
            · cases hz
              exact ⟨List.getElem?_set_self (by rw [hl1.sl.len]; exact hlen), hx.2⟩
            · have q1 := q.mono e1
              unfold unsetS at q1
              cases hv : v xn (l1.set i none) S1 with
              | none => rw [hv] at q1; exact q1
              | some pr2 =>
                obtain ⟨f2, S2⟩ := pr2
                rw [hv] at q1
                cases f2 with
                | nx l2 => exact fun ρ' H' σ' h1 h2 h3 => q1 ρ' H' _ h1 h2 (by rw [hW]; exact slx_unset h3)
                | bk l2 => exact fun ρ' H' σ' h1 h2 h3 => q1 ρ' H' _ h1 h2 (by rw [hW]; exact slx_unset h3)
                | ct l2 => exact fun ρ' H' σ' h1 h2 h3 => q1 ρ' H' _ h1 h2 (by rw [hW]; exact slx_unset h3)
                | rt d2 => exact q1
                | ex x2 l2 => exact q1.elim
          · exact q.elim
        · subst hb1
          exact q ρ1 H1 σ1 _ d hS1 e1 (by rw [hW]; exact hl1) hx
/-- e.f of the error that the suite holds -/
theorem se_xf {aa : Addr} {oe : Obj} {cls : Value} {d : Option Addr} {pn : List (Addr × Obj)} {x f : Str} {i cc : Nat} {xn : Exn} {px : Pos} (T : XfC X.K (ca cc)) (hno : PySem.W.findIn X.K (.ref (ca cc)) f = some none) (hz : Zc cls d oe) (hf : ∃ vs, oe.data = .fields vs) (hcls : cls = .ref (ca xn.c))
    (hN : X.N[i]? = some x) (hv : Vis X.env.scope x) (hd : (x == ("__debug__" : Str)) = false) (hcd : (x == ("__classdict__" : Str)) = false) (hb : attributeBase (.Name x px) f X.env (eval (.Name x px) X.env) = eval (.Name x px) X.env) :
    SE ca (W0 (some ⟨i, aa, d, xn.fs⟩)) (X.suite aa ((aa, oe) :: pn)) (.Attribute (.Name x px) f pos) (eXF cc f xn) := by
  refine pe_imp (pe_xf (C := ca cc) (te := tVar i) T hno hz hf (pe_var (X := X.suite aa ((aa, oe) :: pn)) hN hv hd hcd) hb) fun σ H Q ⟨ρ, φ, S, l, hS, hl, q⟩ => ?_
  unfold eXF at q
  split at q
  · rename_i hc
    obtain ⟨g1, g2⟩ := hl.er _ rfl
    refine ⟨.ref aa, g1, rfl, by rw [hcls, hc], ?_⟩
    cases hfs : xn.fs with
    | none => rw [hfs] at q; exact q.elim
    | some gs =>
      rw [hfs] at q
      simp only [hfs] at g2
      obtain ⟨dd, hs, k1, k2, k3, k4, k5⟩ := g2
      simp only at q
      split at q
      · rename_i dv hdv
        obtain ⟨v, hv1, rv⟩ := k5.lookup hdv
        exact ⟨dd, hs, v, k1, k2, hv1, AtM.here q hS rv⟩
      · exact q.elim
  · exact q.elim
end
/-! ### a def -/
section
variable {P : Program} {w : World} {K : PySem.W.Frag} {mg : Str → Option Value} {base : Heap} {ca : Nat → Addr}
theorem fn_sound {x qual : Str} {st : Stmt} {f : Addr} {fd : FuncData} {N ps : List Str} {k : Nat} {body : MS} {np : Nat} (F : Fun K x qual st f fd) (S : FnScope N ps (defScope st)) (hnp : ps.length = np) (hnn : np ≤ N.length)
    (hb : ∀ (cdv : Value) (A : Around) (outer : List Env) (s : Shared) (H : Hp) (E : XK), Room k (A.deeper (envOfC qual (defScope st) s.heap.objs.size f cdv)) →
      Takes (cxOf (L2.CX P w) P w K mg base N qual (defScope st) f cdv A outer s H E) (fun C d _ H => E C d H) →
      SSs ca ⟨fun C d _ H => E C d H, none⟩ (cxOf (L2.CX P w) P w K mg base N qual (defScope st) f cdv A outer s H E) (defBody st) body) :
    FnOk P w K mg base (L2.CX P w) (k + 1) f fd ps (spM K ca (fnM N.length np body)) := by
  refine F.okX S (fun vs H Q E h => ?_) (fun cdv A outer s H vs Q E hr h => ⟨_, hb cdv A outer s H E hr (takes_of rfl rfl rfl rfl), ?_⟩)
  · obtain ⟨ρ, φ, S, ds, hS, rs, h⟩ := h
    unfold fnM at h
    split at h
    · rename_i hl; rw [rs.length, hl, hnp]
    · exact h.elim
  · obtain ⟨ρ, φ, S, ds, hS, rs, h⟩ := h
    unfold fnM at h
    split at h
    · rename_i hl
      refine ⟨ρ, φ, S, ds.map some ++ List.replicate (N.length - np) none, hS, SlX.of ?_, ?_⟩
      · have e : start N vs = vs.map some ++ List.replicate (N.length - np) none := by
          show vs.map some ++ List.replicate (N.length - vs.length) none = _
          rw [rs.length, hl]
        rw [e]
        exact SlR.start _ rs
      · cases hm : body (ds.map some ++ List.replicate (N.length - np) none) S with
        | none => rw [hm] at h; exact h.elim
        | some pr =>
          obtain ⟨fl, S1⟩ := pr
          rw [hm] at h
          cases fl with
          | nx l1 => exact fun ρ1 H1 σ1 h1 h2 h3 => h ρ1 H1 .non h1 h2 .non
          | rt d => exact h
          | ex xn l1 => exact fun ρ1 H1 σ1 C d h1 h2 h3 h4 => h ρ1 H1 C d h1 h2 h4
          | bk l1 => exact h.elim
          | ct l1 => exact h.elim
    · exact h.elim
end
end Sim

/-! Sim: short forms. -/
namespace Sim
open PySem PySem.Spec L2 PyProof.Rows
theorem bt_len : bootBuiltins "len" = some (.builtin "len") := by decide +kernel
theorem bt_list : bootBuiltins "list" = some (.type "list") := by decide +kernel
theorem bt_int : bootBuiltins "int" = some (.type "int") := by decide +kernel
theorem bt_bool : bootBuiltins "bool" = some (.type "bool") := by decide +kernel
theorem bt_str : bootBuiltins "str" = some (.type "str") := by decide +kernel
theorem bt_tuple : bootBuiltins "tuple" = some (.type "tuple") := by decide +kernel
theorem bt_sum : bootBuiltins "sum" = some (.builtin "sum") := by decide +kernel
theorem bt_max : bootBuiltins "max" = some (.builtin "max") := by decide +kernel
theorem bt_min : bootBuiltins "min" = some (.builtin "min") := by decide +kernel
/-- the built-in names that the text does not bind -/
structure Std (mg : Str → Option Value) : Prop where
  len : mg "len" = none
  list : mg "list" = none
  int : mg "int" = none
  bool : mg "bool" = none
  str : mg "str" = none
  tuple : mg "tuple" = none
  sum : mg "sum" = none
  max : mg "max" = none
  min : mg "min" = none
  isinstance : mg "isinstance" = none
  range : mg "range" = none
  enumerate : mg "enumerate" = none
  zip : mg "zip" = none
  sorted : mg "sorted" = none
  ValueError : mg "ValueError" = none
theorem hu65 {k : Nat} {A : Around} (r : Room k A) : A.units + 65 < cLine := by have := r.un; omega
theorem hu64 {k : Nat} {A : Around} (r : Room k A) : A.units + 64 < cLine := by have := r.un; omega
theorem hu1 {k : Nat} {A : Around} (r : Room k A) : A.units + 1 < cLine := by have := r.un; omega
theorem hu0 {k : Nat} {A : Around} (r : Room k A) : A.units < cLine := by have := r.un; omega
section
variable {X : Cx} {ca : Nat → Addr} {W : WW} {e a b c o : Expr} {es : List Expr} {ma mb mc mo : ME} {m : MA} {pos p apos : Pos}
theorem sv (i : Nat) {x : Str} (hN : X.N[i]? = some x := by rfl) (hv : Vis X.env.scope x := by first | exact Or.inl rfl | exact Or.inr (Or.inl rfl) | exact Or.inr (Or.inr rfl)) (hd : (x == ("__debug__" : Str)) = false := by decide)
    (hcd : (x == ("__classdict__" : Str)) = false := by decide) : SE ca W X (.Name x pos) (eVar i) := se_var hN hv hd hcd
theorem se_len (T : Std X.mg) (hg : Gl X "len") (ha : SA ca W X (e :: es) m) (Tc : CallT X e es pos) : SE ca W X (.Call (.Name "len" p) (e :: es) [] pos) (eA (a1 fLen) m) := se_cb call_lenA len_S T.len bt_len (by decide) (by decide) hg ha Tc
theorem se_list (T : Std X.mg) (hg : Gl X "list") (ha : SA ca W X (e :: es) m) (Tc : CallT X e es pos) : SE ca W X (.Call (.Name "list" p) (e :: es) [] pos) (eA (a1 fList) m) := se_ct call_listA list_S T.list bt_list (by decide) (by decide) hg ha Tc
theorem se_listR (T : Std X.mg) (hg : Gl X "list") (ha : SA ca W X (e :: es) m) (Tc : CallT X e es pos) : SE ca W X (.Call (.Name "list" p) (e :: es) [] pos) (eA (a1 fListR) m) := se_ct call_listA listR_S T.list bt_list (by decide) (by decide) hg ha Tc
theorem se_intC (T : Std X.mg) (hg : Gl X "int") (ha : SA ca W X (e :: es) m) (Tc : CallT X e es pos) : SE ca W X (.Call (.Name "int" p) (e :: es) [] pos) (eA (a1 fInt) m) := se_ct call_intA int_S T.int bt_int (by decide) (by decide) hg ha Tc
theorem se_sum (hc : X.calm = true) (T : Std X.mg) (hg : Gl X "sum") (ha : SA ca W X (e :: es) m) (Tc : CallT X e es pos) : SE ca W X (.Call (.Name "sum" p) (e :: es) [] pos) (eA (a1 fSum) m) := se_cb (cr_sum hc) sum_S T.sum bt_sum (by decide) (by decide) hg ha Tc
theorem se_max2 (hc : X.calm = true) (T : Std X.mg) (hg : Gl X "max") (ha : SA ca W X (e :: es) m) (Tc : CallT X e es pos) : SE ca W X (.Call (.Name "max" p) (e :: es) [] pos) (eA (a2 fMax2) m) := se_cb (call_max2A hc) max2_S T.max bt_max (by decide) (by decide) hg ha Tc
theorem se_min2 (hc : X.calm = true) (T : Std X.mg) (hg : Gl X "min") (ha : SA ca W X (e :: es) m) (Tc : CallT X e es pos) : SE ca W X (.Call (.Name "min" p) (e :: es) [] pos) (eA (a2 fMin2) m) := se_cb (call_min2A hc) min2_S T.min bt_min (by decide) (by decide) hg ha Tc
theorem se_isI {px p1 : Pos} (T : Std X.mg) (hg : Gl X "isinstance") (hgT : Gl X "int") (ha : SE ca W X a ma) (T1 : CallT X a [.Name "int" px] pos) (T2 : CallT X (.Name "int" px) [] pos) : SE ca W X (.Call (.Name "isinstance" p1) [a, .Name "int" px] [] pos) (e1 (fIsi "int") ma) :=
  se_isi (by decide) T.isinstance hg T.int hgT bt_int (by decide) (by decide) ha T1 T2
theorem se_isB {px p1 : Pos} (T : Std X.mg) (hg : Gl X "isinstance") (hgT : Gl X "bool") (ha : SE ca W X a ma) (T1 : CallT X a [.Name "bool" px] pos) (T2 : CallT X (.Name "bool" px) [] pos) : SE ca W X (.Call (.Name "isinstance" p1) [a, .Name "bool" px] [] pos) (e1 (fIsi "bool") ma) :=
  se_isi (by decide) T.isinstance hg T.bool hgT bt_bool (by decide) (by decide) ha T1 T2
theorem se_isL {px p1 : Pos} (T : Std X.mg) (hg : Gl X "isinstance") (hgT : Gl X "list") (ha : SE ca W X a ma) (T1 : CallT X a [.Name "list" px] pos) (T2 : CallT X (.Name "list" px) [] pos) : SE ca W X (.Call (.Name "isinstance" p1) [a, .Name "list" px] [] pos) (e1 (fIsi "list") ma) :=
  se_isi (by decide) T.isinstance hg T.list hgT bt_list (by decide) (by decide) ha T1 T2
theorem se_isS {px p1 : Pos} (T : Std X.mg) (hg : Gl X "isinstance") (hgT : Gl X "str") (ha : SE ca W X a ma) (T1 : CallT X a [.Name "str" px] pos) (T2 : CallT X (.Name "str" px) [] pos) : SE ca W X (.Call (.Name "isinstance" p1) [a, .Name "str" px] [] pos) (e1 (fIsi "str") ma) :=
  se_isi (by decide) T.isinstance hg T.str hgT bt_str (by decide) (by decide) ha T1 T2
theorem se_isT {px p1 : Pos} (T : Std X.mg) (hg : Gl X "isinstance") (hgT : Gl X "tuple") (ha : SE ca W X a ma) (T1 : CallT X a [.Name "tuple" px] pos) (T2 : CallT X (.Name "tuple" px) [] pos) : SE ca W X (.Call (.Name "isinstance" p1) [a, .Name "tuple" px] [] pos) (e1 (fIsi "tuple") ma) :=
  se_isi (by decide) T.isinstance hg T.tuple hgT bt_tuple (by decide) (by decide) ha T1 T2
/-! ### operators -/
theorem se_add (ha : SE ca W X a ma) (hb : SE ca W X b mb) : SE ca W X (.BinOp a .Add b pos) (e2 fAdd ma mb) := se_bin op_addA add_S ha hb
theorem se_sub (ha : SE ca W X a ma) (hb : SE ca W X b mb) : SE ca W X (.BinOp a .Sub b pos) (e2 fSub ma mb) := se_bin op_sub sub_S ha hb
theorem se_mul (ha : SE ca W X a ma) (hb : SE ca W X b mb) : SE ca W X (.BinOp a .Mult b pos) (e2 fMul ma mb) := se_bin op_mulA mul_S ha hb
theorem se_div (ha : SE ca W X a ma) (hb : SE ca W X b mb) : SE ca W X (.BinOp a .FloorDiv b pos) (e2 fDiv ma mb) := se_bin op_fdivW div_S ha hb
theorem se_mod (ha : SE ca W X a ma) (hb : SE ca W X b mb) : SE ca W X (.BinOp a .Mod b pos) (e2 fMod ma mb) := se_bin op_mod mod_S ha hb
theorem se_pow (ha : SE ca W X a ma) (hb : SE ca W X b mb) : SE ca W X (.BinOp a .Pow b pos) (e2 fPow ma mb) := se_bin op_pow pow_S ha hb
theorem se_lt (hu : X.A.units < cLine) (ha : SE ca W X a ma) (hb : SE ca W X b mb) : SE ca W X (.Compare a [.Lt] [b] pos) (e2 fLt ma mb) := se_cmp (op_ltA hu) lt_S ha hb (nomark _)
theorem se_le (ha : SE ca W X a ma) (hb : SE ca W X b mb) : SE ca W X (.Compare a [.LtE] [b] pos) (e2 fLe ma mb) := se_cmp op_le cmpI_S ha hb (nomark _)
theorem se_gt (ha : SE ca W X a ma) (hb : SE ca W X b mb) : SE ca W X (.Compare a [.Gt] [b] pos) (e2 fGt ma mb) := se_cmp op_gt cmpI_S ha hb (nomark _)
theorem se_ge (ha : SE ca W X a ma) (hb : SE ca W X b mb) : SE ca W X (.Compare a [.GtE] [b] pos) (e2 fGe ma mb) := se_cmp op_ge cmpI_S ha hb (nomark _)
theorem se_eq (hu : X.A.units + 64 < cLine) (ha : SE ca W X a ma) (hb : SE ca W X b mb) : SE ca W X (.Compare a [.Eq] [b] pos) (e2 fEq ma mb) := se_cmp (op_eqD hu) eq_S ha hb (nomark _)
theorem se_ne (hu : X.A.units + 64 < cLine) (ha : SE ca W X a ma) (hb : SE ca W X b mb) : SE ca W X (.Compare a [.NotEq] [b] pos) (e2 fNe ma mb) := se_cmp (op_neD hu) ne_S ha hb (nomark _)
theorem se_is (ha : SE ca W X a ma) (hb : SE ca W X b mb) : SE ca W X (.Compare a [.Is] [b] pos) (e2 fIs ma mb) := se_cmp (r := rIsA) op_isA is_S ha hb (nomark _)
theorem se_isNot (ha : SE ca W X a ma) (hb : SE ca W X b mb) : SE ca W X (.Compare a [.IsNot] [b] pos) (e2 fIsNot ma mb) := se_cmp (r := rIsNotNo) op_notN isNot_S ha hb (nomark _)
theorem st_lt (hu : X.A.units < cLine) (ha : SE ca W X a ma) (hb : SE ca W X b mb) : ST ca W X (.Compare a [.Lt] [b] pos) (tOf (e2 fLt ma mb)) := st_cmp (op_ltA hu) lt_S ha hb (nomark _)
theorem st_le (ha : SE ca W X a ma) (hb : SE ca W X b mb) : ST ca W X (.Compare a [.LtE] [b] pos) (tOf (e2 fLe ma mb)) := st_cmp op_le cmpI_S ha hb (nomark _)
theorem st_gt (ha : SE ca W X a ma) (hb : SE ca W X b mb) : ST ca W X (.Compare a [.Gt] [b] pos) (tOf (e2 fGt ma mb)) := st_cmp op_gt cmpI_S ha hb (nomark _)
theorem st_ge (ha : SE ca W X a ma) (hb : SE ca W X b mb) : ST ca W X (.Compare a [.GtE] [b] pos) (tOf (e2 fGe ma mb)) := st_cmp op_ge cmpI_S ha hb (nomark _)
theorem st_eq (hu : X.A.units + 64 < cLine) (ha : SE ca W X a ma) (hb : SE ca W X b mb) : ST ca W X (.Compare a [.Eq] [b] pos) (tOf (e2 fEq ma mb)) := st_cmp (op_eqD hu) eq_S ha hb (nomark _)
theorem st_ne (hu : X.A.units + 64 < cLine) (ha : SE ca W X a ma) (hb : SE ca W X b mb) : ST ca W X (.Compare a [.NotEq] [b] pos) (tOf (e2 fNe ma mb)) := st_cmp (op_neD hu) ne_S ha hb (nomark _)
theorem st_is (ha : SE ca W X a ma) (hb : SE ca W X b mb) : ST ca W X (.Compare a [.Is] [b] pos) (tOf (e2 fIs ma mb)) := st_cmp (r := rIsA) op_isA is_S ha hb (nomark _)
theorem st_isNot (ha : SE ca W X a ma) (hb : SE ca W X b mb) : ST ca W X (.Compare a [.IsNot] [b] pos) (tOf (e2 fIsNot ma mb)) := st_cmp (r := rIsNotNo) op_notN isNot_S ha hb (nomark _)
theorem se_lele (ha : SE ca W X a ma) (hb : SE ca W X b mb) (hc : SE ca W X c mc) (hm : lastMarks [.LtE, .LtE] [b, c] = false) : SE ca W X (.Compare a [.LtE, .LtE] [b, c] pos) (eChain fLe fLe ma mb mc) := se_chain op_le op_le cmpI_S cmpI_S ha hb hc hm
theorem st_lele (ha : SE ca W X a ma) (hb : SE ca W X b mb) (hc : SE ca W X c mc) (hm : lastMarks [.LtE, .LtE] [b, c] = false) : ST ca W X (.Compare a [.LtE, .LtE] [b, c] pos) (tOf (eChain fLe fLe ma mb mc)) := st_chain op_le op_le cmpI_S cmpI_S ha hb hc hm
theorem se_ltle (hu : X.A.units < cLine) (ha : SE ca W X a ma) (hb : SE ca W X b mb) (hc : SE ca W X c mc) (hm : lastMarks [.Lt, .LtE] [b, c] = false) : SE ca W X (.Compare a [.Lt, .LtE] [b, c] pos) (eChain fLt fLe ma mb mc) := se_chain (op_ltA hu) op_le lt_S cmpI_S ha hb hc hm
theorem st_ltle (hu : X.A.units < cLine) (ha : SE ca W X a ma) (hb : SE ca W X b mb) (hc : SE ca W X c mc) (hm : lastMarks [.Lt, .LtE] [b, c] = false) : ST ca W X (.Compare a [.Lt, .LtE] [b, c] pos) (tOf (eChain fLt fLe ma mb mc)) := st_chain (op_ltA hu) op_le lt_S cmpI_S ha hb hc hm
theorem se_ltlt (hu : X.A.units < cLine) (ha : SE ca W X a ma) (hb : SE ca W X b mb) (hc : SE ca W X c mc) (hm : lastMarks [.Lt, .Lt] [b, c] = false) : SE ca W X (.Compare a [.Lt, .Lt] [b, c] pos) (eChain fLt fLt ma mb mc) := se_chain (op_ltA hu) (op_ltA hu) lt_S lt_S ha hb hc hm
end
/-! ### what the top has left, def by def -/
/-- a def at a module's name -/
def DefF (K : PySem.W.Frag) (mg : Str → Option Value) (x : Str) (st : Stmt) (ps : List Str) : Prop := ∃ (f : Addr) (fd : FuncData), Fun K x x st f fd ∧ mg x = some (.ref f) ∧ Binds K fd ps []
/-- a method -/
def MetF (K : PySem.W.Frag) (C : Addr) (m qual : Str) (st : Stmt) (ps : List Str) : Prop := ∃ (f : Addr) (fd : FuncData), Fun K m qual st f fd ∧ Meth K C m f ∧ Binds K fd ps []
/-- an __init__ -/
def MakF (K : PySem.W.Frag) (mg : Str → Option Value) (C : Addr) (x qual : Str) (st : Stmt) (ps : List Str) : Prop := ∃ (f : Addr) (fd : FuncData), Fun K "__init__" qual st f fd ∧ Mk K C f ∧ mg x = some (.ref C) ∧ Binds K fd ps []
section
variable {P : Program} {w : World} {K : PySem.W.Frag} {mg : Str → Option Value} {base : Heap} {ca : Nat → Addr}
abbrev cxF (P : Program) (w : World) (K : PySem.W.Frag) (mg : Str → Option Value) (base : Heap) (N : List Str) (qual : Str) (st : Stmt) (f : Addr) (cdv : Value) (A : Around) (outer : List Env) (s : Shared) (H : Hp) (E : XK) : Cx :=
  cxOf (L2.CX P w) P w K mg base N qual (defScope st) f cdv A outer s H E
def BodyOk (P : Program) (w : World) (K : PySem.W.Frag) (mg : Str → Option Value) (base : Heap) (ca : Nat → Addr) (N : List Str) (qual : Str) (st : Stmt) (k : Nat) (body : MS) : Prop :=
  ∀ (f : Addr) (cdv : Value) (A : Around) (outer : List Env) (s : Shared) (H : Hp) (E : XK), Room k (A.deeper (envOfC qual (defScope st) s.heap.objs.size f cdv)) →
      Takes (cxF P w K mg base N qual st f cdv A outer s H E) (fun C d _ H => E C d H) →
      SSs ca ⟨fun C d _ H => E C d H, none⟩ (cxF P w K mg base N qual st f cdv A outer s H E) (defBody st) body
theorem fn_def {x : Str} {st : Stmt} {N ps : List Str} {k : Nat} {body : MS} {np : Nat} (T : DefF K mg x st ps) (S : FnScope N ps (defScope st)) (hnp : ps.length = np) (hnn : np ≤ N.length) (hb : BodyOk P w K mg base ca N x st k body) : FnS P w K mg base ca (k + 1) x (fnM N.length np body) := by
  obtain ⟨f, fd, F, hm, b⟩ := T
  exact ⟨⟨f, fd, ps, fn_sound F S hnp hnn (hb f), hm, F.kp, b⟩⟩
theorem fn_met {m qual : Str} {c : Nat} {st : Stmt} {N ps : List Str} {k : Nat} {body : MS} {np : Nat} (cl : Cls K (ca c)) (T : MetF K (ca c) m qual st ps) (S : FnScope N ps (defScope st)) (hnp : ps.length = np) (hnn : np ≤ N.length) (hb : BodyOk P w K mg base ca N qual st k body) : MeS P w K mg base ca (k + 1) c m (fnM N.length np body) := by
  obtain ⟨f, fd, F, hm, b⟩ := T
  exact ⟨cl, ⟨f, fd, ps, fn_sound F S hnp hnn (hb f), hm, b⟩⟩
theorem fn_mak {x qual : Str} {c : Nat} {st : Stmt} {N ps : List Str} {k : Nat} {body : MS} {np : Nat} (T : MakF K mg (ca c) x qual st ps) (S : FnScope N ps (defScope st)) (hnp : ps.length = np) (hnn : np ≤ N.length) (hb : BodyOk P w K mg base ca N qual st k body) : MkS P w K mg base ca (k + 1) c x (fnM N.length np body) := by
  obtain ⟨f, fd, F, hm, hg, b⟩ := T
  exact ⟨⟨f, fd, ps, fn_sound F S hnp hnn (hb f), hm, hg, b⟩⟩
end
end Sim

/-! Sim: the end. -/
namespace Sim
open PySem PySem.Spec L2 PyProof.Rows
section
variable {K : PySem.W.Frag} {h : Heap} {mg : Str → Option Value} {f C : Addr} {x qual : Str} {st : Stmt} {ps : List Str} {oc kV doc pm cd ct : Value} {od an : Option Addr} {sl : Array (Option Value)}
/-- the arguments bind -/
def BindOk (x qual : Str) (st : Stmt) (ps : List Str) : Prop := ∀ (kV doc pm : Value) (an : Option Addr) (cdv ct : Value) (us : List Value), us.length = ps.length → bindArgs (PySem.W.fnOf x qual (defArgs st) (defBody st) (defScope st) .none kV doc pm an cdv ct) ⟨us, []⟩ = pure (ps.zip us)
theorem defF_of (X : K.In h) (G : h.Ns mainGlobals mg) (a : PySem.W.nsIn K mainGlobals x = some (some (.ref f))) (l : K.lookup f = some ⟨oc, od, .func (PySem.W.fnOf x x (defArgs st) (defBody st) (defScope st) .none kV doc pm an cd ct), sl⟩)
    (c : PySem.W.codeIn K cd x = true) (k : PySem.W.keepIn K (.ref f) = true) (hb : BindOk x x st ps) : DefF K mg x st ps := ⟨f, _, fun_mk l c k, PySem.W.mg_of X G a, (fun_mk l c k).binds hb⟩
theorem metF_of (a : PySem.W.findIn K (.ref C) x = some (some (.ref f))) (i : PySem.W.isFn K (.ref f) = true) (l : K.lookup f = some ⟨oc, od, .func (PySem.W.fnOf x qual (defArgs st) (defBody st) (defScope st) .none kV doc pm an cd ct), sl⟩)
    (c : PySem.W.codeIn K cd qual = true) (k : PySem.W.keepIn K (.ref f) = true) (hb : BindOk x qual st ps) : MetF K C x qual st ps := ⟨f, _, fun_mk l c k, ⟨a, i, k⟩, (fun_mk l c k).binds hb⟩
theorem makF_of (X : K.In h) (G : h.Ns mainGlobals mg) (g : PySem.W.nsIn K mainGlobals x = some (some (.ref C))) (mk : PySem.W.makesIn K C = true) (kc : PySem.W.keepIn K (.ref C) = true) (a : PySem.W.findIn K (.ref C) "__init__" = some (some (.ref f))) (i : PySem.W.isFn K (.ref f) = true)
    (l : K.lookup f = some ⟨oc, od, .func (PySem.W.fnOf "__init__" qual (defArgs st) (defBody st) (defScope st) .none kV doc pm an cd ct), sl⟩) (c : PySem.W.codeIn K cd qual = true) (k : PySem.W.keepIn K (.ref f) = true) (hb : BindOk "__init__" qual st ps) : MakF K mg C x qual st ps :=
  ⟨f, _, fun_mk l c k, ⟨mk, a, i, kc⟩, PySem.W.mg_of X G g, (fun_mk l c k).binds hb⟩
end
/-- the law's promise -/
def spLaw (K : PySem.W.Frag) : Sp := fun vs H Q _ => ∃ (a : Addr) (ns : List Int), vs = [.ref a] ∧ SqL K H a (ns.map V.int) ∧ ns.length ≤ 63 ∧ ∀ H', Q (.bl true) H'
/-- the law, run on plain data, is true -/
def LawTrue (g : List D → M D) : Prop := ∀ ns : List Int, ns.length ≤ 63 → ∃ S', g [.scr ns] [] = some (.ok (.bl true), S')
theorem law_sp {K : PySem.W.Frag} {ca : Nat → Addr} {g : List D → M D} (hg : LawTrue g) (vs : List V) (H : Hp) (Q : VK) (E : XK) (h : spLaw K vs H Q E) : spM K ca g vs H Q E := by
  obtain ⟨a, ns, rfl, hS, hl, q⟩ := h
  obtain ⟨S', e⟩ := hg ns hl
  refine ⟨[], [], [], [.scr ns], ⟨List.nodup_nil, rfl, (fun _ z => nomatch z), (fun _ z => nomatch z), (fun n a c z _ => by simp at z)⟩, .cons (.scr ?_) .nil, ?_⟩
  · rcases hS with hS | hS
    · exact .inl ⟨hS, by simp, by simp⟩
    · exact .inr fun H' => .inr hS
  · rw [e]
    intro ρ' H' b _ _ rb
    cases rb
    exact q H'
theorem law_fn {P : Program} {w : World} {K : PySem.W.Frag} {mg : Str → Option Value} {base : Heap} {ca : Nat → Addr} {k : Nat} {x : Str} {g : List D → M D} {fa : Addr} (hg : LawTrue g) (F : FnS P w K mg base ca k x g) (hm : mg x = some (.ref fa)) :
    ∃ (fd : FuncData) (ps : List Str), FnOk P w K mg base (L2.CX P w) k fa fd ps (spLaw K) := by
  obtain ⟨f, fd, ps, F1, h1, _, _⟩ := F.ex
  have e : fa = f := by
    have := hm.symm.trans h1
    cases this
    rfl
  subst e
  exact ⟨fd, ps, F1.imp fun vs H Q E h => law_sp hg vs H Q E h⟩
theorem cx_false {P : Program} {w : World} {H : Hp} {s : Shared} {e : Value} {s' : Shared} (h : L2.CX P w [] H s (fun _ _ _ => False) e s') : False := by
  obtain ⟨_, _, _, _, _, _, _, _, _, _, _, _, z⟩ := h
  exact z
/-- addresses by codes -/
def caL (l : List (Nat × Addr)) (n : Nat) : Addr := ((l.find? fun p => p.1 == n).map (·.2)).getD 0
end Sim

namespace Sim
open PySem PySem.Spec L2
section
variable {ca : Nat → Addr} {X : Cx} {pos : Pos}
theorem bt_isinstance : bootBuiltins "isinstance" = some (.builtin "isinstance") := by decide +kernel
theorem bt_ValueError : bootBuiltins "ValueError" = some (.type "ValueError") := by decide +kernel
/-- isinstance(e, C), e the error that the suite holds, one without fields -/
theorem se_isE {aa : Addr} {oe : Obj} {cls : Value} {d : Option Addr} {pn : List (Addr × Obj)} {n : Str} {i : Nat} {xn : Exn} {tab : Nat → Option Bool} {v : V} {cv : Value} {te : Expr} {p1 px : Pos} (hz : Zc cls d oe) (hf : ∃ vs, oe.data = .fields vs) (hcls : cls = .ref (ca xn.c))
    (hX : ∀ c b, tab c = some b → ExcC X.K (ca c) ∧ PySem.W.kitOne X.K (.ref (ca c)) cv = some b) (hC : PE (X.suite aa ((aa, oe) :: pn)) te (tC v)) (hcv : ∀ u, RelV v u → u = cv)
    (hN : X.N[i]? = some n) (hv : Vis X.env.scope n) (hd : (n == ("__debug__" : Str)) = false) (hcd : (n == ("__classdict__" : Str)) = false) (hm : X.mg "isinstance" = none) (hg : Gl X "isinstance")
    (T1 : CallT X (.Name n px) [te] pos) (T2 : CallT X te [] pos) :
    SE ca (W0 (some ⟨i, aa, d, xn.fs⟩)) (X.suite aa ((aa, oe) :: pn)) (.Call (.Name "isinstance" p1) [.Name n px, te] [] pos) (eIsE tab xn) := by
  have bad : ∀ {σ H Q}, Tm X.K ca (W0 (some ⟨i, aa, d, xn.fs⟩)) (Rel X.K) (eIsE tab xn) σ H Q → d = none ∧ ∃ b, tab xn.c = some b := fun ⟨ρ, φ, S, l, hS, hl, q⟩ => by
    obtain ⟨g1, g2⟩ := hl.er _ rfl
    unfold eIsE at q
    cases hfs : xn.fs with
    | some gs => rw [hfs] at q; exact q.elim
    | none =>
      rw [hfs] at q
      simp only [hfs] at g2
      refine ⟨g2, ?_⟩
      cases ht : tab xn.c with
      | none => rw [ht] at q; exact q.elim
      | some b => exact ⟨b, rfl⟩
  by_cases hdn : d = none
  · cases ht : tab xn.c with
    | none => exact ⟨fun pins s σ H Q I h => by obtain ⟨_, b, e⟩ := bad h; rw [ht] at e; cases e⟩
    | some b =>
      subst hdn
      subst hcls
      obtain ⟨hE, hK⟩ := hX _ _ ht
      have hp : PA (X.suite aa ((aa, oe) :: pn)) [.Name n px, te] (tCons (tVar i) (tCons (tC v) tNil)) := pa_cons (pe_var (X := X.suite aa ((aa, oe) :: pn)) hN hv hd hcd) (pa_cons hC pa_nil T2.he) T1.he
      refine pe_imp (pe_callB (call_isE hE hz hf) hg hm bt_isinstance hp (by decide) (by decide) T1.he T1.hpl) fun σ H Q ⟨ρ, φ, S, l, hS, hl, q⟩ => ?_
      obtain ⟨g1, g2⟩ := hl.er _ rfl
      refine ⟨.ref aa, g1, ?_⟩
      refine ⟨v, cv, b, rfl, hcv, hK, ?_⟩
      unfold eIsE at q
      cases hfs : xn.fs with
      | some gs => rw [hfs] at q; exact q.elim
      | none =>
        rw [hfs, ht] at q
        exact AtM.here q hS (.bl _)
  · exact ⟨fun pins s σ H Q I h => absurd (bad h).1 hdn⟩
theorem kit_self {K : PySem.W.Frag} (t : Value) : PySem.W.kitOne K t t = some true := by
  unfold PySem.W.kitOne
  rw [if_pos (beq_iff_eq.mpr rfl)]
theorem kit_ref {K : PySem.W.Frag} {D C : Addr} {b : Bool} (hd : PySem.W.hasDictIn K C = true) (ht : PySem.W.typeIn K (.ref C) = some (.type "type")) (hs : PySem.W.subIn K (.ref D) (.ref C) = some b) (hn : b = true ∨ D ≠ C) : PySem.W.kitOne K (.ref D) (.ref C) = some b := by
  unfold PySem.W.kitOne
  by_cases e : (Value.ref D == Value.ref C) = true
  · rw [if_pos e]
    rcases hn with h | h
    · rw [h]
    · exact absurd (Value.ref.inj (beq_iff_eq.mp e)) h
  · rw [if_neg e]
    obtain ⟨cd, hc, _⟩ := PySem.W.any_some hd
    have e2 : ((PySem.W.clsIn K C).isSome && PySem.W.typeIn K (.ref C) == some (.type "type")) = true := by rw [hc, ht] <;> rfl
    show (if ((PySem.W.clsIn K C).isSome && PySem.W.typeIn K (.ref C) == some (.type "type")) = true then PySem.W.subIn K (.ref D) (.ref C) else none) = some b
    rw [if_pos e2]
    exact hs
theorem kit_VE {K : PySem.W.Frag} {D : Addr} {b : Bool} (hs : PySem.W.subIn K (.ref D) (.type "ValueError") = some b) : PySem.W.kitOne K (.ref D) (.type "ValueError") = some b := by
  unfold PySem.W.kitOne
  rw [if_neg (fun e => by have := beq_iff_eq.mp e; cases this)]
  show (if PySem.W.kitMeta "ValueError" = true then PySem.W.subIn K (.ref D) (.type "ValueError") else none) = some b
  rw [if_pos (by decide +kernel)]
  exact hs
end
/-! ### sep.join(a list of texts) -/
def strsOf : List D → Option (List Str)
  | [] => some []
  | .str z :: r => (strsOf r).map (z :: ·)
  | _ :: _ => none
def fJoin (a x : D) : M D := fun S => match a with
  | .str z => match listOf x S with
    | some ds => match strsOf ds with
      | some ys => if (ys.map (·.length)).sum + ys.length * z.length ≤ 16777216 then some (.ok (.str (Txt.join z ys)), S) else none
      | none => none
    | none => none
  | _ => none
def rJoin (K : PySem.W.Frag) : V → List V → Hp → VK → Prop := fun x xs H Q => ∃ a p, ∃ ys : List Str, x = .str a ∧ xs = [.ref p] ∧ (SqL K H p (ys.map V.str) ∨ SqT K H p (ys.map V.str)) ∧ (ys.map (·.length)).sum + ys.length * a.length ≤ 16777216 ∧ Q (.str (Txt.join a ys)) H
theorem strs_rel {K : PySem.W.Frag} {ρ φ : List Addr} {H : Hp} : ∀ {vs : List V} {ds : List D} {ys : List Str}, Rels K ρ φ H vs ds → strsOf ds = some ys → vs = ys.map V.str
  | _, _, _, .nil, h => by cases h; rfl
  | _, _, _, .cons r rs, h => by
    cases r <;> first | (cases h; done) | skip
    unfold strsOf at h
    rename_i ds z
    cases e : strsOf ds with
    | none => rw [e] at h; cases h
    | some ms => rw [e] at h; cases h; rw [strs_rel rs e]; rfl
section
variable {ca : Nat → Addr} {X : Cx} {W : WW} {o e : Expr} {mo : ME} {m : MA} {apos pos : Pos}
theorem join_S : MthS X.K ca (rJoin X.K) (m1 fJoin) := by
  intro W ρ φ S H σ x a xs ds Q hS rx rs h
  unfold m1 at h
  split at h
  · rename_i y
    cases rs with
    | cons ry rn =>
      cases rn
      unfold fJoin at h
      split at h
      · split at h
        · rename_i es hes
          split at h
          · rename_i ys hys
            split at h
            · rename_i hz
              obtain ⟨p, vs, rfl, q, r⟩ := list_rel hS ry hes
              have e := strs_rel r hys
              subst e
              cases rx
              exact ⟨_, p, ys, rfl, rfl, .inl q, hz, AtM.here h hS (.str _)⟩
            · exact h.elim
          · exact h.elim
        · exact h.elim
      · exact h.elim
  · exact h.elim
theorem se_join (ho : SE ca W X o mo) (ha : SA ca W X [e] m) (T : MethT X o "join" [e] apos pos) (R : StarT X e [] pos) : SE ca W X (.Call (.Attribute o "join" apos) [e] [] pos) (eBM isS (m1 fJoin) mo m) :=
  pe_imp (pe_bm PySem.F.plainAttrs_str PySem.F.slot_str_join PySem.F.type_str_join mt_join ho ha T.base T.few T.line R.hs R.hp) fun σ H Q h => bm_run join_S isS_ty h
end
end Sim

/-! Sim: min of three and four, sorted and list of a dict, two names at once. -/
namespace PySem.W
open PySem PySem.Calls PyProof.Rows
section
variable {prog : Program} {w : World} {A : Around} {E : Value → Shared → Prop} {s : Shared}
theorem args_min4S (a b c d : Value) : argsOk "min" ⟨[a, b, c, d], []⟩ := by unfold argsOk; kernel_rfl
theorem call_min_fourS {a b c d : Value} {Q : Value → Shared → Prop}
    (h : wpAny (model prog w) A.in1 (pyIter (.ref s.heap.objs.size)) (fun it s₂ => ∃ I fp wr n P St bt, it = .ref I ∧ Walks prog w A.in1 I fp wr n P St ∧ St 0 s₂.heap ∧ (∀ b ∈ fp, b < s₂.heap.objs.size) ∧ 0 < n ∧ CmpOf prog w A.in1 .Lt P bt ∧
      ∀ v h' tk, P (argBest bt (n - 1)) v → (∀ b o, b ∉ wr → s₂.heap.get? b = some o → h'.get? b = some o) → Q v { s₂ with heap := h', toks := tk }) E
      { s with heap := s.heap.push { cls := .type "tuple", data := .seq #[a, b, c, d] } }) :
    wpAny (model prog w) A (call (.builtin "min") [a, b, c, d]) Q E s := by
  have hname : (toString "min" ++ toString ".loop" : String) = "min.loop" := by decide
  refine call_function_tree F.kind_min F.plain_min F.entry_min (args_min4S _ _ _ _) ?_
  show wpAny _ A.in1 (Builtin.Builtins.bindParams "min" ["key", "default"] 0 ⟨[], []⟩ >>= _) _ _ s
  refine wpAny_bind (wpAny_of_eq (show Builtin.Builtins.bindParams "min" ["key", "default"] 0 ⟨[], []⟩ = pure [none, none] from rfl) ?_)
  show wpAny _ A.in1 (newTuple [a, b, c, d] >>= _) _ _ s
  refine wpAny_bind (wpAny_newObj_type ?_)
  refine wpAny_bind (wpAny_mono h (fun it s₂ h₂ => ?_) fun _ _ e => e)
  obtain ⟨I, fp, wr, n, P, St, bt, rfl, W, hst, hfp, hn, hcmp, hQ⟩ := h₂
  refine wpAny_bind (wpAny_newObj_type ?_)
  have hSf : s₂.heap.objs.size ∉ fp := fun hm => Nat.lt_irrefl _ (hfp _ hm)
  rw [hname]
  refine wpAny_pure ⟨plainId_quiet F.plain_min_loop _, codeAny_min_loop_first W bt hcmp s₂.heap.objs.size hSf hn (W.frame _ _ _ hst fun b _ o e => Heap.get?_push_of_some _ e) (Heap.get?_push_size _ rfl) fun v h' tk hP hk => ?_⟩
  exact hQ v h' tk hP fun b o hbw e => hk b o hbw (Nat.ne_of_lt (Heap.lt_size e)) (Heap.get?_push_of_some _ e)
def pickS (a b : Value) : Value := if Flt.ltV b a = true then b else a
/-- min of four numbers -/
theorem min4_numS {Q : Value → Shared → Prop} {a b c e : Value} (hh : A.handled = none) (ha : Flt.NumV a) (hb : Flt.NumV b) (hc : Flt.NumV c) (he : Flt.NumV e)
    (h : ∀ h' tk, (∀ d o, s.heap.get? d = some o → h'.get? d = some o) → Q (pickS (pickS (pickS a b) c) e) { s with heap := h', toks := tk }) :
    wpAny (model prog w) A (call (.builtin "min") [a, b, c, e]) Q E s := by
  have hT : (s.heap.push { cls := .type "tuple", data := .seq #[a, b, c, e] }).IsTuple s.heap.objs.size #[a, b, c, e] := ⟨_, Heap.get?_push_size _ rfl, rfl, 0, rfl⟩
  refine call_min_fourS (wpAny_pyIter_tuple hT ?_)
  have hsz : (s.heap.push { cls := .type "tuple", data := .seq #[a, b, c, e] }).objs.size = s.heap.objs.size + 1 := Heap.size_push ..
  refine ⟨_, [_, s.heap.objs.size], [_], _, _, _, _, rfl, Walks.tuple (A := A.in1) hh _ s.heap.objs.size (by rw [hsz]; exact Nat.ne_of_lt (Nat.lt_succ_self _)) #[a, b, c, e],
    ⟨⟨_, Heap.get?_push_size _ rfl, rfl, rfl⟩, hT.push _⟩, fun d hd => ?_, by simp, Flt.cmpOf_lt #[a, b, c, e] (by simp [ha, hb, hc, he]), fun v h' tk hP hk => ?_⟩
  · show d < ((s.heap.push _).push _).objs.size
    rw [Heap.size_push, hsz]
    rcases List.mem_cons.mp hd with rfl | hd
    · rw [hsz]; exact Nat.lt_succ_self _
    · rcases List.mem_cons.mp hd with rfl | hd
      · exact Nat.lt_succ_of_lt (Nat.lt_succ_self _)
      · cases hd
  · have hold : ∀ d o, s.heap.get? d = some o → h'.get? d = some o := fun d o e => by
      refine hk d o (fun hm => ?_) (Heap.get?_push_of_some _ (Heap.get?_push_of_some _ e))
      rcases List.mem_cons.mp hm with e1 | hm
      · have := Heap.lt_size e; rw [e1, hsz] at this; exact Nat.lt_irrefl _ (Nat.lt_of_succ_lt this)
      · cases hm
    have := h h' tk hold
    have hv : pickS (pickS (pickS a b) c) e = v := by
      unfold pickS
      cases h1 : Flt.ltV b a
      · cases h2 : Flt.ltV c a
        · cases h3 : Flt.ltV e a <;> simp [argBest, h1, h2, h3] at hP <;> simp [h2, h3] <;> exact hP
        · cases h3 : Flt.ltV e c <;> simp [argBest, h1, h2, h3] at hP <;> simp [h2, h3] <;> exact hP
      · cases h2 : Flt.ltV c b
        · cases h3 : Flt.ltV e b <;> simp [argBest, h1, h2, h3] at hP <;> simp [h2, h3] <;> exact hP
        · cases h3 : Flt.ltV e c <;> simp [argBest, h1, h2, h3] at hP <;> simp [h2, h3] <;> exact hP
    rw [hv] at this
    exact this
end
end PySem.W
namespace Sim
open PySem PySem.Spec L2 PyProof.Rows
def minI (i j : Int) : Int := if j < i then j else i
def fMinN (n : Nat) (ds : List D) : M D := fun S => match intsOf ds with
  | some (i :: r) => if r.length + 1 = n then some (.ok (.int (r.foldl minI i)), S) else none
  | _ => none
/-- ints put in order -/
def insI (x : Int) : List Int → List Int
  | [] => [x]
  | y :: r => if x ≤ y then x :: y :: r else y :: insI x r
def srtI : List Int → List Int
  | [] => []
  | x :: r => insI x (srtI r)
def keyD : Key → D
  | .inl i => .int i
  | .inr s => .str s
def keysI (kvs : List (Key × D)) : Option (List Int) := intsOf (kvs.map fun kv => keyD kv.1)
def fSortedD (a : D) : M D := fun S => match dctOf a S with
  | some kvs => match keysI kvs with
    | some ks => if ks.length ≤ lineN then some (.ok (.fl ((srtI ks).map D.int)), S) else none
    | none => none
  | none => none
def fListD (a : D) : M D := fun S => match dctOf a S with
  | some kvs => some (.ok (.fl (kvs.map fun kv => keyD kv.1)), S)
  | none => none
def sPar (i j : Nat) (a b : ME) : MS := fun l S => bndS l (a l S) fun x S1 => bndS l (b l S1) fun y S2 => some (.nx ((l.set i (some x)).set j (some y)), S2)
theorem insI_perm (x : Int) : ∀ l : List Int, (insI x l).Perm (x :: l)
  | [] => List.Perm.refl _
  | y :: r => by
    unfold insI
    split
    · exact List.Perm.refl _
    · exact ((insI_perm x r).cons y).trans (List.Perm.swap x y r)
theorem srtI_perm : ∀ l : List Int, (srtI l).Perm l
  | [] => List.Perm.refl _
  | x :: r => (insI_perm x (srtI r)).trans ((srtI_perm r).cons x)
theorem insI_sorted (x : Int) : ∀ l : List Int, l.Pairwise (· ≤ ·) → (insI x l).Pairwise (· ≤ ·)
  | [], _ => by unfold insI; simp
  | y :: r, h => by
    unfold insI
    obtain ⟨h1, h2⟩ := List.pairwise_cons.mp h
    split
    · rename_i c
      refine List.pairwise_cons.mpr ⟨fun z hz => ?_, h⟩
      rcases List.mem_cons.mp hz with e | hz
      · omega
      · have := h1 z hz; omega
    · rename_i c
      refine List.pairwise_cons.mpr ⟨fun z hz => ?_, insI_sorted x r h2⟩
      rcases List.mem_cons.mp ((insI_perm x r).mem_iff.mp hz) with e | hz
      · omega
      · exact h1 z hz
theorem srtI_sorted : ∀ l : List Int, (srtI l).Pairwise (· ≤ ·)
  | [] => List.Pairwise.nil
  | x :: r => insI_sorted x _ (srtI_sorted r)
theorem srt_eq : ∀ {a b : List Int}, a.Perm b → a.Pairwise (· ≤ ·) → b.Pairwise (· ≤ ·) → a = b
  | [], b, p, _, _ => (List.nil_perm.mp p).symm
  | x :: a, [], p, _, _ => absurd p.length_eq (by simp)
  | x :: a, y :: b, p, ha, hb => by
    obtain ⟨a1, a2⟩ := List.pairwise_cons.mp ha
    obtain ⟨b1, b2⟩ := List.pairwise_cons.mp hb
    have h1 : y ≤ x := by
      rcases List.mem_cons.mp (p.mem_iff.mp List.mem_cons_self) with e | h
      · omega
      · exact b1 x h
    have h2 : x ≤ y := by
      rcases List.mem_cons.mp (p.mem_iff.mpr List.mem_cons_self) with e | h
      · omega
      · exact a1 y h
    have e : x = y := by omega
    subst e
    rw [srt_eq (List.Perm.cons_inv p) a2 b2]
section
variable {X : Cx} {ca : Nat → Addr} {W : WW} {e a b c o : Expr} {es : List Expr} {ma mb mc mo : ME} {m : MA} {pos p : Pos}
theorem call_min3I (hc : X.calm = true) : CallR X (.builtin "min") (fun xs H Q => ∃ i j k, xs = [.int i, .int j, .int k] ∧ Q (.int (minI (minI i j) k)) H) := by
  intro pins s σ H xs us Q I r h
  obtain ⟨i, j, k, rfl, q⟩ := h
  refine call_min3Nu hc pins s σ H _ us Q I r ⟨_, _, _, _, rfl, ?_, q⟩
  unfold nuMin3 nuMin2 nuLt nuCB minI
  by_cases h1 : j < i <;> by_cases h2 : k < j <;> by_cases h3 : k < i <;> simp [h1, h2, h3]
theorem rel_pick {i j : Int} {u v : Value} (ru : RelV (.int i) u) (rv : RelV (.int j) v) : RelV (.int (minI i j)) (PySem.W.pickS u v) := by
  obtain ⟨n1, n2, hl⟩ := lt_nu rv ru (c := decide (j < i)) rfl
  unfold PySem.W.pickS minI
  rw [hl]
  by_cases h : j < i
  · rw [if_pos h, if_pos (decide_eq_true h)]; exact rv
  · rw [if_neg h, if_neg (by rw [decide_eq_false h]; decide)]; exact ru
theorem num_int {i : Int} {u : Value} (r : RelV (.int i) u) : Flt.NumV u := (lt_nu r r (c := decide (i < i)) rfl).1
theorem call_min4I (hc : X.calm = true) : CallR X (.builtin "min") (fun xs H Q => ∃ i j k z, xs = [.int i, .int j, .int k, .int z] ∧ Q (.int (minI (minI (minI i j) k) z)) H) := by
  intro pins s σ H xs us Q I r h
  obtain ⟨i, j, k, z, rfl, q⟩ := h
  cases r with
  | cons r0 r' =>
    obtain ⟨u1, u2, u3, rfl, r1, r2, r3⟩ := vals3 r'
    exact PySem.W.min4_numS (I.ok.hd hc) (num_int r0) (num_int r1) (num_int r2) (num_int r3) fun h' tk k' => ⟨_, H, I.kept k', rel_pick (rel_pick (rel_pick r0 r1) r2) r3, q⟩
theorem min3_S : CallS X.K ca (fun xs H Q => ∃ i j k, xs = [.int i, .int j, .int k] ∧ Q (.int (minI (minI i j) k)) H) (fMinN 3) := by
  intro W ρ φ S H σ xs ds Q hS rx h
  unfold fMinN at h
  split at h
  · rename_i i r e
    split at h
    · rename_i hl
      have z := ints_rel rx e
      match r, hl with
      | [j, k], _ => exact ⟨i, j, k, z, AtM.here h hS (.int _)⟩
    · exact h.elim
  · exact h.elim
theorem min4_S : CallS X.K ca (fun xs H Q => ∃ i j k z, xs = [.int i, .int j, .int k, .int z] ∧ Q (.int (minI (minI (minI i j) k) z)) H) (fMinN 4) := by
  intro W ρ φ S H σ xs ds Q hS rx h
  unfold fMinN at h
  split at h
  · rename_i i r e
    split at h
    · rename_i hl
      have z := ints_rel rx e
      match r, hl with
      | [j, k, y], _ => exact ⟨i, j, k, y, z, AtM.here h hS (.int _)⟩
    · exact h.elim
  · exact h.elim
theorem se_min3 (hc : X.calm = true) (T : Std X.mg) (hg : Gl X "min") (ha : SA ca W X (e :: es) m) (Tc : CallT X e es pos) : SE ca W X (.Call (.Name "min" p) (e :: es) [] pos) (eA (fMinN 3) m) := se_cb (call_min3I hc) min3_S T.min bt_min (by decide) (by decide) hg ha Tc
theorem se_min4 (hc : X.calm = true) (T : Std X.mg) (hg : Gl X "min") (ha : SA ca W X (e :: es) m) (Tc : CallT X e es pos) : SE ca W X (.Call (.Name "min" p) (e :: es) [] pos) (eA (fMinN 4) m) := se_cb (call_min4I hc) min4_S T.min bt_min (by decide) (by decide) hg ha Tc
/-- sorted(d) of a dict, all keys ints, any number of them -/
theorem call_sortedDA (hcalm : X.calm = true) : CallR X (.builtin "sorted") (fun xs H Q => ∃ (a : Addr) (kvs : List (Key × V)) (ks : List Int), xs = [.ref a] ∧ Rd H a (.dK kvs) ∧ kvs.map (·.1) = ks.map Sum.inl ∧ ks.length ≤ sizeLine ∧
    ∀ (ys : List Int) (p : Addr), ys.Perm ks → ys.Pairwise (· ≤ ·) → H p = none → Q (.ref p) (upd H p (.lst (ys.map V.int)))) := by
  intro pins s σ H xs us Q I r q
  obtain ⟨a, kvs, ks, ex, hd, hks, h64, q⟩ := q
  subst ex
  obtain ⟨u, eu, rx⟩ := vals1 r
  subst eu
  cases rx
  obtain ⟨z, lo, vs, rel, dd⟩ := dk_rd I.hok hd
  obtain ⟨ep, hat⟩ := dd.dictAt
  have hkeys : vs.map (·.1) = ks.map Sum.inl := rel.keys.symm.trans hks
  have hl : vs.length = ks.length := by
    have e := congrArg List.length hkeys
    rw [List.length_map, List.length_map] at e
    exact e
  have h16 : vs.length ≤ sizeLine := by rw [hl]; exact h64
  refine Calls.call_function_entry PyProof.Rows.kind_sorted PyProof.Rows.plain_sorted PyProof.Rows.entry_sorted (PyProof.Rows.args_sorted1 _) ?_
  unfold Builtin.«sorted»
  refine wpAny_bind (m := checkCount "sorted" 1 1 _) (wpAny_pure ?_)
  refine wpAny_bind (PySem.W.kdu_collect (A := X.A.in1) (PySem.W.kdl_dict (knd := mixKind X.prog X.w) (kvs := vs) (ep := ep) lo) (I.ok.hd hcalm) hat h16 fun h' tk acc hk hacc => ?_)
  have hal : acc.toList.length = ks.length := by rw [Array.length_toList, hacc.1, hl]
  have hS : IntsAre acc.toList ks := ints_each hal fun j v e => by
    obtain ⟨k, x, e1, e2⟩ := hacc.2 j v (by rw [← Array.getElem?_toList]; exact e)
    have e3 : (vs.map (·.1))[j]? = some k := by rw [List.getElem?_map, e1]; rfl
    rw [hkeys, List.getElem?_map] at e3
    cases e4 : ks[j]? with
    | none => rw [e4] at e3; cases e3
    | some y =>
      rw [e4] at e3
      have e5 : Sum.inl y = k := Option.some.inj e3
      subst e5
      rcases keyIs_shape (show keyIs (Sum.inl y) v = true from e2) with ⟨i, t, ek, ev⟩ | ⟨z, t, ek, ev⟩
      · cases ek
        exact ⟨y, t, rfl, ev⟩
      · cases ek
  have I1 : Inv X pins σ H { s with heap := h', toks := tk } := I.kept hk
  have hz : acc.toList.length ≤ sizeLine := by rw [hal]; exact h64
  refine wpAny_bind (wpAny_newList ?_ hz)
  have hoL : (h'.push (seqObj "list" acc.toList.toArray 0)).get? h'.objs.size = some (seqObj "list" acc.toList.toArray 0) := Heap.get?_push_size _ rfl
  show wpAny _ _ _ _ _ { s with heap := h'.push (seqObj "list" acc.toList.toArray 0), toks := tk }
  refine wpAny_bind (wpAny_holding (wpAny_call_entry PyProof.Rows.slot_list_sort ⟨_, hoL, rfl⟩ PyProof.Rows.entry_list_sort
    (SrtO.list_sort_ord (s := { s with heap := h'.push (seqObj "list" acc.toList.toArray 0), toks := tk }) SrtO.swo_int hoL hz (fun h2 => SrtO.ints_sortable hS h2) fun out h1 h2 => ⟨_, rfl, ?_⟩) (PyProof.Rows.args_list_sort _)))
  obtain ⟨k1, k2, k3⟩ := SrtO.ints_out hS h1 h2
  obtain ⟨e', he'⟩ := PyProof.Rows.sortedHeap_at (vs := acc.toList) (out := out.toArray) hoL
  have hlen : ((out.map SrtO.iv).map V.int).length ≤ sizeLine := by
    rw [List.length_map, k2.length_eq]
    exact h64
  refine wpAny_pure ⟨_, rfl, .ref h'.objs.size, upd H h'.objs.size (.lst ((out.map SrtO.iv).map V.int)), I1.laid (t' := tk) (fun b u e => ?_) (Nat.le_refl _)
    (show ObjOk X.prog X.w _ _ _ (.lst ((out.map SrtO.iv).map V.int)) from ⟨hlen, out, e', vals_of_ints k1, he'⟩), rfl, q _ _ k2 k3 (I1.hok.fresh (Nat.le_refl _))⟩
  have hb : b < h'.objs.size := Heap.lt_size e
  rw [PyProof.Rows.sortedHeap_old (Nat.ne_of_lt hb) (by rw [size_push']; exact Nat.lt_succ_of_lt hb)]
  exact Heap.get?_push_of_some _ e
theorem keys_rel {K : PySem.W.Frag} {ρ φ : List Addr} {H : Hp} : ∀ {vs : List (Key × V)} {ds : List (Key × D)}, RelK K ρ φ H vs ds → vs.map (·.1) = ds.map (·.1)
  | _, _, .nil => rfl
  | _, _, .cons r rs => by rw [List.map_cons, List.map_cons, keys_rel rs]
theorem keysI_eq : ∀ {kvs : List (Key × D)} {ks : List Int}, keysI kvs = some ks → kvs.map (·.1) = ks.map Sum.inl
  | [], ks, h => by cases h; rfl
  | (.inl i, d) :: r, ks, h => by
    unfold keysI at h
    rw [List.map_cons] at h
    show Sum.inl i :: r.map (·.1) = _
    change Option.map (fun x => i :: x) (intsOf (r.map fun kv => keyD kv.1)) = some ks at h
    cases e : intsOf (r.map fun kv => keyD kv.1) with
    | none => rw [e] at h; cases h
    | some js =>
      rw [e] at h
      cases h
      rw [keysI_eq (kvs := r) (ks := js) e]
      rfl
  | (.inr s, d) :: r, ks, h => by
    unfold keysI at h
    rw [List.map_cons] at h
    change (none : Option (List Int)) = some ks at h
    cases h
theorem sortedD_S : CallS X.K ca (fun xs H Q => ∃ (a : Addr) (kvs : List (Key × V)) (ks : List Int), xs = [.ref a] ∧ Rd H a (.dK kvs) ∧ kvs.map (·.1) = ks.map Sum.inl ∧ ks.length ≤ sizeLine ∧
    ∀ (ys : List Int) (p : Addr), ys.Perm ks → ys.Pairwise (· ≤ ·) → H p = none → Q (.ref p) (upd H p (.lst (ys.map V.int)))) (a1 fSortedD) := by
  intro W ρ φ S H σ xs ds Q hS rx h
  obtain ⟨x, d, rfl, rfl, r, h⟩ := one_of rx h
  unfold fSortedD at h
  split at h
  · rename_i kvs hd
    split at h
    · rename_i ks hk
      split at h
      · rename_i hz
        obtain ⟨p, ws, rfl, q1, q2⟩ := dct_rel hS r hd
        refine ⟨p, ws, ks, rfl, q1, (keys_rel q2).trans (keysI_eq hk), line_le hz, fun ys q h1 h2 h3 => ?_⟩
        have e := srt_eq (h1.trans (srtI_perm ks).symm) h2 (srtI_sorted ks)
        subst e
        exact new_fl hS (Rels.ofInts _) h q h3
      · exact h.elim
    · exact h.elim
  · exact h.elim
theorem bt_sorted : bootBuiltins "sorted" = some (.builtin "sorted") := by decide +kernel
theorem se_sortedD (hc : X.calm = true) (T : Std X.mg) (hg : Gl X "sorted") (ha : SA ca W X (e :: es) m) (Tc : CallT X e es pos) : SE ca W X (.Call (.Name "sorted" p) (e :: es) [] pos) (eA (a1 fSortedD) m) := se_cb (call_sortedDA hc) sortedD_S T.sorted bt_sorted (by decide) (by decide) hg ha Tc
theorem keysD_rel {K : PySem.W.Frag} {ρ φ : List Addr} {H : Hp} : ∀ {vs : List (Key × V)} {ds : List (Key × D)}, RelK K ρ φ H vs ds → Rels K ρ φ H (vs.map fun kv => kV kv.1) (ds.map fun kv => keyD kv.1)
  | _, _, .nil => .nil
  | (.inl i, _) :: _, _, .cons r rs => .cons (.int i) (keysD_rel rs)
  | (.inr i, _) :: _, _, .cons r rs => .cons (.str i) (keysD_rel rs)
theorem listD_S : CallS X.K ca (fun xs H Q => ∃ (a : Addr) (kvs : List (Key × V)), xs = [.ref a] ∧ Rd H a (.dK kvs) ∧ ∀ p, H p = none → Q (.ref p) (upd H p (.lst (kvs.map fun kv => kV kv.1)))) (a1 fListD) := by
  intro W ρ φ S H σ xs ds Q hS rx h
  obtain ⟨x, d, rfl, rfl, r, h⟩ := one_of rx h
  unfold fListD at h
  split at h
  · rename_i kvs hd
    obtain ⟨p, ws, rfl, q1, q2⟩ := dct_rel hS r hd
    exact ⟨p, ws, rfl, q1, fun q h3 => new_fl hS (keysD_rel q2) h q h3⟩
  · exact h.elim
theorem se_listD (hc : X.calm = true) (T : Std X.mg) (hg : Gl X "list") (ha : SA ca W X (e :: es) m) (Tc : CallT X e es pos) : SE ca W X (.Call (.Name "list" p) (e :: es) [] pos) (eA (a1 fListD) m) := se_ct (call_listD hc) listD_S T.list bt_list (by decide) (by decide) hg ha Tc
/-- a, b = e, f: two names of the def, no cells -/
theorem ss_par {i j : Nat} {x y : Str} {px py pt : Pos} {kt k2 pt2} (hc : X.calm = true) (hN : X.N.Nodup) (hi : X.N[i]? = some x) (hj : X.N[j]? = some y) (hij : i ≠ j)
    (hx : X.env.scope.names.lookup x = some .local) (hy : X.env.scope.names.lookup y = some .local) (hf : freeS W.x i) (hf2 : freeS W.x j) (ha : SE ca W X a ma) (hb : SE ca W X b mb) (h1 : starEach [a, b] X.env = (false, eval a X.env) :: starEach [b] X.env) (h2 : starEach [b] X.env = (false, eval b X.env) :: starEach [] X.env)
    (hw : swappedStores [.Tuple [.Name x px, .Name y py] kt pt] (.Tuple [a, b] k2 pt2) X.env = pure (some [x, y]))
    (hs : swapsWithSole [.Tuple [.Name x px, .Name y py] kt pt] (.Tuple [a, b] k2 pt2) pos.line X.env = pure false) :
    SS ca W X (.Assign [.Tuple [.Name x px, .Name y py] kt pt] (.Tuple [a, b] k2 pt2) pos) (sPar i j ma mb) :=
  ps_imp (ps_par hc hN hi hj hij hx hy (pa_cons ha (pa_cons hb pa_nil h2) h1) hw hs) fun D σ H ⟨ρ, φ, S, l, hS, hl, q⟩ =>
    bindS hS hl q fun u S1 ρ1 H1 x1 m1 hS1 e1 rx h1 => bindS hS1 (hl.mono e1) h1 fun u2 S2 ρ2 H2 x2 m2 hS2 e2 ry h2 =>
      ⟨x1, x2, rfl, h2 ρ2 H2 _ hS2 (Ext.refl _ _) ((((hl.mono e1).mono e2).set (rx.mono e2) hf).set ry hf2)⟩
end
end Sim


/-! Sim: a dict walked (locked meanwhile), dicts displayed. -/
namespace Sim
open PySem PySem.Spec L2 PyProof.Rows
/-- the keys of a locked dict -/
def iK (a : ME) : Sl → M Src := fun l S => bnd (a l S) fun x S1 => match x with
  | .ref n => match S1[n]? with
    | some ⟨.dct kvs, true⟩ => some (.ok (fun _ => some (kvs.map fun kv => keyD kv.1)), S1)
    | _ => none
  | _ => none
def unlk (n : Nat) (S : Store) : Option Store := match S[n]? with
  | some ⟨.dct kvs, true⟩ => some (S.set n ⟨.dct kvs, false⟩)
  | _ => none
def relk (n : Nat) (r : OutS) : OutS := match r with
  | some (.nx l, S) => (unlk n S).map fun S' => (.nx l, S')
  | some (.bk l, S) => (unlk n S).map fun S' => (.bk l, S')
  | some (.ct l, S) => (unlk n S).map fun S' => (.ct l, S')
  | some (.rt d, S) => (unlk n S).map fun S' => (.rt d, S')
  | _ => none
/-- for k in d: -/
def sForD (a : ME) (tg : Tg) (body : MS) : MS := fun l S => match a l S with
  | some (.ok (.ref n), _) => match S[n]? with
    | some ⟨.dct kvs, false⟩ => relk n (sFor (iK a) tg body l (S.set n ⟨.dct kvs, true⟩))
    | _ => none
  | _ => none
section
variable {K : PySem.W.Frag} {ca : Nat → Addr} {ρ ρ' φ : List Addr} {S S' : Store} {H H' : Hp}
theorem move_upd {p : Addr} {o : HO} (hp : p ∈ ρ) : Move ρ φ H ρ φ (upd H p o) :=
  ⟨fun q u h n m => ⟨by rw [upd_ne (fun z => n (by rw [z]; exact hp))]; exact h, n, m⟩, fun n a h => h⟩
theorem RelK.move' {κ : Type} (e : Move ρ φ H ρ' φ H') : ∀ {vs : List (κ × V)} {ds : List (κ × D)}, RelK K ρ φ H vs ds → RelK K ρ' φ H' vs ds
  | _, _, .nil => .nil
  | _, _, .cons r rs => .cons (r.move e) (RelK.move' e rs)
theorem RelO.move' (e : Move ρ φ H ρ' φ H') {ho : HO} {so : SO} (h : RelO K ca ρ φ H ho so) : RelO K ca ρ' φ H' ho so := by
  unfold RelO at h ⊢
  split at h
  · exact h.move e
  · exact RelK.move' e h
  · exact ⟨h.1, RelK.move' e h.2⟩
  · exact h.elim
/-- a dict locked or unlocked -/
theorem SR.relock (h : SR K ca ρ φ S H) {n : Nat} {p : Addr} {ks : List (Key × V)} {kvs : List (Key × D)} {k : Bool} {o : HO} (hn : ρ[n]? = some p) (r : RelK K ρ φ H ks kvs) (hk : At (upd H p o) p (.dK ks) k) : SR K ca ρ φ (S.set n ⟨.dct kvs, k⟩) (upd H p o) := by
  have hp : p ∈ ρ := List.mem_of_getElem? hn
  have e : Move ρ φ H ρ φ (upd H p o) := move_upd hp
  refine ⟨h.nd, by rw [List.length_set]; exact h.len, h.dj, fun a ha => ?_, fun m a c' h1 h2 => ?_⟩
  · have hne : a ≠ p := fun z => h.dj a ha (by rw [z]; exact hp)
    rw [upd_ne hne]
    exact h.ph a ha
  by_cases hm : n = m
  · subst hm
    have z : p = a := Option.some.inj (hn.symm.trans h1)
    subst z
    rw [List.getElem?_set_self (by rw [← h.len]; exact (List.getElem?_eq_some_iff.mp hn).1)] at h2
    cases h2
    exact ⟨.dK ks, hk, RelK.move' e r⟩
  · rw [List.getElem?_set_ne hm] at h2
    obtain ⟨ho', q1, q2⟩ := h.ob m a c' h1 h2
    exact ⟨ho', q1.put (fun z => hm (nd_ix' h.nd hn (z ▸ h1))), RelO.move' e q2⟩
theorem dct_at {v : V} {n : Nat} {kvs : List (Key × D)} {k : Bool} (hS : SR K ca ρ φ S H) (hn : ρ[n]? = some p) (h : S[n]? = some ⟨.dct kvs, k⟩) : ∃ ks, At H p (.dK ks) k ∧ RelK K ρ φ H ks kvs := by
  obtain ⟨ho, q1, q2⟩ := hS.obj hn h
  unfold RelO at q2
  split at q2
  · rename_i e; cases e
  · rename_i xs es' e; cases e; exact ⟨_, q1, q2⟩
  · rename_i e; cases e
  · exact q2.elim
end
section
variable {X : Cx} {ca : Nat → Addr} {W : WW} {tg e a b o : Expr} {ma mb : ME} {pos p tpos : Pos} {u : MS}
theorem feeds_keys {ρ φ : List Addr} {H : Hp} {d : Addr} {od : Obj} {ks : List (Key × V)} {kvs : List (Key × D)} (hd : H d = some (.frz od (.dK ks))) (r : RelK X.K ρ φ H ks kvs) : Feeds X.K ca ρ φ H (Itk d od ks) (fun _ => some (kvs.map fun kv => keyD kv.1)) := by
  intro ρ' φ' S' H' ds hS' e' hp hs i
  cases hs
  have hd' := e'.fz _ _ _ hd
  have hl : ks.length = kvs.length := by
    have := congrArg List.length (keys_rel r)
    rw [List.length_map, List.length_map] at this
    exact this
  refine ⟨fun x hx => ?_, fun hx => ⟨hd', by rw [hl]; simpa using List.getElem?_eq_none_iff.mp hx⟩⟩
  have hi : i < kvs.length := by simpa using (List.getElem?_eq_some_iff.mp hx).1
  refine ⟨⟨hd', by rw [hl]; exact hi⟩, fun y H'' hy => ?_⟩
  obtain ⟨rfl, k, v, h1, rfl⟩ := hy
  refine ⟨hS', Ext.refl _ _, ?_⟩
  have h2 : (ks.map (·.1))[i]? = some k := by rw [List.getElem?_map, h1]; rfl
  rw [keys_rel r, List.getElem?_map] at h2
  rw [List.getElem?_map] at hx
  cases e : kvs[i]? with
  | none => rw [e] at hx; cases hx
  | some kv =>
    rw [e] at hx h2
    have e1 := Option.some.inj hx
    have e2 := Option.some.inj h2
    subst e1
    subst e2
    show Rel X.K ρ' φ' H'' (kV kv.1) (keyD kv.1)
    cases kv.1 with
    | inl i => exact .int i
    | inr s => exact .str s
theorem si_keys (h : SE ca W X e ma) : SI ca W X tg e (iK ma) :=
  pi_imp (pi_keys h) fun σ H R ⟨ρ, φ, S, l, hS, hl, q⟩ => bindAt hS hl q fun x S1 ρ1 H1 v m1 hS1 e1 rx h1 => by
    cases rx <;> first | exact h1.elim | skip
    rename_i a n hn
    simp only at h1
    split at h1
    · rename_i kvs hs
      obtain ⟨ks, q1, q2⟩ := dct_at (v := .non) hS1 hn hs
      obtain ⟨od, hd⟩ := (show ∃ od, H1 a = some (.frz od (.dK ks)) from q1)
      exact ⟨a, od, rfl, .inl ⟨ks, hd, AtM.here (b := Itk a od ks) h1 hS1 (feeds_keys hd q2)⟩⟩
    · exact h1.elim
theorem ss_forD {iter : Expr} {body : List Stmt} {g : TG} {tgd : Tg} (hp : PassesOwn (model X.prog X.w) X.A X.env X.xe) (hc : X.calm = true) (hg : TgOk X.K W.x g tgd) (hpg : PG X tg g) (hi : SE ca W X iter ma) (hb : SSs ca W X body u) (hs : ∀ x, foldedSetIterable iter X.env x = pure x) :
    SS ca W X (.For tg iter body [] pos) (sForD ma tgd u) := ps_imp (ps_lock (ss_for hp hc hg hpg (si_keys hi) hb hs)) fun D σ H ⟨ρ, φ, S, l, hS, hl, q⟩ => by
  unfold sForD at q
  split at q
  · rename_i n S0 hm
    split at q
    · rename_i kvs hn
      have hln : n < ρ.length := by rw [hS.len]; exact (List.getElem?_eq_some_iff.mp hn).1
      have hpn : ρ[n]? = some (ρ[n]'hln) := List.getElem?_eq_getElem hln
      generalize ρ[n]'hln = d at hpn
      obtain ⟨ks, q1, q2⟩ := dct_at (v := .non) hS hpn hn
      have hd : H d = some (.dK ks) := q1
      have hdρ : d ∈ ρ := List.mem_of_getElem? hpn
      refine ⟨d, .dK ks, hd, trivial, fun od => ?_⟩
      have hSl : SR X.K ca ρ φ (S.set n ⟨.dct kvs, true⟩) (upd H d (.frz od (.dK ks))) := hS.relock hpn q2 ⟨od, upd_same⟩
      refine ⟨ρ, φ, _, l, hSl, hl.move (move_upd hdρ), ?_⟩
      -- what was locked stands
      have fin : ∀ (ρ' : List Addr) (S2 : Store) (H' : Hp), SR X.K ca ρ' φ S2 H' → Ext ρ (upd H d (.frz od (.dK ks))) ρ' H' → ∀ S3, unlk n S2 = some S3 →
          H' d = some (.frz od (.dK ks)) ∧ SR X.K ca ρ' φ S3 (upd H' d (.dK ks)) ∧ Ext ρ H ρ' (upd H' d (.dK ks)) ∧ Move ρ' φ H' ρ' φ (upd H' d (.dK ks)) := by
        intro ρ' S2 H' hS2 e2 S3 hu
        have hz : H' d = some (.frz od (.dK ks)) := e2.fz _ _ _ upd_same
        have hn' : ρ'[n]? = some d := e2.at hpn
        have hd' : d ∈ ρ' := List.mem_of_getElem? hn'
        refine ⟨hz, ?_, ?_, move_upd hd'⟩
        · unfold unlk at hu
          split at hu
          · rename_i kvs' hs2
            cases hu
            obtain ⟨ks', g1, g2⟩ := dct_at (v := .non) hS2 hn' hs2
            obtain ⟨od', g3⟩ := (show ∃ od, H' d = some (.frz od (.dK ks')) from g1)
            rw [hz] at g3
            cases g3
            exact hS2.relock hn' g2 upd_same
          · cases hu
        · refine ⟨?_, fun b w hb nb => ?_, fun b hb => ?_, fun b w x hb => ?_⟩
          · obtain ⟨t, ht1, ht2⟩ := e2.pre
            refine ⟨t, ht1, fun q hq => ?_⟩
            have := ht2 q hq
            by_cases c : q = d
            · subst c; rw [upd_same] at this; cases this
            · rw [upd_ne c] at this; exact this
          · have c : b ≠ d := fun z => nb (by rw [z]; exact hdρ)
            rw [upd_ne c]
            exact e2.keep b w (by rw [upd_ne c]; exact hb) nb
          · by_cases c : b = d
            · subst c; rw [upd_same]; simp
            · rw [upd_ne c]; exact e2.trk b (by rw [upd_ne c]; exact hb)
          · have c : b ≠ d := fun z => by rw [z, hd] at hb; cases hb
            rw [upd_ne c]
            exact e2.fz b w x (by rw [upd_ne c]; exact hb)
      cases hr : sFor (iK ma) tgd u l (S.set n ⟨.dct kvs, true⟩) with
      | none => rw [hr] at q; exact q.elim
      | some pr =>
        obtain ⟨f, S2⟩ := pr
        rw [hr] at q
        unfold relk at q
        cases f with
        | nx l2 =>
          intro ρ' H' σ' hS2 e2 hl2
          cases hu : unlk n S2 with
          | none => simp only [hu] at q; exact q.elim
          | some S3 =>
            simp only [hu] at q
            obtain ⟨f1, f2, f3, f4⟩ := fin ρ' S2 H' hS2 e2 S3 hu
            exact ⟨f1, q ρ' _ σ' f2 f3 (hl2.move f4)⟩
        | bk l2 =>
          intro ρ' H' σ' hS2 e2 hl2
          cases hu : unlk n S2 with
          | none => simp only [hu] at q; exact q.elim
          | some S3 =>
            simp only [hu] at q
            obtain ⟨f1, f2, f3, f4⟩ := fin ρ' S2 H' hS2 e2 S3 hu
            exact ⟨f1, q ρ' _ σ' f2 f3 (hl2.move f4)⟩
        | ct l2 =>
          intro ρ' H' σ' hS2 e2 hl2
          cases hu : unlk n S2 with
          | none => simp only [hu] at q; exact q.elim
          | some S3 =>
            simp only [hu] at q
            obtain ⟨f1, f2, f3, f4⟩ := fin ρ' S2 H' hS2 e2 S3 hu
            exact ⟨f1, q ρ' _ σ' f2 f3 (hl2.move f4)⟩
        | rt d2 =>
          intro ρ' H' v hS2 e2 rv
          cases hu : unlk n S2 with
          | none => simp only [hu] at q; exact q.elim
          | some S3 =>
            simp only [hu] at q
            obtain ⟨f1, f2, f3, f4⟩ := fin ρ' S2 H' hS2 e2 S3 hu
            exact ⟨f1, q ρ' _ v f2 f3 (rv.move f4)⟩
        | ex x2 l2 => exact q.elim
    · exact q.elim
  · exact q.elim
end
end Sim

/-! Sim: dicts displayed, a module's dict. -/
namespace Sim
open PySem PySem.Spec L2 PyProof.Rows
abbrev MP := Sl → M (List (Key × D))
def pNil : MP := fun _ S => some (.ok [], S)
def pCons (k : Key) (v : ME) (r : MP) : MP := fun l S => bnd (v l S) fun d S1 => bnd (r l S1) fun ps S2 => some (.ok ((k, d) :: ps), S2)
def mergeD (kvs more : List (Key × D)) : List (Key × D) := more.foldl (fun acc kv => putD acc kv.1 kv.2) kvs
def dspK (n : Nat) (ps : List (Key × D)) : M D := fun S2 => match S2[n]? with
  | some ⟨.dct [], false⟩ => if ps.length ≤ 15 then some (.ok (.ref n), S2.set n ⟨.dct (mergeD [] ps), false⟩) else none
  | _ => none
/-- {k: v, ..}: the dict stands empty while its pairs are made -/
def eDct (m : MP) : ME := fun l S => bnd (m l (S ++ [⟨.dct [], false⟩])) (dspK S.length)
def eDct0 : ME := fun _ S => newO (.dct []) S
/-- a dict of the module that nobody changes, its keys and values ints -/
def tabGet (t : List (Int × Int)) (k : Int) : Option Int := (t.find? fun p => p.1 == k).map (·.2)
def fGetK (t : List (Int × Int)) (k d : D) : M D := fun S => match k with
  | .int i => match tabGet t i with
    | some j => some (.ok (.int j), S)
    | none => some (.ok d, S)
  | _ => none
def eGetK (t : List (Int × Int)) (k d : ME) : ME := e2 (fGetK t) k d
def fInK (t : List (Int × Int)) (k : D) : M D := fun S => match k with
  | .int i => some (.ok (.bl (tabGet t i).isSome), S)
  | _ => none
section
variable {ca : Nat → Addr} {X : Cx} {W : WW} {pos p : Pos} {e a b o : Expr} {ma mb mo : ME}
def RP (K : PySem.W.Frag) (ρ φ : List Addr) (H : Hp) (ps : List (V × V)) (kds : List (Key × D)) : Prop := ∃ kvs : List (Key × V), ps = kvs.map (fun kv => (kV kv.1, kv.2)) ∧ RelK K ρ φ H kvs kds
def SP (ca : Nat → Addr) (W : WW) (X : Cx) (pos : Pos) (ks : List (Option Expr)) (vs : List Expr) (m : MP) : Prop := ∃ trs, PPs X pos ks vs trs ∧ ∀ σ H Q, Tm X.K ca W (RP X.K) m σ H Q → tPairs trs σ H Q
theorem sp_nil : SP ca W X pos [] [] pNil := ⟨[], pps_nil, fun σ H Q ⟨ρ, φ, S, l, hS, hl, q⟩ => AtM.here (b := ([] : List (V × V))) q hS ⟨[], rfl, .nil⟩⟩
theorem sp_cons {k v : Expr} {ks : List (Option Expr)} {vs : List Expr} {kk : Key} {mv : ME} {r : MP} (hk : SE ca W X k (eC (keyD kk))) (hv : SE ca W X v mv) (hr : SP ca W X pos ks vs r) : SP ca W X pos (some k :: ks) (v :: vs) (pCons kk mv r) := by
  obtain ⟨trs, h1, h2⟩ := hr
  refine ⟨_, pps_cons hk hv h1, fun σ H Q ⟨ρ, φ, S, l, hS, hl, q⟩ => ?_⟩
  refine ⟨ρ, φ, S, l, hS, hl, fun ρ0 H0 x hS0 e0 rx => ?_⟩
  have q := q.mono e0
  have hl := hl.mono e0
  refine bindAt hS0 hl q fun d S1 ρ1 H1 y m1 hS1 e1 ry q1 => h2 _ _ _ (bindAt hS1 (hl.mono e1) q1 fun ps S2 ρ2 H2 zs m2 hS2 e2 rz q2 => ?_)
  obtain ⟨kvs, rfl, rk⟩ := rz
  have ex : x = kV kk := by
    revert rx
    cases kk with
    | inl i => intro rx; cases rx; rfl
    | inr s => intro rx; cases rx; rfl
  subst ex
  exact AtM.here (b := (kV kk, y) :: kvs.map (fun kv => (kV kv.1, kv.2))) q2 hS2 ⟨(kk, y) :: kvs, rfl, .cons (ry.mono e2) rk⟩
theorem relK_merge {K : PySem.W.Frag} {ρ φ : List Addr} {H : Hp} : ∀ {ws : List (Key × V)} {es : List (Key × D)} {vs : List (Key × V)} {ds : List (Key × D)}, RelK K ρ φ H ws es → RelK K ρ φ H vs ds → RelK K ρ φ H (mergeK vs ws) (mergeD ds es)
  | _, _, _, _, .nil, h => h
  | _, _, _, _, .cons r rs, h => relK_merge (vs := putK _ _ _) (ds := putD _ _ _) rs (relK_put r h)
theorem se_dct0 : SE ca W X (.Dict [] [] pos) eDct0 :=
  pe_imp pe_dnewK fun σ H Q ⟨ρ, φ, S, l, hS, hl, h⟩ => fun p hp => h (ρ ++ [p]) _ (.ref p) (hS.grow hp (so := .dct []) RelK.nil) (Ext.grow hp) (.ref (by rw [hS.len.symm]; simp))
theorem se_dct {ks : List (Option Expr)} {vs : List Expr} {m : MP} (h : SP ca W X pos ks vs m) (hall : ks.all (·.isSome) = true) (hl : ks.length = vs.length) (h0 : ks ≠ []) (h15 : ks.length ≤ 15) : SE ca W X (.Dict ks vs pos) (eDct m) := by
  obtain ⟨trs, h1, h2⟩ := h
  refine pe_imp (pe_disp h1 hall hl h0 h15) fun σ H Q ⟨ρ, φ, S, l, hS, hl, q⟩ => fun p hp => ?_
  have e1 : Ext ρ H (ρ ++ [p]) (upd H p (.dK [])) := Ext.grow hp
  have hS1 : SR X.K ca (ρ ++ [p]) φ (S ++ [⟨.dct [], false⟩]) (upd H p (.dK [])) := hS.grow hp (so := .dct []) RelK.nil
  have hpn : (ρ ++ [p])[S.length]? = some p := by rw [← hS.len]; simp
  refine h2 _ _ _ (bindAt hS1 (hl.mono e1) (q.mono e1) fun ps S2 ρ2 H2 zs m2 hS2 e2 rz q2 => ?_)
  unfold dspK at q2
  split at q2
  · rename_i hs2
    split at q2
    · rename_i hz
      have hn2 := e2.at hpn
      obtain ⟨ks', g1, g2⟩ := dct_at (v := .non) hS2 hn2 hs2
      cases g2
      have hd : H2 p = some (.dK []) := g1
      obtain ⟨kvs, rfl, rk⟩ := rz
      have hlen : kvs.length = ps.length := by
        have := congrArg List.length (keys_rel rk)
        rw [List.length_map, List.length_map] at this
        exact this
      have e3 : Ext ρ2 H2 ρ2 (upd H2 p (.dK (mergeK [] kvs))) := Ext.put (List.mem_of_getElem? hn2) (hS2.trk (List.mem_of_getElem? hn2)) (nofz_dK hd)
      exact ⟨hd, kvs, rfl, by omega, q2 ρ2 _ _ (hS2.put (c := ⟨.dct [], false⟩) hn2 (nofz_dK hd) (relK_merge (rk.mono e3) .nil)) e3 (.ref (e3.at hn2))⟩
    · exact q2.elim
  · exact q2.elim
end
/-! ### a module's dict -/
/-- the module's dict at d holds the table t -/
structure KTab (K : PySem.W.Frag) (mg : Str → Option Value) (x : Str) (t : List (Int × Int)) : Prop where
  ex : ∃ (d : Addr) (es : Array DictEntry) (n : Nat), mg x = some (.ref d) ∧ K.lookup d = some ⟨.type "dict", none, .dict es n, #[]⟩ ∧ (d == sysModules) = false ∧
    (∀ q ∈ es.toList, ∃ (i : Int) (tk : Tok), q.key = .int i tk ∧ q.hash = hashInt i) ∧
    ∀ k : Int, (tabGet t k = none ∧ findBy keyIs es (.inl k) = none) ∨ ∃ (j : Int) (tk : Tok), tabGet t k = some j ∧ findBy keyIs es (.inl k) = some (.int j tk)
section
variable {X : Cx}
theorem ktab_map {w : World} {P : Program} {h : Heap} {K : PySem.W.Frag} {d : Addr} {es : Array DictEntry} {n : Nat} (I : K.In h) (hl : K.lookup d = some ⟨.type "dict", none, .dict es n, #[]⟩) (hk : ∀ q ∈ es.toList, ∃ (i : Int) (tk : Tok), q.key = .int i tk ∧ q.hash = hashInt i) :
    h.MapOf (mixKind P w) d (fun k => findBy keyIs es k) :=
  ⟨_, es, n, I _ _ hl, ⟨rfl, rfl, rfl⟩, rfl, fun q hq => by
    obtain ⟨i, tk, e1, e2⟩ := hk q (Array.mem_toList_iff.mpr hq)
    exact ⟨.inl i, by rw [e1]; exact keyIs_int i tk, e2⟩, fun _ => rfl⟩
/-- k in the module's dict -/
theorem op_inK {d : Addr} {es : Array DictEntry} {n : Nat} {t : List (Int × Int)} (hl : X.K.lookup d = some ⟨.type "dict", none, .dict es n, #[]⟩) (lo : (d == sysModules) = false) (hk : ∀ q ∈ es.toList, ∃ (i : Int) (tk : Tok), q.key = .int i tk ∧ q.hash = hashInt i)
    (ht : ∀ k : Int, (tabGet t k = none ∧ findBy keyIs es (.inl k) = none) ∨ ∃ (j : Int) (tk : Tok), tabGet t k = some j ∧ findBy keyIs es (.inl k) = some (.int j tk)) :
    OpR X (compareOp .In) (fun x y H Q => ∃ i, x = .int i ∧ y = .ref d ∧ Q (.bl (tabGet t i).isSome) H) := fun pins s σ H x y v u Q I rx ry ⟨i, ex, ey, q⟩ => by
  subst ex ey
  obtain ⟨tk, rfl⟩ := rx
  cases ry
  have z : (findBy keyIs es (.inl i)).isSome = (tabGet t i).isSome := by
    rcases ht i with ⟨h1, h2⟩ | ⟨j, tj, h1, h2⟩ <;> rw [h1, h2] <;> rfl
  have hk1 : (mixKind X.prog X.w).is (.inl i) (.int i tk) = true := keyIs_int i tk
  exact wpAny_in_of (knd := mixKind X.prog X.w) hk1 lo (ktab_map I.kIn hl hk) (by rw [z]; exact ⟨.bl (tabGet t i).isSome, H, I.tok _, rfl, q⟩)
def tGetK (t : List (Int × Int)) (ty tx : TE) : TE := fun σ H Q => ty σ H fun y H2 => tx σ H2 fun z H3 => ∃ i, y = .int i ∧ Q ((tabGet t i).elim z V.int) H3
theorem pe_getK {o e f : Expr} {apos cpos : Pos} {ty tx : TE} {d : Addr} {es : Array DictEntry} {n : Nat} {t : List (Int × Int)} (hl : X.K.lookup d = some ⟨.type "dict", none, .dict es n, #[]⟩) (lo : (d == sysModules) = false) (hk : ∀ q ∈ es.toList, ∃ (i : Int) (tk : Tok), q.key = .int i tk ∧ q.hash = hashInt i)
    (ht : ∀ k : Int, (tabGet t k = none ∧ findBy keyIs es (.inl k) = none) ∨ ∃ (j : Int) (tk : Tok), tabGet t k = some j ∧ findBy keyIs es (.inl k) = some (.int j tk))
    (ho : PE X o (tC (.ref d))) (he : PE X e ty) (hf : PE X f tx) (m : M2 X o "get" apos e f cpos) : PE X (.Call (.Attribute o "get" apos) [e, f] [] cpos) (tGetK t ty tx) := ⟨fun pins s σ H Q I h => by
  refine wpAny_Call_method m.base m.few m.line PySem.F.plainAttrs_dict PySem.F.slot_dict_get PySem.F.type_dict_get (thn (ho.run pins s σ H (fun x H1 => x = .ref d ∧ tGetK t ty tx σ H1 Q) I ⟨rfl, h⟩) fun u s1 ⟨x, H1, I1, rx, ex, q1⟩ => ?_)
  subst ex
  cases (show u = Value.ref d from rx)
  have M := ktab_map (P := X.prog) (w := X.w) I1.kIn hl hk
  refine ⟨M.typeIs, M.noDict, ?_⟩
  rw [m.trees]
  refine Calls.callWith_builtin rfl (Calls.evalArgs_plain (Calls.spliced_cons (thn (he.run pins s1 σ H1 _ I1 q1) fun iv s2 ⟨y, H2, I2, ry, q2⟩ => Calls.spliced_cons (thn (hf.run pins s2 σ H2 _ I2 q2) fun fv s3 ⟨z, H3, I3, rz, i, ey, q3⟩ => Calls.spliced_nil ?_))))
  subst ey
  obtain ⟨tk, rfl⟩ := ry
  have M3 := ktab_map (P := X.prog) (w := X.w) I3.kIn hl hk
  have hk1 : (mixKind X.prog X.w).is (.inl i) (.int i tk) = true := keyIs_int i tk
  refine call_meetsIn PySem.F.slot_dict_get M3.typeIs PySem.F.entry_dict_get (PySem.F.args_dict_get_3 _ _ _) (meets_dict_get_default (mixKind X.prog X.w) d hk1 lo fv) ⟨_, M3, ?_⟩
  refine ⟨_, H3, I3.tok _, ?_, q3⟩
  rcases ht i with ⟨h1, h2⟩ | ⟨j, tj, h1, h2⟩
  · rw [h1, h2]; exact rz
  · rw [h1, h2]; exact ⟨tj, rfl⟩⟩
end
section
variable {ca : Nat → Addr} {X : Cx} {W : WW} {pos p : Pos} {e a b o f : Expr} {ma mb mo : ME}
theorem inK_run {t : List (Int × Int)} {d : Addr} {σ : L2.St} {H : Hp} {Q : VK} (h : Tm X.K ca W (Rel X.K) (e1 (fInK t) ma) σ H Q) : tOp (fun x y H Q => ∃ i, x = .int i ∧ y = .ref d ∧ Q (.bl (tabGet t i).isSome) H) (Tm X.K ca W (Rel X.K) ma) (tC (.ref d)) σ H Q := by
  obtain ⟨ρ, φ, S, l, hS, hl, q⟩ := h
  exact bindAt hS hl q fun x1 S1 ρ1 H1 v m1 hS1 e1 rx q1 => by
    unfold fInK at q1
    cases rx <;> first | exact q1.elim | skip
    exact ⟨_, rfl, rfl, AtM.here q1 hS1 (.bl _)⟩
theorem se_inK {x : Str} {t : List (Int × Int)} (T : KTab X.K X.mg x t) (hg : Gl X x) (hdb : (x == ("__debug__" : Str)) = false) (ha : SE ca W X a ma) : SE ca W X (.Compare a [.In] [.Name x p] pos) (e1 (fInK t) ma) := by
  obtain ⟨d, es, n, h1, h2, h3, h4, h5⟩ := T.ex
  exact pe_imp (pe_cmpR (op_inK h2 h3 h4 h5) ha (pe_glob (v := .ref d) hg h1 (show Value.ref d = Value.ref d from rfl) hdb) rfl) fun σ H Q h => inK_run h
theorem st_inK {x : Str} {t : List (Int × Int)} (T : KTab X.K X.mg x t) (hg : Gl X x) (hdb : (x == ("__debug__" : Str)) = false) (ha : SE ca W X a ma) : ST ca W X (.Compare a [.In] [.Name x p] pos) (tOf (e1 (fInK t) ma)) := by
  obtain ⟨d, es, n, h1, h2, h3, h4, h5⟩ := T.ex
  exact st_of (fun _ _ _ h => inK_run h) (pt_cmpR (op_inK h2 h3 h4 h5) ha (pe_glob (v := .ref d) hg h1 (show Value.ref d = Value.ref d from rfl) hdb) rfl)
theorem se_getK {x : Str} {t : List (Int × Int)} {apos : Pos} (T : KTab X.K X.mg x t) (hg : Gl X x) (hdb : (x == ("__debug__" : Str)) = false) (ha : SE ca W X e ma) (hf : SE ca W X f mb) (m : M2 X (.Name x p) "get" apos e f pos) : SE ca W X (.Call (.Attribute (.Name x p) "get" apos) [e, f] [] pos) (eGetK t ma mb) := by
  obtain ⟨d, es, n, h1, h2, h3, h4, h5⟩ := T.ex
  exact pe_imp (pe_getK h2 h3 h4 h5 (pe_glob (v := .ref d) hg h1 (show Value.ref d = Value.ref d from rfl) hdb) ha hf m) fun σ H Q ⟨ρ, φ, S, l, hS, hl, q⟩ => bindAt hS hl q fun x1 S1 ρ1 H1 v m1 hS1 e1 rx q1 => bindAt hS1 (hl.mono e1) q1 fun x2 S2 ρ2 H2 w m2 hS2 e2 ry q2 => by
    unfold fGetK at q2
    cases rx <;> first | exact q2.elim | skip
    rename_i i
    simp only at q2
    cases ht : tabGet t i with
    | none => rw [ht] at q2; exact ⟨i, rfl, by rw [ht]; exact AtM.here q2 hS2 ry⟩
    | some j => rw [ht] at q2; exact ⟨i, rfl, by rw [ht]; exact AtM.here q2 hS2 (.int _)⟩
end
/-! ### an error class whose __init__ keeps its argument: what the text says -/
structure ExI (K : PySem.W.Frag) (mg : Str → Option Value) (ca : Nat → Addr) (c : Nat) (x qual : Str) (st : Stmt) : Prop where
  T : OexC K (ca c)
  g : mg x = some (.ref (ca c))
  no : PySem.W.findIn K (.ref (ca c)) "why" = some none
  ex : ∃ (fI : Addr) (fd : FuncData), Fun K "__init__" qual st fI fd ∧ PySem.W.findIn K (.ref (ca c)) "__init__" = some (some (.ref fI)) ∧ PySem.W.typeIn K (.ref fI) = some (.type "function") ∧ Binds K fd ["self", "why"] []
theorem exN_of {P : Program} {w : World} {K : PySem.W.Frag} {mg : Str → Option Value} {base : Heap} {ca : Nat → Addr} {c : Nat} {x qual : Str} {st : Stmt} {q1 q2 q3 q4 : Pos} (E : ExI K mg ca c x qual st) (S : FnScope ["self", "why"] ["self", "why"] (defScope st))
    (hb : defBody st = [.Assign [.Attribute (.Name "self" q1) "why" q2] (.Name "why" q3) q4]) (v0 : (defScope st).names.lookup ("self" : Str) = some .local) (v1 : (defScope st).names.lookup ("why" : Str) = some .local) : ExN P w K mg base ca 1 c x "why" := by
  obtain ⟨fI, fd, F, h1, h2, hbd⟩ := E.ex
  refine ⟨E.T, E.g, fI, fd, ["self", "why"], h1, h2, ?_, hbd⟩
  refine F.okX S (fun vs H Q E' h => ?_) (fun cdv A outer s H vs Q E' hr h => ⟨_, by rw [hb]; exact pss_one (ps_ost (pe_var (i := 0) rfl (Or.inl v0) (by decide) (by decide)) (pe_var (i := 1) rfl (Or.inl v1) (by decide) (by decide))), ?_⟩)
  · obtain ⟨a, v, rfl, _⟩ := h
    rfl
  · obtain ⟨a, v, rfl, h3, h4⟩ := h
    exact ⟨v, rfl, .ref a, rfl, a, ca c, rfl, E.T, E.no, .inl ⟨h3, fun dx n1 n2 => h4 dx n1 n2⟩⟩
/-- a module's dict of four entries -/
theorem ktab4 {K : PySem.W.Frag} {h : Heap} {mg : Str → Option Value} {x : Str} {D n : Nat} {a b c d p q r s : Int} {t1 t2 t3 t4 u1 u2 u3 u4 : Tok} (g : mg x = some (.ref D))
    (l : K.lookup D = some ⟨.type "dict", none, .dict #[⟨a, .int a t1, .int p u1⟩, ⟨b, .int b t2, .int q u2⟩, ⟨c, .int c t3, .int r u3⟩, ⟨d, .int d t4, .int s u4⟩] n, #[]⟩) (lo : (D == sysModules) = false)
    (h1 : hashInt a = a) (h2 : hashInt b = b) (h3 : hashInt c = c) (h4 : hashInt d = d) : KTab K mg x [(a, p), (b, q), (c, r), (d, s)] := by
  refine ⟨D, _, n, g, l, lo, fun e he => ?_, fun k => ?_⟩
  · simp only [List.mem_cons, List.not_mem_nil, or_false] at he
    rcases he with rfl | rfl | rfl | rfl
    · exact ⟨a, t1, rfl, h1.symm⟩
    · exact ⟨b, t2, rfl, h2.symm⟩
    · exact ⟨c, t3, rfl, h3.symm⟩
    · exact ⟨d, t4, rfl, h4.symm⟩
  · unfold tabGet findBy
    rw [List.find?_toArray]
    simp only [List.find?_cons, List.find?_nil, keyIs, Value.isInt]
    by_cases e1 : a = k
    · have z1 : (a == k) = true := beq_iff_eq.mpr e1
      simp [z1]
    · have z1 : (a == k) = false := beq_eq_false_iff_ne.mpr e1
      by_cases e2 : b = k
      · have z2 : (b == k) = true := beq_iff_eq.mpr e2
        simp [z1, z2]
      · have z2 : (b == k) = false := beq_eq_false_iff_ne.mpr e2
        by_cases e3 : c = k
        · have z3 : (c == k) = true := beq_iff_eq.mpr e3
          simp [z1, z2, z3]
        · have z3 : (c == k) = false := beq_eq_false_iff_ne.mpr e3
          by_cases e4 : d = k
          · have z4 : (d == k) = true := beq_iff_eq.mpr e4
            simp [z1, z2, z3, z4]
          · have z4 : (d == k) = false := beq_eq_false_iff_ne.mpr e4
            simp [z1, z2, z3, z4]
/-! ### room within an except's suite -/
theorem hux0 {k : Nat} {A A' : Around} (r : Room k A) (h : A'.units = A.units := by rfl) : A'.units < cLine := by rw [h]; exact hu0 r
theorem hux1 {k : Nat} {A A' : Around} (r : Room k A) (h : A'.units = A.units := by rfl) : A'.units + 1 < cLine := by rw [h]; exact hu1 r
theorem hux64 {k : Nat} {A A' : Around} (r : Room k A) (h : A'.units = A.units := by rfl) : A'.units + 64 < cLine := by rw [h]; exact hu64 r
theorem hux65 {k : Nat} {A A' : Around} (r : Room k A) (h : A'.units = A.units := by rfl) : A'.units + 65 < cLine := by rw [h]; exact hu65 r
end Sim

/-! Sim: a text times a number; isinstance of a caught error, with fields or without. -/
namespace Sim
open PySem PySem.Spec L2 PyProof.Rows
def fMulS (a b : D) : M D := fun S => match a, b with
  | .str z, .int k => if z.length ≤ 64 ∧ 0 ≤ k ∧ k ≤ 1000 then some (.ok (.str (Txt.mul z k)), S) else none
  | _, _ => none
section
variable {X : Cx} {ca : Nat → Addr} {W : WW} {a b : Expr} {ma mb : ME} {pos : Pos}
def rMulS : R2 := fun x y H Q => ∃ (z : Str) (k : Int), x = .str z ∧ y = .int k ∧ z.length ≤ 64 ∧ 0 ≤ k ∧ k ≤ 1000 ∧ Q (.str (Txt.mul z k)) H
theorem op_mulStr : OpR X (binaryOp .Mult) rMulS := by
  intro pins s σ H x y v u Q I rx ry h
  obtain ⟨z, k, rfl, rfl, h1, h2, h3, q⟩ := h
  obtain ⟨t, rfl⟩ := rx
  obtain ⟨t2, rfl⟩ := ry
  exact SB.mul (mulOk_of 64 1000 h1 h3 (by omega) (by decide) (by decide)) fun t' k' => ⟨.str (Txt.mul z k), H, I.kept (t' := k') fun _ _ z => z, ⟨t', rfl⟩, q⟩
theorem mulS_S : OpS X.K ca rMulS fMulS := by
  intro W ρ φ S H σ x y a b Q hS rx ry h
  unfold fMulS at h
  split at h
  · cases rx; cases ry
    split at h
    · rename_i hc
      exact ⟨_, _, rfl, rfl, hc.1, hc.2.1, hc.2.2, AtM.here h hS (.str _)⟩
    · exact h.elim
  · exact h.elim
theorem se_mulS (ha : SE ca W X a ma) (hb : SE ca W X b mb) : SE ca W X (.BinOp a .Mult b pos) (e2 fMulS ma mb) := se_bin op_mulStr mulS_S ha hb
end
/-! ### isinstance -/
def rIsED (K : PySem.W.Frag) (D a dd : Addr) : List V → Hp → VK → Prop := fun xs H Q => ∃ (c : V) (cv : Value) (b : Bool) (fs : List (Str × V)), xs = [.ref a, c] ∧ (∀ u, RelV c u → u = cv) ∧ PySem.W.kitOne K (.ref D) cv = some b ∧ H dd = some (.xd fs) ∧ Q (.bl b) H
theorem call_isED {X : Cx} {a D dd : Addr} {oe : Obj} {pn : List (Addr × Obj)} (C : ExcC X.K D) (hz : Zc (.ref D) (some dd) oe) (hf : ∃ vs, oe.data = .fields vs) : CallR (X.suite a ((a, oe) :: pn)) (.builtin "isinstance") (rIsED X.K D a dd) := by
  intro pins s σ H xs us Q I r h
  obtain ⟨c, cv, b, fs, rfl, hcv, e, ea, q⟩ := h
  cases r with
  | cons rx rr =>
    cases rr with
    | cons rt rr =>
      cases rr
      cases rx
      have ec := hcv _ rt
      subst ec
      obtain ⟨hget, _⟩ := I.pin (a, oe) (List.mem_append.mpr (.inl List.mem_cons_self))
      obtain ⟨vs, hv⟩ := hf
      have hx : ObjOk X.prog X.w H s.heap dd (.xd fs) := I.hok dd _ ea
      obtain ⟨mA, hns, hr⟩ := hx
      obtain ⟨od, ho, hl⟩ := lookIn_ns hns
      have J : PySem.W.InstAt s.heap a oe D (some od) := ⟨hget, hz.1, by unfold PySem.W.notCls; rw [hv] <;> rfl, by rw [hz.2]; exact ho⟩
      have hcl : (PySem.W.clsIn X.K D).isSome = true := by
        obtain ⟨cd, hc, _⟩ := PySem.W.any_some C.hd
        rw [hc]; rfl
      exact PySem.W.kia_one (PySem.W.kitx_exc hcl C.hg C.hk C.hs C.ha C.hn C.ht C.hm) I.kIn J e (fun z => nomatch z) fun tk => ⟨.bl b, H, I.kept (t' := tk) fun _ _ z => z, rfl, q⟩
/-- isinstance of the error that a suite holds -/
def eIsE2 (tab : Nat → Option Bool) (x : Exn) : ME := fun _ S => match tab x.c with
  | some b => some (.ok (.bl b), S)
  | none => none
section
variable {ca : Nat → Addr} {X : Cx} {pos : Pos}
theorem se_isE2 {aa : Addr} {oe : Obj} {cls : Value} {d : Option Addr} {pn : List (Addr × Obj)} {n : Str} {i : Nat} {xn : Exn} {tab : Nat → Option Bool} {v : V} {cv : Value} {te : Expr} {p1 px : Pos} (hz : Zc cls d oe) (hf : ∃ vs, oe.data = .fields vs) (hcls : cls = .ref (ca xn.c))
    (hX : ∀ c b, tab c = some b → ExcC X.K (ca c) ∧ PySem.W.kitOne X.K (.ref (ca c)) cv = some b) (hC : PE (X.suite aa ((aa, oe) :: pn)) te (tC v)) (hcv : ∀ u, RelV v u → u = cv)
    (hN : X.N[i]? = some n) (hv : Vis X.env.scope n) (hd : (n == ("__debug__" : Str)) = false) (hcd : (n == ("__classdict__" : Str)) = false) (hm : X.mg "isinstance" = none) (hg : Gl X "isinstance")
    (T1 : CallT X (.Name n px) [te] pos) (T2 : CallT X te [] pos) :
    SE ca (W0 (some ⟨i, aa, d, xn.fs⟩)) (X.suite aa ((aa, oe) :: pn)) (.Call (.Name "isinstance" p1) [.Name n px, te] [] pos) (eIsE2 tab xn) := by
  cases ht : tab xn.c with
  | none => exact ⟨fun pins s σ H Q I h => by
      obtain ⟨ρ, φ, S, l, hS, hl, q⟩ := h
      unfold eIsE2 at q
      rw [ht] at q
      exact q.elim⟩
  | some b =>
    subst hcls
    obtain ⟨hE, hK⟩ := hX _ _ ht
    have hp : PA (X.suite aa ((aa, oe) :: pn)) [.Name n px, te] (tCons (tVar i) (tCons (tC v) tNil)) := pa_cons (pe_var (X := X.suite aa ((aa, oe) :: pn)) hN hv hd hcd) (pa_cons hC pa_nil T2.he) T1.he
    cases d with
    | none =>
      refine pe_imp (pe_callB (call_isE hE hz hf) hg hm bt_isinstance hp (by decide) (by decide) T1.he T1.hpl) fun σ H Q ⟨ρ, φ, S, l, hS, hl, q⟩ => ?_
      obtain ⟨g1, g2⟩ := hl.er _ rfl
      refine ⟨.ref aa, g1, ?_⟩
      refine ⟨v, cv, b, rfl, hcv, hK, ?_⟩
      unfold eIsE2 at q
      rw [ht] at q
      exact AtM.here q hS (.bl _)
    | some dd =>
      refine pe_imp (pe_callB (call_isED hE hz hf) hg hm bt_isinstance hp (by decide) (by decide) T1.he T1.hpl) fun σ H Q ⟨ρ, φ, S, l, hS, hl, q⟩ => ?_
      obtain ⟨g1, g2⟩ := hl.er _ rfl
      refine ⟨.ref aa, g1, ?_⟩
      unfold eIsE2 at q
      rw [ht] at q
      cases hfs : xn.fs with
      | none =>
        simp only [hfs] at g2
        cases (show some dd = none from g2)
      | some gs =>
        simp only [hfs] at g2
        obtain ⟨dd', hs, k1, k2, _⟩ := g2
        cases k1
        exact ⟨v, cv, b, hs, rfl, hcv, hK, k2, AtM.here q hS (.bl _)⟩
end
end Sim

namespace Law
open PySem L2 Sim
def tab_NoDeed (c : Nat) : Option Bool := if c = 1 then some true else if c = 2 then some false else none
def tab_BadHead (c : Nat) : Option Bool := if c = 1 then some false else if c = 2 then some true else none
def catch_LineError (c : Nat) : Option Bool := if c = 1 then some true else if c = 2 then some true else none
def catch_BadHead (c : Nat) : Option Bool := if c = 1 then some false else if c = 2 then some true else none
def c_SIGNS : Str := " !\"#$&'()*+,-./0123456789:;<=>?@ABCDEFGHIJKLMNOPQRSTUVWXYZ[\\]^_`abcdefghijklmnopqrstuvwxyz{|}~"
def t_SIZES : List (Int × Int) := [(3, 2), (4, 1), (5, 1), (6, 1)]
/-- Frame.__init__ -/
def b_Frame_init : MS :=
  sSeq (sFld 3 (eVar 0) "kind" (eVar 1))
  (sSeq (sFld 3 (eVar 0) "flag" (eVar 2))
  (sSeq (sFld 3 (eVar 0) "talk" (eVar 3))
  (sFld 3 (eVar 0) "numbers" (eA (a1 fList) (aCons (eVar 4) (aNil))))))
def m_Frame_init : List D → M D := fnM 5 5 b_Frame_init
/-- framed -/
def b_framed : MS :=
  sRet (e2 fAdd (eLst (aCons (eA (a1 fLen) (aCons (eVar 3) (aNil))) (aCons (eVar 0) (aCons (eVar 1) (aCons (eVar 2) (aNil)))))) (eA (a1 fList) (aCons (eVar 3) (aNil))))
def m_framed : List D → M D := fnM 4 4 b_framed
/-- Cutter.__init__ -/
def b_Cutter_init : MS :=
  sFld 4 (eVar 0) "held" (eLst (aNil))
def m_Cutter_init : List D → M D := fnM 1 1 b_Cutter_init
/-- Cutter.fed -/
def b_Cutter_fed : MS :=
  sSeq (sFld 4 (eVar 0) "held" (e2 fAdd (e1 (fFld 4 "held") (eVar 0)) (eA (a1 fList) (aCons (eVar 1) (aNil)))))
  (sSeq (sSet 2 (eLstR (aNil)))
  (sSeq (sSet 3 (eC (.int 0)))
  (sSeq (sWhile (tAnd (tOf (e2 fLe (e2 fAdd (eVar 3) (eC (.int 4))) (eA (a1 fLen) (aCons (e1 (fFld 4 "held") (eVar 0)) (aNil))))) (tOf (e2 fLe (e2 fAdd (e2 fAdd (eVar 3) (eC (.int 4))) (e2 fIx (e1 (fFld 4 "held") (eVar 0)) (eVar 3))) (eA (a1 fLen) (aCons (e1 (fFld 4 "held") (eVar 0)) (aNil)))))) (sSeq (sSet 4 (e2 fAdd (e2 fAdd (eVar 3) (eC (.int 4))) (e2 fIx (e1 (fFld 4 "held") (eVar 0)) (eVar 3))))
  (sSeq (sDrop (eBM isL (m1 fAppend) (eVar 2) (aCons (eA (fMake 3 (fun ds => noErr (m_Frame_init ds))) (aCons (e2 fIx (e1 (fFld 4 "held") (eVar 0)) (e2 fAdd (eVar 3) (eC (.int 1)))) (aCons (e2 fIx (e1 (fFld 4 "held") (eVar 0)) (e2 fAdd (eVar 3) (eC (.int 2)))) (aCons (e2 fIx (e1 (fFld 4 "held") (eVar 0)) (e2 fAdd (eVar 3) (eC (.int 3)))) (aCons (eSl (e1 (fFld 4 "held") (eVar 0)) (oSo (e2 fAdd (eVar 3) (eC (.int 4)))) (oSo (eVar 4))) (aNil)))))) (aNil))))
  (sSet 3 (eVar 4)))))
  (sSeq (sFld 4 (eVar 0) "held" (eSl (e1 (fFld 4 "held") (eVar 0)) (oSo (eVar 3)) oNo))
  (sRet (eVar 2))))))
def m_Cutter_fed : List D → M D := fnM 5 2 b_Cutter_fed
/-- text_numbers -/
def b_text_numbers : MS :=
  sRet (e2 fAdd (eLst (aCons (eA (a1 fLen) (aCons (eVar 0) (aNil))) (aNil))) (eComp [1] (iS (eVar 0)) (.one 1) (tYes') (eIndex (eC (.str c_SIGNS)) (aCons (eVar 1) (aNil)))))
def m_text_numbers : List D → M D := fnM 2 1 b_text_numbers
/-- text_at -/
def b_text_at : MS :=
  sSeq (sIf (tOr (tOf (e2 fGe (eVar 1) (eA (a1 fLen) (aCons (eVar 0) (aNil))))) (tOr (tOf (e2 fGt (e2 fIx (eVar 0) (eVar 1)) (eC (.int 20)))) (tOf (e2 fGt (e2 fAdd (e2 fAdd (eVar 1) (eC (.int 1))) (e2 fIx (eVar 0) (eVar 1))) (eA (a1 fLen) (aCons (eVar 0) (aNil))))))) (sRaiseB 2) (sNext))
  (sSeq (sSet 2 (e2 fAdd (e2 fAdd (eVar 1) (eC (.int 1))) (e2 fIx (eVar 0) (eVar 1))))
  (sSeq (sSet 3 (eC (.str "")))
  (sSeq (sFor (iL (eSl (eVar 0) (oSo (e2 fAdd (eVar 1) (eC (.int 1)))) (oSo (eVar 2)))) (.one 4) (sSeq (sIf (tOf (e2 fGe (eVar 4) (eA (a1 fLen) (aCons (eC (.str c_SIGNS)) (aNil))))) (sRaiseB 2) (sNext))
  (sSet 3 (e2 fAdd (eVar 3) (e2 fIx (eC (.str c_SIGNS)) (eVar 4))))))
  (sRet (eTup (aCons (eVar 3) (aCons (eVar 2) (aNil))))))))
def m_text_at : List D → M D := fnM 5 2 b_text_at
/-- is_head -/
def b_is_head : MS :=
  sSeq (sIf (tOf (e2 fGt (eA (a1 fLen) (aCons (eVar 0) (aNil))) (eC (.int 6)))) (sRet (eC (.bl false))) (sNext))
  (sSeq (sFor (iL (eVar 0)) (.one 1) (sSeq (sIf (tOr (tNot (tOf (eChain fLe fLe (eC (.int 1)) (eA (a1 fLen) (aCons (e2 fIx (eVar 1) (eC (.int 0))) (aNil))) (eC (.int 8))))) (tOf (e2 fGt (eA (a1 fLen) (aCons (e2 fIx (eVar 1) (eC (.int 1))) (aNil))) (eC (.int 20))))) (sRet (eC (.bl false))) (sNext))
  (sFor (iS (e2 fAdd (e2 fIx (eVar 1) (eC (.int 0))) (e2 fIx (eVar 1) (eC (.int 1))))) (.one 2) (sIf (tOf (e2 fNotIn (eVar 2) (eC (.str c_SIGNS)))) (sRet (eC (.bl false))) (sNext)))))
  (sRet (eC (.bl true))))
def m_is_head : List D → M D := fnM 3 1 b_is_head
/-- Shelf.place_of -/
def b_Shelf_place_of : MS :=
  sSeq (sFor (iEn (e1 (fFld 5 "pairs") (eVar 0))) (.many [2, 3]) (sIf (tOf (e2 fEq (eVar 3) (eVar 1))) (sRet (eVar 2)) (sNext)))
  (sRet (e1 fNeg (eC (.int 1))))
def m_Shelf_place_of : List D → M D := fnM 4 2 b_Shelf_place_of
/-- Shelf.place_named -/
def b_Shelf_place_named : MS :=
  sSeq (sFor (iEn (e1 (fFld 5 "pairs") (eVar 0))) (.many [2, 3]) (sIf (tOf (e2 fEq (e2 fIx (eVar 3) (eC (.int 0))) (eVar 1))) (sRet (eVar 2)) (sNext)))
  (sRet (e1 fNeg (eC (.int 1))))
def m_Shelf_place_named : List D → M D := fnM 4 2 b_Shelf_place_named
/-- weight_of -/
def b_weight_of : MS :=
  sRet (e2 fAdd (e2 fAdd (eA (a1 fLen) (aCons (e2 fIx (eVar 0) (eC (.int 0))) (aNil))) (eA (a1 fLen) (aCons (e2 fIx (eVar 0) (eC (.int 1))) (aNil)))) (eC (.int 4)))
def m_weight_of : List D → M D := fnM 1 1 b_weight_of
/-- Shelf.put -/
def b_Shelf_put : MS :=
  sSeq (sFld 5 (eVar 0) "pairs" (e2 fAdd (eLst (aCons (eVar 1) (aNil))) (e1 (fFld 5 "pairs") (eVar 0))))
  (sWhile (tOf (e2 fGt (eA (a1 fSum) (aCons (eComp [2] (iL (e1 (fFld 5 "pairs") (eVar 0))) (.one 2) (tYes') (eA m_weight_of (aCons (eVar 2) (aNil)))) (aNil))) (eC (.int 96)))) (sFld 5 (eVar 0) "pairs" (eSl (e1 (fFld 5 "pairs") (eVar 0)) oNo (oSo (e1 fNeg (eC (.int 1)))))))
def m_Shelf_put : List D → M D := fnM 3 2 b_Shelf_put
/-- told_head -/
def b_told_head : MS :=
  sSeq (sSet 2 (eLst (aNil)))
  (sSeq (sFor (iL (eVar 1)) (.one 3) (sSeq (sSet 4 (eMeth 5 "place_of" m_Shelf_place_of (eVar 0) (aCons (eVar 3) (aNil))))
  (sSeq (sSet 5 (eMeth 5 "place_named" m_Shelf_place_named (eVar 0) (aCons (e2 fIx (eVar 3) (eC (.int 0))) (aNil))))
  (sSeq (sIf (tOf (e2 fGe (eVar 4) (eC (.int 0)))) (sSet 2 (e2 fAdd (eVar 2) (eLst (aCons (eC (.int 0)) (aCons (eVar 4) (aNil)))))) (sIf (tOf (e2 fGe (eVar 5) (eC (.int 0)))) (sSet 2 (e2 fAdd (e2 fAdd (eVar 2) (eLst (aCons (eC (.int 1)) (aCons (eVar 5) (aNil))))) (eA m_text_numbers (aCons (e2 fIx (eVar 3) (eC (.int 1))) (aNil))))) (sSet 2 (e2 fAdd (e2 fAdd (e2 fAdd (eVar 2) (eLst (aCons (eC (.int 2)) (aNil)))) (eA m_text_numbers (aCons (e2 fIx (eVar 3) (eC (.int 0))) (aNil)))) (eA m_text_numbers (aCons (e2 fIx (eVar 3) (eC (.int 1))) (aNil)))))))
  (sIf (tOf (e2 fLt (eVar 4) (eC (.int 0)))) (sDrop (eMeth 5 "put" m_Shelf_put (eVar 0) (aCons (eVar 3) (aNil)))) (sNext))))))
  (sRet (eVar 2)))
def m_told_head : List D → M D := fnM 6 2 b_told_head
/-- pair_at -/
def b_pair_at : MS :=
  sSeq (sSet 3 (e2 fIx (eVar 1) (eVar 2)))
  (sSeq (sIf (tOf (e2 fEq (eVar 3) (eC (.int 2)))) (sSeq (sSet 4 (eA m_text_at (aCons (eVar 1) (aCons (e2 fAdd (eVar 2) (eC (.int 1))) (aNil)))))
  (sSeq (sSet 5 (eA m_text_at (aCons (eVar 1) (aCons (e2 fIx (eVar 4) (eC (.int 1))) (aNil)))))
  (sSeq (sIf (tNot (tOf (eChain fLe fLe (eC (.int 1)) (eA (a1 fLen) (aCons (e2 fIx (eVar 4) (eC (.int 0))) (aNil))) (eC (.int 8))))) (sRaiseB 2) (sNext))
  (sRet (eTup (aCons (eTup (aCons (e2 fIx (eVar 4) (eC (.int 0))) (aCons (e2 fIx (eVar 5) (eC (.int 0))) (aNil)))) (aCons (e2 fIx (eVar 5) (eC (.int 1))) (aNil)))))))) (sNext))
  (sSeq (sIf (tOr (tOf (e2 fGt (eVar 3) (eC (.int 2)))) (tOr (tOf (e2 fGe (e2 fAdd (eVar 2) (eC (.int 1))) (eA (a1 fLen) (aCons (eVar 1) (aNil))))) (tOf (e2 fGe (e2 fIx (eVar 1) (e2 fAdd (eVar 2) (eC (.int 1)))) (eA (a1 fLen) (aCons (e1 (fFld 5 "pairs") (eVar 0)) (aNil))))))) (sRaiseB 2) (sNext))
  (sSeq (sSet 6 (e2 fIx (e1 (fFld 5 "pairs") (eVar 0)) (e2 fIx (eVar 1) (e2 fAdd (eVar 2) (eC (.int 1))))))
  (sSeq (sIf (tOf (e2 fEq (eVar 3) (eC (.int 0)))) (sRet (eTup (aCons (eVar 6) (aCons (e2 fAdd (eVar 2) (eC (.int 2))) (aNil))))) (sNext))
  (sSeq (sSet 5 (eA m_text_at (aCons (eVar 1) (aCons (e2 fAdd (eVar 2) (eC (.int 2))) (aNil)))))
  (sRet (eTup (aCons (eTup (aCons (e2 fIx (eVar 6) (eC (.int 0))) (aCons (e2 fIx (eVar 5) (eC (.int 0))) (aNil)))) (aCons (e2 fIx (eVar 5) (eC (.int 1))) (aNil))))))))))
def m_pair_at : List D → M D := fnM 7 3 b_pair_at
/-- read_head -/
def b_read_head : MS :=
  sSeq (sSet 2 (eLstR (aNil)))
  (sSeq (sSet 3 (eC (.int 0)))
  (sSeq (sWhile (tOf (e2 fLt (eVar 3) (eA (a1 fLen) (aCons (eVar 1) (aNil))))) (sSeq (sSet 4 (eA m_pair_at (aCons (eVar 0) (aCons (eVar 1) (aCons (eVar 3) (aNil))))))
  (sSeq (sIf (tOf (e2 fNe (e2 fIx (eVar 1) (eVar 3)) (eC (.int 0)))) (sDrop (eMeth 5 "put" m_Shelf_put (eVar 0) (aCons (e2 fIx (eVar 4) (eC (.int 0))) (aNil)))) (sNext))
  (sSeq (sDrop (eBM isL (m1 fAppend) (eVar 2) (aCons (e2 fIx (eVar 4) (eC (.int 0))) (aNil))))
  (sSet 3 (e2 fIx (eVar 4) (eC (.int 1))))))))
  (sSeq (sIf (tOf (e2 fGt (eA (a1 fLen) (aCons (eVar 2) (aNil))) (eC (.int 6)))) (sRaiseB 2) (sNext))
  (sRet (eVar 2)))))
def m_read_head : List D → M D := fnM 5 2 b_read_head
/-- Talk.__init__ -/
def b_Talk_init : MS :=
  sSeq (sFld 6 (eVar 0) "number" (eVar 1))
  (sSeq (sFld 6 (eVar 0) "may" (eVar 2))
  (sSeq (sFld 6 (eVar 0) "gives" (eVar 2))
  (sSeq (sFld 6 (eVar 0) "said_head" (eC (.bl false)))
  (sSeq (sFld 6 (eVar 0) "heard_head" (eC (.bl false)))
  (sSeq (sFld 6 (eVar 0) "said_end" (eC (.bl false)))
  (sSeq (sFld 6 (eVar 0) "heard_end" (eC (.bl false)))
  (sSeq (sFld 6 (eVar 0) "shut_here" (eC (.bl false)))
  (sSeq (sFld 6 (eVar 0) "shut_there" (eC (.bl false)))
  (sSeq (sFld 6 (eVar 0) "rank" (eC (.int 4)))
  (sSeq (sFld 6 (eVar 0) "served" (eC (.int 0)))
  (sSeq (sFld 6 (eVar 0) "waits" (eLst (aNil)))
  (sFld 6 (eVar 0) "ends_behind" (eC (.bl false))))))))))))))
def m_Talk_init : List D → M D := fnM 3 3 b_Talk_init
/-- Talk.is_shut -/
def b_Talk_is_shut : MS :=
  sRet (eOr (e1 (fFld 6 "shut_here") (eVar 0)) (e1 (fFld 6 "shut_there") (eVar 0)))
def m_Talk_is_shut : List D → M D := fnM 1 1 b_Talk_is_shut
/-- Talk.drop -/
def b_Talk_drop : MS :=
  sSeq (sFld 6 (eVar 0) "waits" (eLst (aNil)))
  (sFld 6 (eVar 0) "ends_behind" (eC (.bl false)))
def m_Talk_drop : List D → M D := fnM 1 1 b_Talk_drop
/-- Talk.can_send -/
def b_Talk_can_send : MS :=
  sSeq (sIf (tOr (tOf (eMeth 6 "is_shut" m_Talk_is_shut (eVar 0) aNil)) (tOf (e1 (fFld 6 "said_end") (eVar 0)))) (sRet (eC (.bl false))) (sNext))
  (sSeq (sIf (tOf (e2 fEq (e1 (fFld 6 "waits") (eVar 0)) (eLst (aNil)))) (sRet (e1 (fFld 6 "ends_behind") (eVar 0))) (sNext))
  (sRet (eAnd (e2 fGt (e1 (fFld 6 "may") (eVar 0)) (eC (.int 0))) (e2 fGt (e1 (fFld 6 "may") (eVar 1)) (eC (.int 0))))))
def m_Talk_can_send : List D → M D := fnM 2 2 b_Talk_can_send
/-- why_form -/
def b_why_form : MS :=
  sSeq (sIf (tNot (tOf (eChain fLe fLe (eC (.int 1)) (e1 (fFld 3 "kind") (eVar 0)) (eC (.int 6))))) (sRet (eC (.str "kind"))) (sNext))
  (sSeq (sSet 1 (eA (a1 fLen) (aCons (e1 (fFld 3 "numbers") (eVar 0)) (aNil))))
  (sSeq (sIf (tOr (tOf (e2 fGt (eVar 1) (eC (.int 250)))) (tOf (e2 fNe (eVar 1) (eGetK t_SIZES (e1 (fFld 3 "kind") (eVar 0)) (eVar 1))))) (sRet (eC (.str "size"))) (sNext))
  (sSeq (sIf (tOr (tOf (e2 fGt (e1 (fFld 3 "flag") (eVar 0)) (eC (.int 1)))) (tAnd (tOf (e2 fEq (e1 (fFld 3 "flag") (eVar 0)) (eC (.int 1)))) (tOf (e1 (fInK t_SIZES) (e1 (fFld 3 "kind") (eVar 0)))))) (sRet (eC (.str "flag"))) (sNext))
  (sRet (eC (.str ""))))))
def m_why_form : List D → M D := fnM 2 1 b_why_form
/-- amount_of -/
def b_amount_of : MS :=
  sRet (e2 fAdd (e2 fMul (eC (.int 256)) (e2 fIx (e1 (fFld 3 "numbers") (eVar 0)) (eC (.int 0)))) (e2 fIx (e1 (fFld 3 "numbers") (eVar 0)) (eC (.int 1))))
def m_amount_of : List D → M D := fnM 1 1 b_amount_of
/-- is_new -/
def b_is_new : MS :=
  sSeq (sIf (tOr (tOf (e2 fNe (e1 (fFld 3 "kind") (eVar 1)) (eC (.int 1)))) (tOr (tOf (e2 fIn (e1 (fFld 3 "talk") (eVar 1)) (e1 (fFld 7 "talks") (eVar 0)))) (tNot (tOf (eChain fLe fLe (eC (.int 1)) (e1 (fFld 3 "talk") (eVar 1)) (eC (.int 250))))))) (sRet (eC (.bl false))) (sNext))
  (sRet (eAnd (e2 fEq (e2 fMod (e2 fAdd (e1 (fFld 3 "talk") (eVar 1)) (e1 (fFld 7 "side") (eVar 0))) (eC (.int 2))) (eC (.int 0))) (e2 fGt (e1 (fFld 3 "talk") (eVar 1)) (e1 (fFld 7 "theirs") (eVar 0)))))
def m_is_new : List D → M D := fnM 2 2 b_is_new
/-- why_number -/
def b_why_number : MS :=
  sSeq (sIf (tOf (e2 fEq (e1 (fFld 3 "kind") (eVar 1)) (eC (.int 6)))) (sSeq (sSet 2 (e2 fIx (e1 (fFld 3 "numbers") (eVar 1)) (eC (.int 0))))
  (sSeq (sIf (tOr (tOf (e2 fNe (e1 (fFld 3 "talk") (eVar 1)) (eC (.int 0)))) (tOr (tOf (e2 fGt (eVar 2) (e1 (fFld 7 "mine") (eVar 0)))) (tAnd (tOf (e2 fGt (eVar 2) (eC (.int 0)))) (tOf (e2 fEq (e2 fMod (e2 fAdd (eVar 2) (e1 (fFld 7 "side") (eVar 0))) (eC (.int 2))) (eC (.int 0))))))) (sRet (eC (.str "number"))) (sNext))
  (sRet (eC (.str ""))))) (sNext))
  (sSeq (sIf (tOr (tAnd (tOf (e2 fEq (e1 (fFld 3 "talk") (eVar 1)) (eC (.int 0)))) (tOf (e2 fEq (e1 (fFld 3 "kind") (eVar 1)) (eC (.int 3))))) (tOr (tOf (e2 fIn (e1 (fFld 3 "talk") (eVar 1)) (e1 (fFld 7 "talks") (eVar 0)))) (tOf (eA m_is_new (aCons (eVar 0) (aCons (eVar 1) (aNil))))))) (sRet (eC (.str ""))) (sNext))
  (sRet (eC (.str "number"))))
def m_why_number : List D → M D := fnM 3 2 b_why_number
/-- why_body -/
def b_why_body : MS :=
  sSeq (sSet 3 (eA (a1 fLen) (aCons (e1 (fFld 3 "numbers") (eVar 2)) (aNil))))
  (sSeq (sIf (tNot (tOf (e1 (fFld 6 "shut_here") (eVar 1)))) (sSeq (sIf (tNot (tOf (e1 (fFld 6 "heard_head") (eVar 1)))) (sRet (eC (.str "early"))) (sNext))
  (sSeq (sIf (tOf (e1 (fFld 6 "heard_end") (eVar 1))) (sRet (eC (.str "ended"))) (sNext))
  (sIf (tOf (e2 fGt (eVar 3) (e1 (fFld 6 "gives") (eVar 1)))) (sRet (eC (.str "credit"))) (sNext)))) (sNext))
  (sSeq (sIf (tOf (e2 fGt (eVar 3) (e1 (fFld 6 "gives") (e1 (fFld 7 "line") (eVar 0))))) (sRet (eC (.str "credit"))) (sNext))
  (sRet (eC (.str "")))))
def m_why_body : List D → M D := fnM 4 3 b_why_body
/-- why_talk -/
def b_why_talk : MS :=
  sSeq (sIf (tOf (e2 fEq (e1 (fFld 3 "kind") (eVar 1)) (eC (.int 6)))) (sSeq (sIf (tOf (e2 fIsNot (e1 (fFld 7 "away_at") (eVar 0)) (eC (.non)))) (sRet (eC (.str "away"))) (sNext))
  (sRet (eC (.str "")))) (sNext))
  (sSeq (sSet 2 (e1 (fFld 7 "line") (eVar 0)))
  (sSeq (sIf (tOf (e2 fGt (e1 (fFld 3 "talk") (eVar 1)) (eC (.int 0)))) (sSet 2 (eGet1 (e1 (fFld 7 "talks") (eVar 0)) (e1 (fFld 3 "talk") (eVar 1)))) (sNext))
  (sSeq (sIf (tOf (e2 fIs (eVar 2) (eC (.non)))) (sRet (eC (.str ""))) (sNext))
  (sSeq (sIf (tOf (e1 (fFld 6 "shut_there") (eVar 2))) (sRet (eC (.str "shut"))) (sNext))
  (sSeq (sIf (tOf (e2 fEq (e1 (fFld 3 "kind") (eVar 1)) (eC (.int 2)))) (sRet (eA m_why_body (aCons (eVar 0) (aCons (eVar 2) (aCons (eVar 1) (aNil)))))) (sNext))
  (sSeq (sIf (tOf (e1 (fFld 6 "shut_here") (eVar 2))) (sRet (eC (.str ""))) (sNext))
  (sSeq (sIf (tAnd (tOf (e2 fEq (e1 (fFld 3 "kind") (eVar 1)) (eC (.int 1)))) (tOf (e1 (fFld 6 "heard_head") (eVar 2)))) (sRet (eC (.str "twice"))) (sNext))
  (sSeq (sIf (tAnd (tOf (e2 fEq (e1 (fFld 3 "kind") (eVar 1)) (eC (.int 3)))) (tOr (tOf (e2 fEq (eA m_amount_of (aCons (eVar 1) (aNil))) (eC (.int 0)))) (tOf (e2 fGt (e2 fAdd (e1 (fFld 6 "may") (eVar 2)) (eA m_amount_of (aCons (eVar 1) (aNil)))) (eC (.int 10000)))))) (sRet (eC (.str "many"))) (sNext))
  (sSeq (sIf (tAnd (tOf (e2 fEq (e1 (fFld 3 "kind") (eVar 1)) (eC (.int 5)))) (tOf (e2 fGt (e2 fIx (e1 (fFld 3 "numbers") (eVar 1)) (eC (.int 0))) (eC (.int 7))))) (sRet (eC (.str "many"))) (sNext))
  (sRet (eC (.str ""))))))))))))
def m_why_talk : List D → M D := fnM 3 2 b_why_talk
/-- why_not -/
def b_why_not : MS :=
  sSeq (sSet 2 (eA m_why_form (aCons (eVar 1) (aNil))))
  (sSeq (sIf (tOf (e2 fEq (eVar 2) (eC (.str "")))) (sSet 2 (eA m_why_number (aCons (eVar 0) (aCons (eVar 1) (aNil))))) (sNext))
  (sSeq (sIf (tOf (e2 fEq (eVar 2) (eC (.str "")))) (sSet 2 (eA m_why_talk (aCons (eVar 0) (aCons (eVar 1) (aNil))))) (sNext))
  (sRet (eVar 2))))
def m_why_not : List D → M D := fnM 3 2 b_why_not
/-- took_head -/
def b_took_head : MS :=
  sSeq (sTry (sSet 2 (eA m_read_head (aCons (e1 (fFld 7 "heard") (eVar 0)) (aCons (e1 (fFld 3 "numbers") (eVar 1)) (aNil))))) catch_BadHead none (fun xn => sSeq (sFld 7 (eVar 0) "broken" (eC (.str "head")))
  (sRet (eLst (aCons (eTup (aCons (eC (.str "broken")) (aCons (eC (.str "head")) (aNil)))) (aNil))))))
  (sSeq (sSet 3 (eC (.str "answer")))
  (sSeq (sSet 4 (eGet1 (e1 (fFld 7 "talks") (eVar 0)) (e1 (fFld 3 "talk") (eVar 1))))
  (sSeq (sIf (tOf (e2 fIs (eVar 4) (eC (.non)))) (sSeq (sSet 3 (eC (.str "begun")))
  (sSeq (sSet 4 (eA (fMake 6 (fun ds => noErr (m_Talk_init ds))) (aCons (e1 (fFld 3 "talk") (eVar 1)) (aCons (eC (.int 20)) (aNil)))))
  (sSeq (sFld 6 (eVar 4) "shut_here" (e2 fIsNot (e1 (fFld 7 "left_at") (eVar 0)) (eC (.non))))
  (sSeq (sPut (e1 (fFld 7 "talks") (eVar 0)) (e1 (fFld 3 "talk") (eVar 1)) (eVar 4))
  (sFld 7 (eVar 0) "theirs" (e1 (fFld 3 "talk") (eVar 1))))))) (sNext))
  (sSeq (sIf (tOf (e1 (fFld 6 "shut_here") (eVar 4))) (sRet (eLst (aNil))) (sNext))
  (sSeq (sFld 6 (eVar 4) "heard_head" (eC (.bl true)))
  (sSeq (sFld 6 (eVar 4) "heard_end" (e2 fEq (e1 (fFld 3 "flag") (eVar 1)) (eC (.int 1))))
  (sSeq (sSet 5 (eLstR (aCons (eTup (aCons (eVar 3) (aCons (e1 (fFld 3 "talk") (eVar 1)) (aCons (eVar 2) (aNil))))) (aNil))))
  (sSeq (sIf (tOf (e1 (fFld 6 "heard_end") (eVar 4))) (sDrop (eBM isL (m1 fAppend) (eVar 5) (aCons (eTup (aCons (eC (.str "ended")) (aCons (e1 (fFld 3 "talk") (eVar 1)) (aNil)))) (aNil)))) (sNext))
  (sRet (eVar 5))))))))))
def m_took_head : List D → M D := fnM 6 2 b_took_head
/-- took_body -/
def b_took_body : MS :=
  sSeq (sSet 2 (e2 fIx (e1 (fFld 7 "talks") (eVar 0)) (e1 (fFld 3 "talk") (eVar 1))))
  (sSeq (sSet 3 (eA (a1 fLen) (aCons (e1 (fFld 3 "numbers") (eVar 1)) (aNil))))
  (sSeq (sFld 6 (e1 (fFld 7 "line") (eVar 0)) "gives" (e2 fSub (e1 (fFld 6 "gives") (e1 (fFld 7 "line") (eVar 0))) (eVar 3)))
  (sSeq (sIf (tOf (e1 (fFld 6 "shut_here") (eVar 2))) (sRet (eLst (aNil))) (sNext))
  (sSeq (sFld 6 (eVar 2) "gives" (e2 fSub (e1 (fFld 6 "gives") (eVar 2)) (eVar 3)))
  (sSeq (sFld 6 (eVar 2) "heard_end" (e2 fEq (e1 (fFld 3 "flag") (eVar 1)) (eC (.int 1))))
  (sSeq (sSet 4 (eLstR (aNil)))
  (sSeq (sIf (tOf (e2 fGt (eVar 3) (eC (.int 0)))) (sDrop (eBM isL (m1 fAppend) (eVar 4) (aCons (eTup (aCons (eC (.str "body")) (aCons (e1 (fFld 3 "talk") (eVar 1)) (aCons (eA (a1 fList) (aCons (e1 (fFld 3 "numbers") (eVar 1)) (aNil))) (aNil))))) (aNil)))) (sNext))
  (sSeq (sIf (tOf (e1 (fFld 6 "heard_end") (eVar 2))) (sDrop (eBM isL (m1 fAppend) (eVar 4) (aCons (eTup (aCons (eC (.str "ended")) (aCons (e1 (fFld 3 "talk") (eVar 1)) (aNil)))) (aNil)))) (sNext))
  (sRet (eVar 4))))))))))
def m_took_body : List D → M D := fnM 5 2 b_took_body
/-- took_away -/
def b_took_away : MS :=
  sSeq (sFld 7 (eVar 0) "away_at" (e2 fIx (e1 (fFld 3 "numbers") (eVar 1)) (eC (.int 0))))
  (sSeq (sFor (iR2 (e2 fAdd (e1 (fFld 7 "away_at") (eVar 0)) (eC (.int 1))) (e2 fAdd (e1 (fFld 7 "mine") (eVar 0)) (eC (.int 1)))) (.one 2) (sSeq (sSet 3 (eGet1 (e1 (fFld 7 "talks") (eVar 0)) (eVar 2)))
  (sIf (tAnd (tOf (e2 fIsNot (eVar 3) (eC (.non)))) (tOf (e2 fEq (e2 fMod (e2 fAdd (eVar 2) (e1 (fFld 7 "side") (eVar 0))) (eC (.int 2))) (eC (.int 1))))) (sSeq (sFld 6 (eVar 3) "shut_there" (eC (.bl true)))
  (sDrop (eMeth 6 "drop" m_Talk_drop (eVar 3) aNil))) (sNext))))
  (sRet (eLst (aCons (eTup (aCons (eC (.str "away")) (aCons (e1 (fFld 7 "away_at") (eVar 0)) (aNil)))) (aNil)))))
def m_took_away : List D → M D := fnM 4 2 b_took_away
/-- took_other -/
def b_took_other : MS :=
  sSeq (sSet 2 (e1 (fFld 7 "line") (eVar 0)))
  (sSeq (sIf (tOf (e2 fGt (e1 (fFld 3 "talk") (eVar 1)) (eC (.int 0)))) (sSet 2 (e2 fIx (e1 (fFld 7 "talks") (eVar 0)) (e1 (fFld 3 "talk") (eVar 1)))) (sNext))
  (sSeq (sSet 3 (e1 (fFld 6 "shut_here") (eVar 2)))
  (sSeq (sIf (tOf (e2 fEq (e1 (fFld 3 "kind") (eVar 1)) (eC (.int 4)))) (sSeq (sFld 6 (eVar 2) "shut_there" (eC (.bl true)))
  (sDrop (eMeth 6 "drop" m_Talk_drop (eVar 2) aNil))) (sNext))
  (sSeq (sIf (tOf (eVar 3)) (sRet (eLst (aNil))) (sNext))
  (sSeq (sIf (tOf (e2 fEq (e1 (fFld 3 "kind") (eVar 1)) (eC (.int 4)))) (sRet (eLst (aCons (eTup (aCons (eC (.str "reset")) (aCons (e1 (fFld 3 "talk") (eVar 1)) (aCons (e2 fIx (e1 (fFld 3 "numbers") (eVar 1)) (eC (.int 0))) (aNil))))) (aNil)))) (sNext))
  (sSeq (sIf (tOf (e2 fEq (e1 (fFld 3 "kind") (eVar 1)) (eC (.int 5)))) (sSeq (sFld 6 (eVar 2) "rank" (e2 fIx (e1 (fFld 3 "numbers") (eVar 1)) (eC (.int 0))))
  (sRet (eLst (aCons (eTup (aCons (eC (.str "rank")) (aCons (e1 (fFld 3 "talk") (eVar 1)) (aCons (e1 (fFld 6 "rank") (eVar 2)) (aNil))))) (aNil))))) (sNext))
  (sSeq (sFld 6 (eVar 2) "may" (e2 fAdd (e1 (fFld 6 "may") (eVar 2)) (eA m_amount_of (aCons (eVar 1) (aNil)))))
  (sRet (eLst (aCons (eTup (aCons (eC (.str "credit")) (aCons (e1 (fFld 3 "talk") (eVar 1)) (aCons (eA m_amount_of (aCons (eVar 1) (aNil))) (aNil))))) (aNil)))))))))))
def m_took_other : List D → M D := fnM 4 2 b_took_other
/-- took -/
def b_took : MS :=
  sSeq (sSet 2 (eA m_why_not (aCons (eVar 0) (aCons (eVar 1) (aNil)))))
  (sSeq (sIf (tOf (e2 fNe (eVar 2) (eC (.str "")))) (sSeq (sFld 7 (eVar 0) "broken" (eVar 2))
  (sRet (eLst (aCons (eTup (aCons (eC (.str "broken")) (aCons (eVar 2) (aNil)))) (aNil))))) (sNext))
  (sSeq (sIf (tOf (e2 fEq (e1 (fFld 3 "kind") (eVar 1)) (eC (.int 1)))) (sRet (eA m_took_head (aCons (eVar 0) (aCons (eVar 1) (aNil))))) (sNext))
  (sSeq (sIf (tOf (e2 fEq (e1 (fFld 3 "kind") (eVar 1)) (eC (.int 2)))) (sRet (eA m_took_body (aCons (eVar 0) (aCons (eVar 1) (aNil))))) (sNext))
  (sSeq (sIf (tOf (e2 fEq (e1 (fFld 3 "kind") (eVar 1)) (eC (.int 6)))) (sRet (eA m_took_away (aCons (eVar 0) (aCons (eVar 1) (aNil))))) (sNext))
  (sRet (eA m_took_other (aCons (eVar 0) (aCons (eVar 1) (aNil)))))))))
def m_took : List D → M D := fnM 3 2 b_took
/-- Shelf.__init__ -/
def b_Shelf_init : MS :=
  sFld 5 (eVar 0) "pairs" (eLst (aNil))
def m_Shelf_init : List D → M D := fnM 1 1 b_Shelf_init
/-- End.__init__ -/
def b_End_init : MS :=
  sSeq (sFld 7 (eVar 0) "side" (eVar 1))
  (sSeq (sFld 7 (eVar 0) "line" (eA (fMake 6 (fun ds => noErr (m_Talk_init ds))) (aCons (eC (.int 0)) (aCons (eC (.int 60)) (aNil)))))
  (sSeq (sFld 7 (eVar 0) "talks" (eDct0))
  (sSeq (sFld 7 (eVar 0) "told" (eA (fMake 5 (fun ds => noErr (m_Shelf_init ds))) aNil))
  (sSeq (sFld 7 (eVar 0) "heard" (eA (fMake 5 (fun ds => noErr (m_Shelf_init ds))) aNil))
  (sSeq (sFld 7 (eVar 0) "cutter" (eA (fMake 4 (fun ds => noErr (m_Cutter_init ds))) aNil))
  (sSeq (sFld 7 (eVar 0) "out" (eLstR (aNil)))
  (sSeq (sFld 7 (eVar 0) "broken" (eC (.str "")))
  (sSeq (sFld 7 (eVar 0) "turns" (eC (.int 0)))
  (sSeq (sFld 7 (eVar 0) "mine" (eC (.int 0)))
  (sSeq (sFld 7 (eVar 0) "theirs" (eC (.int 0)))
  (sSeq (sFld 7 (eVar 0) "left_at" (eC (.non)))
  (sFld 7 (eVar 0) "away_at" (eC (.non))))))))))))))
def m_End_init : List D → M D := fnM 2 2 b_End_init
/-- End.known -/
def b_End_known : MS :=
  sSeq (sIf (tOf (e2 fNe (e1 (fFld 7 "broken") (eVar 0)) (eC (.str "")))) (sRaiseN 1 "why" (aCons (eC (.str "broken")) (aNil))) (sNext))
  (sSeq (sIf (tOf (e2 fNotIn (eVar 1) (e1 (fFld 7 "talks") (eVar 0)))) (sRaiseN 1 "why" (aCons (eC (.str "talk")) (aNil))) (sNext))
  (sRet (e2 fIx (e1 (fFld 7 "talks") (eVar 0)) (eVar 1))))
def m_End_known : List D → M D := fnM 2 2 b_End_known
/-- End.unshut -/
def b_End_unshut : MS :=
  sSeq (sSet 2 (eMeth 7 "known" m_End_known (eVar 0) (aCons (eVar 1) (aNil))))
  (sSeq (sIf (tOf (eMeth 6 "is_shut" m_Talk_is_shut (eVar 2) aNil)) (sRaiseN 1 "why" (aCons (eC (.str "shut")) (aNil))) (sNext))
  (sRet (eVar 2)))
def m_End_unshut : List D → M D := fnM 3 2 b_End_unshut
/-- End.put_head -/
def b_End_put_head : MS :=
  sSeq (sSet 4 (eA m_told_head (aCons (e1 (fFld 7 "told") (eVar 0)) (aCons (eVar 2) (aNil)))))
  (sSeq (sDrop (eBM isL (m1 fAppend) (e1 (fFld 7 "out") (eVar 0)) (aCons (eA m_framed (aCons (eC (.int 1)) (aCons (eA (a1 fInt) (aCons (eVar 3) (aNil))) (aCons (e1 (fFld 6 "number") (eVar 1)) (aCons (eVar 4) (aNil)))))) (aNil))))
  (sSeq (sFld 6 (eVar 1) "said_head" (eC (.bl true)))
  (sFld 6 (eVar 1) "said_end" (eVar 3))))
def m_End_put_head : List D → M D := fnM 5 4 b_End_put_head
/-- End.begin -/
def b_End_begin : MS :=
  sSeq (sIf (tOf (e2 fNe (e1 (fFld 7 "broken") (eVar 0)) (eC (.str "")))) (sRaiseN 1 "why" (aCons (eC (.str "broken")) (aNil))) (sNext))
  (sSeq (sIf (tOf (e2 fIsNot (e1 (fFld 7 "away_at") (eVar 0)) (eC (.non)))) (sRaiseN 1 "why" (aCons (eC (.str "away")) (aNil))) (sNext))
  (sSeq (sSet 3 (e2 fAdd (e1 (fFld 7 "mine") (eVar 0)) (eC (.int 2))))
  (sSeq (sIf (tOf (e2 fEq (e1 (fFld 7 "mine") (eVar 0)) (eC (.int 0)))) (sSet 3 (e2 fAdd (eC (.int 1)) (e1 (fFld 7 "side") (eVar 0)))) (sNext))
  (sSeq (sIf (tOf (e2 fGt (eVar 3) (eC (.int 250)))) (sRaiseN 1 "why" (aCons (eC (.str "many")) (aNil))) (sNext))
  (sSeq (sIf (tNot (tOf (eA m_is_head (aCons (eVar 1) (aNil))))) (sRaiseN 1 "why" (aCons (eC (.str "head")) (aNil))) (sNext))
  (sSeq (sFld 7 (eVar 0) "mine" (eVar 3))
  (sSeq (sPut (e1 (fFld 7 "talks") (eVar 0)) (eVar 3) (eA (fMake 6 (fun ds => noErr (m_Talk_init ds))) (aCons (eVar 3) (aCons (eC (.int 20)) (aNil)))))
  (sSeq (sDrop (eMeth 7 "put_head" m_End_put_head (eVar 0) (aCons (e2 fIx (e1 (fFld 7 "talks") (eVar 0)) (eVar 3)) (aCons (eVar 1) (aCons (eVar 2) (aNil))))))
  (sRet (eVar 3))))))))))
def m_End_begin : List D → M D := fnM 4 3 b_End_begin
/-- End.answer -/
def b_End_answer : MS :=
  sSeq (sSet 4 (eMeth 7 "unshut" m_End_unshut (eVar 0) (aCons (eVar 1) (aNil))))
  (sSeq (sIf (tOf (e1 (fFld 6 "said_head") (eVar 4))) (sRaiseN 1 "why" (aCons (eC (.str "twice")) (aNil))) (sNext))
  (sSeq (sIf (tNot (tOf (eA m_is_head (aCons (eVar 2) (aNil))))) (sRaiseN 1 "why" (aCons (eC (.str "head")) (aNil))) (sNext))
  (sDrop (eMeth 7 "put_head" m_End_put_head (eVar 0) (aCons (eVar 4) (aCons (eVar 2) (aCons (eVar 3) (aNil))))))))
def m_End_answer : List D → M D := fnM 5 4 b_End_answer
/-- End.say -/
def b_End_say : MS :=
  sSeq (sSet 4 (eMeth 7 "unshut" m_End_unshut (eVar 0) (aCons (eVar 1) (aNil))))
  (sSeq (sIf (tNot (tOf (e1 (fFld 6 "said_head") (eVar 4)))) (sRaiseN 1 "why" (aCons (eC (.str "early")) (aNil))) (sNext))
  (sSeq (sIf (tOr (tOf (e1 (fFld 6 "said_end") (eVar 4))) (tOf (e1 (fFld 6 "ends_behind") (eVar 4)))) (sRaiseN 1 "why" (aCons (eC (.str "ended")) (aNil))) (sNext))
  (sSeq (sFld 6 (eVar 4) "waits" (e2 fAdd (e1 (fFld 6 "waits") (eVar 4)) (eA (a1 fList) (aCons (eVar 2) (aNil)))))
  (sFld 6 (eVar 4) "ends_behind" (eVar 3)))))
def m_End_say : List D → M D := fnM 5 4 b_End_say
/-- End.grant -/
def b_End_grant : MS :=
  sSeq (sIf (tOf (e2 fNe (e1 (fFld 7 "broken") (eVar 0)) (eC (.str "")))) (sRaiseN 1 "why" (aCons (eC (.str "broken")) (aNil))) (sNext))
  (sSeq (sSet 3 (e1 (fFld 7 "line") (eVar 0)))
  (sSeq (sIf (tOf (e2 fNe (eVar 1) (eC (.int 0)))) (sSet 3 (eMeth 7 "unshut" m_End_unshut (eVar 0) (aCons (eVar 1) (aNil)))) (sNext))
  (sSeq (sIf (tOf (e1 (fFld 6 "heard_end") (eVar 3))) (sRaiseN 1 "why" (aCons (eC (.str "ended")) (aNil))) (sNext))
  (sSeq (sIf (tOr (tOf (e2 fLt (eVar 2) (eC (.int 1)))) (tOf (e2 fGt (e2 fAdd (e1 (fFld 6 "gives") (eVar 3)) (eVar 2)) (eC (.int 10000))))) (sRaiseN 1 "why" (aCons (eC (.str "many")) (aNil))) (sNext))
  (sSeq (sFld 6 (eVar 3) "gives" (e2 fAdd (e1 (fFld 6 "gives") (eVar 3)) (eVar 2)))
  (sDrop (eBM isL (m1 fAppend) (e1 (fFld 7 "out") (eVar 0)) (aCons (eA m_framed (aCons (eC (.int 3)) (aCons (eC (.int 0)) (aCons (eVar 1) (aCons (eLst (aCons (e2 fDiv (eVar 2) (eC (.int 256))) (aCons (e2 fMod (eVar 2) (eC (.int 256))) (aNil)))) (aNil)))))) (aNil)))))))))
def m_End_grant : List D → M D := fnM 4 3 b_End_grant
/-- End.reset -/
def b_End_reset : MS :=
  sSeq (sSet 3 (eMeth 7 "unshut" m_End_unshut (eVar 0) (aCons (eVar 1) (aNil))))
  (sSeq (sIf (tAnd (tOr (tOf (e1 (fFld 6 "said_end") (eVar 3))) (tOf (e1 (fFld 6 "ends_behind") (eVar 3)))) (tOf (e1 (fFld 6 "heard_end") (eVar 3)))) (sRaiseN 1 "why" (aCons (eC (.str "ended")) (aNil))) (sNext))
  (sSeq (sFld 6 (eVar 3) "shut_here" (eC (.bl true)))
  (sSeq (sDrop (eMeth 6 "drop" m_Talk_drop (eVar 3) aNil))
  (sDrop (eBM isL (m1 fAppend) (e1 (fFld 7 "out") (eVar 0)) (aCons (eA m_framed (aCons (eC (.int 4)) (aCons (eC (.int 0)) (aCons (eVar 1) (aCons (eLst (aCons (eVar 2) (aNil))) (aNil)))))) (aNil)))))))
def m_End_reset : List D → M D := fnM 4 3 b_End_reset
/-- End.ask_rank -/
def b_End_ask_rank : MS :=
  sSeq (sSet 3 (eMeth 7 "unshut" m_End_unshut (eVar 0) (aCons (eVar 1) (aNil))))
  (sSeq (sIf (tOf (e1 (fFld 6 "heard_end") (eVar 3))) (sRaiseN 1 "why" (aCons (eC (.str "ended")) (aNil))) (sNext))
  (sSeq (sIf (tNot (tOf (eChain fLe fLe (eC (.int 0)) (eVar 2) (eC (.int 7))))) (sRaiseN 1 "why" (aCons (eC (.str "many")) (aNil))) (sNext))
  (sDrop (eBM isL (m1 fAppend) (e1 (fFld 7 "out") (eVar 0)) (aCons (eA m_framed (aCons (eC (.int 5)) (aCons (eC (.int 0)) (aCons (eVar 1) (aCons (eLst (aCons (eVar 2) (aNil))) (aNil)))))) (aNil))))))
def m_End_ask_rank : List D → M D := fnM 4 3 b_End_ask_rank
/-- End.leave -/
def b_End_leave : MS :=
  sSeq (sIf (tOf (e2 fNe (e1 (fFld 7 "broken") (eVar 0)) (eC (.str "")))) (sRaiseN 1 "why" (aCons (eC (.str "broken")) (aNil))) (sNext))
  (sSeq (sIf (tOf (e2 fIsNot (e1 (fFld 7 "left_at") (eVar 0)) (eC (.non)))) (sRaiseN 1 "why" (aCons (eC (.str "away")) (aNil))) (sNext))
  (sSeq (sFld 7 (eVar 0) "left_at" (e1 (fFld 7 "theirs") (eVar 0)))
  (sDrop (eBM isL (m1 fAppend) (e1 (fFld 7 "out") (eVar 0)) (aCons (eA m_framed (aCons (eC (.int 6)) (aCons (eC (.int 0)) (aCons (eC (.int 0)) (aCons (eLst (aCons (e1 (fFld 7 "theirs") (eVar 0)) (aNil))) (aNil)))))) (aNil))))))
def m_End_leave : List D → M D := fnM 1 1 b_End_leave
/-- End.body_of -/
def b_End_body_of : MS :=
  sSeq (sSet 2 (eA (fMinN 4) (aCons (eA (a1 fLen) (aCons (e1 (fFld 6 "waits") (eVar 1)) (aNil))) (aCons (e1 (fFld 6 "may") (eVar 1)) (aCons (e1 (fFld 6 "may") (e1 (fFld 7 "line") (eVar 0))) (aCons (eC (.int 10)) (aNil)))))))
  (sSeq (sSet 3 (eSl (e1 (fFld 6 "waits") (eVar 1)) oNo (oSo (eVar 2))))
  (sSeq (sFld 6 (eVar 1) "waits" (eSl (e1 (fFld 6 "waits") (eVar 1)) (oSo (eVar 2)) oNo))
  (sSeq (sFld 6 (eVar 1) "may" (e2 fSub (e1 (fFld 6 "may") (eVar 1)) (eVar 2)))
  (sSeq (sFld 6 (e1 (fFld 7 "line") (eVar 0)) "may" (e2 fSub (e1 (fFld 6 "may") (e1 (fFld 7 "line") (eVar 0))) (eVar 2)))
  (sSeq (sFld 6 (eVar 1) "said_end" (eAnd (e2 fEq (e1 (fFld 6 "waits") (eVar 1)) (eLst (aNil))) (e1 (fFld 6 "ends_behind") (eVar 1))))
  (sSeq (sFld 7 (eVar 0) "turns" (e2 fAdd (e1 (fFld 7 "turns") (eVar 0)) (eC (.int 1))))
  (sSeq (sFld 6 (eVar 1) "served" (e1 (fFld 7 "turns") (eVar 0)))
  (sRet (eA m_framed (aCons (eC (.int 2)) (aCons (eA (a1 fInt) (aCons (e1 (fFld 6 "said_end") (eVar 1)) (aNil))) (aCons (e1 (fFld 6 "number") (eVar 1)) (aCons (eVar 3) (aNil))))))))))))))
def m_End_body_of : List D → M D := fnM 4 2 b_End_body_of
/-- End.next_frame -/
def b_End_next_frame : MS :=
  sSeq (sIf (tOf (e2 fNe (e1 (fFld 7 "broken") (eVar 0)) (eC (.str "")))) (sRet (eLst (aNil))) (sNext))
  (sSeq (sIf (tOf (e2 fNe (e1 (fFld 7 "out") (eVar 0)) (eLst (aNil)))) (sRet (eBM isL (m1 fPopAt) (e1 (fFld 7 "out") (eVar 0)) (aCons (eC (.int 0)) (aNil)))) (sNext))
  (sSeq (sSet 1 (eC (.non)))
  (sSeq (sFor (iL (eA (a1 fSortedD) (aCons (e1 (fFld 7 "talks") (eVar 0)) (aNil)))) (.one 2) (sSeq (sSet 3 (e2 fIx (e1 (fFld 7 "talks") (eVar 0)) (eVar 2)))
  (sIf (tOf (eMeth 6 "can_send" m_Talk_can_send (eVar 3) (aCons (e1 (fFld 7 "line") (eVar 0)) (aNil)))) (sIf (tOr (tOf (e2 fIs (eVar 1) (eC (.non)))) (tOf (e2 fLt (eTup (aCons (e1 (fFld 6 "rank") (eVar 3)) (aCons (e1 (fFld 6 "served") (eVar 3)) (aNil)))) (eTup (aCons (e1 (fFld 6 "rank") (eVar 1)) (aCons (e1 (fFld 6 "served") (eVar 1)) (aNil))))))) (sSet 1 (eVar 3)) (sNext)) (sNext))))
  (sSeq (sIf (tOf (e2 fIs (eVar 1) (eC (.non)))) (sRet (eLst (aNil))) (sNext))
  (sRet (eMeth 7 "body_of" m_End_body_of (eVar 0) (aCons (eVar 1) (aNil))))))))
def m_End_next_frame : List D → M D := fnM 4 1 b_End_next_frame
/-- End.hear -/
def b_End_hear : MS :=
  sSeq (sSet 2 (eLst (aNil)))
  (sSeq (sIf (tOf (e2 fNe (e1 (fFld 7 "broken") (eVar 0)) (eC (.str "")))) (sRet (eVar 2)) (sNext))
  (sSeq (sFor (iL (eMeth 4 "fed" m_Cutter_fed (e1 (fFld 7 "cutter") (eVar 0)) (aCons (eVar 1) (aNil)))) (.one 3) (sSeq (sSet 2 (e2 fAdd (eVar 2) (eA m_took (aCons (eVar 0) (aCons (eVar 3) (aNil))))))
  (sIf (tOf (e2 fNe (e1 (fFld 7 "broken") (eVar 0)) (eC (.str "")))) (sRet (eVar 2)) (sNext))))
  (sRet (eVar 2))))
def m_End_hear : List D → M D := fnM 4 2 b_End_hear
/-- End.left -/
def b_End_left : MS :=
  sSeq (sIf (tOf (e2 fEq (eVar 1) (eC (.int 0)))) (sRet (e1 (fFld 6 "may") (e1 (fFld 7 "line") (eVar 0)))) (sNext))
  (sSeq (sIf (tOf (e2 fNotIn (eVar 1) (e1 (fFld 7 "talks") (eVar 0)))) (sRaiseN 1 "why" (aCons (eC (.str "talk")) (aNil))) (sNext))
  (sRet (e1 (fFld 6 "may") (e2 fIx (e1 (fFld 7 "talks") (eVar 0)) (eVar 1)))))
def m_End_left : List D → M D := fnM 2 2 b_End_left
/-- End.waiting -/
def b_End_waiting : MS :=
  sSeq (sIf (tOf (e2 fNotIn (eVar 1) (e1 (fFld 7 "talks") (eVar 0)))) (sRaiseN 1 "why" (aCons (eC (.str "talk")) (aNil))) (sNext))
  (sRet (eA (a1 fLen) (aCons (e1 (fFld 6 "waits") (e2 fIx (e1 (fFld 7 "talks") (eVar 0)) (eVar 1))) (aNil))))
def m_End_waiting : List D → M D := fnM 2 2 b_End_waiting
/-- _law_row -/
def b__law_row : MS :=
  sSeq (sSet 1 (eC (.int 7)))
  (sSeq (sFor (iL (eVar 0)) (.one 2) (sSet 1 (e2 fMod (e2 fAdd (e2 fAdd (e2 fMul (eVar 1) (eC (.int 48271))) (eVar 2)) (eC (.int 11))) (eC (.int 2147483647)))))
  (sRet (eLstR (aCons (eVar 0) (aCons (eC (.int 0)) (aCons (eC (.int 0)) (aCons (eVar 1) (aNil))))))))
def m__law_row : List D → M D := fnM 3 1 b__law_row
/-- _law_taken -/
def b__law_taken : MS :=
  sSeq (sIf (tOf (e2 fGt (e2 fIx (eVar 0) (eC (.int 2))) (eC (.int 0)))) (sSeq (sSet 2 (e2 fMod (e2 fIx (eVar 0) (eC (.int 2))) (eVar 1)))
  (sSeq (sPut (eVar 0) (eC (.int 2)) (e2 fDiv (e2 fIx (eVar 0) (eC (.int 2))) (eVar 1)))
  (sRet (eVar 2)))) (sNext))
  (sSeq (sIf (tOf (e2 fLt (e2 fIx (eVar 0) (eC (.int 1))) (eA (a1 fLen) (aCons (e2 fIx (eVar 0) (eC (.int 0))) (aNil))))) (sSeq (sSet 3 (e2 fIx (e2 fIx (eVar 0) (eC (.int 0))) (e2 fIx (eVar 0) (eC (.int 1)))))
  (sSeq (sPut (eVar 0) (eC (.int 1)) (e2 fAdd (e2 fIx (eVar 0) (eC (.int 1))) (eC (.int 1))))
  (sSeq (sIf (tOf (e2 fGe (eVar 3) (e2 fPow (eC (.int 10)) (eC (.int 18))))) (sPut (eVar 0) (eC (.int 2)) (e2 fDiv (eVar 3) (eVar 1))) (sNext))
  (sRet (e2 fMod (eVar 3) (eVar 1)))))) (sNext))
  (sSeq (sPut (eVar 0) (eC (.int 3)) (e2 fMod (e2 fAdd (e2 fMul (e2 fIx (eVar 0) (eC (.int 3))) (eC (.int 48271))) (eC (.int 12345))) (eC (.int 2147483647))))
  (sRet (e2 fMod (e2 fDiv (e2 fIx (eVar 0) (eC (.int 3))) (eC (.int 1009))) (eVar 1)))))
def m__law_taken : List D → M D := fnM 4 2 b__law_taken
/-- _law_whole -/
def b__law_whole : MS :=
  sRet (eAnd (e1 (fIsi "int") (eVar 0)) (eNot (e1 (fIsi "bool") (eVar 0))))
def m__law_whole : List D → M D := fnM 1 1 b__law_whole
/-- _law_list -/
def b__law_list : MS :=
  sSeq (sIf (tOr (tNot (tOf (e1 (fIsi "list") (eVar 0)))) (tOf (e2 fNe (eA (a1 fLen) (aCons (eVar 0) (aNil))) (eA (a1 fLen) (aCons (eVar 1) (aNil)))))) (sRet (eC (.bl false))) (sNext))
  (sSeq (sFor (iL (eVar 0)) (.one 2) (sIf (tNot (tOf (eA m__law_whole (aCons (eVar 2) (aNil))))) (sRet (eC (.bl false))) (sNext)))
  (sRet (e2 fEq (eVar 0) (eVar 1))))
def m__law_list : List D → M D := fnM 3 2 b__law_list
/-- _law_frame -/
def b__law_frame : MS :=
  sRet (e2 fAdd (eLst (aCons (eA (a1 fLen) (aCons (eVar 3) (aNil))) (aCons (eVar 0) (aCons (eVar 1) (aCons (eVar 2) (aNil)))))) (eVar 3))
def m__law_frame : List D → M D := fnM 4 4 b__law_frame
/-- _law_deed -/
def b__law_deed : MS :=
  sSeq (sIf (tOf (e2 fEq (eVar 1) (eC (.int 0)))) (sDrop (eMeth 7 "begin" m_End_begin (eVar 0) (aCons (eLst (aCons (eTup (aCons (eC (.str "a")) (aCons (e2 fMulS (eC (.str "b")) (e2 fAdd (eC (.int 20)) (eVar 3))) (aNil)))) (aNil))) (aCons (eC (.bl false)) (aNil))))) (sNext))
  (sSeq (sIf (tOf (e2 fEq (eVar 1) (eC (.int 1)))) (sDrop (eMeth 7 "answer" m_End_answer (eVar 0) (aCons (eVar 2) (aCons (eLst (aNil)) (aCons (eC (.bl false)) (aNil)))))) (sNext))
  (sSeq (sIf (tOf (e2 fEq (eVar 1) (eC (.int 2)))) (sDrop (eMeth 7 "say" m_End_say (eVar 0) (aCons (eVar 2) (aCons (eLst (aCons (eC (.int 1)) (aCons (eC (.int 2)) (aNil)))) (aCons (e2 fEq (eVar 3) (eC (.int 1))) (aNil)))))) (sNext))
  (sSeq (sIf (tOf (e2 fEq (eVar 1) (eC (.int 3)))) (sDrop (eMeth 7 "grant" m_End_grant (eVar 0) (aCons (eVar 2) (aCons (e2 fSub (eC (.int 5)) (e2 fMul (eC (.int 9)) (eVar 3))) (aNil))))) (sNext))
  (sSeq (sIf (tOf (e2 fEq (eVar 1) (eC (.int 4)))) (sDrop (eMeth 7 "reset" m_End_reset (eVar 0) (aCons (eVar 2) (aCons (eC (.int 7)) (aNil))))) (sNext))
  (sSeq (sIf (tOf (e2 fEq (eVar 1) (eC (.int 5)))) (sDrop (eMeth 7 "ask_rank" m_End_ask_rank (eVar 0) (aCons (eVar 2) (aCons (e2 fAdd (eC (.int 3)) (e2 fMul (eC (.int 9)) (eVar 3))) (aNil))))) (sNext))
  (sIf (tOf (e2 fEq (eVar 1) (eC (.int 6)))) (sDrop (eMeth 7 "leave" m_End_leave (eVar 0) aNil)) (sNext)))))))
def m__law_deed : List D → M D := fnM 4 4 b__law_deed
/-- _law_why -/
def b__law_why : MS :=
  sSeq (sTry (sDrop (eA m__law_deed (aCons (eVar 0) (aCons (eVar 1) (aCons (eVar 2) (aCons (eVar 3) (aNil))))))) catch_LineError (some 4) (fun xn => sSeq (sIf (tOr (tOf (eIsE2 tab_BadHead xn)) (tNot (tOf (eIsE2 tab_NoDeed xn)))) (sRet (eC (.str ""))) (sNext))
  (sRet (eXF 1 "why" xn))))
  (sRet (eC (.str "")))
def m__law_why : List D → M D := fnM 5 4 b__law_why
/-- _law_seen -/
def b__law_seen : MS :=
  sSeq (sSet 2 (eLst (aCons (eMeth 7 "left" m_End_left (eVar 0) (aCons (eC (.int 0)) (aNil))) (aNil))))
  (sSeq (sFor (iL (eVar 1)) (.one 3) (sSet 2 (e2 fAdd (eVar 2) (eLst (aCons (eMeth 7 "left" m_End_left (eVar 0) (aCons (eVar 3) (aNil))) (aCons (eMeth 7 "waiting" m_End_waiting (eVar 0) (aCons (eVar 3) (aNil))) (aNil)))))))
  (sRet (eVar 2)))
def m__law_seen : List D → M D := fnM 4 2 b__law_seen
/-- law -/
def b_law : MS :=
  sSeq (sSet 1 (eA m__law_row (aCons (eVar 0) (aNil))))
  (sSeq (sSet 2 (eA m__law_taken (aCons (eVar 1) (aCons (eC (.int 2)) (aNil)))))
  (sSeq (sSet 3 (eA (fMake 7 (fun ds => noErr (m_End_init ds))) (aCons (eVar 2) (aNil))))
  (sSeq (sSet 4 (eLstR (aNil)))
  (sSeq (sFor (iR1 (eA m__law_taken (aCons (eVar 1) (aCons (eC (.int 4)) (aNil))))) (.one 5) (sSeq (sDrop (eBM isL (m1 fAppend) (eVar 4) (aCons (eMeth 7 "begin" m_End_begin (eVar 3) (aCons (eLst (aCons (eTup (aCons (eC (.str "n")) (aCons (eC (.str "v")) (aNil)))) (aNil))) (aCons (eC (.bl false)) (aNil)))) (aNil))))
  (sDrop (eMeth 7 "say" m_End_say (eVar 3) (aCons (e2 fIx (eVar 4) (eVar 5)) (aCons (e2 fMul (eLst (aCons (eVar 5) (aNil))) (eA m__law_taken (aCons (eVar 1) (aCons (eC (.int 31)) (aNil))))) (aCons (e2 fEq (eA m__law_taken (aCons (eVar 1) (aCons (eC (.int 3)) (aNil)))) (eC (.int 2))) (aNil))))))))
  (sSeq (sFor (iR1 (eA m__law_taken (aCons (eVar 1) (aCons (eC (.int 3)) (aNil))))) (.one 5) (sSeq (sDrop (eMeth 7 "hear" m_End_hear (eVar 3) (aCons (eA m__law_frame (aCons (eC (.int 1)) (aCons (eC (.int 0)) (aCons (e2 fAdd (e2 fSub (eC (.int 2)) (eVar 2)) (e2 fMul (eC (.int 2)) (eVar 5))) (aCons (eLst (aNil)) (aNil)))))) (aNil))))
  (sDrop (eBM isL (m1 fAppend) (eVar 4) (aCons (e2 fAdd (e2 fSub (eC (.int 2)) (eVar 2)) (e2 fMul (eC (.int 2)) (eVar 5))) (aNil))))))
  (sSeq (sFor (iR1 (eA m__law_taken (aCons (eVar 1) (aCons (eC (.int 6)) (aNil))))) (.one 5) (sDrop (eMeth 7 "next_frame" m_End_next_frame (eVar 3) aNil)))
  (sSeq (sSet 6 (eA m__law_seen (aCons (eVar 3) (aCons (eVar 4) (aNil)))))
  (sSeq (sSet 7 (eA (a1 fList) (aCons (e1 (fFld 5 "pairs") (e1 (fFld 7 "told") (eVar 3))) (aNil))))
  (sSeq (sSet 8 (eA m__law_taken (aCons (eVar 1) (aCons (eC (.int 4)) (aNil)))))
  (sSeq (sSet 9 (e2 fIx (eLst (aCons (eLst (aCons (e2 fAdd (eC (.int 7)) (eA m__law_taken (aCons (eVar 1) (aCons (eC (.int 249)) (aNil))))) (aCons (eC (.int 0)) (aCons (eC (.int 0)) (aCons (eLst (aNil)) (aNil)))))) (aCons (eLst (aCons (eC (.int 2)) (aCons (eC (.int 0)) (aCons (eC (.int 0)) (aCons (eLst (aCons (eC (.int 1)) (aNil))) (aNil)))))) (aCons (eLst (aCons (eC (.int 3)) (aCons (eC (.int 0)) (aCons (eC (.int 0)) (aCons (eLst (aCons (eC (.int 0)) (aCons (eC (.int 0)) (aNil)))) (aNil)))))) (aCons (eLst (aCons (eC (.int 5)) (aCons (eC (.int 0)) (aCons (eC (.int 0)) (aCons (eLst (aCons (eC (.int 8)) (aNil))) (aNil)))))) (aNil)))))) (eVar 8)))
  (sSeq (sSet 10 (e2 fIx (eLst (aCons (eC (.str "kind")) (aCons (eC (.str "number")) (aCons (eC (.str "many")) (aCons (eC (.str "number")) (aNil)))))) (eVar 8)))
  (sSeq (sIf (tOr (tOf (e2 fNe (eMeth 7 "hear" m_End_hear (eVar 3) (aCons (eA m__law_frame (aCons (e2 fIx (eVar 9) (eC (.int 0))) (aCons (e2 fIx (eVar 9) (eC (.int 1))) (aCons (e2 fIx (eVar 9) (eC (.int 2))) (aCons (e2 fIx (eVar 9) (eC (.int 3))) (aNil)))))) (aNil))) (eLst (aCons (eTup (aCons (eC (.str "broken")) (aCons (eVar 10) (aNil)))) (aNil))))) (tOf (e2 fNe (e1 (fFld 7 "broken") (eVar 3)) (eVar 10)))) (sRet (eC (.bl false))) (sNext))
  (sSeq (sSet 11 (e2 fIx (e2 fAdd (eVar 4) (eLst (aCons (eC (.int 99)) (aNil)))) (eA m__law_taken (aCons (eVar 1) (aCons (e2 fAdd (eA (a1 fLen) (aCons (eVar 4) (aNil))) (eC (.int 1))) (aNil))))))
  (sSeq (sFor (iR1 (eC (.int 7))) (.one 8) (sFor (iR1 (eC (.int 2))) (.one 12) (sIf (tOr (tOf (e2 fNe (eA m__law_why (aCons (eVar 3) (aCons (eVar 8) (aCons (eVar 11) (aCons (eVar 12) (aNil)))))) (eC (.str "broken")))) (tOf (e2 fNe (eA m__law_why (aCons (eVar 3) (aCons (eVar 8) (aCons (eC (.int 0)) (aCons (eVar 12) (aNil)))))) (eC (.str "broken"))))) (sRet (eC (.bl false))) (sNext))))
  (sSeq (sIf (tOr (tOf (e2 fNe (eMeth 7 "next_frame" m_End_next_frame (eVar 3) aNil) (eLst (aNil)))) (tOr (tOf (e2 fNe (eMeth 7 "hear" m_End_hear (eVar 3) (aCons (eA m__law_frame (aCons (eC (.int 3)) (aCons (eC (.int 0)) (aCons (eC (.int 0)) (aCons (eLst (aCons (eC (.int 0)) (aCons (eC (.int 5)) (aNil)))) (aNil)))))) (aNil))) (eLst (aNil)))) (tOf (e2 fNe (e1 (fFld 7 "broken") (eVar 3)) (eVar 10))))) (sRet (eC (.bl false))) (sNext))
  (sRet (eAnd (eA m__law_list (aCons (eA m__law_seen (aCons (eVar 3) (aCons (eVar 4) (aNil)))) (aCons (eVar 6) (aNil)))) (e2 fEq (e1 (fFld 5 "pairs") (e1 (fFld 7 "told") (eVar 3))) (eVar 7)))))))))))))))))))
def m_law : List D → M D := fnM 13 1 b_law
end Law

/-! plain facts about the mirror language -/
namespace Sim
open PySem PySem.Spec L2
theorem rangeD_succ (lo : Int) (n : Nat) : rangeD lo (n + 1) = .int lo :: rangeD (lo + 1) n := by
  unfold rangeD
  rw [List.range_succ_eq_map, List.map_cons, List.map_map]
  congr 1
  · simp
  · apply List.map_congr_left
    intro i _
    show D.int (lo + ((i + 1 : Nat) : Int)) = D.int (lo + 1 + (i : Int))
    congr 1
    omega
theorem rangeD_zero (lo : Int) : rangeD lo 0 = [] := rfl
theorem rangeD_len (lo : Int) (n : Nat) : (rangeD lo n).length = n := by unfold rangeD; simp
theorem listOf_fl (ds : List D) : listOf (.fl ds) = fun _ => some ds := rfl
theorem listOf_scr (ns : List Int) : listOf (.scr ns) = fun _ => some (ns.map D.int) := rfl
theorem isL_fl (ds : List D) (S : Store) : isL (.fl ds) S = true := rfl
theorem isL_scr (ns : List Int) (S : Store) : isL (.scr ns) S = true := rfl
theorem bigI_of {i : Int} (h0 : -4611686018427387904 ≤ i) (h1 : i < 4611686018427387904) : bigI i = true := by
  unfold bigI
  exact decide_eq_true ⟨h0, h1⟩
/-! ### data -/
mutual
def toP : D → Option PyData
  | .non => some .none
  | .bl b => some (.bool b)
  | .int i => some (.int i)
  | .str s => some (.str s)
  | .tup ds => (toPs ds).map .tuple
  | .fl ds => (toPs ds).map .list
  | .scr ns => some (.list (ns.map PyData.int))
  | .ref _ => none
def toPs : List D → Option (List PyData)
  | [] => some []
  | d :: ds => match toP d, toPs ds with
    | some x, some xs => some (x :: xs)
    | _, _ => none
end
mutual
def depD : D → Nat
  | .tup ds => depDs ds + 1
  | .fl ds => depDs ds + 1
  | _ => 1
def depDs : List D → Nat
  | [] => 1
  | d :: ds => max (depD d) (depDs ds)
end
theorem mapM_py {S : Store} {k : Nat} (ih : ∀ d x, toP d = some x → depD d ≤ k → pyD S k d = some x) : ∀ (ds : List D) (xs : List PyData), toPs ds = some xs → depDs ds ≤ k → ds.mapM (pyD S k) = some xs
  | [], xs, h, _ => by unfold toPs at h; cases h; rfl
  | d :: ds, xs, h, hd => by
    unfold toPs at h
    unfold depDs at hd
    cases e1 : toP d with
    | none => rw [e1] at h; cases h
    | some x =>
      cases e2 : toPs ds with
      | none => rw [e1, e2] at h; cases h
      | some ys =>
        rw [e1, e2] at h
        cases h
        rw [List.mapM_cons, ih d x e1 (by omega), mapM_py ih ds ys e2 (by omega)]
        rfl
theorem pyD_of {S : Store} : ∀ (k : Nat) (d : D) (x : PyData), toP d = some x → depD d ≤ k → pyD S k d = some x
  | 0, d, x, _, hd => by
    exfalso
    cases d <;> (unfold depD at hd; omega)
  | k + 1, d, x, h, hd => by
    cases d with
    | non => unfold toP at h; cases h; rfl
    | bl b => unfold toP at h; cases h; rfl
    | int i => unfold toP at h; cases h; rfl
    | str s => unfold toP at h; cases h; rfl
    | scr ns => unfold toP at h; cases h; rfl
    | ref n => unfold toP at h; cases h
    | tup ds =>
      unfold toP at h
      unfold depD at hd
      cases e : toPs ds with
      | none => rw [e] at h; cases h
      | some ys =>
        rw [e] at h
        cases h
        unfold pyD
        rw [mapM_py (pyD_of k) ds ys e (by omega)]
        rfl
    | fl ds =>
      unfold toP at h
      unfold depD at hd
      cases e : toPs ds with
      | none => rw [e] at h; cases h
      | some ys =>
        rw [e] at h
        cases h
        unfold pyD
        rw [mapM_py (pyD_of k) ds ys e (by omega)]
        rfl
theorem toPs_ints : ∀ ns : List Int, toPs (ns.map D.int) = some (ns.map PyData.int)
  | [] => rfl
  | n :: ns => by rw [List.map_cons]; unfold toPs; rw [toPs_ints ns]; rfl
theorem depDs_ints : ∀ ns : List Int, depDs (ns.map D.int) = 1
  | [] => rfl
  | n :: ns => by rw [List.map_cons]; unfold depDs; rw [depDs_ints ns]; rfl
theorem lay_ints : ∀ ns : List Int, PyData.canLayAll0 (ns.map PyData.int) = true
  | [] => rfl
  | n :: ns => by rw [List.map_cons]; unfold PyData.canLayAll0; rw [lay_ints ns]; rfl
theorem dep_ints : ∀ ns : List Int, PyData.depthAll (ns.map PyData.int) = 0
  | [] => rfl
  | n :: ns => by rw [List.map_cons]; unfold PyData.depthAll; rw [dep_ints ns]; rfl
theorem shaped_ints (ns : List Int) : SeqAt.shaped (.list (ns.map PyData.int)) = true := by
  unfold SeqAt.shaped
  rw [Bool.and_eq_true]
  refine ⟨?_, ?_⟩
  · unfold PyData.canLay0; exact lay_ints ns
  · unfold PyData.depth; rw [dep_ints]; decide
theorem eqv_ints : ∀ (a b : List Int), PyData.eqvAll (a.map PyData.int) (b.map PyData.int) = decide (a = b)
  | [], [] => rfl
  | [], _ :: _ => rfl
  | _ :: _, [] => rfl
  | x :: xs, y :: ys => by
    rw [List.map_cons, List.map_cons]
    unfold PyData.eqvAll
    rw [eqv_ints xs ys]
    show ((x == y) && decide (xs = ys)) = decide (x :: xs = y :: ys)
    by_cases c : x = y
    · subst c; simp
    · simp [c]
theorem eqD_of {a b : D} {x y : PyData} {S : Store} (ha : toP a = some x) (hb : toP b = some y) (da : depD a ≤ 8) (db : depD b ≤ 8) (sa : SeqAt.shaped x = true) (sb : SeqAt.shaped y = true) : eqD a b S = some (PyData.eqv x y) := by
  unfold eqD
  rw [pyD_of pyDepth a x ha da, pyD_of pyDepth b y hb db]
  simp only [sa, sb, and_self, if_true]
theorem eqD_int (i j : Int) (S : Store) : eqD (.int i) (.int j) S = some (decide (i = j)) := by
  rw [eqD_of (a := .int i) (b := .int j) (x := .int i) (y := .int j) rfl rfl (show 1 ≤ 8 by decide) (show 1 ≤ 8 by decide) rfl rfl]
  show some (i == j) = _
  by_cases c : i = j <;> simp [c]
theorem eqD_ints (a b : List Int) (S : Store) : eqD (.fl (a.map D.int)) (.fl (b.map D.int)) S = some (decide (a = b)) := by
  rw [eqD_of (x := .list (a.map .int)) (y := .list (b.map .int)) (by unfold toP; rw [toPs_ints]; rfl) (by unfold toP; rw [toPs_ints]; rfl) (by unfold depD; rw [depDs_ints]; decide) (by unfold depD; rw [depDs_ints]; decide) (shaped_ints a) (shaped_ints b)]
  show some (PyData.eqvAll _ _) = _
  rw [eqv_ints]
theorem shaped_str {s : Str} (h : PyData.strOk s = true) : SeqAt.shaped (.str s) = true := by
  unfold SeqAt.shaped PyData.canLay0 PyData.depth
  rw [h]; decide
theorem eqD_str {s t : Str} (S : Store) (h1 : PyData.strOk s = true) (h2 : PyData.strOk t = true) : eqD (.str s) (.str t) S = some (decide (s = t)) := by
  rw [eqD_of (a := .str s) (b := .str t) (x := .str s) (y := .str t) rfl rfl (show 1 ≤ 8 by decide) (show 1 ≤ 8 by decide) (shaped_str h1) (shaped_str h2)]
  show some (s == t) = _
  by_cases c : s = t <;> simp [c]
theorem natlit (n : Nat) : ((no_index (OfNat.ofNat n) : Nat) : Int) = (OfNat.ofNat n : Int) := rfl
/-! ### steps -/
theorem seq_nx {a b : MS} {l l' : Sl} {S S' : Store} (h : a l S = some (.nx l', S')) : sSeq a b l S = b l' S' := by unfold sSeq; rw [h]
theorem seq_rt {a b : MS} {l : Sl} {S S' : Store} {d : D} (h : a l S = some (.rt d, S')) : sSeq a b l S = some (.rt d, S') := by unfold sSeq; rw [h]
theorem seq_ex {a b : MS} {l l' : Sl} {S S' : Store} {x : Exn} (h : a l S = some (.ex x l', S')) : sSeq a b l S = some (.ex x l', S') := by unfold sSeq; rw [h]
theorem fn_rt {n np : Nat} {body : MS} {ds : List D} {S S' : Store} {d : D} (hl : ds.length = np) (h : body (ds.map some ++ List.replicate (n - np) none) S = some (.rt d, S')) : fnM n np body ds S = some (.ok d, S') := by unfold fnM; rw [if_pos hl, h]
theorem fn_nx {n np : Nat} {body : MS} {ds : List D} {S S' : Store} {l : Sl} (hl : ds.length = np) (h : body (ds.map some ++ List.replicate (n - np) none) S = some (.nx l, S')) : fnM n np body ds S = some (.ok .non, S') := by unfold fnM; rw [if_pos hl, h]
theorem fn_ex {n np : Nat} {body : MS} {ds : List D} {S S' : Store} {l : Sl} {x : Exn} (hl : ds.length = np) (h : body (ds.map some ++ List.replicate (n - np) none) S = some (.ex x l, S')) : fnM n np body ds S = some (.error x, S') := by unfold fnM; rw [if_pos hl, h]
theorem fMul_l {i j : Int} (h0 : -18446744073709551616 < i) (h1 : i < 18446744073709551616) (S : Store) : fMul (.int i) (.int j) S = some (.ok (.int (i * j)), S) := by unfold fMul; simp only; rw [if_pos (.inl ⟨h0, h1⟩)]
theorem fMul_r {i j : Int} (h0 : -18446744073709551616 < j) (h1 : j < 18446744073709551616) (S : Store) : fMul (.int i) (.int j) S = some (.ok (.int (i * j)), S) := by unfold fMul; simp only; rw [if_pos (.inr ⟨h0, h1⟩)]
theorem fMod_i {i j : Int} (h : 0 < j) (S : Store) : fMod (.int i) (.int j) S = some (.ok (.int (i % j)), S) := by unfold fMod; simp only; rw [if_pos h]
theorem fDiv_i {i j : Int} (h : 0 < j) (h1 : j < 1606938044258990275541962092341162602522202993782792835301376) (S : Store) : fDiv (.int i) (.int j) S = some (.ok (.int (i / j)), S) := by unfold fDiv; simp only; rw [if_pos ⟨h, h1⟩]
theorem fAdd_i (i j : Int) (S : Store) : fAdd (.int i) (.int j) S = some (.ok (.int (i + j)), S) := rfl
theorem fSub_i (i j : Int) (S : Store) : fSub (.int i) (.int j) S = some (.ok (.int (i - j)), S) := rfl
theorem fLt_i (i j : Int) (S : Store) : fLt (.int i) (.int j) S = some (.ok (.bl (decide (i < j))), S) := rfl
theorem fCmp_i (p : Int → Int → Bool) (i j : Int) (S : Store) : fCmpI p (.int i) (.int j) S = some (.ok (.bl (p i j)), S) := rfl
theorem fEq_i (i j : Int) (S : Store) : fEq (.int i) (.int j) S = some (.ok (.bl (decide (i = j))), S) := by unfold fEq; rw [eqD_int]
theorem fNe_i (i j : Int) (S : Store) : fNe (.int i) (.int j) S = some (.ok (.bl (!decide (i = j))), S) := by unfold fNe; rw [eqD_int]
theorem atI_n {α : Type} {xs : List α} {j : Nat} {x : α} (h : xs[j]? = some x) : atI xs (j : Int) = some x := by
  have hj := (List.getElem?_eq_some_iff.mp h).1
  unfold atI ixN
  rw [if_pos (by omega), if_pos (by omega)]
  simpa using h
theorem atI_i {α : Type} {xs : List α} {i : Int} {x : α} (h0 : 0 ≤ i) (h : xs[i.toNat]? = some x) : atI xs i = some x := by
  obtain ⟨j, rfl⟩ := Int.eq_ofNat_of_zero_le h0
  exact atI_n (by simpa using h)
theorem fIx_fl {ds : List D} {i : Int} {d : D} (h0 : 0 ≤ i) (h : ds[i.toNat]? = some d) (S : Store) : fIx (.fl ds) (.int i) S = some (.ok d, S) := by
  unfold fIx dctOf seqOf listOf; simp only [atI_i h0 h]
theorem fIx_tup {ds : List D} {i : Int} {d : D} (h0 : 0 ≤ i) (h : ds[i.toNat]? = some d) (S : Store) : fIx (.tup ds) (.int i) S = some (.ok d, S) := by
  unfold fIx dctOf seqOf; simp only [atI_i h0 h]
theorem fIx_scr {ns : List Int} {i : Int} {n : Int} (h0 : 0 ≤ i) (h : ns[i.toNat]? = some n) (S : Store) : fIx (.scr ns) (.int i) S = some (.ok (.int n), S) := by
  unfold fIx dctOf seqOf listOf
  simp only [atI_i h0 (show (ns.map D.int)[i.toNat]? = some (.int n) by rw [List.getElem?_map, h]; rfl)]
theorem fIx_ref {n : Nat} {ds : List D} {b : Bool} {i : Int} {d : D} {S : Store} (hS : S[n]? = some ⟨.lst ds, b⟩) (h0 : 0 ≤ i) (h : ds[i.toNat]? = some d) : fIx (.ref n) (.int i) S = some (.ok d, S) := by
  unfold fIx dctOf seqOf listOf; simp only [hS, atI_i h0 h]
theorem fIx_str {s : Str} {i : Int} {c : Nat} (hl : s.length ≤ 16777216) (h0 : 0 ≤ i) (h : s.cps.toList[i.toNat]? = some c) (S : Store) : fIx (.str s) (.int i) S = some (.ok (.str ⟨#[c]⟩), S) := by
  unfold fIx
  have e : s.length ≤ lineN := hl
  simp only [e, if_true, atI_i h0 h]
theorem fIx_dct {n : Nat} {kvs : List (Key × D)} {b : Bool} {k : D} {kk : Key} {d : D} {S : Store} (hS : S[n]? = some ⟨.dct kvs, b⟩) (hk : keyOf k = some kk) (h : valD kvs kk = some d) : fIx (.ref n) k S = some (.ok d, S) := by
  unfold fIx dctOf; simp only [hS, hk, h]
theorem putIx_lst {n : Nat} {ds : List D} {i : Int} {d : D} {S : Store} (hS : S[n]? = some ⟨.lst ds, false⟩) (h0 : 0 ≤ i) (h : i < ds.length) : putIxD (.ref n) (.int i) d S = some (S.set n ⟨.lst (ds.set i.toNat d), false⟩) := by
  unfold putIxD ixN
  simp only [hS, h0, h, if_true]
theorem fLen_fl (ds : List D) (S : Store) : fLen (.fl ds) S = some (.ok (.int ds.length), S) := rfl
theorem fLen_tup (ds : List D) (S : Store) : fLen (.tup ds) S = some (.ok (.int ds.length), S) := rfl
theorem fLen_scr (ns : List Int) (S : Store) : fLen (.scr ns) S = some (.ok (.int ns.length), S) := by unfold fLen dctU seqOf listOf; simp
theorem fLen_str {s : Str} (h : s.length ≤ 16777216) (S : Store) : fLen (.str s) S = some (.ok (.int s.length), S) := by unfold fLen; simp only; rw [if_pos (show s.length ≤ lineN from h)]
theorem fLen_ref {n : Nat} {ds : List D} {b : Bool} {S : Store} (hS : S[n]? = some ⟨.lst ds, b⟩) : fLen (.ref n) S = some (.ok (.int ds.length), S) := by unfold fLen dctU seqOf listOf; simp only [hS]
theorem fAdd_fl {xs ys : List D} (h : xs.length + ys.length ≤ 16777216) (S : Store) : fAdd (.fl xs) (.fl ys) S = some (.ok (.fl (xs ++ ys)), S) := by unfold fAdd catOf; simp only; rw [if_pos (show _ ≤ lineN from h)]
theorem fAdd_str {s t : Str} (h : s.length + t.length ≤ 16777216) (S : Store) : fAdd (.str s) (.str t) S = some (.ok (.str (s ++ t)), S) := by unfold fAdd; simp only; rw [if_pos (show _ ≤ lineN from h)]
theorem fIsi_int (T : String) (i : Int) (S : Store) : fIsi T (.int i) S = some (.ok (.bl ("int" == T || ("int" == "bool" && T == "int"))), S) := rfl
theorem sFor_fl {a : ME} {tg : Tg} {body : MS} {l : Sl} {S S1 : Store} {ds : List D} (h : a l S = some (.ok (.fl ds), S1)) : sFor (iL a) tg body l S = forL tg body ds l S1 := by
  have e : iL a l S = some (.ok (fun _ => some ds), S1) := by unfold iL; rw [h]; rfl
  unfold sFor
  rw [e]
  exact forG_all
theorem sFor_scr {a : ME} {tg : Tg} {body : MS} {l : Sl} {S S1 : Store} {ns : List Int} (h : a l S = some (.ok (.scr ns), S1)) : sFor (iL a) tg body l S = forL tg body (ns.map D.int) l S1 := by
  have e : iL a l S = some (.ok (fun _ => some (ns.map D.int)), S1) := by unfold iL; rw [h]; rfl
  unfold sFor
  rw [e]
  exact forG_all
theorem sFor_str {a : ME} {tg : Tg} {body : MS} {l : Sl} {S S1 : Store} {z : Str} (h : a l S = some (.ok (.str z), S1)) : sFor (iS a) tg body l S = forL tg body (signsOf z) l S1 := by
  have e : iS a l S = some (.ok (fun _ => some (signsOf z)), S1) := by unfold iS; rw [h]; rfl
  unfold sFor
  rw [e]
  exact forG_all
theorem iR1_ok {a : ME} {l : Sl} {S S1 : Store} {n : Int} (h : a l S = some (.ok (.int n), S1)) (h0 : -4611686018427387904 ≤ n) (h1 : n < 4611686018427387904) : iR1 a l S = some (.ok (fun _ => some (rangeD 0 n.toNat)), S1) := by
  unfold iR1
  rw [h]
  simp only [bnd]
  rw [if_pos (bigI_of h0 h1)]
theorem sFor_r1 {a : ME} {tg : Tg} {body : MS} {l : Sl} {S S1 : Store} {n : Int} (h : a l S = some (.ok (.int n), S1)) (h0 : -4611686018427387904 ≤ n) (h1 : n < 4611686018427387904) : sFor (iR1 a) tg body l S = forL tg body (rangeD 0 n.toNat) l S1 := by
  unfold sFor
  rw [iR1_ok h h0 h1]
  exact forG_all
theorem eComp_of {vs : List Nat} {mi : Sl → M Src} {tg : Tg} {t : MT} {e : ME} {l : Sl} {S S1 : Store} {ds : List D} (h : mi l S = some (.ok (fun _ => some ds), S1)) : eComp vs mi tg t e l S = compL tg t e (wipeD l vs) [] ds S1 := by
  unfold eComp
  rw [h]
  exact compG_all
theorem eComp_fl {vs : List Nat} {a : ME} {tg : Tg} {t : MT} {e : ME} {l : Sl} {S S1 : Store} {ds : List D} (h : a l S = some (.ok (.fl ds), S1)) : eComp vs (iL a) tg t e l S = compL tg t e (wipeD l vs) [] ds S1 :=
  eComp_of (by unfold iL; rw [h]; rfl)
theorem eComp_str {vs : List Nat} {a : ME} {tg : Tg} {t : MT} {e : ME} {l : Sl} {S S1 : Store} {z : Str} (h : a l S = some (.ok (.str z), S1)) : eComp vs (iS a) tg t e l S = compL tg t e (wipeD l vs) [] (signsOf z) S1 :=
  eComp_of (by unfold iS; rw [h]; rfl)
theorem eComp_r1 {vs : List Nat} {a : ME} {tg : Tg} {t : MT} {e : ME} {l : Sl} {S S1 : Store} {n : Int} (h : a l S = some (.ok (.int n), S1)) (h0 : -4611686018427387904 ≤ n) (h1 : n < 4611686018427387904) : eComp vs (iR1 a) tg t e l S = compL tg t e (wipeD l vs) [] (rangeD 0 n.toNat) S1 :=
  eComp_of (iR1_ok h h0 h1)
theorem compL_map {α : Type} {tg : Tg} {e : ME} {l : Sl} {S : Store} (g f : α → D) : ∀ (xs : List α) (acc : List D), (∀ a ∈ xs, ∃ l1, tgSet tg (g a) l = some l1 ∧ e l1 S = some (.ok (f a), S)) → acc.length + xs.length ≤ 16777216 →
    compL tg tYes' e l acc (xs.map g) S = some (.ok (.fl (acc ++ xs.map f)), S)
  | [], acc, _, _ => by rw [List.map_nil, compL]; simp
  | d :: ds, acc, h, hl => by
    obtain ⟨l1, h1, h2⟩ := h d List.mem_cons_self
    rw [List.length_cons] at hl
    rw [List.map_cons, compL]
    simp only [h1, tYes', bndN, if_true, h2]
    rw [if_pos (show acc.length < lineN by show _ < 16777216; omega), compL_map g f ds (acc ++ [f d]) (fun d hd => h d (List.mem_cons_of_mem _ hd)) (by rw [List.length_append]; simp; omega), List.map_cons, List.append_assoc]
    rfl
theorem sIx_lo {n : Nat} {i : Int} (h0 : 0 ≤ i) (h1 : i ≤ n) {d : Nat} : HT.sIx n d (some i) = i.toNat := by
  obtain ⟨k, rfl⟩ := Int.eq_ofNat_of_zero_le h0
  rw [HT.sIx_nat]
  omega
theorem cut_mid {xs : List D} {i j : Int} (h0 : 0 ≤ i) (h1 : i ≤ j) (h2 : j ≤ xs.length) : cutD xs (some i) (some j) = (xs.drop i.toNat).take (j.toNat - i.toNat) := by
  unfold cutD
  rw [sIx_lo h0 (by omega), sIx_lo (by omega) h2]
theorem cut_lo {xs : List D} {i : Int} (h0 : 0 ≤ i) (h1 : i ≤ xs.length) : cutD xs (some i) none = xs.drop i.toNat := by
  unfold cutD
  rw [sIx_lo h0 h1]
  show (xs.drop i.toNat).take (xs.length - i.toNat) = _
  rw [List.take_of_length_le (by simp)]
theorem cut_hi {xs : List D} {j : Int} (h0 : 0 ≤ j) (h1 : j ≤ xs.length) : cutD xs none (some j) = xs.take j.toNat := by
  unfold cutD
  rw [sIx_lo h0 h1]
  show (xs.drop 0).take (j.toNat - 0) = _
  simp
theorem fIx_t0 (a : D) (r : List D) (S : Store) : fIx (.tup (a :: r)) (.int 0) S = some (.ok a, S) := fIx_tup (by decide) rfl S
theorem fIx_t1 (a b : D) (r : List D) (S : Store) : fIx (.tup (a :: b :: r)) (.int 1) S = some (.ok b, S) := fIx_tup (by decide) rfl S
theorem fIx_t2 (a b c : D) (r : List D) (S : Store) : fIx (.tup (a :: b :: c :: r)) (.int 2) S = some (.ok c, S) := fIx_tup (by decide) rfl S
theorem fIx_t3 (a b c d : D) (r : List D) (S : Store) : fIx (.tup (a :: b :: c :: d :: r)) (.int 3) S = some (.ok d, S) := fIx_tup (by decide) rfl S
theorem fIx_f0 (a : D) (r : List D) (S : Store) : fIx (.fl (a :: r)) (.int 0) S = some (.ok a, S) := fIx_fl (by decide) rfl S
theorem fIx_f1 (a b : D) (r : List D) (S : Store) : fIx (.fl (a :: b :: r)) (.int 1) S = some (.ok b, S) := fIx_fl (by decide) rfl S
theorem fIx_f2 (a b c : D) (r : List D) (S : Store) : fIx (.fl (a :: b :: c :: r)) (.int 2) S = some (.ok c, S) := fIx_fl (by decide) rfl S
theorem fIx_f3 (a b c d : D) (r : List D) (S : Store) : fIx (.fl (a :: b :: c :: d :: r)) (.int 3) S = some (.ok d, S) := fIx_fl (by decide) rfl S
theorem pow17 (S : Store) : fPow (.int 10) (.int 17) S = some (.ok (.int 100000000000000000), S) := by
  unfold fPow
  simp only
  rw [if_pos (by decide +kernel)]
  have : (10 : Int) ^ (17 : Int).toNat = 100000000000000000 := by decide +kernel
  rw [this]
theorem pow9 (S : Store) : fPow (.int 10) (.int 9) S = some (.ok (.int 1000000000), S) := by
  unfold fPow
  simp only
  rw [if_pos (by decide +kernel)]
  have : (10 : Int) ^ (9 : Int).toNat = 1000000000 := by decide +kernel
  rw [this]
theorem pow41 (S : Store) : fPow (.int 10) (.int 41) S = some (.ok (.int 100000000000000000000000000000000000000000), S) := by
  unfold fPow
  simp only
  rw [if_pos (by decide +kernel)]
  have : (10 : Int) ^ (41 : Int).toNat = 100000000000000000000000000000000000000000 := by decide +kernel
  rw [this]
theorem pow18 (S : Store) : fPow (.int 10) (.int 18) S = some (.ok (.int 1000000000000000000), S) := by
  unfold fPow
  simp only
  rw [if_pos (by decide +kernel)]
  have : (10 : Int) ^ (18 : Int).toNat = 1000000000000000000 := by decide +kernel
  rw [this]
/-! ### loops by an invariant -/
theorem forG_rule {src : Src} {tg : Tg} {body : MS} {ds : List D} {Inv : Nat → Sl → Store → Prop} {Q : Fl → Store → Prop}
    (hsrc : ∀ i l S, Inv i l S → src S = some ds)
    (hstep : ∀ i d l S, Inv i l S → ds[i]? = some d → ∃ l1, tgSet tg d l = some l1 ∧ ((∃ l' S', body l1 S = some (.nx l', S') ∧ Inv (i + 1) l' S') ∨ (∃ l' S', body l1 S = some (.ct l', S') ∧ Inv (i + 1) l' S') ∨ (∃ l' S', body l1 S = some (.bk l', S') ∧ Q (.nx l') S') ∨ (∃ d' S', body l1 S = some (.rt d', S') ∧ Q (.rt d') S') ∨ (∃ x l' S', body l1 S = some (.ex x l', S') ∧ Q (.ex x l') S')))
    (hend : ∀ l S, Inv ds.length l S → Q (.nx l) S) : ∀ (k i : Nat) (l : Sl) (S : Store), ds.length < k + i → i ≤ ds.length → Inv i l S → ∃ r S', forG src tg body k i l S = some (r, S') ∧ Q r S'
  | 0, i, l, S, h, h', _ => absurd h (by omega)
  | k + 1, i, l, S, h, h', hI => by
    unfold forG
    simp only [hsrc i l S hI]
    by_cases c : i < ds.length
    · have hd : ds[i]? = some ds[i] := List.getElem?_eq_getElem c
      obtain ⟨l1, e1, hs⟩ := hstep i _ l S hI hd
      rw [hd]
      simp only [e1]
      rcases hs with ⟨l', S', e2, hI'⟩ | ⟨l', S', e2, hI'⟩ | ⟨l', S', e2, hq⟩ | ⟨d', S', e2, hq⟩ | ⟨x, l', S', e2, hq⟩
      · rw [e2]; exact forG_rule hsrc hstep hend k (i + 1) l' S' (by omega) (by omega) hI'
      · rw [e2]; exact forG_rule hsrc hstep hend k (i + 1) l' S' (by omega) (by omega) hI'
      · rw [e2]; exact ⟨_, _, rfl, hq⟩
      · rw [e2]; exact ⟨_, _, rfl, hq⟩
      · rw [e2]; exact ⟨_, _, rfl, hq⟩
    · have e : i = ds.length := by omega
      subst e
      rw [List.getElem?_eq_none (Nat.le_refl _)]
      exact ⟨_, _, rfl, hend l S hI⟩
theorem sFor_rule {items : Sl → M Src} {src : Src} {tg : Tg} {body : MS} {ds : List D} (Inv : Nat → Sl → Store → Prop) (Q : Fl → Store → Prop) {l : Sl} {S S1 : Store}
    (hi : items l S = some (.ok src, S1)) (h0 : Inv 0 l S1)
    (hsrc : ∀ i l S, Inv i l S → src S = some ds)
    (hstep : ∀ i d l S, Inv i l S → ds[i]? = some d → ∃ l1, tgSet tg d l = some l1 ∧ ((∃ l' S', body l1 S = some (.nx l', S') ∧ Inv (i + 1) l' S') ∨ (∃ l' S', body l1 S = some (.ct l', S') ∧ Inv (i + 1) l' S') ∨ (∃ l' S', body l1 S = some (.bk l', S') ∧ Q (.nx l') S') ∨ (∃ d' S', body l1 S = some (.rt d', S') ∧ Q (.rt d') S') ∨ (∃ x l' S', body l1 S = some (.ex x l', S') ∧ Q (.ex x l') S')))
    (hend : ∀ l S, Inv ds.length l S → Q (.nx l) S) : ∃ r S', sFor items tg body l S = some (r, S') ∧ Q r S' := by
  unfold sFor
  rw [hi]
  simp only [bndS, hsrc 0 l S1 h0]
  exact forG_rule hsrc hstep hend _ 0 l S1 (by omega) (by omega) h0
theorem sFor_thru {items : Sl → M Src} {src : Src} {tg : Tg} {body : MS} {ds : List D} (Inv : Nat → Sl → Store → Prop) {l : Sl} {S S1 : Store}
    (hi : items l S = some (.ok src, S1)) (h0 : Inv 0 l S1)
    (hsrc : ∀ i l S, Inv i l S → src S = some ds)
    (hstep : ∀ i d l S, Inv i l S → ds[i]? = some d → ∃ l1, tgSet tg d l = some l1 ∧ ∃ l' S', body l1 S = some (.nx l', S') ∧ Inv (i + 1) l' S') :
    ∃ l' S', sFor items tg body l S = some (.nx l', S') ∧ Inv ds.length l' S' := by
  obtain ⟨r, S', h1, l', h2, h3⟩ := sFor_rule (ds := ds) Inv (fun r S' => ∃ l', r = .nx l' ∧ Inv ds.length l' S') hi h0 hsrc (fun i d l S a b => by
    obtain ⟨l1, h1, h2⟩ := hstep i d l S a b
    exact ⟨l1, h1, .inl h2⟩) (fun l S h => ⟨l, rfl, h⟩)
  subst h2
  exact ⟨l', S', h1, h3⟩
theorem iL_fl {a : ME} {l : Sl} {S S1 : Store} {ds : List D} (h : a l S = some (.ok (.fl ds), S1)) : iL a l S = some (.ok (fun _ => some ds), S1) := by unfold iL; rw [h]; rfl
theorem iL_ref {a : ME} {l : Sl} {S S1 : Store} {n : Nat} {ds : List D} {b : Bool} (h : a l S = some (.ok (.ref n), S1)) (hS : S1[n]? = some ⟨.lst ds, b⟩) : iL a l S = some (.ok (Sim.listOf (.ref n)), S1) := by
  unfold iL
  rw [h]
  simp only [bnd]
  rw [if_pos (by unfold isL Sim.listOf; simp only [hS]; rfl)]
theorem listOf_ref {n : Nat} {ds : List D} {b : Bool} {S : Store} (hS : S[n]? = some ⟨.lst ds, b⟩) : Sim.listOf (.ref n) S = some ds := by unfold Sim.listOf; simp only [hS]
theorem iEn_fl {a : ME} {l : Sl} {S S1 : Store} {ds : List D} (h : a l S = some (.ok (.fl ds), S1)) : iEn a l S = some (.ok (fun _ => some (enumD ds)), S1) := by unfold iEn; rw [h]; rfl
theorem enumD_get {ds : List D} {i : Nat} {d : D} (h : (enumD ds)[i]? = some d) : ∃ x, ds[i]? = some x ∧ d = .tup [.int (i : Nat), x] := by
  unfold enumD at h
  rw [List.getElem?_map, List.getElem?_zipIdx] at h
  cases e : ds[i]? with
  | none => rw [e] at h; cases h
  | some x =>
    rw [e] at h
    refine ⟨x, rfl, ?_⟩
    have h : D.tup [.int ((0 + i : Nat) : Int), x] = d := Option.some.inj h
    rw [← h, Nat.zero_add]
theorem ln0 : decide (0 ≤ lineN) = true := decide_eq_true (by unfold lineN; decide)
theorem ln1 : decide (1 ≤ lineN) = true := decide_eq_true (by unfold lineN; decide)
theorem ln2 : decide (2 ≤ lineN) = true := decide_eq_true (by unfold lineN; decide)
theorem ln3 : decide (3 ≤ lineN) = true := decide_eq_true (by unfold lineN; decide)
theorem ln4 : decide (4 ≤ lineN) = true := decide_eq_true (by unfold lineN; decide)
theorem ln5 : decide (5 ≤ lineN) = true := decide_eq_true (by unfold lineN; decide)
theorem ln6 : decide (6 ≤ lineN) = true := decide_eq_true (by unfold lineN; decide)
theorem ln7 : decide (7 ≤ lineN) = true := decide_eq_true (by unfold lineN; decide)
theorem ln8 : decide (8 ≤ lineN) = true := decide_eq_true (by unfold lineN; decide)
theorem ln9 : decide (9 ≤ lineN) = true := decide_eq_true (by unfold lineN; decide)
theorem ln10 : decide (10 ≤ lineN) = true := decide_eq_true (by unfold lineN; decide)
theorem ln11 : decide (11 ≤ lineN) = true := decide_eq_true (by unfold lineN; decide)
theorem ln12 : decide (12 ≤ lineN) = true := decide_eq_true (by unfold lineN; decide)
theorem nl0 : ((0 : Nat) : Int) = 0 := rfl
theorem nl1 : ((1 : Nat) : Int) = 1 := rfl
theorem nl2 : ((2 : Nat) : Int) = 2 := rfl
theorem nl3 : ((3 : Nat) : Int) = 3 := rfl
theorem nl4 : ((4 : Nat) : Int) = 4 := rfl
theorem nl5 : ((5 : Nat) : Int) = 5 := rfl
theorem nl6 : ((6 : Nat) : Int) = 6 := rfl
theorem nl7 : ((7 : Nat) : Int) = 7 := rfl
theorem nl8 : ((8 : Nat) : Int) = 8 := rfl
theorem nl9 : ((9 : Nat) : Int) = 9 := rfl
theorem nl10 : ((10 : Nat) : Int) = 10 := rfl
theorem nl11 : ((11 : Nat) : Int) = 11 := rfl
theorem nl12 : ((12 : Nat) : Int) = 12 := rfl
theorem nl13 : ((13 : Nat) : Int) = 13 := rfl
theorem nl14 : ((14 : Nat) : Int) = 14 := rfl
theorem nl15 : ((15 : Nat) : Int) = 15 := rfl
theorem nl16 : ((16 : Nat) : Int) = 16 := rfl
theorem nl17 : ((17 : Nat) : Int) = 17 := rfl
theorem nl18 : ((18 : Nat) : Int) = 18 := rfl
theorem nl19 : ((19 : Nat) : Int) = 19 := rfl
theorem nl20 : ((20 : Nat) : Int) = 20 := rfl
theorem nl21 : ((21 : Nat) : Int) = 21 := rfl
theorem nl22 : ((22 : Nat) : Int) = 22 := rfl
theorem nl23 : ((23 : Nat) : Int) = 23 := rfl
theorem nl24 : ((24 : Nat) : Int) = 24 := rfl
theorem nl25 : ((25 : Nat) : Int) = 25 := rfl
/-! ### a comprehension over a stored list -/
theorem compG_at {src : Src} {tg : Tg} {t : MT} {e : ME} {l : Sl} {S : Store} {ds : List D} (hs : src S = some ds) (he : ∀ d ∈ ds, ∃ l1 y, tgSet tg d l = some l1 ∧ t l1 S = some (.ok true, S) ∧ e l1 S = some (.ok y, S)) :
    ∀ (k i : Nat) (acc : List D), compG src tg t e l k i acc S = compG (fun _ => some ds) tg t e l k i acc S
  | 0, _, _ => rfl
  | k + 1, i, acc => by
    unfold compG
    simp only [hs]
    cases hd : ds[i]? with
    | none => rfl
    | some d =>
      obtain ⟨l1, y, h1, h2, h3⟩ := he d (List.mem_of_getElem? hd)
      simp only [h1, h2, h3, bndN, if_true]
      split
      · exact compG_at hs he k (i + 1) _
      · rfl
theorem eComp_ref {α : Type} {vs : List Nat} {a : ME} {tg : Tg} {e : ME} {l : Sl} {S : Store} {n : Nat} {b : Bool} (g f : α → D) (xs : List α) (ha : a l S = some (.ok (.ref n), S)) (hS : S[n]? = some ⟨.lst (xs.map g), b⟩)
    (h : ∀ x ∈ xs, ∃ l1, tgSet tg (g x) (wipeD l vs) = some l1 ∧ e l1 S = some (.ok (f x), S)) (hl : xs.length ≤ 16777216) : eComp vs (iL a) tg tYes' e l S = some (.ok (.fl (xs.map f)), S) := by
  unfold eComp
  rw [iL_ref ha hS]
  simp only [bnd, listOf_ref hS]
  rw [compG_at (listOf_ref hS) (fun d hd => by
    obtain ⟨x, hx, rfl⟩ := List.mem_map.mp hd
    obtain ⟨l1, h1, h2⟩ := h x hx
    exact ⟨l1, f x, h1, rfl, h2⟩), compG_all, compL_map g f xs [] h (by simpa using hl)]
  rfl
theorem fList_ref {n : Nat} {ds : List D} {b : Bool} {S : Store} (hS : S[n]? = some ⟨.lst ds, b⟩) : fList (.ref n) S = some (.ok (.fl ds), S) := by unfold fList seqOf Sim.listOf; simp only [hS]
theorem isS_str (z : Str) (S : Store) : isS (.str z) S = true := rfl
theorem isS_fl (ds : List D) (S : Store) : isS (.fl ds) S = false := rfl
theorem isS_ref (n : Nat) (S : Store) : isS (.ref n) S = false := rfl
end Sim

local macro_rules | `(tactic| walk_at "ev") => `(tactic| try simp only [Sim.sSeq, Sim.sNext, Sim.sIf, Sim.sSet, Sim.sRet, Sim.sRetN, Sim.sDrop, Sim.sFor, Sim.sPut, Sim.sFld, Sim.sWhile, Sim.bndS, Sim.bnd, Sim.bndN, Sim.eVar, Sim.eC, Sim.e1, Sim.e2, Sim.eA, Sim.a1, Sim.a2, Sim.m1, Sim.eTup, Sim.eLst, Sim.eLstR, Sim.eSl, Sim.oNo, Sim.oSo, Sim.iofD, Sim.aNil, Sim.aCons, Sim.tOf, Sim.tAnd, Sim.tOr, Sim.tNot, Sim.blOf, Sim.eAnd, Sim.eOr, Sim.eNot, Sim.eIf, Sim.eComp, Sim.eMeth, Sim.eBM, Sim.fnM, Sim.iL, Sim.iS, Sim.iR1, Sim.iR2, Sim.iEn, Sim.iZ, Sim.okV, Sim.guard, Sim.wipeD, Sim.tYes', Sim.tgSet, Nat.reduceSub, List.replicate, List.getElem?_cons_zero, List.getElem?_cons_succ, List.getElem?_nil, List.set_cons_zero, List.set_cons_succ, List.set_nil, List.map_cons, List.map_nil, List.length_cons, List.length_nil, List.append_nil, List.cons_append, List.nil_append, Nat.reduceAdd, Nat.reduceLeDiff, decide_true, decide_false, if_true, if_false, Bool.false_eq_true, ↓reduceIte, reduceIte, reduceCtorEq, Bool.not_true, Bool.not_false, Sim.forG_all, Sim.compG_all])
local macro_rules | `(tactic| walk_at "ev*") => `(tactic| simp only [Sim.sSeq, Sim.sNext, Sim.sIf, Sim.sSet, Sim.sRet, Sim.sRetN, Sim.sDrop, Sim.sFor, Sim.sPut, Sim.sFld, Sim.sWhile, Sim.bndS, Sim.bnd, Sim.bndN, Sim.eVar, Sim.eC, Sim.e1, Sim.e2, Sim.eA, Sim.a1, Sim.a2, Sim.m1, Sim.eTup, Sim.eLst, Sim.eLstR, Sim.eSl, Sim.oNo, Sim.oSo, Sim.iofD, Sim.aNil, Sim.aCons, Sim.tOf, Sim.tAnd, Sim.tOr, Sim.tNot, Sim.blOf, Sim.eAnd, Sim.eOr, Sim.eNot, Sim.eIf, Sim.eComp, Sim.eMeth, Sim.eBM, Sim.fnM, Sim.iL, Sim.iS, Sim.iR1, Sim.iR2, Sim.iEn, Sim.iZ, Sim.okV, Sim.guard, Sim.wipeD, Sim.tYes', Sim.tgSet, Nat.reduceSub, List.replicate, List.getElem?_cons_zero, List.getElem?_cons_succ, List.getElem?_nil, List.set_cons_zero, List.set_cons_succ, List.set_nil, List.map_cons, List.map_nil, List.length_cons, List.length_nil, List.append_nil, List.cons_append, List.nil_append, Nat.reduceAdd, Nat.reduceLeDiff, decide_true, decide_false, if_true, if_false, Bool.false_eq_true, ↓reduceIte, reduceIte, reduceCtorEq, Bool.not_true, Bool.not_false, Sim.forG_all, Sim.compG_all, Sim.fAdd_i, Sim.fSub_i, Sim.fLt_i, Sim.fCmp_i, Sim.fEq_i, Sim.fNe_i, Sim.fLen_fl, Sim.fLen_tup, Sim.fLen_scr, Sim.listOf_fl, Sim.listOf_scr, Sim.isL_fl, Sim.isL_scr, Sim.sTry, Sim.unsetS, Sim.noEx, Sim.sSetT, Sim.setAll, Sim.sBreak, Sim.sCont, Sim.sRaiseB, Sim.eIndex, Sim.eGet1, Sim.eGet2, Sim.eChain, Sim.isS_str, Sim.isS_fl, Sim.isS_ref, and_true, true_and, and_self, and_false, false_and, List.set_set, Sim.nl0, Sim.nl1, Sim.nl2, Sim.nl3, Sim.nl4, Sim.nl5, Sim.nl6, Sim.nl7, Sim.nl8, Sim.nl9, Sim.nl10, Sim.nl11, Sim.nl12, Sim.nl13, Sim.nl14, Sim.nl15, Sim.nl16, Sim.nl17, Sim.nl18, Sim.nl19, Sim.nl20, Sim.nl21, Sim.nl22, Sim.nl23, Sim.nl24, Sim.nl25, Sim.ln0, Sim.ln1, Sim.ln2, Sim.ln3, Sim.ln4, Sim.ln5, Sim.ln6, Sim.ln7, Sim.ln8, Sim.ln9, Sim.ln10, Sim.ln11, Sim.ln12, Sim.fMod_i, Sim.fDiv_i, Sim.fIx_t0, Sim.fIx_t1, Sim.fIx_t2, Sim.fIx_t3, Sim.fIx_f0, Sim.fIx_f1, Sim.fIx_f2, Sim.fIx_f3, Sim.pow9, Sim.pow17, Sim.pow18, Sim.pow41, Int.reduceEq, Int.reduceLT, Int.reduceLE, Int.reduceAdd, Int.reduceSub, Int.reduceMul, Int.reduceNeg, Int.reduceNe, eq_self, Int.reduceToNat, not_true_eq_false, not_false_eq_true, *])
/-! running a mirror, call by value -/
namespace Sim
open PySem PySem.Spec L2
def nxt (r : OutS) (b : MS) : OutS := match r with
  | some (.nx l, S) => b l S
  | r => r
def gv (o : Option (Option D)) (S : Store) : Out D := match o with
  | some (some d) => some (.ok d, S)
  | _ => none
def fnR (r : OutS) : Out D := match r with
  | some (.nx _, S') => some (.ok .non, S')
  | some (.rt d, S') => some (.ok d, S')
  | some (.ex x _, S') => some (.error x, S')
  | _ => none
def rdF (c : Nat) (f : Str) (o : Option Cell) : Option D := match o with
  | some ⟨.ins c' fs, false⟩ => if c' = c then fs.lookup f else none
  | _ => none
def rdK (o : Option D) (S : Store) : Out D := match o with
  | some d => some (.ok d, S)
  | none => none
def wrF (c : Nat) (f : Str) (d : D) (o : Option Cell) : Option Cell := match o with
  | some ⟨.ins c' fs, false⟩ => if c' = c ∧ fs.length < 1000 then some ⟨.ins c (putFD f d fs), false⟩ else none
  | _ => none
def stK (n : Nat) (o : Option Cell) (S : Store) : Option Store := match o with
  | some c => some (S.set n c)
  | none => none
def fldK (l : Sl) (o : Option Store) : OutS := match o with
  | some S => some (.nx l, S)
  | none => none
def isI (c : Nat) (m : Str) (o : Option Cell) : Bool := match o with
  | some ⟨.ins c' fs, false⟩ => decide (c' = c ∧ fs.lookup m = none)
  | _ => false
def ixC (o : Option Cell) (k : D) : Option D := match o with
  | some ⟨.dct kvs, _⟩ => (keyOf k).bind fun k => valD kvs k
  | some ⟨.lst ds, _⟩ => match k with
    | .int i => atI ds i
    | _ => none
  | _ => none
def wrC (o : Option Cell) (k d : D) : Option Cell := match o with
  | some ⟨.lst ds, false⟩ => match k with
    | .int i => (ixN ds.length i).map fun j => ⟨.lst (ds.set j d), false⟩
    | _ => none
  | some ⟨.dct kvs, false⟩ => match keyOf k with
    | some k => if kvs.length < lineN then some ⟨.dct (putD kvs k d), false⟩ else none
    | none => none
  | _ => none
def inC (k : D) (o : Option Cell) : Option Bool := match o with
  | some ⟨.dct kvs, _⟩ => (keyOf k).map fun k => (valD kvs k).isSome
  | _ => none
def blK (o : Option Bool) (S : Store) : Out D := match o with
  | some b => some (.ok (.bl b), S)
  | none => none
def lenC (o : Option Cell) : Option Int := match o with
  | some ⟨.lst ds, _⟩ => some ds.length
  | some ⟨.dct kvs, false⟩ => some kvs.length
  | _ => none
def inK (o : Option Int) (S : Store) : Out D := match o with
  | some i => some (.ok (.int i), S)
  | none => none
def isLC (o : Option Cell) : Bool := match o with
  | some ⟨.lst _, _⟩ => true
  | _ => false
def apC (d : D) (o : Option Cell) : Option Cell := match o with
  | some ⟨.lst ds, false⟩ => if ds.length < lineN then some ⟨.lst (ds ++ [d]), false⟩ else none
  | _ => none
def apK (o : Option Store) : Out D := match o with
  | some S => some (.ok .non, S)
  | none => none
def getC (k : D) (o : Option Cell) : Option D := match o with
  | some ⟨.dct kvs, _⟩ => (keyOf k).map fun k => (valD kvs k).getD .non
  | _ => none
def isD (o : Option Cell) : Bool := match o with
  | some ⟨.dct _, _⟩ => true
  | _ => false
def hnd (i : Option Nat) (suite : Exn → MS) (x : Exn) (l' : Sl) (S' : Store) : OutS := match i with
  | none => noEx (suite x l' S')
  | some i => if i < l'.length then unsetS i (suite x (l'.set i none) S') else none
def tryC (o : Option Bool) (i : Option Nat) (suite : Exn → MS) (x : Exn) (l' : Sl) (S' : Store) : OutS := match o with
  | some true => hnd i suite x l' S'
  | some false => some (.ex x l', S')
  | none => none
def tryK (catch_ : Nat → Option Bool) (i : Option Nat) (suite : Exn → MS) (r : OutS) : OutS := match r with
  | some (.ex x l', S') => tryC (catch_ x.c) i suite x l' S'
  | r => r

theorem seq_r (a b : MS) (l : Sl) (S : Store) : sSeq a b l S = nxt (a l S) b := by unfold sSeq nxt; cases a l S with | none => rfl | some p => obtain ⟨f, T⟩ := p; cases f <;> rfl
theorem nxt_nx (l : Sl) (S : Store) (b : MS) : nxt (some (.nx l, S)) b = b l S := rfl
theorem nxt_rt (d : D) (S : Store) (b : MS) : nxt (some (.rt d, S)) b = some (.rt d, S) := rfl
theorem nxt_ex (x : Exn) (l : Sl) (S : Store) (b : MS) : nxt (some (.ex x l, S)) b = some (.ex x l, S) := rfl
theorem nxt_bk (l : Sl) (S : Store) (b : MS) : nxt (some (.bk l, S)) b = some (.bk l, S) := rfl
theorem nxt_ct (l : Sl) (S : Store) (b : MS) : nxt (some (.ct l, S)) b = some (.ct l, S) := rfl
theorem bnd_ok {α β : Type} (a : α) (S : Store) (f : α → M β) : bnd (some (.ok a, S)) f = f a S := rfl
theorem bnd_er {α β : Type} (x : Exn) (S : Store) (f : α → M β) : bnd (some (.error x, S)) f = some (.error x, S) := rfl
theorem bndN_ok {α β : Type} (a : α) (S : Store) (f : α → M β) : bndN (some (.ok a, S)) f = f a S := rfl
theorem bndS_ok {α : Type} (l : Sl) (a : α) (S : Store) (f : α → Store → OutS) : bndS l (some (.ok a, S)) f = f a S := rfl
theorem bndS_er {α : Type} (l : Sl) (x : Exn) (S : Store) (f : α → Store → OutS) : bndS l (some (.error x, S)) f = some (.ex x l, S) := rfl
theorem fnM_r {n np : Nat} {body : MS} {ds : List D} (hl : ds.length = np) (S : Store) : fnM n np body ds S = fnR (body (ds.map some ++ List.replicate (n - np) none) S) := by unfold fnM fnR; rw [if_pos hl]; try rfl
theorem fnM_l {n np : Nat} {body : MS} {ds : List D} {l : Sl} (hl : ds.length = np) (hs : ds.map some ++ List.replicate (n - np) none = l) (S : Store) : fnM n np body ds S = fnR (body l S) := by rw [fnM_r hl, hs]
theorem fnR_rt (d : D) (S : Store) : fnR (some (.rt d, S)) = some (.ok d, S) := rfl
theorem fnR_nx (l : Sl) (S : Store) : fnR (some (.nx l, S)) = some (.ok .non, S) := rfl
theorem fnR_ex (x : Exn) (l : Sl) (S : Store) : fnR (some (.ex x l, S)) = some (.error x, S) := rfl
theorem var_r (i : Nat) (l : Sl) (S : Store) : eVar i l S = gv l[i]? S := by unfold eVar gv; rfl
theorem gv_s (d : D) (S : Store) : gv (some (some d)) S = some (.ok d, S) := rfl
theorem c_r (d : D) (l : Sl) (S : Store) : eC d l S = some (.ok d, S) := rfl
theorem e1_r (f : D → M D) (a : ME) (l : Sl) (S : Store) : e1 f a l S = bnd (a l S) f := rfl
def e2K (f : D → D → M D) (b : ME) (l : Sl) (x : D) : M D := fun S1 => bnd (b l S1) (f x)
theorem e2_r (f : D → D → M D) (a b : ME) (l : Sl) (S : Store) : e2 f a b l S = bnd (a l S) (e2K f b l) := rfl
theorem e2K_r (f : D → D → M D) (b : ME) (l : Sl) (x : D) (S : Store) : e2K f b l x S = bnd (b l S) (f x) := rfl
theorem aNil_r (l : Sl) (S : Store) : aNil l S = some (.ok [], S) := rfl
def csK (x : D) (xs : List D) : M (List D) := fun S2 => some (.ok (x :: xs), S2)
def acK (r : MA) (l : Sl) (x : D) : M (List D) := fun S1 => bnd (r l S1) (csK x)
theorem aCons_r (a : ME) (r : MA) (l : Sl) (S : Store) : aCons a r l S = bnd (a l S) (acK r l) := rfl
theorem acK_r (r : MA) (l : Sl) (x : D) (S : Store) : acK r l x S = bnd (r l S) (csK x) := rfl
theorem csK_r (x : D) (xs : List D) (S : Store) : csK x xs S = some (.ok (x :: xs), S) := rfl
theorem eA_r (f : List D → M D) (a : MA) (l : Sl) (S : Store) : eA f a l S = bnd (a l S) f := rfl
theorem a1_r (f : D → M D) (d : D) (S : Store) : a1 f [d] S = f d S := rfl
theorem a2_r (f : D → D → M D) (d e : D) (S : Store) : a2 f [d, e] S = f d e S := rfl
theorem m1_r (f : D → D → M D) (x d : D) (S : Store) : m1 f x [d] S = f x d S := rfl
def mkT (ds : List D) : M D := guard (decide (ds.length ≤ lineN)) (okV (.tup ds))
def mkL (ds : List D) : M D := guard (decide (ds.length ≤ lineN)) (okV (.fl ds))
def mkR (ds : List D) : M D := guard (decide (ds.length ≤ lineN)) (newO (.lst ds))
theorem eTup_r (a : MA) (l : Sl) (S : Store) : eTup a l S = bnd (a l S) mkT := rfl
theorem eLst_r (a : MA) (l : Sl) (S : Store) : eLst a l S = bnd (a l S) mkL := rfl
theorem eLstR_r (a : MA) (l : Sl) (S : Store) : eLstR a l S = bnd (a l S) mkR := rfl
theorem mkT0 (S : Store) : mkT [] S = some (.ok (.tup []), S) := by unfold mkT guard; rw [if_pos (decide_eq_true (by show 0 ≤ 16777216; decide))]; rfl
theorem mkL0 (S : Store) : mkL [] S = some (.ok (.fl []), S) := by unfold mkL guard; rw [if_pos (decide_eq_true (by show 0 ≤ 16777216; decide))]; rfl
theorem mkR0 (S : Store) : mkR [] S = some (.ok (.ref S.length), S ++ [⟨.lst [], false⟩]) := by unfold mkR guard; rw [if_pos (decide_eq_true (by show 0 ≤ 16777216; decide))]; rfl
theorem mkT1 (a : D) (S : Store) : mkT [a] S = some (.ok (.tup [a]), S) := by unfold mkT guard; rw [if_pos (decide_eq_true (by show 1 ≤ 16777216; decide))]; rfl
theorem mkL1 (a : D) (S : Store) : mkL [a] S = some (.ok (.fl [a]), S) := by unfold mkL guard; rw [if_pos (decide_eq_true (by show 1 ≤ 16777216; decide))]; rfl
theorem mkR1 (a : D) (S : Store) : mkR [a] S = some (.ok (.ref S.length), S ++ [⟨.lst [a], false⟩]) := by unfold mkR guard; rw [if_pos (decide_eq_true (by show 1 ≤ 16777216; decide))]; rfl
theorem mkT2 (a b : D) (S : Store) : mkT [a, b] S = some (.ok (.tup [a, b]), S) := by unfold mkT guard; rw [if_pos (decide_eq_true (by show 2 ≤ 16777216; decide))]; rfl
theorem mkL2 (a b : D) (S : Store) : mkL [a, b] S = some (.ok (.fl [a, b]), S) := by unfold mkL guard; rw [if_pos (decide_eq_true (by show 2 ≤ 16777216; decide))]; rfl
theorem mkR2 (a b : D) (S : Store) : mkR [a, b] S = some (.ok (.ref S.length), S ++ [⟨.lst [a, b], false⟩]) := by unfold mkR guard; rw [if_pos (decide_eq_true (by show 2 ≤ 16777216; decide))]; rfl
theorem mkT3 (a b c : D) (S : Store) : mkT [a, b, c] S = some (.ok (.tup [a, b, c]), S) := by unfold mkT guard; rw [if_pos (decide_eq_true (by show 3 ≤ 16777216; decide))]; rfl
theorem mkL3 (a b c : D) (S : Store) : mkL [a, b, c] S = some (.ok (.fl [a, b, c]), S) := by unfold mkL guard; rw [if_pos (decide_eq_true (by show 3 ≤ 16777216; decide))]; rfl
theorem mkR3 (a b c : D) (S : Store) : mkR [a, b, c] S = some (.ok (.ref S.length), S ++ [⟨.lst [a, b, c], false⟩]) := by unfold mkR guard; rw [if_pos (decide_eq_true (by show 3 ≤ 16777216; decide))]; rfl
theorem mkT4 (a b c d : D) (S : Store) : mkT [a, b, c, d] S = some (.ok (.tup [a, b, c, d]), S) := by unfold mkT guard; rw [if_pos (decide_eq_true (by show 4 ≤ 16777216; decide))]; rfl
theorem mkL4 (a b c d : D) (S : Store) : mkL [a, b, c, d] S = some (.ok (.fl [a, b, c, d]), S) := by unfold mkL guard; rw [if_pos (decide_eq_true (by show 4 ≤ 16777216; decide))]; rfl
theorem mkR4 (a b c d : D) (S : Store) : mkR [a, b, c, d] S = some (.ok (.ref S.length), S ++ [⟨.lst [a, b, c, d], false⟩]) := by unfold mkR guard; rw [if_pos (decide_eq_true (by show 4 ≤ 16777216; decide))]; rfl
theorem mkT5 (a b c d e : D) (S : Store) : mkT [a, b, c, d, e] S = some (.ok (.tup [a, b, c, d, e]), S) := by unfold mkT guard; rw [if_pos (decide_eq_true (by show 5 ≤ 16777216; decide))]; rfl
theorem mkL5 (a b c d e : D) (S : Store) : mkL [a, b, c, d, e] S = some (.ok (.fl [a, b, c, d, e]), S) := by unfold mkL guard; rw [if_pos (decide_eq_true (by show 5 ≤ 16777216; decide))]; rfl
theorem mkR5 (a b c d e : D) (S : Store) : mkR [a, b, c, d, e] S = some (.ok (.ref S.length), S ++ [⟨.lst [a, b, c, d, e], false⟩]) := by unfold mkR guard; rw [if_pos (decide_eq_true (by show 5 ≤ 16777216; decide))]; rfl
theorem mkT6 (a b c d e f : D) (S : Store) : mkT [a, b, c, d, e, f] S = some (.ok (.tup [a, b, c, d, e, f]), S) := by unfold mkT guard; rw [if_pos (decide_eq_true (by show 6 ≤ 16777216; decide))]; rfl
theorem mkL6 (a b c d e f : D) (S : Store) : mkL [a, b, c, d, e, f] S = some (.ok (.fl [a, b, c, d, e, f]), S) := by unfold mkL guard; rw [if_pos (decide_eq_true (by show 6 ≤ 16777216; decide))]; rfl
theorem mkR6 (a b c d e f : D) (S : Store) : mkR [a, b, c, d, e, f] S = some (.ok (.ref S.length), S ++ [⟨.lst [a, b, c, d, e, f], false⟩]) := by unfold mkR guard; rw [if_pos (decide_eq_true (by show 6 ≤ 16777216; decide))]; rfl
theorem mkT7 (a b c d e f g : D) (S : Store) : mkT [a, b, c, d, e, f, g] S = some (.ok (.tup [a, b, c, d, e, f, g]), S) := by unfold mkT guard; rw [if_pos (decide_eq_true (by show 7 ≤ 16777216; decide))]; rfl
theorem mkL7 (a b c d e f g : D) (S : Store) : mkL [a, b, c, d, e, f, g] S = some (.ok (.fl [a, b, c, d, e, f, g]), S) := by unfold mkL guard; rw [if_pos (decide_eq_true (by show 7 ≤ 16777216; decide))]; rfl
theorem mkR7 (a b c d e f g : D) (S : Store) : mkR [a, b, c, d, e, f, g] S = some (.ok (.ref S.length), S ++ [⟨.lst [a, b, c, d, e, f, g], false⟩]) := by unfold mkR guard; rw [if_pos (decide_eq_true (by show 7 ≤ 16777216; decide))]; rfl
theorem mkT8 (a b c d e f g h : D) (S : Store) : mkT [a, b, c, d, e, f, g, h] S = some (.ok (.tup [a, b, c, d, e, f, g, h]), S) := by unfold mkT guard; rw [if_pos (decide_eq_true (by show 8 ≤ 16777216; decide))]; rfl
theorem mkL8 (a b c d e f g h : D) (S : Store) : mkL [a, b, c, d, e, f, g, h] S = some (.ok (.fl [a, b, c, d, e, f, g, h]), S) := by unfold mkL guard; rw [if_pos (decide_eq_true (by show 8 ≤ 16777216; decide))]; rfl
theorem mkR8 (a b c d e f g h : D) (S : Store) : mkR [a, b, c, d, e, f, g, h] S = some (.ok (.ref S.length), S ++ [⟨.lst [a, b, c, d, e, f, g, h], false⟩]) := by unfold mkR guard; rw [if_pos (decide_eq_true (by show 8 ≤ 16777216; decide))]; rfl
theorem tOf_r (a : ME) (l : Sl) (S : Store) : tOf a l S = bnd (a l S) blOf := rfl
theorem blOf_r (b : Bool) (S : Store) : blOf (.bl b) S = some (.ok b, S) := rfl
def tAndK (b : MT) (l : Sl) (c : Bool) : M Bool := fun S1 => if c = true then b l S1 else some (.ok false, S1)
theorem tAndK_t (b : MT) (l : Sl) (S1 : Store) : tAndK b l true S1 = b l S1 := rfl
theorem tAndK_f (b : MT) (l : Sl) (S1 : Store) : tAndK b l false S1 = some (.ok false, S1) := rfl
theorem tAnd_r (a b : MT) (l : Sl) (S : Store) : tAnd a b l S = bnd (a l S) (tAndK b l) := rfl
def tOrK (b : MT) (l : Sl) (c : Bool) : M Bool := fun S1 => if c = true then some (.ok true, S1) else b l S1
theorem tOrK_t (b : MT) (l : Sl) (S1 : Store) : tOrK b l true S1 = some (.ok true, S1) := rfl
theorem tOrK_f (b : MT) (l : Sl) (S1 : Store) : tOrK b l false S1 = b l S1 := rfl
theorem tOr_r (a b : MT) (l : Sl) (S : Store) : tOr a b l S = bnd (a l S) (tOrK b l) := rfl
def eAndK (b : ME) (l : Sl) (c : Bool) : M D := fun S1 => if c = true then b l S1 else some (.ok (.bl false), S1)
theorem eAndK_t (b : ME) (l : Sl) (S1 : Store) : eAndK b l true S1 = b l S1 := rfl
theorem eAndK_f (b : ME) (l : Sl) (S1 : Store) : eAndK b l false S1 = some (.ok (.bl false), S1) := rfl
theorem eAnd_r (a b : ME) (l : Sl) (S : Store) : eAnd a b l S = bnd (tOf a l S) (eAndK b l) := rfl
def eOrK (b : ME) (l : Sl) (c : Bool) : M D := fun S1 => if c = true then some (.ok (.bl true), S1) else b l S1
theorem eOrK_t (b : ME) (l : Sl) (S1 : Store) : eOrK b l true S1 = some (.ok (.bl true), S1) := rfl
theorem eOrK_f (b : ME) (l : Sl) (S1 : Store) : eOrK b l false S1 = b l S1 := rfl
theorem eOr_r (a b : ME) (l : Sl) (S : Store) : eOr a b l S = bnd (tOf a l S) (eOrK b l) := rfl
def eIfK (a b : ME) (l : Sl) (c : Bool) : M D := fun S1 => if c = true then a l S1 else b l S1
theorem eIfK_t (a b : ME) (l : Sl) (S1 : Store) : eIfK a b l true S1 = a l S1 := rfl
theorem eIfK_f (a b : ME) (l : Sl) (S1 : Store) : eIfK a b l false S1 = b l S1 := rfl
theorem eIf_r (t : MT) (a b : ME) (l : Sl) (S : Store) : eIf t a b l S = bnd (t l S) (eIfK a b l) := rfl
def tnK (c : Bool) : M Bool := fun S1 => some (.ok (!c), S1)
def enK (c : Bool) : M D := fun S1 => some (.ok (.bl (!c)), S1)
theorem tnK_r (c : Bool) (S1 : Store) : tnK c S1 = some (.ok (!c), S1) := rfl
theorem enK_r (c : Bool) (S1 : Store) : enK c S1 = some (.ok (.bl (!c)), S1) := rfl
theorem tNot_r (a : MT) (l : Sl) (S : Store) : tNot a l S = bnd (a l S) tnK := rfl
theorem eNot_r (a : ME) (l : Sl) (S : Store) : eNot a l S = bnd (tOf a l S) enK := rfl
def chK (g : D → D → M D) (c : ME) (l : Sl) (y : D) (z : D) : M D := fun S3 => match z with
  | .bl true => bnd (c l S3) (g y)
  | .bl false => some (.ok (.bl false), S3)
  | _ => none
def ch2K (f g : D → D → M D) (c : ME) (l : Sl) (x y : D) : M D := fun S2 => bnd (f x y S2) (chK g c l y)
def ch1K (f g : D → D → M D) (b c : ME) (l : Sl) (x : D) : M D := fun S1 => bnd (b l S1) (ch2K f g c l x)
theorem chain_r (f g : D → D → M D) (a b c : ME) (l : Sl) (S : Store) : eChain f g a b c l S = bnd (a l S) (ch1K f g b c l) := rfl
theorem ch1K_r (f g : D → D → M D) (b c : ME) (l : Sl) (x : D) (S : Store) : ch1K f g b c l x S = bnd (b l S) (ch2K f g c l x) := rfl
theorem ch2K_r (f g : D → D → M D) (c : ME) (l : Sl) (x y : D) (S : Store) : ch2K f g c l x y S = bnd (f x y S) (chK g c l y) := rfl
theorem chK_t (g : D → D → M D) (c : ME) (l : Sl) (y : D) (S : Store) : chK g c l y (.bl true) S = bnd (c l S) (g y) := rfl
theorem chK_f (g : D → D → M D) (c : ME) (l : Sl) (y : D) (S : Store) : chK g c l y (.bl false) S = some (.ok (.bl false), S) := rfl
theorem oNo_r (l : Sl) (S : Store) : oNo l S = some (.ok none, S) := rfl
theorem oSo_r (a : ME) (l : Sl) (S : Store) : oSo a l S = bnd (a l S) iofD := rfl
theorem iofD_r (i : Int) (S : Store) : iofD (.int i) S = some (.ok (some i), S) := rfl
def sl3K (x : D) (i : Option Int) (j : Option Int) : M D := fun S3 => fSl x i j S3
def sl2K (hi : Sl → M (Option Int)) (l : Sl) (x : D) (i : Option Int) : M D := fun S2 => bnd (hi l S2) (sl3K x i)
def sl1K (lo hi : Sl → M (Option Int)) (l : Sl) (x : D) : M D := fun S1 => bnd (lo l S1) (sl2K hi l x)
theorem eSl_r (a : ME) (lo hi : Sl → M (Option Int)) (l : Sl) (S : Store) : eSl a lo hi l S = bnd (a l S) (sl1K lo hi l) := rfl
theorem sl1K_r (lo hi : Sl → M (Option Int)) (l : Sl) (x : D) (S : Store) : sl1K lo hi l x S = bnd (lo l S) (sl2K hi l x) := rfl
theorem sl2K_r (hi : Sl → M (Option Int)) (l : Sl) (x : D) (i : Option Int) (S : Store) : sl2K hi l x i S = bnd (hi l S) (sl3K x i) := rfl
theorem sl3K_r (x : D) (i j : Option Int) (S : Store) : sl3K x i j S = fSl x i j S := rfl
def bmK2 (f : D → List D → M D) (a : MA) (l : Sl) (x : D) (c : Bool) : M D := fun S1 => if c = true then bnd (a l S1) (f x) else none
def bmK (chk : D → Store → Bool) (f : D → List D → M D) (a : MA) (l : Sl) (x : D) : M D := fun S1 => bmK2 f a l x (chk x S1) S1
theorem eBM_r (chk : D → Store → Bool) (f : D → List D → M D) (o : ME) (a : MA) (l : Sl) (S : Store) : eBM chk f o a l S = bnd (o l S) (bmK chk f a l) := rfl
theorem bmK_r (chk : D → Store → Bool) (f : D → List D → M D) (a : MA) (l : Sl) (x : D) (S : Store) : bmK chk f a l x S = bmK2 f a l x (chk x S) S := rfl
theorem bmK2_r (f : D → List D → M D) (a : MA) (l : Sl) (x : D) (S : Store) : bmK2 f a l x true S = bnd (a l S) (f x) := rfl
def mtC (g : List D → M D) (x : D) (ds : List D) : M D := fun S => g (x :: ds) S
def methK2 (g : List D → M D) (a : MA) (l : Sl) (x : D) (c : Bool) : M D := fun S1 => if c = true then bnd (a l S1) (mtC g x) else none
def methK (c : Nat) (m : Str) (g : List D → M D) (a : MA) (l : Sl) (x : D) : M D := fun S1 => match x with
  | .ref n => methK2 g a l (.ref n) (isI c m S1[n]?) S1
  | _ => none
theorem meth_r (c : Nat) (m : Str) (g : List D → M D) (o : ME) (a : MA) (l : Sl) (S : Store) : eMeth c m g o a l S = bnd (o l S) (methK c m g a l) := by
  unfold eMeth
  congr 1; funext x S1
  unfold methK
  cases x with
  | ref n =>
    unfold insOf isI methK2
    cases h : S1[n]? with
    | none => simp only [h]; rfl
    | some c =>
      obtain ⟨o, k⟩ := c
      cases o <;> cases k <;> simp only [h, decide_eq_true_eq, Bool.false_eq_true, if_false]
      rfl
  | _ => rfl
theorem methK_r (c : Nat) (m : Str) (g : List D → M D) (a : MA) (l : Sl) (n : Nat) (S : Store) : methK c m g a l (.ref n) S = methK2 g a l (.ref n) (isI c m S[n]?) S := rfl
theorem methK2_r (g : List D → M D) (a : MA) (l : Sl) (x : D) (S : Store) : methK2 g a l x true S = bnd (a l S) (mtC g x) := rfl
theorem mtC_r (g : List D → M D) (x : D) (ds : List D) (S : Store) : mtC g x ds S = g (x :: ds) S := rfl
theorem next_r (l : Sl) (S : Store) : sNext l S = some (.nx l, S) := rfl
theorem break_r (l : Sl) (S : Store) : sBreak l S = some (.bk l, S) := rfl
theorem cont_r (l : Sl) (S : Store) : sCont l S = some (.ct l, S) := rfl
def dropK (l : Sl) (_ : D) (S1 : Store) : OutS := some (.nx l, S1)
def retK (d : D) (S1 : Store) : OutS := some (.rt d, S1)
def setK (i : Nat) (l : Sl) (d : D) (S1 : Store) : OutS := some (.nx (l.set i (some d)), S1)
def ifK (a b : MS) (l : Sl) (c : Bool) (S1 : Store) : OutS := if c = true then a l S1 else b l S1
def par2K (i j : Nat) (l : Sl) (x y : D) (S2 : Store) : OutS := some (.nx ((l.set i (some x)).set j (some y)), S2)
def par1K (i j : Nat) (b : ME) (l : Sl) (x : D) (S1 : Store) : OutS := bndS l (b l S1) (par2K i j l x)
theorem dropK_r (l : Sl) (d : D) (S : Store) : dropK l d S = some (.nx l, S) := rfl
theorem retK_r (d : D) (S : Store) : retK d S = some (.rt d, S) := rfl
theorem setK_r (i : Nat) (l : Sl) (d : D) (S : Store) : setK i l d S = some (.nx (l.set i (some d)), S) := rfl
theorem ifK_t (a b : MS) (l : Sl) (S : Store) : ifK a b l true S = a l S := rfl
theorem ifK_f (a b : MS) (l : Sl) (S : Store) : ifK a b l false S = b l S := rfl
theorem par1K_r (i j : Nat) (b : ME) (l : Sl) (x : D) (S : Store) : par1K i j b l x S = bndS l (b l S) (par2K i j l x) := rfl
theorem par2K_r (i j : Nat) (l : Sl) (x y : D) (S : Store) : par2K i j l x y S = some (.nx ((l.set i (some x)).set j (some y)), S) := rfl
theorem drop_r (a : ME) (l : Sl) (S : Store) : sDrop a l S = bndS l (a l S) (dropK l) := rfl
theorem ret_r (a : ME) (l : Sl) (S : Store) : sRet a l S = bndS l (a l S) retK := rfl
theorem retN_r (l : Sl) (S : Store) : sRetN l S = some (.rt .non, S) := rfl
theorem set_r (i : Nat) (a : ME) (l : Sl) (S : Store) : sSet i a l S = bndS l (a l S) (setK i l) := rfl
theorem if_r (t : MT) (a b : MS) (l : Sl) (S : Store) : sIf t a b l S = bndS l (t l S) (ifK a b l) := rfl
theorem par_r (i j : Nat) (a b : ME) (l : Sl) (S : Store) : sPar i j a b l S = bndS l (a l S) (par1K i j b l) := rfl
def sfK (l : Sl) (c : Nat) (f : Str) (d : D) (x : D) (S : Store) : OutS := match x with
  | .ref n => fldK l (stK n (wrF c f d S[n]?) S)
  | _ => none
def sf1K (l : Sl) (c : Nat) (o : ME) (f : Str) (d : D) (S1 : Store) : OutS := bndS l (o l S1) (sfK l c f d)
theorem sf1K_r (l : Sl) (c : Nat) (o : ME) (f : Str) (d : D) (S : Store) : sf1K l c o f d S = bndS l (o l S) (sfK l c f d) := rfl
theorem fld_r (c : Nat) (o : ME) (f : Str) (e : ME) (l : Sl) (S : Store) : sFld c o f e l S = bndS l (e l S) (sf1K l c o f) := by
  unfold sf1K
  unfold sFld
  congr 1; funext d S1; congr 1; funext x S2
  unfold sfK putFldD fldK stK wrF
  cases x with
  | ref n =>
    simp only
    cases h : S2[n]? with
    | none => simp only
    | some cc =>
      obtain ⟨oo, kk⟩ := cc
      cases oo with
      | ins c' fs =>
        cases kk with
        | true => simp only
        | false =>
          simp only
          by_cases hc : c' = c ∧ fs.length < 1000
          · rw [if_pos hc, if_pos hc]
          · rw [if_neg hc, if_neg hc]
      | _ => cases kk <;> simp only
  | _ => rfl
theorem sfK_r (l : Sl) (c : Nat) (f : Str) (d : D) (n : Nat) (S : Store) : sfK l c f d (.ref n) S = fldK l (stK n (wrF c f d S[n]?) S) := rfl
theorem stK_s (n : Nat) (c : Cell) (S : Store) : stK n (some c) S = some (S.set n c) := rfl
theorem fldK_s (l : Sl) (S : Store) : fldK l (some S) = some (.nx l, S) := rfl
def putK' (l : Sl) (d x k : D) (S : Store) : OutS := match x with
  | .ref n => fldK l (stK n (wrC S[n]? k d) S)
  | _ => none
def put2K (l : Sl) (i : ME) (d x : D) (S2 : Store) : OutS := bndS l (i l S2) (putK' l d x)
def put1K (l : Sl) (o i : ME) (d : D) (S1 : Store) : OutS := bndS l (o l S1) (put2K l i d)
theorem put1K_r (l : Sl) (o i : ME) (d : D) (S : Store) : put1K l o i d S = bndS l (o l S) (put2K l i d) := rfl
theorem put2K_r (l : Sl) (i : ME) (d x : D) (S : Store) : put2K l i d x S = bndS l (i l S) (putK' l d x) := rfl
theorem put_r (o i e : ME) (l : Sl) (S : Store) : sPut o i e l S = bndS l (e l S) (put1K l o i) := by
  unfold put1K put2K
  unfold sPut
  congr 1; funext d S1; congr 1; funext x S2; congr 1; funext k S3
  unfold putK' putIxD fldK stK wrC
  cases x with
  | ref n =>
    simp only
    cases h : S3[n]? with
    | none => simp only
    | some c =>
      obtain ⟨o, b⟩ := c
      cases o with
      | lst ds =>
        cases b with
        | true => simp only
        | false =>
          simp only
          cases k <;> simp only
          rename_i z
          cases ixN ds.length z <;> simp only [Option.map]
      | dct kvs =>
        cases b with
        | true => simp only
        | false =>
          simp only
          cases keyOf k with
          | none => simp only
          | some kk =>
            simp only
            by_cases hc : kvs.length < lineN
            · rw [if_pos hc, if_pos hc]
            · rw [if_neg hc, if_neg hc]
      | ins c' fs => cases b <;> simp only
  | _ => rfl
theorem putK_r (l : Sl) (d k : D) (n : Nat) (S : Store) : putK' l d (.ref n) k S = fldK l (stK n (wrC S[n]? k d) S) := rfl
theorem raiseB_r (c : Nat) (l : Sl) (S : Store) : sRaiseB c l S = some (.ex ⟨c, none⟩ l, S) := rfl
def rnK (c : Nat) (f : Str) (l : Sl) (ds : List D) (S : Store) : OutS := match ds with
  | [d] => some (.ex ⟨c, some [(f, d)]⟩ l, S)
  | _ => none
theorem raiseN_r (c : Nat) (f : Str) (a : MA) (l : Sl) (S : Store) : sRaiseN c f a l S = bndS l (a l S) (rnK c f l) := rfl
theorem rnK_r (c : Nat) (f : Str) (l : Sl) (d : D) (S : Store) : rnK c f l [d] S = some (.ex ⟨c, some [(f, d)]⟩ l, S) := rfl
theorem try_r (b : MS) (k : Nat → Option Bool) (i : Option Nat) (u : Exn → MS) (l : Sl) (S : Store) : sTry b k i u l S = tryK k i u (b l S) := by
  unfold sTry tryK
  cases b l S with
  | none => rfl
  | some p =>
    obtain ⟨f, T⟩ := p
    cases f with
    | ex x l' =>
      simp only
      unfold tryC
      cases k x.c with
      | none => rfl
      | some c => cases c <;> rfl
    | _ => rfl
theorem tryK_nx (k : Nat → Option Bool) (i : Option Nat) (u : Exn → MS) (l : Sl) (S : Store) : tryK k i u (some (.nx l, S)) = some (.nx l, S) := rfl
theorem tryK_rt (k : Nat → Option Bool) (i : Option Nat) (u : Exn → MS) (d : D) (S : Store) : tryK k i u (some (.rt d, S)) = some (.rt d, S) := rfl
theorem tryK_ex (k : Nat → Option Bool) (i : Option Nat) (u : Exn → MS) (x : Exn) (l : Sl) (S : Store) : tryK k i u (some (.ex x l, S)) = tryC (k x.c) i u x l S := rfl
theorem tryC_t (i : Option Nat) (u : Exn → MS) (x : Exn) (l : Sl) (S : Store) : tryC (some true) i u x l S = hnd i u x l S := rfl
theorem tryC_f (i : Option Nat) (u : Exn → MS) (x : Exn) (l : Sl) (S : Store) : tryC (some false) i u x l S = some (.ex x l, S) := rfl
theorem hnd_0 (u : Exn → MS) (x : Exn) (l : Sl) (S : Store) : hnd none u x l S = noEx (u x l S) := rfl
theorem hnd_1 (i : Nat) (u : Exn → MS) (x : Exn) (l : Sl) (S : Store) : hnd (some i) u x l S = if i < l.length then unsetS i (u x (l.set i none) S) else none := rfl
theorem noEx_nx (l : Sl) (S : Store) : noEx (some (.nx l, S)) = some (.nx l, S) := rfl
theorem unset_nx (i : Nat) (l : Sl) (S : Store) : unsetS i (some (.nx l, S)) = some (.nx (l.set i none), S) := rfl
theorem noEx_bk (l : Sl) (S : Store) : noEx (some (.bk l, S)) = some (.bk l, S) := rfl
theorem unset_bk (i : Nat) (l : Sl) (S : Store) : unsetS i (some (.bk l, S)) = some (.bk (l.set i none), S) := rfl
theorem noEx_ct (l : Sl) (S : Store) : noEx (some (.ct l, S)) = some (.ct l, S) := rfl
theorem unset_ct (i : Nat) (l : Sl) (S : Store) : unsetS i (some (.ct l, S)) = some (.ct (l.set i none), S) := rfl
theorem noEx_rt (d : D) (S : Store) : noEx (some (.rt d, S)) = some (.rt d, S) := rfl
theorem unset_rt (i : Nat) (d : D) (S : Store) : unsetS i (some (.rt d, S)) = some (.rt d, S) := rfl
theorem xf_r (c : Nat) (f : Str) (d : D) (l : Sl) (S : Store) : eXF c f ⟨c, some [(f, d)]⟩ l S = some (.ok d, S) := by unfold eXF; simp [List.lookup]
theorem fFld_r (c : Nat) (f : Str) (n : Nat) (S : Store) : fFld c f (.ref n) S = rdK (rdF c f S[n]?) S := by
  unfold fFld insOf rdK rdF
  cases h : S[n]? with
  | none => simp only [h]
  | some x =>
    obtain ⟨o, b⟩ := x
    cases o with
    | ins c' fs =>
      cases b with
      | true => simp only [h]
      | false =>
        simp only [h]
        by_cases hc : c' = c
        · rw [if_pos hc, if_pos hc]; try rfl
        · rw [if_neg hc, if_neg hc]
    | _ => cases b <;> simp only [h]
theorem rdK_s (d : D) (S : Store) : rdK (some d) S = some (.ok d, S) := rfl
theorem fIx_rr (n : Nat) (k : D) (S : Store) : fIx (.ref n) k S = rdK (ixC S[n]? k) S := by
  unfold fIx dctOf seqOf listOf ixC rdK
  cases h : S[n]? with
  | none => simp only [h]
  | some x =>
    obtain ⟨o, b⟩ := x
    cases o with
    | dct kvs =>
      simp only [h]
      cases keyOf k with
      | none => rfl
      | some kk => (try simp only [Option.bind]); (try (cases valD kvs kk <;> rfl))
    | lst ds =>
      simp only [h]
      cases k with
      | int i => (try simp only); (try (cases atI ds i <;> rfl))
      | _ => rfl
    | ins c fs => simp only [h]
theorem fLen_rr (n : Nat) (S : Store) : fLen (.ref n) S = inK (lenC S[n]?) S := by
  unfold fLen dctU seqOf listOf lenC inK
  cases h : S[n]? with
  | none => simp only [h]
  | some x =>
    obtain ⟨o, b⟩ := x
    cases o <;> cases b <;> simp only [h]
theorem inK_s (i : Int) (S : Store) : inK (some i) S = some (.ok (.int i), S) := rfl
theorem isL_rr (n : Nat) (S : Store) : isL (.ref n) S = isLC S[n]? := by
  unfold isL listOf isLC
  cases h : S[n]? with
  | none => simp only [h]; rfl
  | some x =>
    obtain ⟨o, b⟩ := x
    cases o <;> simp only [h] <;> rfl
theorem app_rr (n : Nat) (d : D) (S : Store) : fAppend (.ref n) d S = apK (stK n (apC d S[n]?) S) := by
  unfold fAppend apK stK apC
  cases h : S[n]? with
  | none => simp only [h]
  | some x =>
    obtain ⟨o, b⟩ := x
    cases o with
    | lst ds =>
      cases b with
      | true => simp only [h]
      | false =>
        simp only [h]
        by_cases hc : ds.length < lineN
        · rw [if_pos hc, if_pos hc]
        · rw [if_neg hc, if_neg hc]
    | _ => cases b <;> simp only [h]
theorem apK_s (S : Store) : apK (some S) = some (.ok .non, S) := rfl
theorem in_rr {n : Nat} {kvs : List (Key × D)} {b : Bool} (k : D) (S : Store) (h : S[n]? = some ⟨.dct kvs, b⟩) : fIn k (.ref n) S = blK ((keyOf k).map fun k => (valD kvs k).isSome) S := by
  unfold fIn inD dctOf blK
  simp only [h]
  cases keyOf k <;> rfl
theorem notIn_rr {n : Nat} {kvs : List (Key × D)} {b : Bool} (k : D) (S : Store) (h : S[n]? = some ⟨.dct kvs, b⟩) : fNotIn k (.ref n) S = blK ((keyOf k).map fun k => !(valD kvs k).isSome) S := by
  unfold fNotIn inD dctOf blK
  simp only [h]
  cases keyOf k <;> rfl
theorem blK_s (b : Bool) (S : Store) : blK (some b) S = some (.ok (.bl b), S) := rfl
def gt2K (x : D) (k : D) : M D := fun S2 => fGet1 x k S2
def gt1K (a : ME) (l : Sl) (x : D) : M D := fun S1 => match x with
  | .ref n => if isD S1[n]? = true then bnd (a l S1) (gt2K (.ref n)) else none
  | _ => none
theorem get1_r (o a : ME) (l : Sl) (S : Store) : eGet1 o a l S = bnd (o l S) (gt1K a l) := by
  unfold eGet1
  congr 1; funext x S1
  unfold gt1K
  cases x with
  | ref n =>
    unfold dctOf isD
    cases h : S1[n]? with
    | none => simp only [h]; rfl
    | some c =>
      obtain ⟨o, k⟩ := c
      cases o <;> simp only [h, Bool.false_eq_true, if_false] <;> rfl
  | _ => rfl
theorem gt1K_r (a : ME) (l : Sl) (n : Nat) (S : Store) : gt1K a l (.ref n) S = if isD S[n]? = true then bnd (a l S) (gt2K (.ref n)) else none := rfl
theorem gt2K_r (n : Nat) (k : D) (S : Store) : gt2K (.ref n) k S = rdK (getC k S[n]?) S := by
  unfold gt2K fGet1 dctOf getC rdK
  cases h : S[n]? with
  | none => simp only [h]
  | some c =>
    obtain ⟨o, b⟩ := c
    cases o with
    | dct kvs => simp only [h]; cases keyOf k <;> rfl
    | _ => simp only [h]
theorem gx0 (a0 : Option D) (l : Sl) : (a0 :: l)[0]? = some a0 := rfl
theorem sx0 (a0 v : Option D) (l : Sl) : (a0 :: l).set 0 v = v :: l := rfl
theorem gx1 (a0 a1 : Option D) (l : Sl) : (a0 :: a1 :: l)[1]? = some a1 := rfl
theorem sx1 (a0 a1 v : Option D) (l : Sl) : (a0 :: a1 :: l).set 1 v = a0 :: v :: l := rfl
theorem gx2 (a0 a1 a2 : Option D) (l : Sl) : (a0 :: a1 :: a2 :: l)[2]? = some a2 := rfl
theorem sx2 (a0 a1 a2 v : Option D) (l : Sl) : (a0 :: a1 :: a2 :: l).set 2 v = a0 :: a1 :: v :: l := rfl
theorem gx3 (a0 a1 a2 a3 : Option D) (l : Sl) : (a0 :: a1 :: a2 :: a3 :: l)[3]? = some a3 := rfl
theorem sx3 (a0 a1 a2 a3 v : Option D) (l : Sl) : (a0 :: a1 :: a2 :: a3 :: l).set 3 v = a0 :: a1 :: a2 :: v :: l := rfl
theorem gx4 (a0 a1 a2 a3 a4 : Option D) (l : Sl) : (a0 :: a1 :: a2 :: a3 :: a4 :: l)[4]? = some a4 := rfl
theorem sx4 (a0 a1 a2 a3 a4 v : Option D) (l : Sl) : (a0 :: a1 :: a2 :: a3 :: a4 :: l).set 4 v = a0 :: a1 :: a2 :: a3 :: v :: l := rfl
theorem gx5 (a0 a1 a2 a3 a4 a5 : Option D) (l : Sl) : (a0 :: a1 :: a2 :: a3 :: a4 :: a5 :: l)[5]? = some a5 := rfl
theorem sx5 (a0 a1 a2 a3 a4 a5 v : Option D) (l : Sl) : (a0 :: a1 :: a2 :: a3 :: a4 :: a5 :: l).set 5 v = a0 :: a1 :: a2 :: a3 :: a4 :: v :: l := rfl
theorem gx6 (a0 a1 a2 a3 a4 a5 a6 : Option D) (l : Sl) : (a0 :: a1 :: a2 :: a3 :: a4 :: a5 :: a6 :: l)[6]? = some a6 := rfl
theorem sx6 (a0 a1 a2 a3 a4 a5 a6 v : Option D) (l : Sl) : (a0 :: a1 :: a2 :: a3 :: a4 :: a5 :: a6 :: l).set 6 v = a0 :: a1 :: a2 :: a3 :: a4 :: a5 :: v :: l := rfl
theorem gx7 (a0 a1 a2 a3 a4 a5 a6 a7 : Option D) (l : Sl) : (a0 :: a1 :: a2 :: a3 :: a4 :: a5 :: a6 :: a7 :: l)[7]? = some a7 := rfl
theorem sx7 (a0 a1 a2 a3 a4 a5 a6 a7 v : Option D) (l : Sl) : (a0 :: a1 :: a2 :: a3 :: a4 :: a5 :: a6 :: a7 :: l).set 7 v = a0 :: a1 :: a2 :: a3 :: a4 :: a5 :: a6 :: v :: l := rfl
theorem gx8 (a0 a1 a2 a3 a4 a5 a6 a7 a8 : Option D) (l : Sl) : (a0 :: a1 :: a2 :: a3 :: a4 :: a5 :: a6 :: a7 :: a8 :: l)[8]? = some a8 := rfl
theorem sx8 (a0 a1 a2 a3 a4 a5 a6 a7 a8 v : Option D) (l : Sl) : (a0 :: a1 :: a2 :: a3 :: a4 :: a5 :: a6 :: a7 :: a8 :: l).set 8 v = a0 :: a1 :: a2 :: a3 :: a4 :: a5 :: a6 :: a7 :: v :: l := rfl
theorem gx9 (a0 a1 a2 a3 a4 a5 a6 a7 a8 a9 : Option D) (l : Sl) : (a0 :: a1 :: a2 :: a3 :: a4 :: a5 :: a6 :: a7 :: a8 :: a9 :: l)[9]? = some a9 := rfl
theorem sx9 (a0 a1 a2 a3 a4 a5 a6 a7 a8 a9 v : Option D) (l : Sl) : (a0 :: a1 :: a2 :: a3 :: a4 :: a5 :: a6 :: a7 :: a8 :: a9 :: l).set 9 v = a0 :: a1 :: a2 :: a3 :: a4 :: a5 :: a6 :: a7 :: a8 :: v :: l := rfl
theorem gx10 (a0 a1 a2 a3 a4 a5 a6 a7 a8 a9 a10 : Option D) (l : Sl) : (a0 :: a1 :: a2 :: a3 :: a4 :: a5 :: a6 :: a7 :: a8 :: a9 :: a10 :: l)[10]? = some a10 := rfl
theorem sx10 (a0 a1 a2 a3 a4 a5 a6 a7 a8 a9 a10 v : Option D) (l : Sl) : (a0 :: a1 :: a2 :: a3 :: a4 :: a5 :: a6 :: a7 :: a8 :: a9 :: a10 :: l).set 10 v = a0 :: a1 :: a2 :: a3 :: a4 :: a5 :: a6 :: a7 :: a8 :: a9 :: v :: l := rfl
theorem gx11 (a0 a1 a2 a3 a4 a5 a6 a7 a8 a9 a10 a11 : Option D) (l : Sl) : (a0 :: a1 :: a2 :: a3 :: a4 :: a5 :: a6 :: a7 :: a8 :: a9 :: a10 :: a11 :: l)[11]? = some a11 := rfl
theorem sx11 (a0 a1 a2 a3 a4 a5 a6 a7 a8 a9 a10 a11 v : Option D) (l : Sl) : (a0 :: a1 :: a2 :: a3 :: a4 :: a5 :: a6 :: a7 :: a8 :: a9 :: a10 :: a11 :: l).set 11 v = a0 :: a1 :: a2 :: a3 :: a4 :: a5 :: a6 :: a7 :: a8 :: a9 :: a10 :: v :: l := rfl
theorem gx12 (a0 a1 a2 a3 a4 a5 a6 a7 a8 a9 a10 a11 a12 : Option D) (l : Sl) : (a0 :: a1 :: a2 :: a3 :: a4 :: a5 :: a6 :: a7 :: a8 :: a9 :: a10 :: a11 :: a12 :: l)[12]? = some a12 := rfl
theorem sx12 (a0 a1 a2 a3 a4 a5 a6 a7 a8 a9 a10 a11 a12 v : Option D) (l : Sl) : (a0 :: a1 :: a2 :: a3 :: a4 :: a5 :: a6 :: a7 :: a8 :: a9 :: a10 :: a11 :: a12 :: l).set 12 v = a0 :: a1 :: a2 :: a3 :: a4 :: a5 :: a6 :: a7 :: a8 :: a9 :: a10 :: a11 :: v :: l := rfl
theorem gx13 (a0 a1 a2 a3 a4 a5 a6 a7 a8 a9 a10 a11 a12 a13 : Option D) (l : Sl) : (a0 :: a1 :: a2 :: a3 :: a4 :: a5 :: a6 :: a7 :: a8 :: a9 :: a10 :: a11 :: a12 :: a13 :: l)[13]? = some a13 := rfl
theorem sx13 (a0 a1 a2 a3 a4 a5 a6 a7 a8 a9 a10 a11 a12 a13 v : Option D) (l : Sl) : (a0 :: a1 :: a2 :: a3 :: a4 :: a5 :: a6 :: a7 :: a8 :: a9 :: a10 :: a11 :: a12 :: a13 :: l).set 13 v = a0 :: a1 :: a2 :: a3 :: a4 :: a5 :: a6 :: a7 :: a8 :: a9 :: a10 :: a11 :: a12 :: v :: l := rfl
theorem gx14 (a0 a1 a2 a3 a4 a5 a6 a7 a8 a9 a10 a11 a12 a13 a14 : Option D) (l : Sl) : (a0 :: a1 :: a2 :: a3 :: a4 :: a5 :: a6 :: a7 :: a8 :: a9 :: a10 :: a11 :: a12 :: a13 :: a14 :: l)[14]? = some a14 := rfl
theorem sx14 (a0 a1 a2 a3 a4 a5 a6 a7 a8 a9 a10 a11 a12 a13 a14 v : Option D) (l : Sl) : (a0 :: a1 :: a2 :: a3 :: a4 :: a5 :: a6 :: a7 :: a8 :: a9 :: a10 :: a11 :: a12 :: a13 :: a14 :: l).set 14 v = a0 :: a1 :: a2 :: a3 :: a4 :: a5 :: a6 :: a7 :: a8 :: a9 :: a10 :: a11 :: a12 :: a13 :: v :: l := rfl
theorem gx15 (a0 a1 a2 a3 a4 a5 a6 a7 a8 a9 a10 a11 a12 a13 a14 a15 : Option D) (l : Sl) : (a0 :: a1 :: a2 :: a3 :: a4 :: a5 :: a6 :: a7 :: a8 :: a9 :: a10 :: a11 :: a12 :: a13 :: a14 :: a15 :: l)[15]? = some a15 := rfl
theorem sx15 (a0 a1 a2 a3 a4 a5 a6 a7 a8 a9 a10 a11 a12 a13 a14 a15 v : Option D) (l : Sl) : (a0 :: a1 :: a2 :: a3 :: a4 :: a5 :: a6 :: a7 :: a8 :: a9 :: a10 :: a11 :: a12 :: a13 :: a14 :: a15 :: l).set 15 v = a0 :: a1 :: a2 :: a3 :: a4 :: a5 :: a6 :: a7 :: a8 :: a9 :: a10 :: a11 :: a12 :: a13 :: a14 :: v :: l := rfl
theorem gx16 (a0 a1 a2 a3 a4 a5 a6 a7 a8 a9 a10 a11 a12 a13 a14 a15 a16 : Option D) (l : Sl) : (a0 :: a1 :: a2 :: a3 :: a4 :: a5 :: a6 :: a7 :: a8 :: a9 :: a10 :: a11 :: a12 :: a13 :: a14 :: a15 :: a16 :: l)[16]? = some a16 := rfl
theorem sx16 (a0 a1 a2 a3 a4 a5 a6 a7 a8 a9 a10 a11 a12 a13 a14 a15 a16 v : Option D) (l : Sl) : (a0 :: a1 :: a2 :: a3 :: a4 :: a5 :: a6 :: a7 :: a8 :: a9 :: a10 :: a11 :: a12 :: a13 :: a14 :: a15 :: a16 :: l).set 16 v = a0 :: a1 :: a2 :: a3 :: a4 :: a5 :: a6 :: a7 :: a8 :: a9 :: a10 :: a11 :: a12 :: a13 :: a14 :: a15 :: v :: l := rfl
theorem gx17 (a0 a1 a2 a3 a4 a5 a6 a7 a8 a9 a10 a11 a12 a13 a14 a15 a16 a17 : Option D) (l : Sl) : (a0 :: a1 :: a2 :: a3 :: a4 :: a5 :: a6 :: a7 :: a8 :: a9 :: a10 :: a11 :: a12 :: a13 :: a14 :: a15 :: a16 :: a17 :: l)[17]? = some a17 := rfl
theorem sx17 (a0 a1 a2 a3 a4 a5 a6 a7 a8 a9 a10 a11 a12 a13 a14 a15 a16 a17 v : Option D) (l : Sl) : (a0 :: a1 :: a2 :: a3 :: a4 :: a5 :: a6 :: a7 :: a8 :: a9 :: a10 :: a11 :: a12 :: a13 :: a14 :: a15 :: a16 :: a17 :: l).set 17 v = a0 :: a1 :: a2 :: a3 :: a4 :: a5 :: a6 :: a7 :: a8 :: a9 :: a10 :: a11 :: a12 :: a13 :: a14 :: a15 :: a16 :: v :: l := rfl
theorem gx18 (a0 a1 a2 a3 a4 a5 a6 a7 a8 a9 a10 a11 a12 a13 a14 a15 a16 a17 a18 : Option D) (l : Sl) : (a0 :: a1 :: a2 :: a3 :: a4 :: a5 :: a6 :: a7 :: a8 :: a9 :: a10 :: a11 :: a12 :: a13 :: a14 :: a15 :: a16 :: a17 :: a18 :: l)[18]? = some a18 := rfl
theorem sx18 (a0 a1 a2 a3 a4 a5 a6 a7 a8 a9 a10 a11 a12 a13 a14 a15 a16 a17 a18 v : Option D) (l : Sl) : (a0 :: a1 :: a2 :: a3 :: a4 :: a5 :: a6 :: a7 :: a8 :: a9 :: a10 :: a11 :: a12 :: a13 :: a14 :: a15 :: a16 :: a17 :: a18 :: l).set 18 v = a0 :: a1 :: a2 :: a3 :: a4 :: a5 :: a6 :: a7 :: a8 :: a9 :: a10 :: a11 :: a12 :: a13 :: a14 :: a15 :: a16 :: a17 :: v :: l := rfl
theorem gx19 (a0 a1 a2 a3 a4 a5 a6 a7 a8 a9 a10 a11 a12 a13 a14 a15 a16 a17 a18 a19 : Option D) (l : Sl) : (a0 :: a1 :: a2 :: a3 :: a4 :: a5 :: a6 :: a7 :: a8 :: a9 :: a10 :: a11 :: a12 :: a13 :: a14 :: a15 :: a16 :: a17 :: a18 :: a19 :: l)[19]? = some a19 := rfl
theorem sx19 (a0 a1 a2 a3 a4 a5 a6 a7 a8 a9 a10 a11 a12 a13 a14 a15 a16 a17 a18 a19 v : Option D) (l : Sl) : (a0 :: a1 :: a2 :: a3 :: a4 :: a5 :: a6 :: a7 :: a8 :: a9 :: a10 :: a11 :: a12 :: a13 :: a14 :: a15 :: a16 :: a17 :: a18 :: a19 :: l).set 19 v = a0 :: a1 :: a2 :: a3 :: a4 :: a5 :: a6 :: a7 :: a8 :: a9 :: a10 :: a11 :: a12 :: a13 :: a14 :: a15 :: a16 :: a17 :: a18 :: v :: l := rfl
theorem gx20 (a0 a1 a2 a3 a4 a5 a6 a7 a8 a9 a10 a11 a12 a13 a14 a15 a16 a17 a18 a19 a20 : Option D) (l : Sl) : (a0 :: a1 :: a2 :: a3 :: a4 :: a5 :: a6 :: a7 :: a8 :: a9 :: a10 :: a11 :: a12 :: a13 :: a14 :: a15 :: a16 :: a17 :: a18 :: a19 :: a20 :: l)[20]? = some a20 := rfl
theorem sx20 (a0 a1 a2 a3 a4 a5 a6 a7 a8 a9 a10 a11 a12 a13 a14 a15 a16 a17 a18 a19 a20 v : Option D) (l : Sl) : (a0 :: a1 :: a2 :: a3 :: a4 :: a5 :: a6 :: a7 :: a8 :: a9 :: a10 :: a11 :: a12 :: a13 :: a14 :: a15 :: a16 :: a17 :: a18 :: a19 :: a20 :: l).set 20 v = a0 :: a1 :: a2 :: a3 :: a4 :: a5 :: a6 :: a7 :: a8 :: a9 :: a10 :: a11 :: a12 :: a13 :: a14 :: a15 :: a16 :: a17 :: a18 :: a19 :: v :: l := rfl
theorem gx21 (a0 a1 a2 a3 a4 a5 a6 a7 a8 a9 a10 a11 a12 a13 a14 a15 a16 a17 a18 a19 a20 a21 : Option D) (l : Sl) : (a0 :: a1 :: a2 :: a3 :: a4 :: a5 :: a6 :: a7 :: a8 :: a9 :: a10 :: a11 :: a12 :: a13 :: a14 :: a15 :: a16 :: a17 :: a18 :: a19 :: a20 :: a21 :: l)[21]? = some a21 := rfl
theorem sx21 (a0 a1 a2 a3 a4 a5 a6 a7 a8 a9 a10 a11 a12 a13 a14 a15 a16 a17 a18 a19 a20 a21 v : Option D) (l : Sl) : (a0 :: a1 :: a2 :: a3 :: a4 :: a5 :: a6 :: a7 :: a8 :: a9 :: a10 :: a11 :: a12 :: a13 :: a14 :: a15 :: a16 :: a17 :: a18 :: a19 :: a20 :: a21 :: l).set 21 v = a0 :: a1 :: a2 :: a3 :: a4 :: a5 :: a6 :: a7 :: a8 :: a9 :: a10 :: a11 :: a12 :: a13 :: a14 :: a15 :: a16 :: a17 :: a18 :: a19 :: a20 :: v :: l := rfl
theorem gx22 (a0 a1 a2 a3 a4 a5 a6 a7 a8 a9 a10 a11 a12 a13 a14 a15 a16 a17 a18 a19 a20 a21 a22 : Option D) (l : Sl) : (a0 :: a1 :: a2 :: a3 :: a4 :: a5 :: a6 :: a7 :: a8 :: a9 :: a10 :: a11 :: a12 :: a13 :: a14 :: a15 :: a16 :: a17 :: a18 :: a19 :: a20 :: a21 :: a22 :: l)[22]? = some a22 := rfl
theorem sx22 (a0 a1 a2 a3 a4 a5 a6 a7 a8 a9 a10 a11 a12 a13 a14 a15 a16 a17 a18 a19 a20 a21 a22 v : Option D) (l : Sl) : (a0 :: a1 :: a2 :: a3 :: a4 :: a5 :: a6 :: a7 :: a8 :: a9 :: a10 :: a11 :: a12 :: a13 :: a14 :: a15 :: a16 :: a17 :: a18 :: a19 :: a20 :: a21 :: a22 :: l).set 22 v = a0 :: a1 :: a2 :: a3 :: a4 :: a5 :: a6 :: a7 :: a8 :: a9 :: a10 :: a11 :: a12 :: a13 :: a14 :: a15 :: a16 :: a17 :: a18 :: a19 :: a20 :: a21 :: v :: l := rfl
theorem gx23 (a0 a1 a2 a3 a4 a5 a6 a7 a8 a9 a10 a11 a12 a13 a14 a15 a16 a17 a18 a19 a20 a21 a22 a23 : Option D) (l : Sl) : (a0 :: a1 :: a2 :: a3 :: a4 :: a5 :: a6 :: a7 :: a8 :: a9 :: a10 :: a11 :: a12 :: a13 :: a14 :: a15 :: a16 :: a17 :: a18 :: a19 :: a20 :: a21 :: a22 :: a23 :: l)[23]? = some a23 := rfl
theorem sx23 (a0 a1 a2 a3 a4 a5 a6 a7 a8 a9 a10 a11 a12 a13 a14 a15 a16 a17 a18 a19 a20 a21 a22 a23 v : Option D) (l : Sl) : (a0 :: a1 :: a2 :: a3 :: a4 :: a5 :: a6 :: a7 :: a8 :: a9 :: a10 :: a11 :: a12 :: a13 :: a14 :: a15 :: a16 :: a17 :: a18 :: a19 :: a20 :: a21 :: a22 :: a23 :: l).set 23 v = a0 :: a1 :: a2 :: a3 :: a4 :: a5 :: a6 :: a7 :: a8 :: a9 :: a10 :: a11 :: a12 :: a13 :: a14 :: a15 :: a16 :: a17 :: a18 :: a19 :: a20 :: a21 :: a22 :: v :: l := rfl
theorem gx24 (a0 a1 a2 a3 a4 a5 a6 a7 a8 a9 a10 a11 a12 a13 a14 a15 a16 a17 a18 a19 a20 a21 a22 a23 a24 : Option D) (l : Sl) : (a0 :: a1 :: a2 :: a3 :: a4 :: a5 :: a6 :: a7 :: a8 :: a9 :: a10 :: a11 :: a12 :: a13 :: a14 :: a15 :: a16 :: a17 :: a18 :: a19 :: a20 :: a21 :: a22 :: a23 :: a24 :: l)[24]? = some a24 := rfl
theorem sx24 (a0 a1 a2 a3 a4 a5 a6 a7 a8 a9 a10 a11 a12 a13 a14 a15 a16 a17 a18 a19 a20 a21 a22 a23 a24 v : Option D) (l : Sl) : (a0 :: a1 :: a2 :: a3 :: a4 :: a5 :: a6 :: a7 :: a8 :: a9 :: a10 :: a11 :: a12 :: a13 :: a14 :: a15 :: a16 :: a17 :: a18 :: a19 :: a20 :: a21 :: a22 :: a23 :: a24 :: l).set 24 v = a0 :: a1 :: a2 :: a3 :: a4 :: a5 :: a6 :: a7 :: a8 :: a9 :: a10 :: a11 :: a12 :: a13 :: a14 :: a15 :: a16 :: a17 :: a18 :: a19 :: a20 :: a21 :: a22 :: a23 :: v :: l := rfl
theorem gx25 (a0 a1 a2 a3 a4 a5 a6 a7 a8 a9 a10 a11 a12 a13 a14 a15 a16 a17 a18 a19 a20 a21 a22 a23 a24 a25 : Option D) (l : Sl) : (a0 :: a1 :: a2 :: a3 :: a4 :: a5 :: a6 :: a7 :: a8 :: a9 :: a10 :: a11 :: a12 :: a13 :: a14 :: a15 :: a16 :: a17 :: a18 :: a19 :: a20 :: a21 :: a22 :: a23 :: a24 :: a25 :: l)[25]? = some a25 := rfl
theorem sx25 (a0 a1 a2 a3 a4 a5 a6 a7 a8 a9 a10 a11 a12 a13 a14 a15 a16 a17 a18 a19 a20 a21 a22 a23 a24 a25 v : Option D) (l : Sl) : (a0 :: a1 :: a2 :: a3 :: a4 :: a5 :: a6 :: a7 :: a8 :: a9 :: a10 :: a11 :: a12 :: a13 :: a14 :: a15 :: a16 :: a17 :: a18 :: a19 :: a20 :: a21 :: a22 :: a23 :: a24 :: a25 :: l).set 25 v = a0 :: a1 :: a2 :: a3 :: a4 :: a5 :: a6 :: a7 :: a8 :: a9 :: a10 :: a11 :: a12 :: a13 :: a14 :: a15 :: a16 :: a17 :: a18 :: a19 :: a20 :: a21 :: a22 :: a23 :: a24 :: v :: l := rfl
theorem gx26 (a0 a1 a2 a3 a4 a5 a6 a7 a8 a9 a10 a11 a12 a13 a14 a15 a16 a17 a18 a19 a20 a21 a22 a23 a24 a25 a26 : Option D) (l : Sl) : (a0 :: a1 :: a2 :: a3 :: a4 :: a5 :: a6 :: a7 :: a8 :: a9 :: a10 :: a11 :: a12 :: a13 :: a14 :: a15 :: a16 :: a17 :: a18 :: a19 :: a20 :: a21 :: a22 :: a23 :: a24 :: a25 :: a26 :: l)[26]? = some a26 := rfl
theorem sx26 (a0 a1 a2 a3 a4 a5 a6 a7 a8 a9 a10 a11 a12 a13 a14 a15 a16 a17 a18 a19 a20 a21 a22 a23 a24 a25 a26 v : Option D) (l : Sl) : (a0 :: a1 :: a2 :: a3 :: a4 :: a5 :: a6 :: a7 :: a8 :: a9 :: a10 :: a11 :: a12 :: a13 :: a14 :: a15 :: a16 :: a17 :: a18 :: a19 :: a20 :: a21 :: a22 :: a23 :: a24 :: a25 :: a26 :: l).set 26 v = a0 :: a1 :: a2 :: a3 :: a4 :: a5 :: a6 :: a7 :: a8 :: a9 :: a10 :: a11 :: a12 :: a13 :: a14 :: a15 :: a16 :: a17 :: a18 :: a19 :: a20 :: a21 :: a22 :: a23 :: a24 :: a25 :: v :: l := rfl
theorem gx27 (a0 a1 a2 a3 a4 a5 a6 a7 a8 a9 a10 a11 a12 a13 a14 a15 a16 a17 a18 a19 a20 a21 a22 a23 a24 a25 a26 a27 : Option D) (l : Sl) : (a0 :: a1 :: a2 :: a3 :: a4 :: a5 :: a6 :: a7 :: a8 :: a9 :: a10 :: a11 :: a12 :: a13 :: a14 :: a15 :: a16 :: a17 :: a18 :: a19 :: a20 :: a21 :: a22 :: a23 :: a24 :: a25 :: a26 :: a27 :: l)[27]? = some a27 := rfl
theorem sx27 (a0 a1 a2 a3 a4 a5 a6 a7 a8 a9 a10 a11 a12 a13 a14 a15 a16 a17 a18 a19 a20 a21 a22 a23 a24 a25 a26 a27 v : Option D) (l : Sl) : (a0 :: a1 :: a2 :: a3 :: a4 :: a5 :: a6 :: a7 :: a8 :: a9 :: a10 :: a11 :: a12 :: a13 :: a14 :: a15 :: a16 :: a17 :: a18 :: a19 :: a20 :: a21 :: a22 :: a23 :: a24 :: a25 :: a26 :: a27 :: l).set 27 v = a0 :: a1 :: a2 :: a3 :: a4 :: a5 :: a6 :: a7 :: a8 :: a9 :: a10 :: a11 :: a12 :: a13 :: a14 :: a15 :: a16 :: a17 :: a18 :: a19 :: a20 :: a21 :: a22 :: a23 :: a24 :: a25 :: a26 :: v :: l := rfl
theorem gx28 (a0 a1 a2 a3 a4 a5 a6 a7 a8 a9 a10 a11 a12 a13 a14 a15 a16 a17 a18 a19 a20 a21 a22 a23 a24 a25 a26 a27 a28 : Option D) (l : Sl) : (a0 :: a1 :: a2 :: a3 :: a4 :: a5 :: a6 :: a7 :: a8 :: a9 :: a10 :: a11 :: a12 :: a13 :: a14 :: a15 :: a16 :: a17 :: a18 :: a19 :: a20 :: a21 :: a22 :: a23 :: a24 :: a25 :: a26 :: a27 :: a28 :: l)[28]? = some a28 := rfl
theorem sx28 (a0 a1 a2 a3 a4 a5 a6 a7 a8 a9 a10 a11 a12 a13 a14 a15 a16 a17 a18 a19 a20 a21 a22 a23 a24 a25 a26 a27 a28 v : Option D) (l : Sl) : (a0 :: a1 :: a2 :: a3 :: a4 :: a5 :: a6 :: a7 :: a8 :: a9 :: a10 :: a11 :: a12 :: a13 :: a14 :: a15 :: a16 :: a17 :: a18 :: a19 :: a20 :: a21 :: a22 :: a23 :: a24 :: a25 :: a26 :: a27 :: a28 :: l).set 28 v = a0 :: a1 :: a2 :: a3 :: a4 :: a5 :: a6 :: a7 :: a8 :: a9 :: a10 :: a11 :: a12 :: a13 :: a14 :: a15 :: a16 :: a17 :: a18 :: a19 :: a20 :: a21 :: a22 :: a23 :: a24 :: a25 :: a26 :: a27 :: v :: l := rfl
theorem gx29 (a0 a1 a2 a3 a4 a5 a6 a7 a8 a9 a10 a11 a12 a13 a14 a15 a16 a17 a18 a19 a20 a21 a22 a23 a24 a25 a26 a27 a28 a29 : Option D) (l : Sl) : (a0 :: a1 :: a2 :: a3 :: a4 :: a5 :: a6 :: a7 :: a8 :: a9 :: a10 :: a11 :: a12 :: a13 :: a14 :: a15 :: a16 :: a17 :: a18 :: a19 :: a20 :: a21 :: a22 :: a23 :: a24 :: a25 :: a26 :: a27 :: a28 :: a29 :: l)[29]? = some a29 := rfl
theorem sx29 (a0 a1 a2 a3 a4 a5 a6 a7 a8 a9 a10 a11 a12 a13 a14 a15 a16 a17 a18 a19 a20 a21 a22 a23 a24 a25 a26 a27 a28 a29 v : Option D) (l : Sl) : (a0 :: a1 :: a2 :: a3 :: a4 :: a5 :: a6 :: a7 :: a8 :: a9 :: a10 :: a11 :: a12 :: a13 :: a14 :: a15 :: a16 :: a17 :: a18 :: a19 :: a20 :: a21 :: a22 :: a23 :: a24 :: a25 :: a26 :: a27 :: a28 :: a29 :: l).set 29 v = a0 :: a1 :: a2 :: a3 :: a4 :: a5 :: a6 :: a7 :: a8 :: a9 :: a10 :: a11 :: a12 :: a13 :: a14 :: a15 :: a16 :: a17 :: a18 :: a19 :: a20 :: a21 :: a22 :: a23 :: a24 :: a25 :: a26 :: a27 :: a28 :: v :: l := rfl
end Sim
local macro_rules | `(tactic| simp only [mir, $xs,*]) => `(tactic| simp -implicitDefEqProofs only [↓Sim.seq_r, Sim.nxt_nx, Sim.nxt_rt, Sim.nxt_ex, Sim.nxt_bk, Sim.nxt_ct, Sim.bnd_ok, Sim.bnd_er, Sim.bndN_ok, Sim.bndS_ok, Sim.bndS_er, Sim.fnR_rt, Sim.fnR_nx, Sim.fnR_ex, ↓Sim.var_r, Sim.gv_s, ↓Sim.c_r, ↓Sim.e1_r, ↓Sim.e2_r, Sim.e2K_r, ↓Sim.aNil_r, ↓Sim.aCons_r, Sim.acK_r, Sim.csK_r, ↓Sim.eA_r, Sim.a1_r, Sim.a2_r, Sim.m1_r, ↓Sim.eTup_r, ↓Sim.eLst_r, ↓Sim.eLstR_r, Sim.mkT0, Sim.mkL0, Sim.mkR0, Sim.mkT1, Sim.mkL1, Sim.mkR1, Sim.mkT2, Sim.mkL2, Sim.mkR2, Sim.mkT3, Sim.mkL3, Sim.mkR3, Sim.mkT4, Sim.mkL4, Sim.mkR4, Sim.mkT5, Sim.mkL5, Sim.mkR5, Sim.mkT6, Sim.mkL6, Sim.mkR6, Sim.mkT7, Sim.mkL7, Sim.mkR7, Sim.mkT8, Sim.mkL8, Sim.mkR8, ↓Sim.tOf_r, Sim.blOf_r, Sim.tAndK_t, Sim.tAndK_f, ↓Sim.tAnd_r, Sim.tOrK_t, Sim.tOrK_f, ↓Sim.tOr_r, Sim.eAndK_t, Sim.eAndK_f, ↓Sim.eAnd_r, Sim.eOrK_t, Sim.eOrK_f, ↓Sim.eOr_r, Sim.eIfK_t, Sim.eIfK_f, ↓Sim.eIf_r, Sim.tnK_r, Sim.enK_r, ↓Sim.tNot_r, ↓Sim.eNot_r, ↓Sim.chain_r, Sim.ch1K_r, Sim.ch2K_r, Sim.chK_t, Sim.chK_f, ↓Sim.oNo_r, ↓Sim.oSo_r, Sim.iofD_r, ↓Sim.eSl_r, Sim.sl1K_r, Sim.sl2K_r, Sim.sl3K_r, ↓Sim.eBM_r, Sim.bmK_r, Sim.bmK2_r, ↓Sim.meth_r, Sim.methK_r, Sim.methK2_r, Sim.mtC_r, ↓Sim.next_r, ↓Sim.break_r, ↓Sim.cont_r, Sim.dropK_r, Sim.retK_r, Sim.setK_r, Sim.ifK_t, Sim.ifK_f, Sim.par1K_r, Sim.par2K_r, ↓Sim.drop_r, ↓Sim.ret_r, ↓Sim.retN_r, ↓Sim.set_r, ↓Sim.if_r, ↓Sim.par_r, Sim.sf1K_r, ↓Sim.fld_r, Sim.sfK_r, Sim.stK_s, Sim.fldK_s, Sim.put1K_r, Sim.put2K_r, ↓Sim.put_r, Sim.putK_r, ↓Sim.raiseB_r, ↓Sim.raiseN_r, Sim.rnK_r, ↓Sim.try_r, Sim.tryK_nx, Sim.tryK_rt, Sim.tryK_ex, Sim.tryC_t, Sim.tryC_f, Sim.hnd_0, Sim.hnd_1, Sim.noEx_nx, Sim.unset_nx, Sim.noEx_bk, Sim.unset_bk, Sim.noEx_ct, Sim.unset_ct, Sim.noEx_rt, Sim.unset_rt, Sim.xf_r, Sim.fFld_r, Sim.rdK_s, Sim.fIx_rr, Sim.fLen_rr, Sim.inK_s, Sim.isL_rr, Sim.app_rr, Sim.apK_s, Sim.blK_s, ↓Sim.get1_r, Sim.gt1K_r, Sim.gt2K_r, Sim.gx0, Sim.sx0, Sim.gx1, Sim.sx1, Sim.gx2, Sim.sx2, Sim.gx3, Sim.sx3, Sim.gx4, Sim.sx4, Sim.gx5, Sim.sx5, Sim.gx6, Sim.sx6, Sim.gx7, Sim.sx7, Sim.gx8, Sim.sx8, Sim.gx9, Sim.sx9, Sim.gx10, Sim.sx10, Sim.gx11, Sim.sx11, Sim.gx12, Sim.sx12, Sim.gx13, Sim.sx13, Sim.gx14, Sim.sx14, Sim.gx15, Sim.sx15, Sim.gx16, Sim.sx16, Sim.gx17, Sim.sx17, Sim.gx18, Sim.sx18, Sim.gx19, Sim.sx19, Sim.gx20, Sim.sx20, Sim.gx21, Sim.sx21, Sim.gx22, Sim.sx22, Sim.gx23, Sim.sx23, Sim.gx24, Sim.sx24, Sim.gx25, Sim.sx25, Sim.gx26, Sim.sx26, Sim.gx27, Sim.sx27, Sim.gx28, Sim.sx28, Sim.gx29, Sim.sx29, Sim.fAdd_i, Sim.fSub_i, Sim.fLt_i, Sim.fCmp_i, Sim.fEq_i, Sim.fNe_i, Sim.fLen_fl, Sim.fLen_tup, Sim.fLen_scr, Sim.isL_fl, Sim.isL_scr, Sim.isS_str, Sim.isS_fl, Sim.isS_ref, Sim.fIx_t0, Sim.fIx_t1, Sim.fIx_t2, Sim.fIx_t3, Sim.fIx_f0, Sim.fIx_f1, Sim.fIx_f2, Sim.fIx_f3, Sim.pow9, Sim.pow17, Sim.pow18, Sim.pow41, decide_true, decide_false, Bool.not_true, Bool.not_false, Int.reduceEq, Int.reduceLT, Int.reduceLE, Int.reduceAdd, Int.reduceSub, Int.reduceMul, Int.reduceNeg, Int.reduceNe, eq_self, not_true_eq_false, not_false_eq_true, $xs,*])
local macro_rules | `(tactic| simp only [mir]) => `(tactic| simp -implicitDefEqProofs only [↓Sim.seq_r, Sim.nxt_nx, Sim.nxt_rt, Sim.nxt_ex, Sim.nxt_bk, Sim.nxt_ct, Sim.bnd_ok, Sim.bnd_er, Sim.bndN_ok, Sim.bndS_ok, Sim.bndS_er, Sim.fnR_rt, Sim.fnR_nx, Sim.fnR_ex, ↓Sim.var_r, Sim.gv_s, ↓Sim.c_r, ↓Sim.e1_r, ↓Sim.e2_r, Sim.e2K_r, ↓Sim.aNil_r, ↓Sim.aCons_r, Sim.acK_r, Sim.csK_r, ↓Sim.eA_r, Sim.a1_r, Sim.a2_r, Sim.m1_r, ↓Sim.eTup_r, ↓Sim.eLst_r, ↓Sim.eLstR_r, Sim.mkT0, Sim.mkL0, Sim.mkR0, Sim.mkT1, Sim.mkL1, Sim.mkR1, Sim.mkT2, Sim.mkL2, Sim.mkR2, Sim.mkT3, Sim.mkL3, Sim.mkR3, Sim.mkT4, Sim.mkL4, Sim.mkR4, Sim.mkT5, Sim.mkL5, Sim.mkR5, Sim.mkT6, Sim.mkL6, Sim.mkR6, Sim.mkT7, Sim.mkL7, Sim.mkR7, Sim.mkT8, Sim.mkL8, Sim.mkR8, ↓Sim.tOf_r, Sim.blOf_r, Sim.tAndK_t, Sim.tAndK_f, ↓Sim.tAnd_r, Sim.tOrK_t, Sim.tOrK_f, ↓Sim.tOr_r, Sim.eAndK_t, Sim.eAndK_f, ↓Sim.eAnd_r, Sim.eOrK_t, Sim.eOrK_f, ↓Sim.eOr_r, Sim.eIfK_t, Sim.eIfK_f, ↓Sim.eIf_r, Sim.tnK_r, Sim.enK_r, ↓Sim.tNot_r, ↓Sim.eNot_r, ↓Sim.chain_r, Sim.ch1K_r, Sim.ch2K_r, Sim.chK_t, Sim.chK_f, ↓Sim.oNo_r, ↓Sim.oSo_r, Sim.iofD_r, ↓Sim.eSl_r, Sim.sl1K_r, Sim.sl2K_r, Sim.sl3K_r, ↓Sim.eBM_r, Sim.bmK_r, Sim.bmK2_r, ↓Sim.meth_r, Sim.methK_r, Sim.methK2_r, Sim.mtC_r, ↓Sim.next_r, ↓Sim.break_r, ↓Sim.cont_r, Sim.dropK_r, Sim.retK_r, Sim.setK_r, Sim.ifK_t, Sim.ifK_f, Sim.par1K_r, Sim.par2K_r, ↓Sim.drop_r, ↓Sim.ret_r, ↓Sim.retN_r, ↓Sim.set_r, ↓Sim.if_r, ↓Sim.par_r, Sim.sf1K_r, ↓Sim.fld_r, Sim.sfK_r, Sim.stK_s, Sim.fldK_s, Sim.put1K_r, Sim.put2K_r, ↓Sim.put_r, Sim.putK_r, ↓Sim.raiseB_r, ↓Sim.raiseN_r, Sim.rnK_r, ↓Sim.try_r, Sim.tryK_nx, Sim.tryK_rt, Sim.tryK_ex, Sim.tryC_t, Sim.tryC_f, Sim.hnd_0, Sim.hnd_1, Sim.noEx_nx, Sim.unset_nx, Sim.noEx_bk, Sim.unset_bk, Sim.noEx_ct, Sim.unset_ct, Sim.noEx_rt, Sim.unset_rt, Sim.xf_r, Sim.fFld_r, Sim.rdK_s, Sim.fIx_rr, Sim.fLen_rr, Sim.inK_s, Sim.isL_rr, Sim.app_rr, Sim.apK_s, Sim.blK_s, ↓Sim.get1_r, Sim.gt1K_r, Sim.gt2K_r, Sim.gx0, Sim.sx0, Sim.gx1, Sim.sx1, Sim.gx2, Sim.sx2, Sim.gx3, Sim.sx3, Sim.gx4, Sim.sx4, Sim.gx5, Sim.sx5, Sim.gx6, Sim.sx6, Sim.gx7, Sim.sx7, Sim.gx8, Sim.sx8, Sim.gx9, Sim.sx9, Sim.gx10, Sim.sx10, Sim.gx11, Sim.sx11, Sim.gx12, Sim.sx12, Sim.gx13, Sim.sx13, Sim.gx14, Sim.sx14, Sim.gx15, Sim.sx15, Sim.gx16, Sim.sx16, Sim.gx17, Sim.sx17, Sim.gx18, Sim.sx18, Sim.gx19, Sim.sx19, Sim.gx20, Sim.sx20, Sim.gx21, Sim.sx21, Sim.gx22, Sim.sx22, Sim.gx23, Sim.sx23, Sim.gx24, Sim.sx24, Sim.gx25, Sim.sx25, Sim.gx26, Sim.sx26, Sim.gx27, Sim.sx27, Sim.gx28, Sim.sx28, Sim.gx29, Sim.sx29, Sim.fAdd_i, Sim.fSub_i, Sim.fLt_i, Sim.fCmp_i, Sim.fEq_i, Sim.fNe_i, Sim.fLen_fl, Sim.fLen_tup, Sim.fLen_scr, Sim.isL_fl, Sim.isL_scr, Sim.isS_str, Sim.isS_fl, Sim.isS_ref, Sim.fIx_t0, Sim.fIx_t1, Sim.fIx_t2, Sim.fIx_t3, Sim.fIx_f0, Sim.fIx_f1, Sim.fIx_f2, Sim.fIx_f3, Sim.pow9, Sim.pow17, Sim.pow18, Sim.pow41, decide_true, decide_false, Bool.not_true, Bool.not_false, Int.reduceEq, Int.reduceLT, Int.reduceLE, Int.reduceAdd, Int.reduceSub, Int.reduceMul, Int.reduceNeg, Int.reduceNe, eq_self, not_true_eq_false, not_false_eq_true])
/-! the draws: the row, taken -/
namespace Law
open PySem PySem.Spec L2 Sim
structure Row where
  ns : List Int
  i : Int
  c : Int
  m : Int
def rowD (R : Row) : Cell := ⟨.lst [.scr R.ns, .int R.i, .int R.c, .int R.m], false⟩
structure RowOk (R : Row) : Prop where
  i0 : 0 ≤ R.i
  c0 : 0 ≤ R.c
  m0 : 0 ≤ R.m
  m1 : R.m < 2147483647
def mixL : List Int → Int → Int
  | [], m => m
  | n :: ns, m => mixL ns ((m * 48271 + n + 11) % 2147483647)
theorem mixL_ok : ∀ (ns : List Int) (m : Int), 0 ≤ m → m < 2147483647 → 0 ≤ mixL ns m ∧ mixL ns m < 2147483647
  | [], m, h0, h1 => ⟨h0, h1⟩
  | n :: ns, m, h0, h1 => mixL_ok ns _ (Int.emod_nonneg _ (by decide)) (Int.emod_lt_of_pos _ (by decide))
def row0 (ns : List Int) : Row := ⟨ns, 0, 0, mixL ns 7⟩
theorem row0_ok (ns : List Int) : RowOk (row0 ns) := ⟨Int.le_refl _, Int.le_refl _, (mixL_ok ns 7 (by decide) (by decide)).1, (mixL_ok ns 7 (by decide) (by decide)).2⟩
theorem row_loop {x : Option D} : ∀ (ns : List Int) (m : Int) (c : Option D) (S : Store), 0 ≤ m → m < 2147483647 → ∃ c', forL (.one 2) (sSet 1 (e2 fMod (e2 fAdd (e2 fAdd (e2 fMul (eVar 1) (eC (.int 48271))) (eVar 2)) (eC (.int 11))) (eC (.int 2147483647)))) (ns.map D.int) [x, some (.int m), c] S = some (.nx [x, some (.int (mixL ns m)), c'], S)
  | [], m, c, S, h0, h1 => ⟨c, rfl⟩
  | n :: ns, m, c, S, h0, h1 => by
    obtain ⟨c', h⟩ := row_loop ns ((m * 48271 + n + 11) % 2147483647) (some (.int n)) S (Int.emod_nonneg _ (by decide)) (Int.emod_lt_of_pos _ (by decide))
    refine ⟨c', ?_⟩
    rw [List.map_cons, forL]
    walk_at "ev"
    have e1 : fMul (.int m) (.int 48271) S = some (.ok (.int (m * 48271)), S) := by unfold fMul; simp only; rw [if_pos (by omega)]
    simp only [e1, fAdd, fMod]
    walk_at "ev"
    exact h
theorem row_eq (ns : List Int) (S : Store) : m__law_row [.scr ns] S = some (.ok (.ref S.length), S ++ [rowD (row0 ns)]) := by
  unfold m__law_row b__law_row
  walk_at "ev"
  obtain ⟨c', h⟩ := row_loop (x := some (.scr ns)) ns 7 none S (by decide) (by decide)
  simp only [isL_scr, listOf_scr, if_true, forG_all, h]
  walk_at "ev"
  rfl
def tk (R : Row) (k : Int) : Int × Row :=
  if 0 < R.c then (R.c % k, { R with c := R.c / k })
  else if R.i < R.ns.length then
    let z := R.ns.getD R.i.toNat 0
    (z % k, if 1000000000000000000 ≤ z then { R with i := R.i + 1, c := z / k } else { R with i := R.i + 1 })
  else
    let m := (R.m * 48271 + 12345) % 2147483647
    (m / 1009 % k, { R with m := m })
theorem tk_lo {R : Row} {k : Int} (hk : 0 < k) : 0 ≤ (tk R k).1 := by
  unfold tk
  split
  · exact Int.emod_nonneg _ (by omega)
  · split
    · exact Int.emod_nonneg _ (by omega)
    · exact Int.emod_nonneg _ (by omega)
theorem tk_hi {R : Row} {k : Int} (hk : 0 < k) : (tk R k).1 < k := by
  unfold tk
  split
  · exact Int.emod_lt_of_pos _ hk
  · split
    · exact Int.emod_lt_of_pos _ hk
    · exact Int.emod_lt_of_pos _ hk
theorem tk_ok {R : Row} {k : Int} (h : RowOk R) (hk : 0 < k) : RowOk (tk R k).2 := by
  obtain ⟨h1, h2, h3, h4⟩ := h
  unfold tk
  split
  · exact ⟨h1, Int.ediv_nonneg h2 (by omega), h3, h4⟩
  · split
    · simp only
      split
      · exact ⟨by show 0 ≤ R.i + 1; omega, Int.ediv_nonneg (by omega) (by omega), h3, h4⟩
      · exact ⟨by show 0 ≤ R.i + 1; omega, h2, h3, h4⟩
    · exact ⟨h1, h2, Int.emod_nonneg _ (by decide), Int.emod_lt_of_pos _ (by decide)⟩
theorem taken_eq {R : Row} {n : Nat} {S : Store} {k : Int} (hS : S[n]? = some (rowD R)) (h : RowOk R) (h0 : 0 < k) (h1 : k < 1606938044258990275541962092341162602522202993782792835301376) :
    m__law_taken [.ref n, .int k] S = some (.ok (.int (tk R k).1), S.set n (rowD (tk R k).2)) := by
  obtain ⟨hi, hc, hm0, hm1⟩ := h
  have hn : n < S.length := (List.getElem?_eq_some_iff.mp hS).1
  have hS' : S[n]? = some ⟨.lst [.scr R.ns, .int R.i, .int R.c, .int R.m], false⟩ := hS
  have g0 := fIx_ref (i := 0) hS' (by decide) rfl
  have g1 := fIx_ref (i := 1) hS' (by decide) rfl
  have g2 := fIx_ref (i := 2) hS' (by decide) rfl
  have g3 := fIx_ref (i := 3) hS' (by decide) rfl
  have gp : ∀ S, fPow (.int 10) (.int 18) S = some (.ok (.int 1000000000000000000), S) := fun _ => rfl
  have p1 := fun d => putIx_lst (i := 1) (d := d) hS' (by decide) (by simp)
  have p2 := fun d => putIx_lst (i := 2) (d := d) hS' (by decide) (by simp)
  have p3 := fun d => putIx_lst (i := 3) (d := d) hS' (by decide) (by simp)
  have gm : ∀ i S, fMod (.int i) (.int k) S = some (.ok (.int (i % k)), S) := fun i S => fMod_i h0 S
  have gd : ∀ i S, fDiv (.int i) (.int k) S = some (.ok (.int (i / k)), S) := fun i S => fDiv_i h0 h1 S
  unfold m__law_taken b__law_taken tk
  refine fn_rt rfl ?_
  by_cases c1 : 0 < R.c
  · rw [if_pos c1]
    refine seq_rt ?_
    walk_at "ev*"
    rfl
  · rw [if_neg c1]
    refine Eq.trans (seq_nx (by walk_at "ev*"; rfl)) ?_
    by_cases c2 : R.i < R.ns.length
    · have gz : ∀ S, fIx (.scr R.ns) (.int R.i) S = some (.ok (.int (R.ns.getD R.i.toNat 0)), S) := fun S => fIx_scr hi (by
        rw [List.getElem?_eq_getElem (by omega), List.getD_eq_getElem?_getD, List.getElem?_eq_getElem (by omega)]; rfl) S
      rw [if_pos c2]
      refine seq_rt ?_
      have hS1 : (S.set n ⟨.lst [.scr R.ns, .int (R.i + 1), .int R.c, .int R.m], false⟩)[n]? = some ⟨.lst [.scr R.ns, .int (R.i + 1), .int R.c, .int R.m], false⟩ := List.getElem?_set_self hn
      have p2' := fun d => putIx_lst (i := 2) (d := d) hS1 (by decide) (by simp)
      by_cases c3 : 1000000000000000000 ≤ R.ns.getD R.i.toNat 0
      · walk_at "ev*"
        rfl
      · walk_at "ev*"
        rfl
    · rw [if_neg c2]
      refine Eq.trans (seq_nx (by walk_at "ev*"; rfl)) ?_
      have gmul : ∀ S, fMul (.int R.m) (.int 48271) S = some (.ok (.int (R.m * 48271)), S) := fun S => fMul_l (by omega) (by omega) S
      have gmm : ∀ i S, fMod (.int i) (.int 2147483647) S = some (.ok (.int (i % 2147483647)), S) := fun i S => fMod_i (by decide) S
      have gdd : ∀ i S, fDiv (.int i) (.int 1009) S = some (.ok (.int (i / 1009)), S) := fun i S => fDiv_i (by decide) (by decide) S
      refine Eq.trans (seq_nx (by walk_at "ev*"; rfl)) ?_
      have hS1 := List.getElem?_set_self (l := S) (a := (⟨.lst [.scr R.ns, .int R.i, .int R.c, .int ((R.m * 48271 + 12345) % 2147483647)], false⟩ : Cell)) hn
      have g3' := fIx_ref (i := 3) hS1 (by decide) rfl
      walk_at "ev*"
      rfl
def dr (R : Row) (k : Int) : Nat → List Int × Row
  | 0 => ([], R)
  | n + 1 => ((tk R k).1 :: (dr (tk R k).2 k n).1, (dr (tk R k).2 k n).2)
theorem dr_ok {k : Int} (hk : 0 < k) : ∀ (n : Nat) {R : Row}, RowOk R → RowOk (dr R k n).2
  | 0, _, h => h
  | n + 1, _, h => dr_ok hk n (tk_ok h hk)
theorem dr_len {k : Int} : ∀ (n : Nat) {R : Row}, (dr R k n).1.length = n
  | 0, _ => rfl
  | n + 1, _ => by unfold dr; rw [List.length_cons, dr_len n]
theorem dr_in {k : Int} (hk : 0 < k) : ∀ (n : Nat) {R : Row}, ∀ x ∈ (dr R k n).1, 0 ≤ x ∧ x < k
  | 0, _, _, h => nomatch h
  | n + 1, R, x, h => by
    unfold dr at h
    rcases List.mem_cons.mp h with e | e
    · subst e; exact ⟨tk_lo hk, tk_hi hk⟩
    · exact dr_in hk n x e
theorem set_same {S : Store} {n : Nat} {c : Cell} (h : S[n]? = some c) : S.set n c = S := by
  apply List.ext_getElem?
  intro i
  by_cases e : n = i
  · subst e
    rw [List.getElem?_set_self (List.getElem?_eq_some_iff.mp h).1, h]
  · rw [List.getElem?_set_ne e]
theorem comp_dr {id j : Nat} {k : Int} (hk : 0 < k) {e : ME} {l : Sl} (he : ∀ (d : D) (R : Row) (S : Store), S[id]? = some (rowD R) → RowOk R → e (l.set j (some d)) S = some (.ok (.int (tk R k).1), S.set id (rowD (tk R k).2))) :
    ∀ (n : Nat) (lo : Int) (acc : List D) (R : Row) (S : Store), S[id]? = some (rowD R) → RowOk R → acc.length + n ≤ 16777216 →
      compL (.one j) tYes' e l acc (rangeD lo n) S = some (.ok (.fl (acc ++ (dr R k n).1.map D.int)), S.set id (rowD (dr R k n).2))
  | 0, lo, acc, R, S, hS, hR, hl => by
    rw [rangeD_zero, compL]
    show some _ = some (Except.ok (D.fl (acc ++ [])), S.set id (rowD R))
    rw [List.append_nil, set_same hS]
  | n + 1, lo, acc, R, S, hS, hR, hl => by
    rw [rangeD_succ, compL]
    have hn : id < S.length := (List.getElem?_eq_some_iff.mp hS).1
    simp only [tgSet, tYes', bndN, if_true, he _ R S hS hR]
    rw [if_pos (show acc.length < lineN by show _ < 16777216; omega), comp_dr hk he n (lo + 1) (acc ++ [D.int (tk R k).1]) (tk R k).2 _ (List.getElem?_set_self hn) (tk_ok hR hk) (by rw [List.length_append]; simp; omega), List.append_assoc, List.set_set]
    rfl
theorem draw {R : Row} {n : Nat} {S : Store} (k : Int) (hS : S[n]? = some (rowD R)) (o : RowOk R) (h0 : 0 < k) (h1 : k < 1606938044258990275541962092341162602522202993782792835301376) :
    ∃ r R', m__law_taken [.ref n, .int k] S = some (.ok (.int r), S.set n (rowD R')) ∧ RowOk R' ∧ 0 ≤ r ∧ r < k := ⟨_, _, taken_eq hS o h0 h1, tk_ok o h0, tk_lo h0, tk_hi h0⟩
theorem draw0 {R : Row} (k : Int) (o : RowOk R) (h0 : 0 < k) (h1 : k < 1606938044258990275541962092341162602522202993782792835301376) :
    ∃ r R', m__law_taken [.ref 0, .int k] [rowD R] = some (.ok (.int r), [rowD R']) ∧ RowOk R' ∧ 0 ≤ r ∧ r < k := ⟨_, _, taken_eq (S := [rowD R]) rfl o h0 h1, tk_ok o h0, tk_lo h0, tk_hi h0⟩
end Law

/-! signs and texts -/
namespace Law
open PySem PySem.Spec L2 Sim
def SG : List Nat := [32, 33, 34, 35, 36, 38, 39, 40, 41, 42, 43, 44, 45, 46, 47, 48, 49, 50, 51, 52, 53, 54, 55, 56, 57, 58, 59, 60, 61, 62, 63, 64, 65, 66, 67, 68, 69, 70, 71, 72, 73, 74, 75, 76, 77, 78, 79, 80, 81, 82, 83, 84, 85, 86, 87, 88, 89, 90, 91, 92, 93, 94, 95, 96, 97, 98, 99, 100, 101, 102, 103, 104, 105, 106, 107, 108, 109, 110, 111, 112, 113, 114, 115, 116, 117, 118, 119, 120, 121, 122, 123, 124, 125, 126]
def sg : Str := ⟨SG.toArray⟩
theorem SG_len : SG.length = 94 := by decide +kernel
theorem sg_len : sg.length = 94 := by decide +kernel
theorem sg_list : sg.cps.toList = SG := rfl
theorem SIGNS_eq : (" !\"#$&'()*+,-./0123456789:;<=>?@ABCDEFGHIJKLMNOPQRSTUVWXYZ[\\]^_`abcdefghijklmnopqrstuvwxyz{|}~" : Str) = sg := by decide +kernel
theorem SG_lt : ∀ c ∈ SG, c < 128 := by decide +kernel
theorem SG_nd : SG.Nodup := by decide +kernel
def sgc (i : Nat) : Nat := SG.getD i 0
theorem sgc_get {i : Nat} (h : i < 94) : SG[i]? = some (sgc i) := by
  unfold sgc
  rw [List.getD_eq_getElem?_getD, List.getElem?_eq_getElem (by rw [SG_len]; exact h)]
  rfl
theorem sgc_occ : ∀ i < 94, Builtin.Str.occurrences sg ⟨#[sgc i]⟩ 0 sg.length 1 = [i] := by decide +kernel
theorem sgc_inj {i j : Nat} (hi : i < 94) (hj : j < 94) (h : sgc i = sgc j) : i = j := by
  have e1 := sgc_get hi
  have e2 := sgc_get hj
  rw [h] at e1
  exact nd_ix' SG_nd e1 e2
def tx (l : List Nat) : Str := ⟨(l.map sgc).toArray⟩
def Sig (l : List Nat) : Prop := ∀ i ∈ l, i < 94
theorem tx_len (l : List Nat) : (tx l).length = l.length := by unfold tx Str.length; simp
theorem tx_nil : ("" : Str) = tx [] := by decide +kernel
theorem tx_app (l m : List Nat) : tx l ++ tx m = tx (l ++ m) := by
  show Str.append (tx l) (tx m) = _
  unfold Str.append tx
  simp
theorem tx_one {l : List Nat} {i : Nat} : tx l ++ ⟨#[sgc i]⟩ = tx (l ++ [i]) := tx_app l [i]
theorem tx_inj {l m : List Nat} (hl : Sig l) (hm : Sig m) (h : tx l = tx m) : l = m := by
  unfold tx at h
  have h2 : l.map sgc = m.map sgc := by
    have := congrArg (fun s : Str => s.cps.toList) h
    simpa using this
  clear h
  induction l generalizing m with
  | nil => cases m with
    | nil => rfl
    | cons x xs => simp at h2
  | cons x xs ih => cases m with
    | nil => simp at h2
    | cons y ys =>
      rw [List.map_cons, List.map_cons] at h2
      injection h2 with h3 h4
      rw [sgc_inj (hl x List.mem_cons_self) (hm y List.mem_cons_self) h3, ih (fun i h => hl i (List.mem_cons_of_mem _ h)) (fun i h => hm i (List.mem_cons_of_mem _ h)) h4]
theorem tx_ok {l : List Nat} (h : Sig l) : PyData.strOk (tx l) = true := by
  unfold PyData.strOk tx
  rw [← Array.all_toList]
  simp only [List.all_map, List.all_eq_true]
  intro i hi
  have e := sgc_get (h i hi)
  have := SG_lt _ (List.mem_of_getElem? e)
  simp only [Function.comp, decide_eq_true_eq]
  omega
theorem signs_tx (l : List Nat) : signsOf (tx l) = l.map fun i => D.str ⟨#[sgc i]⟩ := by
  unfold signsOf tx
  simp [Function.comp_def]
theorem fIx_sg {i : Int} (h0 : 0 ≤ i) (h1 : i < 94) (S : Store) : fIx (.str sg) (.int i) S = some (.ok (.str ⟨#[sgc i.toNat]⟩), S) :=
  fIx_str (by rw [sg_len]; decide) h0 (by rw [sg_list]; exact sgc_get (by omega)) S
theorem noErr_ok {α : Type} {m : M α} {S S' : Store} {a : α} (h : m S = some (.ok a, S')) : noErr m S = some (.ok a, S') := by unfold noErr; rw [h]
def txl : Int → Int → Nat → Nat → List Nat
  | _, _, _, 0 => []
  | cell, step, k, n + 1 => ((cell + step * k) % 94).toNat :: txl (cell / 94) step (k + 1) n
theorem txl_succ (cell step : Int) (k n : Nat) : txl cell step k (n + 1) = ((cell + step * k) % 94).toNat :: txl (cell / 94) step (k + 1) n := rfl
theorem txl_len : ∀ (n : Nat) (cell step : Int) (k : Nat), (txl cell step k n).length = n
  | 0, _, _, _ => rfl
  | n + 1, cell, step, k => by unfold txl; rw [List.length_cons, txl_len n]
theorem txl_sig : ∀ (n : Nat) (cell step : Int) (k : Nat), Sig (txl cell step k n)
  | 0, _, _, _ => fun _ h => nomatch h
  | n + 1, cell, step, k => fun i h => by
    unfold txl at h
    rcases List.mem_cons.mp h with e | e
    · have := Int.emod_lt_of_pos (cell + step * k) (show (0 : Int) < 94 by decide)
      have := Int.emod_nonneg (cell + step * k) (show (94 : Int) ≠ 0 by decide)
      omega
    · exact txl_sig n _ _ _ i e
def bT : MS := sSeq (sSet 4 (e2 fAdd (eVar 4) (e2 fIx (eVar 2) (e2 fMod (e2 fAdd (eVar 0) (e2 fMul (eVar 3) (eVar 5))) (eC (.int 94)))))) (sSet 0 (e2 fDiv (eVar 0) (eC (.int 94))))
theorem text_loop {step : Int} (hs : 0 ≤ step ∧ step ≤ 7) {x : Option D} : ∀ (n k : Nat) (cell : Int) (acc : List Nat) (o : Option D) (S : Store), acc.length + n ≤ 1000 →
    ∃ c' o', forL (.one 5) bT (rangeD k n) [some (.int cell), x, some (.str sg), some (.int step), some (.str (tx acc)), o] S = some (.nx [some (.int c'), x, some (.str sg), some (.int step), some (.str (tx (acc ++ txl cell step k n))), o'], S)
  | 0, k, cell, acc, o, S, h => ⟨cell, o, by rw [rangeD_zero]; unfold txl; rw [List.append_nil]; rfl⟩
  | n + 1, k, cell, acc, o, S, h => by
    obtain ⟨c', o', ih⟩ := text_loop hs n (k + 1) (cell / 94) (acc ++ [((cell + step * k) % 94).toNat]) (some (.int k)) S (by rw [List.length_append]; simp; omega)
    refine ⟨c', o', ?_⟩
    rw [rangeD_succ]
    have m1 := Int.emod_nonneg (cell + step * k) (show (94 : Int) ≠ 0 by decide)
    have m2 := Int.emod_lt_of_pos (cell + step * k) (show (0 : Int) < 94 by decide)
    have g1 : ∀ S, fMul (.int step) (.int (k : Int)) S = some (.ok (.int (step * k)), S) := fun S => fMul_l (by omega) (by omega) S
    have g2 : ∀ S, fMod (.int (cell + step * k)) (.int 94) S = some (.ok (.int ((cell + step * k) % 94)), S) := fun S => fMod_i (by decide) S
    have g3 : ∀ S, fIx (.str sg) (.int ((cell + step * k) % 94)) S = some (.ok (.str ⟨#[sgc ((cell + step * k) % 94).toNat]⟩), S) := fun S => fIx_sg m1 m2 S
    have g4 : ∀ S, fAdd (.str (tx acc)) (.str ⟨#[sgc ((cell + step * k) % 94).toNat]⟩) S = some (.ok (.str (tx (acc ++ [((cell + step * k) % 94).toNat]))), S) := fun S => by
      rw [fAdd_str (by rw [tx_len]; show acc.length + 1 ≤ _; omega), tx_one]
    have g5 : ∀ S, fDiv (.int cell) (.int 94) S = some (.ok (.int (cell / 94)), S) := fun S => fDiv_i (by decide) (by decide) S
    have e1 : bT [some (.int cell), x, some (.str sg), some (.int step), some (.str (tx acc)), some (.int k)] S = some (.nx [some (.int (cell / 94)), x, some (.str sg), some (.int step), some (.str (tx (acc ++ [((cell + step * k) % 94).toNat]))), some (.int k)], S) := by
      unfold bT
      clear ih
      walk_at "ev*"
    unfold forL
    simp only [tgSet, List.set_cons_succ, List.set_cons_zero, e1]
    have e2 : ((k : Int) + 1) = ((k + 1 : Nat) : Int) := by omega
    rw [e2, ih, txl_succ, List.append_assoc]
    rfl
def tlx (cell : Int) (n : Nat) : List Nat := txl cell (1 + cell % 7) 0 n
theorem tlx_len (cell : Int) (n : Nat) : (tlx cell n).length = n := txl_len _ _ _ _
theorem tlx_sig (cell : Int) (n : Nat) : Sig (tlx cell n) := txl_sig _ _ _ _
end Law

/-! lists of whole numbers, texts told -/
namespace Law
open PySem PySem.Spec L2 Sim
def nD (l : List Nat) : List D := l.map fun i => D.int (i : Nat)
theorem nD_len (l : List Nat) : (nD l).length = l.length := by unfold nD; simp
theorem nD_ints (l : List Nat) : nD l = (l.map fun i => ((i : Nat) : Int)).map D.int := by unfold nD; rw [List.map_map]; rfl
def tn (l : List Nat) : List Int := (l.length : Int) :: l.map fun i => ((i : Nat) : Int)
theorem tn_len (l : List Nat) : (tn l).length = l.length + 1 := by unfold tn; simp
theorem index_sg {i : Nat} (h : i < 94) (S : Store) : fIndexS (.str sg) (.str ⟨#[sgc i]⟩) S = some (.ok (.int (i : Nat)), S) := by
  unfold fIndexS
  simp only [sgc_occ i h]
theorem told_core {l : List Nat} (h : Sig l) (hl : l.length ≤ 1000) (S : Store) {o : ME} (ho : ∀ l S, o l S = some (.ok (.str sg), S)) :
    sRet (e2 fAdd (eLst (aCons (eA (a1 fLen) (aCons (eVar 0) aNil)) aNil)) (eComp [1] (iS (eVar 0)) (.one 1) tYes' (eIndex o (aCons (eVar 1) aNil)))) [some (.str (tx l)), none] S = some (.rt (.fl ((tn l).map D.int)), S) := by
  have g0 : ∀ S, fLen (.str (tx l)) S = some (.ok (.int l.length), S) := fun S => by rw [fLen_str (by rw [tx_len]; omega), tx_len]
  have g1 : eComp [1] (iS (eVar 0)) (.one 1) tYes' (eIndex o (aCons (eVar 1) aNil)) [some (.str (tx l)), none] S = some (.ok (.fl (nD l)), S) := by
    have lp := compL_map (tg := .one 1) (e := eIndex o (aCons (eVar 1) aNil)) (l := [some (.str (tx l)), none]) (S := S) (fun i => D.str ⟨#[sgc i]⟩) (fun i => D.int (i : Nat)) l [] (fun i hi => by
      refine ⟨_, rfl, ?_⟩
      have g2 := fun S => index_sg (h i hi) S
      walk_at "ev*") (by simp; omega)
    rw [← signs_tx] at lp
    rw [eComp_str (z := tx l) (S1 := S) rfl]
    exact lp
  have g3 : ∀ S, fAdd (.fl [.int (l.length : Nat)]) (.fl (nD l)) S = some (.ok (.fl ((tn l).map D.int)), S) := fun S => by
    rw [fAdd_fl (by rw [nD_len]; show 1 + l.length ≤ _; omega)]
    unfold tn
    rw [List.map_cons, ← nD_ints]
    rfl
  have g4 : eLst (aCons (eA (a1 fLen) (aCons (eVar 0) aNil)) aNil) [some (.str (tx l)), none] S = some (.ok (.fl [.int (l.length : Nat)]), S) := by
    clear g1 g3
    walk_at "ev*"
  simp only [sRet, e2, g1, g4, g3, bnd, bndS]
theorem numbers_eq {l : List Nat} (h : Sig l) (hl : l.length ≤ 1000) (S : Store) : m_text_numbers [.str (tx l)] S = some (.ok (.fl ((tn l).map D.int)), S) := by
  unfold m_text_numbers b_text_numbers
  refine fn_rt rfl ?_
  have e0 : c_SIGNS = sg := SIGNS_eq
  rw [e0]
  exact told_core h hl S (fun _ _ => rfl)
/-! ### whole numbers, lists of them -/
theorem whole_int (i : Int) (S : Store) : m__law_whole [.int i] S = some (.ok (.bl true), S) := by rfl
theorem whole_loop {x y : Option D} : ∀ (ns : List Int) (o : Option D) (S : Store), ∃ o', forL (.one 2) (sIf (tNot (tOf (eA m__law_whole (aCons (eVar 2) aNil)))) (sRet (eC (.bl false))) sNext) (ns.map D.int) [x, y, o] S = some (.nx [x, y, o'], S)
  | [], o, S => ⟨o, rfl⟩
  | n :: ns, o, S => by
    obtain ⟨o', ih⟩ := whole_loop ns (some (.int n)) S
    refine ⟨o', ?_⟩
    rw [List.map_cons, forL]
    have g := fun S => whole_int n S
    have e : sIf (tNot (tOf (eA m__law_whole (aCons (eVar 2) aNil)))) (sRet (eC (.bl false))) sNext [x, y, some (.int n)] S = some (.nx [x, y, some (.int n)], S) := by
      clear ih
      walk_at "ev*"
    simp only [tgSet, List.set_cons_succ, List.set_cons_zero, e]
    exact ih
theorem list_eq (a b : List Int) (S : Store) : m__law_list [.fl (a.map D.int), .fl (b.map D.int)] S = some (.ok (.bl (decide (a = b))), S) := by
  unfold m__law_list b__law_list
  refine fn_rt rfl ?_
  have g0 : ∀ S, fIsi "list" (.fl (a.map D.int)) S = some (.ok (.bl true), S) := fun _ => rfl
  have g1 : ∀ S, fLen (.fl (a.map D.int)) S = some (.ok (.int a.length), S) := fun _ => by rw [fLen_fl, List.length_map]
  have g2 : ∀ S, fLen (.fl (b.map D.int)) S = some (.ok (.int b.length), S) := fun _ => by rw [fLen_fl, List.length_map]
  by_cases c : a.length = b.length
  · obtain ⟨o', lp⟩ := whole_loop (x := some (.fl (a.map D.int))) (y := some (.fl (b.map D.int))) a none S
    have g3 : ∀ S, fEq (.fl (a.map D.int)) (.fl (b.map D.int)) S = some (.ok (.bl (decide (a = b))), S) := fun S => by unfold fEq; rw [eqD_ints]
    have c' : (a.length : Int) = b.length := by omega
    refine Eq.trans (seq_nx (S' := S) (l' := [some (.fl (a.map D.int)), some (.fl (b.map D.int)), none]) (by clear lp; walk_at "ev*")) ?_
    refine Eq.trans (seq_nx (S' := S) (l' := [some (.fl (a.map D.int)), some (.fl (b.map D.int)), o']) ?_) ?_
    · rw [sFor_fl (ds := a.map D.int) (S1 := S) rfl]
      exact lp
    · clear lp
      walk_at "ev*"
  · have c' : ¬ (a.length : Int) = b.length := by omega
    have c2 : ¬ a = b := fun e => c (by rw [e])
    refine seq_rt ?_
    walk_at "ev*"
def inD1 (ns : List Int) : D := .fl (ns.map D.int)
theorem fAdd_in {a b : List Int} (h : a.length + b.length ≤ 16777216) (S : Store) : fAdd (inD1 a) (inD1 b) S = some (.ok (inD1 (a ++ b)), S) := by
  unfold inD1
  rw [fAdd_fl (by rw [List.length_map, List.length_map]; exact h), List.map_append]
def lsD (ds : List D) : Cell := ⟨.lst ds, false⟩
theorem app_ls {n : Nat} {S : Store} {ds : List D} {d : D} (h : S[n]? = some (lsD ds)) (hl : ds.length < 16777216) : fAppend (.ref n) d S = some (.ok .non, S.set n (lsD (ds ++ [d]))) := by
  unfold fAppend
  simp only [h, lsD]
  rw [if_pos (show ds.length < lineN from hl)]
theorem isL_ls {n : Nat} {S : Store} {ds : List D} (h : S[n]? = some (lsD ds)) : isL (.ref n) S = true := by
  unfold isL Sim.listOf
  simp only [h, lsD]
  rfl
end Law

/-! a text read off a list of numbers -/
namespace Law
open PySem PySem.Spec L2 Sim
def xBad : Exn := ⟨2, none⟩
def txAt (ns : List Int) (at_ : Int) : Option (List Nat × Int) :=
  if at_ ≥ ns.length then none else
  let n := ns.getD at_.toNat 0
  if n > 20 ∨ at_ + 1 + n > ns.length then none else
  let xs := (ns.drop (at_ + 1).toNat).take n.toNat
  if xs.all (fun x => decide (x < 94)) = true then some (xs.map Int.toNat, at_ + 1 + n) else none
def bA : MS := sSeq (sIf (tOf (e2 fGe (eVar 4) (eA (a1 fLen) (aCons (eC (.str c_SIGNS)) (aNil))))) (sRaiseB 2) (sNext)) (sSet 3 (e2 fAdd (eVar 3) (e2 fIx (eC (.str c_SIGNS)) (eVar 4))))
theorem at_loop {x y z : Option D} : ∀ (xs : List Int) (acc : List Nat) (o : Option D) (S : Store), (∀ n ∈ xs, 0 ≤ n) → acc.length + xs.length ≤ 1000 →
    (xs.all (fun x => decide (x < 94)) = true ∧ ∃ o', forL (.one 4) bA (xs.map D.int) [x, y, z, some (.str (tx acc)), o] S = some (.nx [x, y, z, some (.str (tx (acc ++ xs.map Int.toNat))), o'], S)) ∨
    (xs.all (fun x => decide (x < 94)) = false ∧ ∃ l', forL (.one 4) bA (xs.map D.int) [x, y, z, some (.str (tx acc)), o] S = some (.ex xBad l', S))
  | [], acc, o, S, _, _ => .inl ⟨rfl, o, by simp only [List.map_nil, List.append_nil]; rfl⟩
  | n :: xs, acc, o, S, h, hl => by
    have hn := h n List.mem_cons_self
    rw [List.length_cons] at hl
    have e0 : c_SIGNS = sg := SIGNS_eq
    have gl : ∀ S, fLen (.str sg) S = some (.ok (.int 94), S) := fun S => by rw [fLen_str (by rw [sg_len]; decide), sg_len]; rfl
    by_cases c : n < 94
    · have g3 : ∀ S, fIx (.str sg) (.int n) S = some (.ok (.str ⟨#[sgc n.toNat]⟩), S) := fun S => fIx_sg hn c S
      have g4 : ∀ S, fAdd (.str (tx acc)) (.str ⟨#[sgc n.toNat]⟩) S = some (.ok (.str (tx (acc ++ [n.toNat]))), S) := fun S => by
        rw [fAdd_str (by rw [tx_len]; show acc.length + 1 ≤ _; omega), tx_one]
      have c' : ¬ (94 : Int) ≤ n := by omega
      have e1 : bA [x, y, z, some (.str (tx acc)), some (.int n)] S = some (.nx [x, y, z, some (.str (tx (acc ++ [n.toNat]))), some (.int n)], S) := by
        unfold bA
        walk_at "ev*"
      have ih := at_loop (x := x) (y := y) (z := z) xs (acc ++ [n.toNat]) (some (.int n)) S (fun m hm => h m (List.mem_cons_of_mem _ hm)) (by rw [List.length_append]; simp; omega)
      have e2 : (n :: xs).all (fun x => decide (x < 94)) = xs.all (fun x => decide (x < 94)) := by rw [List.all_cons]; simp [c]
      rw [e2, List.map_cons, forL]
      simp only [tgSet, List.set_cons_succ, List.set_cons_zero, e1]
      rw [List.append_assoc] at ih
      exact ih
    · refine .inr ⟨by rw [List.all_cons]; simp [c], ?_⟩
      have c' : (94 : Int) ≤ n := by omega
      have e1 : bA [x, y, z, some (.str (tx acc)), some (.int n)] S = some (.ex xBad [x, y, z, some (.str (tx acc)), some (.int n)], S) := by
        unfold bA
        walk_at "ev*"
        rfl
      rw [List.map_cons, forL]
      simp only [tgSet, List.set_cons_succ, List.set_cons_zero, e1]
      exact ⟨_, rfl⟩
theorem getD_mem {ns : List Int} {i : Nat} (h : i < ns.length) : ns[i]? = some (ns.getD i 0) := by
  rw [List.getD_eq_getElem?_getD, List.getElem?_eq_getElem h]; rfl
theorem textAt_eq {ns : List Int} {at_ : Int} (h0 : 0 ≤ at_) (hn : ∀ n ∈ ns, 0 ≤ n) (S : Store) :
    m_text_at [.fl (ns.map D.int), .int at_] S = match txAt ns at_ with
      | some (l, b) => some (.ok (.tup [.str (tx l), .int b]), S)
      | none => some (.error xBad, S) := by
  have gl : ∀ S, fLen (.fl (ns.map D.int)) S = some (.ok (.int ns.length), S) := fun _ => by rw [fLen_fl, List.length_map]
  unfold m_text_at b_text_at txAt
  by_cases c1 : at_ ≥ ns.length
  · rw [if_pos c1]
    have c1' : (ns.length : Int) ≤ at_ := c1
    refine fn_ex (x := xBad) rfl (seq_ex (l' := [some (.fl (ns.map D.int)), some (.int at_), none, none, none]) ?_)
    walk_at "ev*"
    rfl
  · rw [if_neg c1]
    have c1' : ¬ (ns.length : Int) ≤ at_ := c1
    have hi := getD_mem (ns := ns) (i := at_.toNat) (by omega)
    have gx : ∀ S, fIx (.fl (ns.map D.int)) (.int at_) S = some (.ok (.int (ns.getD at_.toNat 0)), S) := fun S => fIx_fl h0 (by rw [List.getElem?_map, hi]; rfl) S
    have hm := hn _ (List.mem_of_getElem? hi)
    generalize ns.getD at_.toNat 0 = n at *
    by_cases c2 : n > 20 ∨ at_ + 1 + n > ns.length
    · simp only
      rw [if_pos c2]
      refine fn_ex (x := xBad) rfl (seq_ex (l' := [some (.fl (ns.map D.int)), some (.int at_), none, none, none]) ?_)
      by_cases c3 : 20 < n
      · walk_at "ev*"
        rfl
      · have c4 : (ns.length : Int) < at_ + 1 + n := by omega
        walk_at "ev*"
        rfl
    · simp only
      rw [if_neg c2]
      have c3 : ¬ 20 < n := by omega
      have c4 : ¬ (ns.length : Int) < at_ + 1 + n := by omega
      have st2 : ∀ (rest : MS), sSeq (sSet 2 (e2 fAdd (e2 fAdd (eVar 1) (eC (.int 1))) (e2 fIx (eVar 0) (eVar 1)))) (sSeq (sSet 3 (eC (.str ""))) rest) [some (.fl (ns.map D.int)), some (.int at_), none, none, none] S = rest [some (.fl (ns.map D.int)), some (.int at_), some (.int (at_ + 1 + n)), some (.str ""), none] S := fun rest => by
        refine Eq.trans (seq_nx (by walk_at "ev*"; rfl)) ?_
        exact seq_nx (by walk_at "ev*")
      have st1 : ∀ (rest : MS), sSeq (sIf (tOr (tOf (e2 fGe (eVar 1) (eA (a1 fLen) (aCons (eVar 0) (aNil))))) (tOr (tOf (e2 fGt (e2 fIx (eVar 0) (eVar 1)) (eC (.int 20)))) (tOf (e2 fGt (e2 fAdd (e2 fAdd (eVar 1) (eC (.int 1))) (e2 fIx (eVar 0) (eVar 1))) (eA (a1 fLen) (aCons (eVar 0) (aNil))))))) (sRaiseB 2) (sNext)) rest ([D.fl (ns.map D.int), .int at_].map some ++ List.replicate (5 - 2) none) S = rest [some (.fl (ns.map D.int)), some (.int at_), none, none, none] S := fun rest => seq_nx (by clear st2; walk_at "ev*")
      have eS : ∀ S, fSl (.fl (ns.map D.int)) (some (at_ + 1)) (some (at_ + 1 + n)) S = some (.ok (.fl (((ns.drop (at_ + 1).toNat).take n.toNat).map D.int)), S) := fun S => by
        show some (Except.ok (D.fl (cutD (ns.map D.int) (some (at_ + 1)) (some (at_ + 1 + n)))), S) = _
        rw [cut_mid (by omega) (by omega) (by rw [List.length_map]; omega), show (at_ + 1 + n).toNat - (at_ + 1).toNat = n.toNat by omega, List.map_take, List.map_drop]
      have hp : ∀ m ∈ (ns.drop (at_ + 1).toNat).take n.toNat, 0 ≤ m := fun m h => hn m (List.mem_of_mem_drop (List.mem_of_mem_take h))
      have hlen : ((ns.drop (at_ + 1).toNat).take n.toNat).length ≤ 20 := by rw [List.length_take]; omega
      generalize (ns.drop (at_ + 1).toNat).take n.toNat = xs at *
      have lp := at_loop (x := some (.fl (ns.map D.int))) (y := some (.int at_)) (z := some (.int (at_ + 1 + n))) xs [] none S hp (by simp; omega)
      rw [← tx_nil] at lp
      have fo : sFor (iL (eSl (eVar 0) (oSo (e2 fAdd (eVar 1) (eC (.int 1)))) (oSo (eVar 2)))) (.one 4) bA [some (.fl (ns.map D.int)), some (.int at_), some (.int (at_ + 1 + n)), some (.str ""), none] S =
          forL (.one 4) bA (xs.map D.int) [some (.fl (ns.map D.int)), some (.int at_), some (.int (at_ + 1 + n)), some (.str ""), none] S := sFor_fl (by
        clear lp st1 st2
        walk_at "ev*")
      rcases lp with ⟨ha, o', lp⟩ | ⟨ha, l', lp⟩
      · rw [if_pos ha]
        refine fn_rt rfl ?_
        rw [st1, st2]
        refine Eq.trans (seq_nx (fo.trans lp)) ?_
        clear lp fo st1 st2
        walk_at "ev*"
      · rw [if_neg (by rw [ha]; decide)]
        refine fn_ex (l := l') rfl ?_
        rw [st1, st2]
        exact seq_ex (fo.trans lp)
theorem fIx_in {ns : List Int} {i : Int} (h0 : 0 ≤ i) (h1 : i < ns.length) (S : Store) : fIx (inD1 ns) (.int i) S = some (.ok (.int (ns.getD i.toNat 0)), S) :=
  fIx_fl h0 (by rw [List.getElem?_map, getD_mem (by omega)]; rfl) S
theorem fLen_in (ns : List Int) (S : Store) : fLen (inD1 ns) S = some (.ok (.int ns.length), S) := by unfold inD1; rw [fLen_fl, List.length_map]
end Law

/-! pairs, the shelf -/
namespace Law
open PySem PySem.Spec L2 Sim
abbrev Pr := List Nat × List Nat
def pD (p : Pr) : D := .tup [.str (tx p.1), .str (tx p.2)]
def psD (ps : List Pr) : D := .fl (ps.map pD)
def POk (p : Pr) : Prop := Sig p.1 ∧ Sig p.2 ∧ p.1.length ≤ 100 ∧ p.2.length ≤ 100
def PsOk (ps : List Pr) : Prop := ∀ p ∈ ps, POk p
def pP (p : Pr) : PyData := .tuple [.str (tx p.1), .str (tx p.2)]
theorem toPs_prs : ∀ ps : List Pr, toPs (ps.map pD) = some (ps.map pP)
  | [] => rfl
  | p :: ps => by rw [List.map_cons]; unfold toPs; rw [toPs_prs ps]; rfl
theorem depDs_prs : ∀ ps : List Pr, depDs (ps.map pD) ≤ 2
  | [] => by decide
  | p :: ps => by
    rw [List.map_cons]; unfold depDs
    have := depDs_prs ps
    have h : depD (pD p) = 2 := rfl
    omega
theorem lay_prs : ∀ ps : List Pr, PsOk ps → PyData.canLayAll0 (ps.map pP) = true
  | [], _ => rfl
  | p :: ps, h => by
    rw [List.map_cons]; unfold PyData.canLayAll0
    rw [lay_prs ps (fun q hq => h q (List.mem_cons_of_mem _ hq))]
    have := h p List.mem_cons_self
    simp [pP, PyData.canLay0, PyData.canLayAll0, tx_ok this.1, tx_ok this.2.1]
theorem dep_prs : ∀ ps : List Pr, PyData.depthAll (ps.map pP) ≤ 1
  | [] => by simp [PyData.depthAll]
  | p :: ps => by
    have := dep_prs ps
    rw [List.map_cons]
    unfold PyData.depthAll
    have h : PyData.depth (pP p) = 1 := by simp [pP, PyData.depth, PyData.depthAll]
    omega
theorem shaped_prs {ps : List Pr} (h : PsOk ps) : SeqAt.shaped (.list (ps.map pP)) = true := by
  unfold SeqAt.shaped
  rw [Bool.and_eq_true]
  refine ⟨?_, ?_⟩
  · unfold PyData.canLay0; exact lay_prs ps h
  · unfold PyData.depth; have := dep_prs ps; exact decide_eq_true (by omega)
theorem eqv_pr {p q : Pr} (hp : POk p) (hq : POk q) : PyData.eqv (pP p) (pP q) = decide (p = q) := by
  show ((tx p.1 == tx q.1) && ((tx p.2 == tx q.2) && true)) = _
  have e1 : (tx p.1 == tx q.1) = decide (p.1 = q.1) := by
    by_cases c : p.1 = q.1
    · rw [c]; simp
    · have : ¬ tx p.1 = tx q.1 := fun h => c (tx_inj hp.1 hq.1 h)
      simp [this, c]
  have e2 : (tx p.2 == tx q.2) = decide (p.2 = q.2) := by
    by_cases c : p.2 = q.2
    · rw [c]; simp
    · have : ¬ tx p.2 = tx q.2 := fun h => c (tx_inj hp.2.1 hq.2.1 h)
      simp [this, c]
  rw [e1, e2, Bool.and_true]
  obtain ⟨a, b⟩ := p; obtain ⟨a', b'⟩ := q
  simp
theorem eqv_prs : ∀ (a b : List Pr), PsOk a → PsOk b → PyData.eqvAll (a.map pP) (b.map pP) = decide (a = b)
  | [], [], _, _ => rfl
  | [], _ :: _, _, _ => rfl
  | _ :: _, [], _, _ => rfl
  | x :: xs, y :: ys, ha, hb => by
    rw [List.map_cons, List.map_cons]
    unfold PyData.eqvAll
    rw [eqv_prs xs ys (fun q hq => ha q (List.mem_cons_of_mem _ hq)) (fun q hq => hb q (List.mem_cons_of_mem _ hq)), eqv_pr (ha x List.mem_cons_self) (hb y List.mem_cons_self)]
    by_cases c : x = y
    · subst c; simp
    · simp [c]
theorem eqD_prs {a b : List Pr} (ha : PsOk a) (hb : PsOk b) (S : Store) : eqD (psD a) (psD b) S = some (decide (a = b)) := by
  have da := depDs_prs a
  have db := depDs_prs b
  rw [eqD_of (x := .list (a.map pP)) (y := .list (b.map pP)) (by unfold psD toP; rw [toPs_prs]; rfl) (by unfold psD toP; rw [toPs_prs]; rfl) (by unfold psD depD; omega) (by unfold psD depD; omega) (shaped_prs ha) (shaped_prs hb)]
  show some (PyData.eqvAll _ _) = _
  rw [eqv_prs a b ha hb]
theorem shaped_pr {p : Pr} (h : POk p) : SeqAt.shaped (pP p) = true := by
  unfold SeqAt.shaped
  simp [pP, PyData.canLay0, PyData.canLayAll0, PyData.depth, PyData.depthAll, tx_ok h.1, tx_ok h.2.1]
theorem eqD_pr {p q : Pr} (hp : POk p) (hq : POk q) (S : Store) : eqD (pD p) (pD q) S = some (decide (p = q)) := by
  rw [eqD_of (a := pD p) (b := pD q) (x := pP p) (y := pP q) rfl rfl (show 2 ≤ 8 by decide) (show 2 ≤ 8 by decide) (shaped_pr hp) (shaped_pr hq), eqv_pr hp hq]
theorem fEq_prs {a b : List Pr} (ha : PsOk a) (hb : PsOk b) (S : Store) : fEq (psD a) (psD b) S = some (.ok (.bl (decide (a = b))), S) := by unfold fEq; rw [eqD_prs ha hb]
/-! ### weights -/
def wt (p : Pr) : Nat := p.1.length + p.2.length + 4
def wts : List Pr → Nat
  | [] => 0
  | p :: t => wt p + wts t
def fit (b : Nat) : List Pr → List Pr
  | [] => []
  | p :: t => if b < wt p then [] else p :: fit (b - wt p) t
theorem wts_app : ∀ (a b : List Pr), wts (a ++ b) = wts a + wts b
  | [], b => by simp [wts]
  | p :: a, b => by simp [wts, wts_app a b]; omega
theorem fit_all : ∀ (ps : List Pr) (b : Nat), wts ps ≤ b → fit b ps = ps
  | [], _, _ => rfl
  | p :: t, b, h => by
    unfold wts at h
    unfold fit
    rw [if_neg (by omega), fit_all t _ (by omega)]
theorem fit_wts : ∀ (ps : List Pr) (b : Nat), wts (fit b ps) ≤ b
  | [], b => by simp [fit, wts]
  | p :: t, b => by
    unfold fit
    split
    · simp [wts]
    · unfold wts; have := fit_wts t (b - wt p); omega
theorem fit_drop : ∀ (ps : List Pr) (b : Nat), b < wts ps → fit b ps = fit b ps.dropLast
  | [], b, h => by simp [wts] at h
  | [p], b, h => by
    have h : b < wt p + 0 := h
    show (if b < wt p then [] else p :: fit (b - wt p) []) = []
    rw [if_pos (by omega)]
  | p :: q :: t, b, h => by
    have h : b < wt p + wts (q :: t) := h
    show (if b < wt p then [] else p :: fit (b - wt p) (q :: t)) = (if b < wt p then [] else p :: fit (b - wt p) (q :: t).dropLast)
    split
    · rfl
    · rw [fit_drop (q :: t) _ (by omega)]
theorem fit_mem : ∀ (ps : List Pr) (b : Nat) (p : Pr), p ∈ fit b ps → p ∈ ps
  | [], _, _, h => h
  | q :: t, b, p, h => by
    unfold fit at h
    split at h
    · cases h
    · rcases List.mem_cons.mp h with e | e
      · subst e; exact List.mem_cons_self
      · exact List.mem_cons_of_mem _ (fit_mem t _ p e)
theorem fit_ok {ps : List Pr} {b : Nat} (h : PsOk ps) : PsOk (fit b ps) := fun p hp => h p (fit_mem ps b p hp)
theorem wts_len : ∀ (ps : List Pr), 4 * ps.length ≤ wts ps
  | [] => by simp [wts]
  | p :: t => by have := wts_len t; unfold wts wt; rw [List.length_cons]; omega
theorem fit_len (ps : List Pr) : (fit 96 ps).length ≤ 24 := by
  have := wts_len (fit 96 ps); have := fit_wts ps 96; omega
theorem ps_cons {p : Pr} {ps : List Pr} (hp : POk p) (h : PsOk ps) : PsOk (p :: ps) := fun q hq => by
  rcases List.mem_cons.mp hq with e | e
  · subst e; exact hp
  · exact h q e
theorem weight_eq {p : Pr} (h : POk p) (S : Store) : m_weight_of [pD p] S = some (.ok (.int (wt p : Nat)), S) := by
  unfold m_weight_of b_weight_of pD
  have g0 : ∀ S, fIx (.tup [.str (tx p.1), .str (tx p.2)]) (.int 0) S = some (.ok (.str (tx p.1)), S) := fun S => fIx_tup (by decide) rfl S
  have g1 : ∀ S, fIx (.tup [.str (tx p.1), .str (tx p.2)]) (.int 1) S = some (.ok (.str (tx p.2)), S) := fun S => fIx_tup (by decide) rfl S
  have g2 : ∀ S, fLen (.str (tx p.1)) S = some (.ok (.int p.1.length), S) := fun S => by rw [fLen_str (by rw [tx_len]; have := h.2.2.1; omega), tx_len]
  have g3 : ∀ S, fLen (.str (tx p.2)) S = some (.ok (.int p.2.length), S) := fun S => by rw [fLen_str (by rw [tx_len]; have := h.2.2.2; omega), tx_len]
  have e : ((p.1.length : Int) + p.2.length + 4) = ((wt p : Nat) : Int) := by unfold wt; omega
  refine fn_rt rfl ?_
  walk_at "ev*"
theorem ints_wts : ∀ ps : List Pr, ∃ ns, intsOf (ps.map fun p => D.int (wt p : Nat)) = some ns ∧ ns.sum = (wts ps : Nat)
  | [] => ⟨[], rfl, rfl⟩
  | p :: t => by
    obtain ⟨ns, h1, h2⟩ := ints_wts t
    refine ⟨(wt p : Nat) :: ns, ?_, ?_⟩
    · rw [List.map_cons]; unfold intsOf; rw [h1]; rfl
    · rw [List.sum_cons, h2]; show _ = ((wt p + wts t : Nat) : Int); omega
def shD (ps : List Pr) : Cell := ⟨.ins 5 [("pairs", psD ps)], false⟩
theorem fld_sh {n : Nat} {S : Store} {ps : List Pr} (h : S[n]? = some (shD ps)) : fFld 5 "pairs" (.ref n) S = some (.ok (psD ps), S) := by
  unfold fFld insOf
  simp only [h, shD]
  rfl
theorem put_sh {n : Nat} {S : Store} {ps qs : List Pr} (h : S[n]? = some (shD ps)) : putFldD 5 "pairs" (.ref n) (psD qs) S = some (S.set n (shD qs)) := by
  unfold putFldD
  simp only [h, shD]
  rfl
def bW : MS := sFld 5 (eVar 0) "pairs" (eSl (e1 (fFld 5 "pairs") (eVar 0)) oNo (oSo (e1 fNeg (eC (.int 1)))))
def tW : MT := tOf (e2 fGt (eA (a1 fSum) (aCons (eComp [2] (iL (e1 (fFld 5 "pairs") (eVar 0))) (.one 2) (tYes') (eA m_weight_of (aCons (eVar 2) (aNil)))) (aNil))) (eC (.int 96)))
theorem tW_eq {n : Nat} {ps : List Pr} {q o : Option D} {S : Store} (hS : S[n]? = some (shD ps)) (ho : PsOk ps) (hl : ps.length ≤ 1000) :
    tW [some (.ref n), q, o] S = some (.ok (decide ((96 : Int) < wts ps)), S) := by
  have c : eComp [2] (iL (e1 (fFld 5 "pairs") (eVar 0))) (.one 2) (tYes') (eA m_weight_of (aCons (eVar 2) (aNil))) [some (.ref n), q, o] S = some (.ok (.fl (ps.map fun p => D.int (wt p : Nat))), S) := by
    have h1 : e1 (fFld 5 "pairs") (eVar 0) [some (.ref n), q, o] S = some (.ok (.fl (ps.map pD)), S) := by
      have := fld_sh hS
      unfold psD at this
      walk_at "ev*"
    rw [eComp_fl h1]
    refine (compL_map pD (fun p => D.int (wt p : Nat)) ps [] (fun p hp => ⟨_, rfl, ?_⟩) (by simp; omega))
    have g := fun S => weight_eq (ho p hp) S
    walk_at "ev*"
  obtain ⟨ns, h1, h2⟩ := ints_wts ps
  have g : ∀ S, fSum (.fl (ps.map fun p => D.int (wt p : Nat))) S = some (.ok (.int (wts ps : Nat)), S) := fun S => by
    unfold fSum; rw [listOf_fl]; simp only [h1, h2]
  unfold tW
  simp only [tOf, e2, eA, aCons, aNil, bnd, c, a1, g, eC, fGt, fCmp_i, blOf]
theorem cut_last (ps : List Pr) (h : ps ≠ []) : cutD (ps.map pD) none (some (-1)) = ps.dropLast.map pD := by
  have hl : 0 < ps.length := List.length_pos_iff.mpr h
  unfold cutD
  have e : HT.sIx (ps.map pD).length (ps.map pD).length (some (-1)) = ps.length - 1 := by
    unfold HT.sIx
    rw [List.length_map]
    simp only
    rw [if_pos (by decide)]
    omega
  have e0 : HT.sIx (ps.map pD).length 0 none = 0 := rfl
  rw [e, e0, List.dropLast_eq_take, List.map_take]
  rfl
theorem while_put {n : Nat} {q o : Option D} : ∀ (k : Nat) (ps : List Pr) (S : Store), ps.length < k → ps.length ≤ 1000 → PsOk ps → S[n]? = some (shD ps) →
    whileF tW bW k [some (.ref n), q, o] S = some (.nx [some (.ref n), q, o], S.set n (shD (fit 96 ps)))
  | 0, ps, S, h, _, _, _ => by omega
  | k + 1, ps, S, h, hl, ho, hS => by
    unfold whileF
    rw [tW_eq hS ho hl]
    simp only [bndS]
    by_cases c : 96 < wts ps
    · rw [decide_eq_true (by omega : (96 : Int) < wts ps), if_pos rfl]
      have hne : ps ≠ [] := fun e => by subst e; simp [wts] at c
      have b : bW [some (.ref n), q, o] S = some (.nx [some (.ref n), q, o], S.set n (shD ps.dropLast)) := by
        have g0 := fld_sh hS
        have g1 := put_sh (qs := ps.dropLast) hS
        have g2 : ∀ S, fSl (psD ps) none (some (-1)) S = some (.ok (psD ps.dropLast), S) := fun S => by
          show some (Except.ok (D.fl (cutD (ps.map pD) none (some (-1)))), S) = _
          rw [cut_last ps hne]
          rfl
        have g3 : ∀ S, fNeg (.int 1) S = some (.ok (.int (-1)), S) := fun _ => rfl
        clear ho
        unfold bW
        walk_at "ev*"
      have hn : n < S.length := (List.getElem?_eq_some_iff.mp hS).1
      have hd : ps.dropLast.length = ps.length - 1 := List.length_dropLast
      have hp : 0 < ps.length := List.length_pos_iff.mpr hne
      rw [b]
      simp only
      rw [while_put k ps.dropLast _ (by omega) (by omega) (fun p hp => ho p (List.dropLast_subset ps hp)) (List.getElem?_set_self hn), List.set_set, ← fit_drop ps 96 c]
    · rw [decide_eq_false (by omega : ¬ (96 : Int) < wts ps), if_neg (by decide), fit_all ps 96 (by omega), set_same hS]
theorem shelf_put_eq {n : Nat} {ps : List Pr} {p : Pr} {S : Store} (hS : S[n]? = some (shD ps)) (hp : POk p) (ho : PsOk ps) (hl : ps.length ≤ 24) :
    m_Shelf_put [.ref n, pD p] S = some (.ok .non, S.set n (shD (fit 96 (p :: ps)))) := by
  unfold m_Shelf_put b_Shelf_put
  have hn : n < S.length := (List.getElem?_eq_some_iff.mp hS).1
  refine fn_nx rfl (l := [some (.ref n), some (pD p), none]) ?_
  refine Eq.trans (seq_nx (S' := S.set n (shD (p :: ps))) (l' := [some (.ref n), some (pD p), none]) ?_) ?_
  · have g0 := fld_sh hS
    have g1 := put_sh (qs := p :: ps) hS
    have g2 : ∀ S, fAdd (.fl [pD p]) (psD ps) S = some (.ok (psD (p :: ps)), S) := fun S => fAdd_fl (by rw [List.length_map]; simp; omega) S
    clear hp ho
    walk_at "ev*"
  · have := while_put (n := n) (q := some (pD p)) (o := none) fuelN (p :: ps) (S.set n (shD (p :: ps))) (by rw [List.length_cons]; show _ < 1000000; omega) (by rw [List.length_cons]; omega) (ps_cons hp ho) (List.getElem?_set_self hn)
    rw [List.set_set] at this
    exact this
theorem shelf_make (S : Store) : fMake 5 (fun ds => noErr (m_Shelf_init ds)) [] S = some (.ok (.ref S.length), S ++ [shD []]) := by
  have h : m_Shelf_init [.ref S.length] (S ++ [⟨.ins 5 [], false⟩]) = some (.ok .non, S ++ [shD []]) := by
    unfold m_Shelf_init b_Shelf_init
    refine fn_nx rfl (l := [some (.ref S.length)]) ?_
    have g : putFldD 5 "pairs" (.ref S.length) (.fl []) (S ++ [⟨.ins 5 [], false⟩]) = some (S ++ [shD []]) := by
      unfold putFldD
      simp only [List.getElem?_append_right (Nat.le_refl _), Nat.sub_self, List.getElem?_cons_zero]
      show some ((S ++ [_]).set S.length _) = _
      rw [List.set_append_right _ _ (Nat.le_refl _), Nat.sub_self]
      rfl
    walk_at "ev*"
  unfold fMake
  simp only [noErr_ok h]
end Law

/-! the law's pairs and its pool -/
namespace Law
open PySem PySem.Spec L2 Sim
theorem fIx_p0 (p : Pr) (S : Store) : fIx (pD p) (.int 0) S = some (.ok (.str (tx p.1)), S) := fIx_tup (by decide) rfl S
theorem fIx_p1 (p : Pr) (S : Store) : fIx (pD p) (.int 1) S = some (.ok (.str (tx p.2)), S) := fIx_tup (by decide) rfl S
theorem fLen_tx {l : List Nat} (h : l.length ≤ 1000) (S : Store) : fLen (.str (tx l)) S = some (.ok (.int l.length), S) := by rw [fLen_str (by rw [tx_len]; omega), tx_len]
theorem fLen_ps (ps : List Pr) (S : Store) : fLen (psD ps) S = some (.ok (.int ps.length), S) := by unfold psD; rw [fLen_fl, List.length_map]
theorem fLen_p (p : Pr) (S : Store) : fLen (pD p) S = some (.ok (.int 2), S) := rfl
def bP : MS := sIf (tOr (tNot (tOf (e1 (fIsi "tuple") (eVar 2)))) (tOr (tOf (e2 fNe (eA (a1 fLen) (aCons (eVar 2) (aNil))) (eC (.int 2)))) (tOr (tNot (tOf (e1 (fIsi "str") (e2 fIx (eVar 2) (eC (.int 0)))))) (tNot (tOf (e1 (fIsi "str") (e2 fIx (eVar 2) (eC (.int 1))))))))) (sRet (eC (.bl false))) (sNext)
theorem pairs_loop {x y : Option D} : ∀ (ps : List Pr) (o : Option D) (S : Store), ∃ o', forL (.one 2) bP (ps.map pD) [x, y, o] S = some (.nx [x, y, o'], S)
  | [], o, S => ⟨o, rfl⟩
  | p :: ps, o, S => by
    obtain ⟨o', ih⟩ := pairs_loop ps (some (pD p)) S
    refine ⟨o', ?_⟩
    rw [List.map_cons, forL]
    have g1 : ∀ S, fIsi "tuple" (pD p) S = some (.ok (.bl true), S) := fun _ => rfl
    have g2 : ∀ s S, fIsi "str" (.str s) S = some (.ok (.bl true), S) := fun _ _ => rfl
    have e : bP [x, y, some (pD p)] S = some (.nx [x, y, some (pD p)], S) := by
      have h0 := fIx_p0 p
      have h1 := fIx_p1 p
      have h2 := fLen_p p
      clear ih
      unfold bP
      walk_at "ev*"
    simp only [tgSet, List.set_cons_succ, List.set_cons_zero, e]
    exact ih
theorem isList_ps (ps : List Pr) (S : Store) : fIsi "list" (psD ps) S = some (.ok (.bl true), S) := rfl
end Law

/-! the pool -/
namespace Law
open PySem PySem.Spec L2 Sim
def txsD (ls : List (List Nat)) : List D := ls.map fun l => .str (tx l)
def TOk (n : Nat) (l : List Nat) : Prop := Sig l ∧ l.length ≤ n
theorem set2 {S : Store} {r m : Nat} (h : r ≠ m) (a b c d : Cell) : (((S.set r a).set m b).set r c).set m d = (S.set r c).set m d := by
  rw [List.set_comm (l := S.set r a) (a := b) (b := c) (Ne.symm h), List.set_set, List.set_set]
structure PoolOk (ns vs : List (List Nat)) : Prop where
  n4 : ns.length = 4
  v5 : vs.length = 5
  nok : ∀ l ∈ ns, TOk 8 l ∧ 1 ≤ l.length
  vok : ∀ l ∈ vs, TOk 20 l
end Law

/-! heads told -/
namespace Law
open PySem PySem.Spec L2 Sim
def posF (f : Pr → Bool) : List Pr → Nat → Int
  | [], _ => -1
  | q :: t, k => if f q = true then (k : Nat) else posF f t (k + 1)
theorem posF_at {f : Pr → Bool} {ps : List Pr} {i k : Nat} {q : Pr} (h : ps[i]? = some q) : posF f (ps.drop i) k = if f q = true then (k : Int) else posF f (ps.drop (i + 1)) (k + 1) := by
  obtain ⟨hi, e⟩ := List.getElem?_eq_some_iff.mp h
  rw [List.drop_eq_getElem_cons hi, e]
  rfl
theorem posF_ge (f : Pr → Bool) : ∀ (ps : List Pr) (k : Nat), posF f ps k = -1 ∨ ((k : Int) ≤ posF f ps k ∧ posF f ps k < k + ps.length)
  | [], k => .inl rfl
  | q :: t, k => by
    unfold posF
    rw [List.length_cons]
    split
    · right; omega
    · rcases posF_ge f t (k + 1) with h | h
      · exact .inl h
      · right; omega
theorem place_core {n : Nat} {ps : List Pr} {S : Store} {y : D} (f : Pr → Bool) (hS : S[n]? = some (shD ps)) (t : MT)
    (ht : ∀ p ∈ ps, ∀ o, t [some (.ref n), some y, o, some (pD p)] S = some (.ok (f p), S)) :
    fnM 4 2 (sSeq (sFor (iEn (e1 (fFld 5 "pairs") (eVar 0))) (.many [2, 3]) (sIf t (sRet (eVar 2)) (sNext))) (sRet (e1 fNeg (eC (.int 1))))) [.ref n, y] S = some (.ok (.int (posF f ps 0)), S) := by
  have g0 := fld_sh hS
  have h1 : e1 (fFld 5 "pairs") (eVar 0) [some (.ref n), some y, none, none] S = some (.ok (.fl (ps.map pD)), S) := by
    have g1 : fFld 5 "pairs" (.ref n) S = some (.ok (.fl (ps.map pD)), S) := g0
    clear g0
    walk_at "ev*"
  obtain ⟨r, S', e, hS', hq⟩ := sFor_rule (tg := .many [2, 3]) (body := sIf t (sRet (eVar 2)) (sNext)) (ds := enumD (ps.map pD)) (l := [some (.ref n), some y, none, none])
    (fun i l S' => S' = S ∧ (∃ o2 o3, l = [some (.ref n), some y, o2, o3]) ∧ posF f ps 0 = posF f (ps.drop i) i)
    (fun r S' => S' = S ∧ ((∃ l, r = .nx l ∧ posF f ps 0 = -1) ∨ r = .rt (.int (posF f ps 0))))
    (iEn_fl h1) ⟨rfl, ⟨none, none, rfl⟩, rfl⟩ (fun _ _ _ _ => rfl) (by
      rintro i d l S1 ⟨rfl, ⟨o2, o3, rfl⟩, hp⟩ hd
      obtain ⟨x, hx, rfl⟩ := enumD_get hd
      rw [List.getElem?_map] at hx
      cases hq : ps[i]? with
      | none => rw [hq] at hx; cases hx
      | some q =>
        rw [hq] at hx
        cases hx
        have hm := ht q (List.mem_of_getElem? hq) (some (.int (i : Nat)))
        refine ⟨_, rfl, ?_⟩
        rw [posF_at hq] at hp
        by_cases c : f q = true
        · rw [if_pos c] at hp
          rw [c] at hm
          right; right; right; left
          refine ⟨.int (i : Nat), S1, ?_, rfl, .inr (by rw [hp])⟩
          show sIf t (sRet (eVar 2)) sNext [some (.ref n), some y, some (.int (i : Nat)), some (pD q)] S1 = _
          simp only [sIf, hm, bndS]
          rfl
        · rw [if_neg c] at hp
          rw [Bool.not_eq_true] at c
          rw [c] at hm
          left
          refine ⟨[some (.ref n), some y, some (.int (i : Nat)), some (pD q)], S1, ?_, rfl, ⟨_, _, rfl⟩, hp⟩
          show sIf t (sRet (eVar 2)) sNext [some (.ref n), some y, some (.int (i : Nat)), some (pD q)] S1 = _
          simp only [sIf, hm, bndS]
          rfl) (by
      rintro l S1 ⟨rfl, ⟨o2, o3, rfl⟩, hp⟩
      have hl : (enumD (ps.map pD)).length = ps.length := by unfold enumD; simp
      rw [hl, List.drop_eq_nil_of_le (Nat.le_refl _)] at hp
      exact ⟨rfl, .inl ⟨_, rfl, hp⟩⟩)
  subst hS'
  rcases hq with ⟨l, rfl, hp⟩ | rfl
  · refine fn_rt rfl (Eq.trans (seq_nx e) ?_)
    rw [hp]
    rfl
  · exact fn_rt rfl (seq_rt e)
theorem place_of_eq {n : Nat} {ps : List Pr} {p : Pr} {S : Store} (hS : S[n]? = some (shD ps)) (hp : POk p) (ho : PsOk ps) :
    m_Shelf_place_of [.ref n, pD p] S = some (.ok (.int (posF (fun q => decide (q = p)) ps 0)), S) := by
  unfold m_Shelf_place_of b_Shelf_place_of
  refine place_core (y := pD p) (fun q => decide (q = p)) hS _ (fun q hq o => ?_)
  have g : ∀ S, fEq (pD q) (pD p) S = some (.ok (.bl (decide (q = p))), S) := fun S => by unfold fEq; rw [eqD_pr (ho q hq) hp]
  clear hS hp ho hq
  walk_at "ev*"
theorem fEq_tx {a b : List Nat} (ha : Sig a) (hb : Sig b) (S : Store) : fEq (.str (tx a)) (.str (tx b)) S = some (.ok (.bl (decide (a = b))), S) := by
  unfold fEq
  rw [eqD_str S (tx_ok ha) (tx_ok hb)]
  by_cases c : a = b
  · subst c; simp
  · have : ¬ tx a = tx b := fun h => c (tx_inj ha hb h)
    simp [this, c]
theorem place_named_eq {n : Nat} {ps : List Pr} {nm : List Nat} {S : Store} (hS : S[n]? = some (shD ps)) (hp : Sig nm) (ho : PsOk ps) :
    m_Shelf_place_named [.ref n, .str (tx nm)] S = some (.ok (.int (posF (fun q => decide (q.1 = nm)) ps 0)), S) := by
  unfold m_Shelf_place_named b_Shelf_place_named
  refine place_core (y := .str (tx nm)) (fun q => decide (q.1 = nm)) hS _ (fun q hq o => ?_)
  have g := fun S => fEq_tx (ho q hq).1 hp S
  have g0 := fIx_p0 q
  clear hS hp ho hq
  walk_at "ev*"
/-! ### what is told -/
def tell1 (ps : List Pr) (p : Pr) : List Int × List Pr :=
  let a := posF (fun q => decide (q = p)) ps 0
  let b := posF (fun q => decide (q.1 = p.1)) ps 0
  (if 0 ≤ a then [0, a] else if 0 ≤ b then [1, b] ++ tn p.2 else [2] ++ tn p.1 ++ tn p.2, if a < 0 then fit 96 (p :: ps) else ps)
def tellF (s : List Int × List Pr) (p : Pr) : List Int × List Pr := (s.1 ++ (tell1 s.2 p).1, (tell1 s.2 p).2)
def tellH (ps hd : List Pr) : List Int × List Pr := hd.foldl tellF ([], ps)
theorem tell1_ok {ps : List Pr} {p : Pr} (hp : POk p) (ho : PsOk ps) (hl : ps.length ≤ 24) : PsOk (tell1 ps p).2 ∧ (tell1 ps p).2.length ≤ 24 ∧ (tell1 ps p).1.length ≤ 300 := by
  obtain ⟨h1, h2, h3, h4⟩ := hp
  refine ⟨?_, ?_, ?_⟩
  · unfold tell1; simp only; split
    · exact fit_ok (ps_cons ⟨h1, h2, h3, h4⟩ ho)
    · exact ho
  · unfold tell1; simp only; split
    · exact fit_len _
    · exact hl
  · unfold tell1; simp only; split
    · simp
    · split
      · rw [List.length_append, tn_len]; simp; omega
      · rw [List.length_append, List.length_append, tn_len, tn_len]; simp; omega
theorem tellH_snoc (ps hd : List Pr) (p : Pr) : tellH ps (hd ++ [p]) = tellF (tellH ps hd) p := by unfold tellH; rw [List.foldl_append]; rfl
theorem tellH_take {ps hd : List Pr} {i : Nat} {p : Pr} (h : hd[i]? = some p) : tellH ps (hd.take (i + 1)) = tellF (tellH ps (hd.take i)) p := by
  rw [List.take_add_one, h]
  exact tellH_snoc ps _ p
theorem tellH_okG : ∀ (hd : List Pr) (s : List Int × List Pr) (k : Nat), PsOk hd → PsOk s.2 → s.2.length ≤ 24 → s.1.length ≤ 300 * k → PsOk (hd.foldl tellF s).2 ∧ (hd.foldl tellF s).2.length ≤ 24 ∧ (hd.foldl tellF s).1.length ≤ 300 * (k + hd.length)
  | [], s, k, _, h2, h3, h4 => ⟨h2, h3, h4⟩
  | p :: t, s, k, h1, h2, h3, h4 => by
    obtain ⟨q1, q2, q3⟩ := tell1_ok (h1 p List.mem_cons_self) h2 h3
    have := tellH_okG t (tellF s p) (k + 1) (fun q hq => h1 q (List.mem_cons_of_mem _ hq)) q1 q2 (by unfold tellF; simp only [List.length_append]; omega)
    rw [List.length_cons, List.foldl_cons]
    rw [show k + (t.length + 1) = k + 1 + t.length by omega]
    exact this
theorem tellH_ok {ps hd : List Pr} (h1 : PsOk hd) (h2 : PsOk ps) (h3 : ps.length ≤ 24) : PsOk (tellH ps hd).2 ∧ (tellH ps hd).2.length ≤ 24 ∧ (tellH ps hd).1.length ≤ 300 * hd.length := by
  have := tellH_okG hd ([], ps) 0 h1 h2 h3 (by simp)
  rw [Nat.zero_add] at this
  exact this
theorem lookup_sh (m : Str) (d : D) (h : (m == ("pairs" : Str)) = false) : List.lookup m [(("pairs" : Str), d)] = none := by simp only [List.lookup, h]
theorem ins_sh {n : Nat} {ps : List Pr} {S : Store} (hS : S[n]? = some (shD ps)) : insOf (.ref n) S = some ((5 : Nat), [(("pairs" : Str), psD ps)]) := by
  unfold insOf
  simp only [hS, shD]
theorem take_ok {hd : List Pr} (h : PsOk hd) (i : Nat) : PsOk (hd.take i) := fun p hp => h p (List.mem_of_mem_take hp)
def bT1 : MS := sSeq (sSet 4 (eMeth 5 "place_of" m_Shelf_place_of (eVar 0) (aCons (eVar 3) (aNil))))
  (sSeq (sSet 5 (eMeth 5 "place_named" m_Shelf_place_named (eVar 0) (aCons (e2 fIx (eVar 3) (eC (.int 0))) (aNil))))
  (sSeq (sIf (tOf (e2 fGe (eVar 4) (eC (.int 0)))) (sSet 2 (e2 fAdd (eVar 2) (eLst (aCons (eC (.int 0)) (aCons (eVar 4) (aNil)))))) (sIf (tOf (e2 fGe (eVar 5) (eC (.int 0)))) (sSet 2 (e2 fAdd (e2 fAdd (eVar 2) (eLst (aCons (eC (.int 1)) (aCons (eVar 5) (aNil))))) (eA m_text_numbers (aCons (e2 fIx (eVar 3) (eC (.int 1))) (aNil))))) (sSet 2 (e2 fAdd (e2 fAdd (e2 fAdd (eVar 2) (eLst (aCons (eC (.int 2)) (aNil)))) (eA m_text_numbers (aCons (e2 fIx (eVar 3) (eC (.int 0))) (aNil)))) (eA m_text_numbers (aCons (e2 fIx (eVar 3) (eC (.int 1))) (aNil)))))))
  (sIf (tOf (e2 fLt (eVar 4) (eC (.int 0)))) (sDrop (eMeth 5 "put" m_Shelf_put (eVar 0) (aCons (eVar 3) (aNil)))) (sNext))))
theorem bT1_eq {n : Nat} {ps : List Pr} {p : Pr} {S : Store} {acc : List Int} {h : D} (o4 o5 : Option D) (hS : S[n]? = some (shD ps)) (hp : POk p) (ho : PsOk ps) (hl : ps.length ≤ 24) (ha : acc.length ≤ 1000000) :
    ∃ o4' o5', bT1 [some (.ref n), some h, some (inD1 acc), some (pD p), o4, o5] S = some (.nx [some (.ref n), some h, some (inD1 (acc ++ (tell1 ps p).1)), some (pD p), o4', o5'], S.set n (shD (tell1 ps p).2)) := by
  have ga := place_of_eq hS hp ho
  have gb := place_named_eq hS hp.1 ho
  have gi := ins_sh hS
  have l1 := lookup_sh "place_of" (psD ps) (by decide +kernel)
  have l2 := lookup_sh "place_named" (psD ps) (by decide +kernel)
  have l3 := lookup_sh "put" (psD ps) (by decide +kernel)
  have gp := shelf_put_eq hS hp ho hl
  have x0 := fIx_p0 p
  have x1 := fIx_p1 p
  have n1 : ∀ S, m_text_numbers [.str (tx p.1)] S = some (.ok (inD1 (tn p.1)), S) := fun S => numbers_eq hp.1 (by have := hp.2.2.1; omega) S
  have n2 : ∀ S, m_text_numbers [.str (tx p.2)] S = some (.ok (inD1 (tn p.2)), S) := fun S => numbers_eq hp.2.1 (by have := hp.2.2.2; omega) S
  have b1 : (tn p.1).length ≤ 101 := by rw [tn_len]; have := hp.2.2.1; omega
  have b2 : (tn p.2).length ≤ 101 := by rw [tn_len]; have := hp.2.2.2; omega
  unfold bT1 tell1
  generalize posF (fun q => decide (q = p)) ps 0 = a at *
  generalize posF (fun q => decide (q.1 = p.1)) ps 0 = b at *
  refine ⟨some (.int a), some (.int b), ?_⟩
  refine Eq.trans (seq_nx (S' := S) (l' := [some (.ref n), some h, some (inD1 acc), some (pD p), some (.int a), o5]) (by clear hp ho gb gp n1 n2 l2 l3; walk_at "ev*")) ?_
  refine Eq.trans (seq_nx (S' := S) (l' := [some (.ref n), some h, some (inD1 acc), some (pD p), some (.int a), some (.int b)]) (by clear hp ho ga gp n1 n2 l1 l3; walk_at "ev*")) ?_
  simp only
  by_cases c1 : 0 ≤ a
  · have c2 : ¬ a < 0 := by omega
    have f1 : ∀ S, fAdd (inD1 acc) (.fl [.int 0, .int a]) S = some (.ok (inD1 (acc ++ [0, a])), S) := fun S => fAdd_in (b := [0, a]) (by simp; omega) S
    rw [if_pos c1, if_neg c2, set_same hS]
    refine Eq.trans (seq_nx (S' := S) (l' := [some (.ref n), some h, some (inD1 (acc ++ [0, a])), some (pD p), some (.int a), some (.int b)]) (by clear hp ho ga gb gp n1 n2 l1 l2 l3 hS gi; walk_at "ev*")) ?_
    clear hp ho ga gb gp n1 n2 l1 l2 l3 hS gi f1
    walk_at "ev*"
  · have c2 : a < 0 := by omega
    rw [if_neg c1, if_pos c2]
    by_cases c3 : 0 ≤ b
    · have f1 : ∀ S, fAdd (inD1 acc) (.fl [.int 1, .int b]) S = some (.ok (inD1 (acc ++ [1, b])), S) := fun S => fAdd_in (b := [1, b]) (by simp; omega) S
      have f2 : ∀ S, fAdd (inD1 (acc ++ [1, b])) (inD1 (tn p.2)) S = some (.ok (inD1 (acc ++ ([1, b] ++ tn p.2))), S) := fun S => by rw [fAdd_in (by rw [List.length_append]; simp; omega), List.append_assoc]
      rw [if_pos c3]
      refine Eq.trans (seq_nx (S' := S) (l' := [some (.ref n), some h, some (inD1 (acc ++ ([1, b] ++ tn p.2))), some (pD p), some (.int a), some (.int b)]) (by
        clear hp ho ga gb gp n1 l1 l2 l3 hS gi c2
        unfold inD1 at *
        walk_at "ev*")) ?_
      clear hp ho ga gb n1 n2 l1 l2 hS f1 f2 c1
      walk_at "ev*"
    · have f1 : ∀ S, fAdd (inD1 acc) (.fl [.int 2]) S = some (.ok (inD1 (acc ++ [2])), S) := fun S => fAdd_in (b := [2]) (by simp; omega) S
      have f2 : ∀ S, fAdd (inD1 (acc ++ [2])) (inD1 (tn p.1)) S = some (.ok (inD1 (acc ++ [2] ++ tn p.1)), S) := fun S => by rw [fAdd_in (by rw [List.length_append]; simp; omega)]
      have f3 : ∀ S, fAdd (inD1 (acc ++ [2] ++ tn p.1)) (inD1 (tn p.2)) S = some (.ok (inD1 (acc ++ ([2] ++ tn p.1 ++ tn p.2))), S) := fun S => by rw [fAdd_in (by rw [List.length_append, List.length_append]; simp; omega), List.append_assoc, List.append_assoc, List.append_assoc]
      rw [if_neg c3]
      refine Eq.trans (seq_nx (S' := S) (l' := [some (.ref n), some h, some (inD1 (acc ++ ([2] ++ tn p.1 ++ tn p.2))), some (pD p), some (.int a), some (.int b)]) (by
        generalize inD1 (acc ++ ([2] ++ tn p.1 ++ tn p.2)) = X at *
        generalize inD1 (acc ++ [2] ++ tn p.1) = Y at *
        generalize inD1 (acc ++ [2]) = Z at *
        clear hp ho ga gb gp l1 l2 l3 hS gi c2
        walk_at "ev*")) ?_
      clear hp ho ga gb n1 n2 l1 l2 hS f1 f2 f3 c1
      walk_at "ev*"
theorem told_head_eq {n : Nat} {ps hd : List Pr} {S : Store} (hS : S[n]? = some (shD ps)) (hh : PsOk hd) (h7 : hd.length ≤ 1000) (ho : PsOk ps) (hl : ps.length ≤ 24) :
    m_told_head [.ref n, psD hd] S = some (.ok (inD1 (tellH ps hd).1), S.set n (shD (tellH ps hd).2)) := by
  have hn : n < S.length := (List.getElem?_eq_some_iff.mp hS).1
  unfold m_told_head b_told_head
  refine fn_rt rfl ?_
  refine Eq.trans (seq_nx (S' := S) (l' := [some (.ref n), some (psD hd), some (inD1 []), none, none, none]) rfl) ?_
  obtain ⟨l', S', e, ⟨⟨o3, o4, o5, rfl⟩, rfl⟩⟩ := sFor_thru (items := iL (eVar 1)) (tg := .one 3) (body := bT1) (ds := hd.map pD) (l := [some (.ref n), some (psD hd), some (inD1 []), none, none, none]) (S := S)
    (fun i l S' => (∃ o3 o4 o5, l = [some (.ref n), some (psD hd), some (inD1 (tellH ps (hd.take i)).1), o3, o4, o5]) ∧ S' = S.set n (shD (tellH ps (hd.take i)).2))
    (iL_fl rfl) ⟨⟨none, none, none, rfl⟩, (set_same hS).symm⟩ (fun _ _ _ _ => rfl) (by
      rintro i d l S1 ⟨⟨o3, o4, o5, rfl⟩, rfl⟩ hd'
      rw [List.getElem?_map] at hd'
      cases hq : hd[i]? with
      | none => rw [hq] at hd'; cases hd'
      | some q =>
        rw [hq] at hd'
        cases hd'
        obtain ⟨k1, k2, k3⟩ := tellH_ok (take_ok hh i) ho hl
        have hi : i < hd.length := (List.getElem?_eq_some_iff.mp hq).1
        have ht : (hd.take i).length ≤ 1000 := by rw [List.length_take]; omega
        obtain ⟨o4', o5', e⟩ := bT1_eq (h := psD hd) (acc := (tellH ps (hd.take i)).1) o4 o5 (List.getElem?_set_self hn) (hh q (List.mem_of_getElem? hq)) k1 k2 (by omega)
        rw [List.set_set] at e
        refine ⟨_, rfl, _, _, e, ?_⟩
        rw [tellH_take hq]
        exact ⟨⟨_, _, _, rfl⟩, rfl⟩)
  rw [List.length_map, List.take_length] at e
  refine Eq.trans (seq_nx e) ?_
  rfl
end Law

/-! heads read -/
namespace Law
open PySem PySem.Spec L2 Sim
theorem txAt_ok {ns : List Int} {i e : Int} {l : List Nat} (hn : ∀ n ∈ ns, 0 ≤ n) (h0 : 0 ≤ i) (h : txAt ns i = some (l, e)) : Sig l ∧ l.length ≤ 20 ∧ i < e ∧ e ≤ ns.length := by
  unfold txAt at h
  split at h
  · cases h
  · rename_i h1
    simp only at h
    have hi := getD_mem (ns := ns) (i := i.toNat) (by omega)
    have hm := hn _ (List.mem_of_getElem? hi)
    generalize ns.getD i.toNat 0 = n at *
    split at h
    · cases h
    · rename_i h2
      have hp : ∀ m ∈ (ns.drop (i + 1).toNat).take n.toNat, 0 ≤ m := fun m h => hn m (List.mem_of_mem_drop (List.mem_of_mem_take h))
      have hlen : ((ns.drop (i + 1).toNat).take n.toNat).length ≤ 20 := by rw [List.length_take]; omega
      generalize (ns.drop (i + 1).toNat).take n.toNat = xs at *
      split at h
      · rename_i h3
        cases h
        rw [List.all_eq_true] at h3
        refine ⟨fun j hj => ?_, by rw [List.length_map]; exact hlen, by omega, by omega⟩
        obtain ⟨x, hx, rfl⟩ := List.mem_map.mp hj
        have := of_decide_eq_true (h3 x hx)
        have := hp x hx
        omega
      · cases h
def pairAt (ps : List Pr) (ns : List Int) (i : Int) : Option (Pr × Int) :=
  let k := ns.getD i.toNat 0
  if k = 2 then
    match txAt ns (i + 1) with
    | none => none
    | some (a, j) => match txAt ns j with
      | none => none
      | some (b, e) => if 1 ≤ a.length ∧ a.length ≤ 8 then some ((a, b), e) else none
  else if k > 2 ∨ i + 1 ≥ ns.length ∨ ns.getD (i + 1).toNat 0 ≥ ps.length then none else
    let q := ps.getD (ns.getD (i + 1).toNat 0).toNat ([], [])
    if k = 0 then some (q, i + 2) else
    match txAt ns (i + 2) with
    | none => none
    | some (b, e) => some ((q.1, b), e)
theorem pairAt_ok {ps : List Pr} {ns : List Int} {i e : Int} {p : Pr} (ho : PsOk ps) (hn : ∀ n ∈ ns, 0 ≤ n) (h0 : 0 ≤ i) (h1 : i < ns.length) (h : pairAt ps ns i = some (p, e)) : POk p ∧ i < e ∧ e ≤ ns.length := by
  unfold pairAt at h
  simp only at h
  split at h
  · cases ha : txAt ns (i + 1) with
    | none => rw [ha] at h; cases h
    | some v =>
      obtain ⟨a, j⟩ := v
      rw [ha] at h
      simp only at h
      obtain ⟨a1, a2, a3, a4⟩ := txAt_ok hn (by omega) ha
      cases hb : txAt ns j with
      | none => rw [hb] at h; cases h
      | some w =>
        obtain ⟨b, f⟩ := w
        rw [hb] at h
        simp only at h
        obtain ⟨b1, b2, b3, b4⟩ := txAt_ok hn (by omega) hb
        split at h
        · cases h
          exact ⟨⟨a1, b1, by show a.length ≤ 100; omega, by show b.length ≤ 100; omega⟩, by omega, by omega⟩
        · cases h
  · split at h
    · cases h
    · rename_i h2 h3
      have hi := getD_mem (ns := ns) (i := (i + 1).toNat) (by omega)
      have hm := hn _ (List.mem_of_getElem? hi)
      generalize ns.getD (i + 1).toNat 0 = m at *
      have hq : POk (ps.getD m.toNat ([], [])) := by
        have hl : m.toNat < ps.length := by omega
        rw [List.getD_eq_getElem?_getD, List.getElem?_eq_getElem hl]
        exact ho _ (List.getElem_mem hl)
      split at h
      · cases h
        exact ⟨hq, by omega, by omega⟩
      · cases hb : txAt ns (i + 2) with
        | none => rw [hb] at h; cases h
        | some w =>
          obtain ⟨b, f⟩ := w
          rw [hb] at h
          simp only at h
          obtain ⟨b1, b2, b3, b4⟩ := txAt_ok hn (by omega) hb
          cases h
          exact ⟨⟨hq.1, b1, hq.2.2.1, by show b.length ≤ 100; omega⟩, by omega, by omega⟩
theorem fIx_psD {ps : List Pr} {m : Int} (h0 : 0 ≤ m) (h1 : m < ps.length) (S : Store) : fIx (psD ps) (.int m) S = some (.ok (pD (ps.getD m.toNat ([], []))), S) := by
  refine fIx_fl h0 ?_ S
  have hl : m.toNat < ps.length := by omega
  rw [List.getElem?_map, List.getD_eq_getElem?_getD, List.getElem?_eq_getElem hl]
  rfl
def psl (n : Nat) (ns : List Int) (i : Int) (o3 o4 o5 o6 : Option D) : Sl := [some (.ref n), some (inD1 ns), some (.int i), o3, o4, o5, o6]
theorem pair_at_eq {n : Nat} {ps : List Pr} {ns : List Int} {i : Int} {S : Store} (hS : S[n]? = some (shD ps)) (ho : PsOk ps) (hn : ∀ n ∈ ns, 0 ≤ n) (h0 : 0 ≤ i) (h1 : i < ns.length) :
    m_pair_at [.ref n, inD1 ns, .int i] S = match pairAt ps ns i with
      | some (p, e) => some (.ok (.tup [pD p, .int e]), S)
      | none => some (.error xBad, S) := by
  have ta : ∀ i S, 0 ≤ i → m_text_at [inD1 ns, .int i] S = match txAt ns i with
      | some (l, b) => some (.ok (.tup [.str (tx l), .int b]), S)
      | none => some (.error xBad, S) := fun i S h => textAt_eq h hn S
  have gk := fIx_in h0 h1
  unfold m_pair_at b_pair_at pairAt
  generalize ns.getD i.toNat 0 = k at *
  have s1 : ∀ rest, sSeq (sSet 3 (e2 fIx (eVar 1) (eVar 2))) rest ([.ref n, inD1 ns, .int i].map some ++ List.replicate (7 - 3) none) S = rest (psl n ns i (some (.int k)) none none none) S := fun rest => by
    refine seq_nx ?_
    unfold psl
    clear ta hS ho hn
    walk_at "ev*"
  simp only
  by_cases c2 : k = 2
  · subst c2
    rw [if_pos rfl]
    have t1 := ta (i + 1) S (by omega)
    cases ha : txAt ns (i + 1) with
    | none =>
      rw [ha] at t1
      refine fn_ex (x := xBad) rfl (l := psl n ns i (some (.int 2)) none none none) ?_
      rw [s1]
      refine seq_ex ?_
      unfold psl
      simp only at t1
      clear s1 ta gk ha hS ho hn
      walk_at "ev*"
    | some v =>
      obtain ⟨a, j⟩ := v
      obtain ⟨a1, a2, a3, a4⟩ := txAt_ok hn (by omega) ha
      rw [ha] at t1
      simp only at t1 ⊢
      have t2 := ta j S (by omega)
      cases hb : txAt ns j with
      | none =>
        rw [hb] at t2
        refine fn_ex (x := xBad) rfl (l := psl n ns i (some (.int 2)) (some (.tup [.str (tx a), .int j])) none none) ?_
        rw [s1]
        refine seq_ex ?_
        unfold psl
        simp only at t2
        clear s1 ta gk ha hb hS ho hn a1
        walk_at "ev*"
      | some w =>
        obtain ⟨b, e⟩ := w
        rw [hb] at t2
        simp only at t2 ⊢
        have gl := fun S => fLen_tx (l := a) (by omega) S
        have q1 : ∀ i j S, fLe (.int i) (.int j) S = some (.ok (.bl (decide (i ≤ j))), S) := fun _ _ _ => rfl
        by_cases c3 : 1 ≤ a.length ∧ a.length ≤ 8
        · rw [if_pos c3]
          have d1 : (1 : Int) ≤ (a.length : Nat) := by omega
          have d2 : ((a.length : Nat) : Int) ≤ 8 := by omega
          refine fn_rt rfl ?_
          rw [s1]
          refine seq_rt ?_
          unfold psl pD
          generalize ((a.length : Nat) : Int) = z at *
          clear s1 ta gk ha hb hS ho hn a1 a2 c3
          walk_at "ev*"
        · rw [if_neg c3]
          refine fn_ex (x := xBad) rfl (l := psl n ns i (some (.int 2)) (some (.tup [.str (tx a), .int j])) (some (.tup [.str (tx b), .int e])) none) ?_
          rw [s1]
          refine seq_ex ?_
          unfold psl
          by_cases d1 : (1 : Int) ≤ (a.length : Nat)
          · have d2 : ¬ ((a.length : Nat) : Int) ≤ 8 := by omega
            generalize ((a.length : Nat) : Int) = z at *
            clear s1 ta gk ha hb hS ho hn a1 a2 c3
            walk_at "ev*"
            rfl
          · generalize ((a.length : Nat) : Int) = z at *
            clear s1 ta gk ha hb hS ho hn a1 a2 c3
            walk_at "ev*"
            rfl
  · rw [if_neg c2]
    have s2 : ∀ A rest, sSeq (sIf (tOf (e2 fEq (eVar 3) (eC (.int 2)))) A (sNext)) rest (psl n ns i (some (.int k)) none none none) S = rest (psl n ns i (some (.int k)) none none none) S := fun A rest => by
      refine seq_nx ?_
      unfold psl
      clear ta hS ho hn gk s1
      walk_at "ev*"
    have gf := fld_sh hS
    have gn := fLen_in ns
    have gp := fLen_ps ps
    by_cases c3 : k > 2 ∨ i + 1 ≥ ns.length ∨ ns.getD (i + 1).toNat 0 ≥ ps.length
    · rw [if_pos c3]
      refine fn_ex (x := xBad) rfl (l := psl n ns i (some (.int k)) none none none) ?_
      rw [s1, s2]
      refine seq_ex ?_
      unfold psl
      by_cases d1 : 2 < k
      · clear ta hS ho hn gk s1 s2 gf c3
        walk_at "ev*"
        rfl
      · by_cases d2 : (ns.length : Int) ≤ i + 1
        · generalize ((ns.length : Nat) : Int) = z at *
          clear ta hS ho hn gk s1 s2 gf c3
          walk_at "ev*"
          rfl
        · have gi := fIx_in (ns := ns) (i := i + 1) (by omega) (by omega)
          have d3 : (ps.length : Int) ≤ ns.getD (i + 1).toNat 0 := by omega
          generalize ns.getD (i + 1).toNat 0 = m at *
          generalize ((ns.length : Nat) : Int) = z at *
          generalize ((ps.length : Nat) : Int) = y at *
          clear ta hS ho hn gk s1 s2 c3
          walk_at "ev*"
          rfl
    · rw [if_neg c3]
      have d1 : ¬ 2 < k := by omega
      have d2 : ¬ (ns.length : Int) ≤ i + 1 := by omega
      have gi := fIx_in (ns := ns) (i := i + 1) (by omega) (by omega)
      have d3 : ¬ (ps.length : Int) ≤ ns.getD (i + 1).toNat 0 := by omega
      have hi := getD_mem (ns := ns) (i := (i + 1).toNat) (by omega)
      have hm := hn _ (List.mem_of_getElem? hi)
      have gq := fIx_psD (ps := ps) hm (by omega)
      generalize ns.getD (i + 1).toNat 0 = m at *
      generalize hqq : ps.getD m.toNat ([], []) = q at *
      have x0 := fIx_p0 q
      have s3 : ∀ rest, sSeq (sIf (tOr (tOf (e2 fGt (eVar 3) (eC (.int 2)))) (tOr (tOf (e2 fGe (e2 fAdd (eVar 2) (eC (.int 1))) (eA (a1 fLen) (aCons (eVar 1) (aNil))))) (tOf (e2 fGe (e2 fIx (eVar 1) (e2 fAdd (eVar 2) (eC (.int 1)))) (eA (a1 fLen) (aCons (e1 (fFld 5 "pairs") (eVar 0)) (aNil))))))) (sRaiseB 2) (sNext)) rest (psl n ns i (some (.int k)) none none none) S = rest (psl n ns i (some (.int k)) none none none) S := fun rest => by
        refine seq_nx ?_
        unfold psl
        generalize ((ns.length : Nat) : Int) = z at *
        generalize ((ps.length : Nat) : Int) = y at *
        clear ta hS ho hn gk s1 s2 c3 gq x0 hi hqq
        walk_at "ev*"
      have s4 : ∀ rest, sSeq (sSet 6 (e2 fIx (e1 (fFld 5 "pairs") (eVar 0)) (e2 fIx (eVar 1) (e2 fAdd (eVar 2) (eC (.int 1)))))) rest (psl n ns i (some (.int k)) none none none) S = rest (psl n ns i (some (.int k)) none none (some (pD q))) S := fun rest => by
        refine seq_nx ?_
        unfold psl
        clear ta hS ho hn gk s1 s2 c3 x0 hi hqq s3 gn gp
        walk_at "ev*"
      clear gf gn gp gi gq gk hi
      by_cases d4 : k = 0
      · rw [if_pos d4]
        refine fn_rt rfl ?_
        rw [s1, s2, s3, s4]
        refine seq_rt ?_
        unfold psl
        clear ta hS ho hn s1 s2 s3 s4 c3 hqq
        walk_at "ev*"
      · rw [if_neg d4]
        have s5 : ∀ A rest, sSeq (sIf (tOf (e2 fEq (eVar 3) (eC (.int 0)))) A (sNext)) rest (psl n ns i (some (.int k)) none none (some (pD q))) S = rest (psl n ns i (some (.int k)) none none (some (pD q))) S := fun A rest => by
          refine seq_nx ?_
          unfold psl
          clear ta hS ho hn s1 s2 s3 s4 c3 hqq
          walk_at "ev*"
        have t2 := ta (i + 2) S (by omega)
        cases hb : txAt ns (i + 2) with
        | none =>
          rw [hb] at t2
          refine fn_ex (x := xBad) rfl (l := psl n ns i (some (.int k)) none none (some (pD q))) ?_
          rw [s1, s2, s3, s4, s5]
          refine seq_ex ?_
          unfold psl
          simp only at t2
          clear ta hS ho hn s1 s2 s3 s4 s5 c3 hqq hb
          walk_at "ev*"
        | some w =>
          obtain ⟨b, e⟩ := w
          rw [hb] at t2
          simp only at t2 ⊢
          refine fn_rt rfl ?_
          rw [s1, s2, s3, s4, s5]
          refine Eq.trans (seq_nx (S' := S) (l' := psl n ns i (some (.int k)) none (some (.tup [.str (tx b), .int e])) (some (pD q))) ?_) ?_
          · unfold psl
            clear ta hS ho hn s1 s2 s3 s4 s5 c3 hqq hb
            walk_at "ev*"
          · unfold psl
            clear ta hS ho hn s1 s2 s3 s4 s5 c3 hqq hb t2
            walk_at "ev*"
            rfl
end Law

/-! heads read: the whole -/
namespace Law
open PySem PySem.Spec L2 Sim
def nxp (ns : List Int) (i : Int) (ps : List Pr) (p : Pr) : List Pr := if ns.getD i.toNat 0 = 0 then ps else fit 96 (p :: ps)
theorem nxp_ok {ns : List Int} {i : Int} {ps : List Pr} {p : Pr} (ho : PsOk ps) (hp : POk p) (hl : ps.length ≤ 24) : PsOk (nxp ns i ps p) ∧ (nxp ns i ps p).length ≤ 24 := by
  unfold nxp
  split
  · exact ⟨ho, hl⟩
  · exact ⟨fit_ok (ps_cons hp ho), fit_len _⟩
def readG (ns : List Int) : Nat → List Pr → Int → List Pr → Bool × List Pr × List Pr
  | 0, ps, _, acc => (false, acc, ps)
  | k + 1, ps, i, acc => if i < ns.length then
      match pairAt ps ns i with
      | none => (false, acc, ps)
      | some (p, e) => readG ns k (nxp ns i ps p) e (acc ++ [p])
    else (true, acc, ps)
def tR : MT := tOf (e2 fLt (eVar 3) (eA (a1 fLen) (aCons (eVar 1) (aNil))))
def bR : MS := sSeq (sSet 4 (eA m_pair_at (aCons (eVar 0) (aCons (eVar 1) (aCons (eVar 3) (aNil))))))
  (sSeq (sIf (tOf (e2 fNe (e2 fIx (eVar 1) (eVar 3)) (eC (.int 0)))) (sDrop (eMeth 5 "put" m_Shelf_put (eVar 0) (aCons (e2 fIx (eVar 4) (eC (.int 0))) (aNil)))) (sNext))
  (sSeq (sDrop (eBM isL (m1 fAppend) (eVar 2) (aCons (e2 fIx (eVar 4) (eC (.int 0))) (aNil))))
  (sSet 3 (e2 fIx (eVar 4) (eC (.int 1))))))
def rsl (n m : Nat) (ns : List Int) (i : Int) (o : Option D) : Sl := [some (.ref n), some (inD1 ns), some (.ref m), some (.int i), o]
theorem bR_ok {n m : Nat} (hnm : n ≠ m) {ps acc : List Pr} {ns : List Int} {i e : Int} {p : Pr} {o : Option D} {S : Store} (hS : S[n]? = some (shD ps)) (hm : S[m]? = some (lsD (acc.map pD))) (ho : PsOk ps) (hl : ps.length ≤ 24) (hn : ∀ n ∈ ns, 0 ≤ n) (h0 : 0 ≤ i) (h1 : i < ns.length) (ha : acc.length ≤ 100000) (hp : pairAt ps ns i = some (p, e)) :
    bR (rsl n m ns i o) S = some (.nx (rsl n m ns e (some (.tup [pD p, .int e]))), (S.set n (shD (nxp ns i ps p))).set m (lsD ((acc ++ [p]).map pD))) := by
  have g1 := pair_at_eq hS ho hn h0 h1
  obtain ⟨p1, p2, p3⟩ := pairAt_ok ho hn h0 h1 hp
  rw [hp] at g1
  simp only at g1
  have gk := fIx_in h0 h1
  have gp := shelf_put_eq hS p1 ho hl
  have gi := ins_sh hS
  have l3 := lookup_sh "put" (psD ps) (by decide +kernel)
  unfold bR
  refine Eq.trans (seq_nx (S' := S) (l' := rsl n m ns i (some (.tup [pD p, .int e]))) (by unfold rsl; clear gp gi l3 hS hm ho hn p1; walk_at "ev*")) ?_
  clear g1
  have st : ∀ S1, S1[m]? = some (lsD (acc.map pD)) → (sSeq (sDrop (eBM isL (m1 fAppend) (eVar 2) (aCons (e2 fIx (eVar 4) (eC (.int 0))) (aNil))))
      (sSet 3 (e2 fIx (eVar 4) (eC (.int 1))))) (rsl n m ns i (some (.tup [pD p, .int e]))) S1 = some (.nx (rsl n m ns e (some (.tup [pD p, .int e]))), S1.set m (lsD ((acc ++ [p]).map pD))) := fun S1 h => by
    have ga := app_ls (d := pD p) h (by rw [List.length_map]; omega)
    have gl := isL_ls h
    rw [show acc.map pD ++ [pD p] = (acc ++ [p]).map pD by rw [List.map_append]; rfl] at ga
    unfold rsl
    clear gp gi l3 hS hm ho hn p1 gk hp
    walk_at "ev*"
  unfold nxp
  by_cases c : ns.getD i.toNat 0 = 0
  · rw [c] at gk
    rw [if_pos c]
    refine Eq.trans (seq_nx (S' := S) (l' := rsl n m ns i (some (.tup [pD p, .int e]))) (by unfold rsl; clear gp gi l3 hS hm ho hn p1 st hp; walk_at "ev*")) ?_
    rw [st S hm, set_same hS]
  · rw [if_neg c]
    generalize ns.getD i.toNat 0 = k at *
    refine Eq.trans (seq_nx (S' := S.set n (shD (fit 96 (p :: ps)))) (l' := rsl n m ns i (some (.tup [pD p, .int e]))) (by unfold rsl; clear hS hm ho hn p1 st hp; walk_at "ev*")) ?_
    exact st _ (by rw [List.getElem?_set_ne hnm, hm])
theorem bR_bad {n m : Nat} {ps : List Pr} {ns : List Int} {i : Int} {o : Option D} {S : Store} (hS : S[n]? = some (shD ps)) (ho : PsOk ps) (hn : ∀ n ∈ ns, 0 ≤ n) (h0 : 0 ≤ i) (h1 : i < ns.length) (hp : pairAt ps ns i = none) :
    bR (rsl n m ns i o) S = some (.ex xBad (rsl n m ns i o), S) := by
  have g1 := pair_at_eq hS ho hn h0 h1
  rw [hp] at g1
  simp only at g1
  unfold bR
  refine seq_ex ?_
  unfold rsl
  clear hS ho hn hp
  walk_at "ev*"
theorem readG_ok {ns : List Int} (hn : ∀ n ∈ ns, 0 ≤ n) : ∀ (k : Nat) (ps : List Pr) (i : Int) (acc : List Pr), PsOk ps → PsOk acc → ps.length ≤ 24 → 0 ≤ i → i ≤ ns.length → acc.length ≤ i → PsOk (readG ns k ps i acc).2.1 ∧ PsOk (readG ns k ps i acc).2.2 ∧ (readG ns k ps i acc).2.2.length ≤ 24 ∧ (readG ns k ps i acc).2.1.length ≤ ns.length
  | 0, ps, i, acc, h1, h2, h3, h4, h5, h6 => ⟨h2, h1, h3, by show acc.length ≤ _; omega⟩
  | k + 1, ps, i, acc, h1, h2, h3, h4, h5, h6 => by
    unfold readG
    split
    · rename_i hlt
      cases hp : pairAt ps ns i with
      | none => exact ⟨h2, h1, h3, by show acc.length ≤ _; omega⟩
      | some v =>
        obtain ⟨p, e⟩ := v
        obtain ⟨p1, p2, p3⟩ := pairAt_ok h1 hn h4 hlt hp
        simp only
        refine readG_ok hn k _ e (acc ++ [p]) (nxp_ok h1 p1 h3).1 ?_ (nxp_ok h1 p1 h3).2 (by omega) p3 (by rw [List.length_append]; simp; omega)
        intro q hq
        rcases List.mem_append.mp hq with h | h
        · exact h2 q h
        · rw [List.mem_singleton.mp h]; exact p1
    · exact ⟨h2, h1, h3, by show acc.length ≤ _; omega⟩
theorem while_read {n m : Nat} (hnm : n ≠ m) {ns : List Int} (hn : ∀ n ∈ ns, 0 ≤ n) (hN : ns.length ≤ 100000) : ∀ (k' k : Nat) (ps acc : List Pr) (i : Int) (o : Option D) (S : Store), PsOk ps → ps.length ≤ 24 → 0 ≤ i → i ≤ ns.length → (ns.length : Int) - i < k' → (ns.length : Int) - i < k → acc.length ≤ i → S[n]? = some (shD ps) → S[m]? = some (lsD (acc.map pD)) →
    ∃ l', whileF tR bR k (rsl n m ns i o) S = some (if (readG ns k' ps i acc).1 = true then .nx l' else .ex xBad l', (S.set n (shD (readG ns k' ps i acc).2.2)).set m (lsD ((readG ns k' ps i acc).2.1.map pD))) ∧ ∃ i' o', l' = rsl n m ns i' o'
  | 0, k, ps, acc, i, o, S, _, _, _, h, h', _, _, _, _ => by omega
  | k' + 1, 0, ps, acc, i, o, S, _, _, _, h, _, h', _, _, _ => by omega
  | k' + 1, k + 1, ps, acc, i, o, S, ho, hl, h0, h1, hk', hk, ha, hS, hm => by
    have hS0 : n < S.length := (List.getElem?_eq_some_iff.mp hS).1
    have hm0 : m < S.length := (List.getElem?_eq_some_iff.mp hm).1
    have gn := fLen_in ns
    have ht : tR (rsl n m ns i o) S = some (.ok (decide (i < ns.length)), S) := by
      unfold tR rsl
      clear hS hm ho hn hS0 hm0 hk hk' ha h1
      generalize ((ns.length : Nat) : Int) = z at *
      walk_at "ev*"
    unfold whileF readG
    rw [ht]
    simp only [bndS]
    by_cases c : i < (ns.length : Int)
    · rw [decide_eq_true c, if_pos rfl, if_pos c]
      cases hp : pairAt ps ns i with
      | none =>
        rw [bR_bad hS ho hn h0 c hp]
        simp only
        refine ⟨rsl n m ns i o, ?_, i, o, rfl⟩
        rw [set_same hS, set_same hm]
        rfl
      | some v =>
        obtain ⟨p, e⟩ := v
        obtain ⟨p1, p2, p3⟩ := pairAt_ok ho hn h0 c hp
        rw [bR_ok hnm hS hm ho hl hn h0 c (by omega) hp]
        simp only
        obtain ⟨hP, hL⟩ := nxp_ok (ns := ns) (i := i) ho p1 hl
        obtain ⟨l', h, h2⟩ := while_read hnm hn hN k' k (nxp ns i ps p) (acc ++ [p]) e (some (.tup [pD p, .int e])) ((S.set n (shD (nxp ns i ps p))).set m (lsD ((acc ++ [p]).map pD))) hP hL (by omega) p3 (by omega) (by omega) (by rw [List.length_append]; simp; omega) (by rw [List.getElem?_set_ne (Ne.symm hnm), List.getElem?_set_self hS0]) (by rw [List.getElem?_set_self (by rw [List.length_set]; exact hm0)])
        refine ⟨l', ?_, h2⟩
        rw [h, set2 hnm]
    · rw [decide_eq_false c, if_neg (by decide), if_neg c]
      refine ⟨rsl n m ns i o, ?_, i, o, rfl⟩
      rw [set_same hS, set_same hm]
      rfl
def readH (ps : List Pr) (ns : List Int) : Bool × List Pr × List Pr := readG ns (ns.length + 1) ps 0 []
theorem read_head_eq {n : Nat} {ps : List Pr} {ns : List Int} {S : Store} (hS : S[n]? = some (shD ps)) (ho : PsOk ps) (hl : ps.length ≤ 24) (hn : ∀ n ∈ ns, 0 ≤ n) (hN : ns.length ≤ 100000) :
    m_read_head [.ref n, inD1 ns] S = some (if (readH ps ns).1 = true ∧ (readH ps ns).2.1.length ≤ 6 then .ok (.ref S.length) else .error xBad, S.set n (shD (readH ps ns).2.2) ++ [lsD ((readH ps ns).2.1.map pD)]) := by
  have hS0 : n < S.length := (List.getElem?_eq_some_iff.mp hS).1
  have hnm : n ≠ S.length := by omega
  obtain ⟨l', h, i', o', rfl⟩ := while_read hnm hn hN (ns.length + 1) fuelN ps [] 0 none (S ++ [lsD []]) ho hl (by decide) (by omega) (by omega) (by show (ns.length : Int) - 0 < (1000000 : Nat); omega) (by decide) (by rw [List.getElem?_append_left hS0, hS]) (by rw [List.getElem?_append_right (Nat.le_refl _), Nat.sub_self]; rfl)
  have hX : ∀ c d, ((S ++ [lsD []]).set n c).set S.length d = S.set n c ++ [d] := fun c d => by
    rw [List.set_append_left _ _ hS0, List.set_append_right _ _ (by rw [List.length_set]; exact Nat.le_refl _), List.length_set, Nat.sub_self]
    rfl
  rw [hX] at h
  have hk := readG_ok hn (ns.length + 1) ps 0 [] ho (fun _ h => nomatch h) hl (by decide) (by omega) (by decide)
  rw [show readG ns (ns.length + 1) ps 0 [] = readH ps ns from rfl] at h hk
  generalize readH ps ns = r at *
  obtain ⟨b, hd, ps'⟩ := r
  simp only at h hk ⊢
  have hL : (S.set n (shD ps') ++ [lsD (hd.map pD)])[S.length]? = some (lsD (hd.map pD)) := by
    rw [List.getElem?_append_right (by rw [List.length_set]; exact Nat.le_refl _), List.length_set, Nat.sub_self]; rfl
  unfold m_read_head b_read_head
  have s1 : ∀ rest, sSeq (sSet 2 (eLstR (aNil))) (sSeq (sSet 3 (eC (.int 0))) rest) ([.ref n, inD1 ns].map some ++ List.replicate (5 - 2) none) S = rest (rsl n S.length ns 0 none) (S ++ [lsD []]) := fun rest => rfl
  cases b with
  | false =>
    rw [if_neg (by simp)] at h ⊢
    refine fn_ex (x := xBad) rfl (l := rsl n S.length ns i' o') ?_
    rw [s1]
    exact seq_ex h
  | true =>
    rw [if_pos rfl] at h
    have gl := fLen_ref (n := S.length) hL
    rw [List.length_map] at gl
    by_cases c : hd.length ≤ 6
    · rw [if_pos ⟨rfl, c⟩]
      refine fn_rt rfl ?_
      rw [s1]
      refine Eq.trans (seq_nx h) ?_
      have c' : ¬ (6 : Int) < (hd.length : Nat) := by omega
      unfold rsl
      clear h hL hS ho hn hk s1 hX
      generalize ((hd.length : Nat) : Int) = z at *
      walk_at "ev*"
    · rw [if_neg (by simp [c])]
      refine fn_ex (x := xBad) rfl (l := rsl n S.length ns i' o') ?_
      rw [s1]
      refine Eq.trans (seq_nx h) ?_
      have c' : (6 : Int) < (hd.length : Nat) := by omega
      unfold rsl
      clear h hL hS ho hn hk s1 hX
      generalize ((hd.length : Nat) : Int) = z at *
      refine seq_ex ?_
      walk_at "ev*"
      rfl
end Law

/-! frames, the cutter -/
namespace Law
open PySem PySem.Spec L2 Sim
structure Fr where
  k : Int
  f : Int
  t : Int
  b : List Int
def frD (F : Fr) : Cell := ⟨.ins 3 [("kind", .int F.k), ("flag", .int F.f), ("talk", .int F.t), ("numbers", inD1 F.b)], false⟩
def cuD (H : List Int) : Cell := ⟨.ins 4 [("held", inD1 H)], false⟩
theorem put_end (S : Store) (c : Nat) (fs : List (Str × D)) (f : Str) (d : D) (hl : fs.length < 1000) : putFldD c f (.ref S.length) d (S ++ [⟨.ins c fs, false⟩]) = some (S ++ [⟨.ins c (putFD f d fs), false⟩]) := by
  unfold putFldD
  simp only [List.getElem?_append_right (Nat.le_refl _), Nat.sub_self, List.getElem?_cons_zero]
  rw [if_pos ⟨trivial, hl⟩, List.set_append_right _ _ (Nat.le_refl _), Nat.sub_self]
  rfl
theorem frame_make (F : Fr) (S : Store) : fMake 3 (fun ds => noErr (m_Frame_init ds)) [.int F.k, .int F.f, .int F.t, inD1 F.b] S = some (.ok (.ref S.length), S ++ [frD F]) := by
  have h : m_Frame_init [.ref S.length, .int F.k, .int F.f, .int F.t, inD1 F.b] (S ++ [⟨.ins 3 [], false⟩]) = some (.ok .non, S ++ [frD F]) := by
    unfold m_Frame_init b_Frame_init
    refine fn_nx rfl (l := [some (.ref S.length), some (.int F.k), some (.int F.f), some (.int F.t), some (inD1 F.b)]) ?_
    have p1 := put_end S 3 [] "kind" (.int F.k) (by decide)
    have p2 := put_end S 3 [("kind", .int F.k)] "flag" (.int F.f) (by simp)
    have p3 := put_end S 3 [("kind", .int F.k), ("flag", .int F.f)] "talk" (.int F.t) (by simp)
    have p4 := put_end S 3 [("kind", .int F.k), ("flag", .int F.f), ("talk", .int F.t)] "numbers" (inD1 F.b) (by simp)
    have fi : ∀ S, fList (inD1 F.b) S = some (.ok (inD1 F.b), S) := fun S => rfl
    refine Eq.trans (seq_nx (S' := S ++ [⟨.ins 3 [("kind", .int F.k)], false⟩]) (l' := [some (.ref S.length), some (.int F.k), some (.int F.f), some (.int F.t), some (inD1 F.b)]) ?_) ?_
    · have q : putFD "kind" (.int F.k) [] = [(("kind" : Str), D.int F.k)] := rfl
      rw [q] at p1
      clear p2 p3 p4 fi q
      walk_at "ev*"
    refine Eq.trans (seq_nx (S' := S ++ [⟨.ins 3 [("kind", .int F.k), ("flag", .int F.f)], false⟩]) (l' := [some (.ref S.length), some (.int F.k), some (.int F.f), some (.int F.t), some (inD1 F.b)]) ?_) ?_
    · have q : putFD "flag" (.int F.f) [("kind", .int F.k)] = [(("kind" : Str), D.int F.k), ("flag", .int F.f)] := rfl
      rw [q] at p2
      clear p1 p3 p4 fi q
      walk_at "ev*"
    refine Eq.trans (seq_nx (S' := S ++ [⟨.ins 3 [("kind", .int F.k), ("flag", .int F.f), ("talk", .int F.t)], false⟩]) (l' := [some (.ref S.length), some (.int F.k), some (.int F.f), some (.int F.t), some (inD1 F.b)]) ?_) ?_
    · have q : putFD "talk" (.int F.t) [("kind", .int F.k), ("flag", .int F.f)] = [(("kind" : Str), D.int F.k), ("flag", .int F.f), ("talk", .int F.t)] := rfl
      rw [q] at p3
      clear p1 p2 p4 fi q
      walk_at "ev*"
    have q : putFD "numbers" (inD1 F.b) [("kind", .int F.k), ("flag", .int F.f), ("talk", .int F.t)] = [(("kind" : Str), D.int F.k), ("flag", .int F.f), ("talk", .int F.t), ("numbers", inD1 F.b)] := rfl
    rw [q] at p4
    clear p1 p2 p3 q
    unfold frD
    walk_at "ev*"
  unfold fMake
  simp only [noErr_ok h]
theorem cutter_make (S : Store) : fMake 4 (fun ds => noErr (m_Cutter_init ds)) [] S = some (.ok (.ref S.length), S ++ [cuD []]) := by
  have h : m_Cutter_init [.ref S.length] (S ++ [⟨.ins 4 [], false⟩]) = some (.ok .non, S ++ [cuD []]) := by
    unfold m_Cutter_init b_Cutter_init
    refine fn_nx rfl (l := [some (.ref S.length)]) ?_
    have p1 := put_end S 4 [] "held" (.fl []) (by decide)
    have q : putFD "held" (.fl []) [] = [(("held" : Str), D.fl [])] := rfl
    rw [q] at p1
    clear q
    unfold cuD inD1
    walk_at "ev*"
  unfold fMake
  simp only [noErr_ok h]
theorem fld_cu {n : Nat} {S : Store} {H : List Int} (h : S[n]? = some (cuD H)) : fFld 4 "held" (.ref n) S = some (.ok (inD1 H), S) := by
  unfold fFld insOf
  simp only [h, cuD]
  rfl
theorem put_cu {n : Nat} {S : Store} {H H' : List Int} (h : S[n]? = some (cuD H)) : putFldD 4 "held" (.ref n) (inD1 H') S = some (S.set n (cuD H')) := by
  unfold putFldD
  simp only [h, cuD]
  rfl
def frL (F : Fr) : List Int := [(F.b.length : Int), F.k, F.f, F.t] ++ F.b
theorem framed_eq (F : Fr) (h : F.b.length ≤ 1000) (S : Store) : m_framed [.int F.k, .int F.f, .int F.t, inD1 F.b] S = some (.ok (inD1 (frL F)), S) := by
  have gl := fLen_in F.b
  have fi : ∀ S, fList (inD1 F.b) S = some (.ok (inD1 F.b), S) := fun S => rfl
  have fa : ∀ S, fAdd (.fl [.int (F.b.length : Nat), .int F.k, .int F.f, .int F.t]) (inD1 F.b) S = some (.ok (inD1 (frL F)), S) := fun S => fAdd_in (a := [(F.b.length : Int), F.k, F.f, F.t]) (by show 4 + F.b.length ≤ _; omega) S
  unfold m_framed b_framed
  refine fn_rt rfl ?_
  generalize ((F.b.length : Nat) : Int) = z at *
  generalize inD1 (frL F) = Y at *
  walk_at "ev*"
def cutG (H : List Int) : Nat → Int → List Fr → List Fr × Int
  | 0, i, acc => (acc, i)
  | k + 1, i, acc => if i + 4 ≤ H.length ∧ i + 4 + H.getD i.toNat 0 ≤ H.length then
      cutG H k (i + 4 + H.getD i.toNat 0) (acc ++ [⟨H.getD (i + 1).toNat 0, H.getD (i + 2).toNat 0, H.getD (i + 3).toNat 0, (H.drop (i + 4).toNat).take (H.getD i.toNat 0).toNat⟩])
    else (acc, i)
end Law

/-! the cutter fed -/
namespace Law
open PySem PySem.Spec L2 Sim
def rfD (lo n : Nat) : List D := (List.range n).map fun i => D.ref (lo + i)
theorem rfD_succ (lo n : Nat) : rfD lo (n + 1) = rfD lo n ++ [.ref (lo + n)] := by unfold rfD; rw [List.range_succ, List.map_append]; rfl
theorem rfD_len (lo n : Nat) : (rfD lo n).length = n := by unfold rfD; simp
def WW' (S1 : Store) (fs : List Fr) : Store := S1 ++ lsD (rfD (S1.length + 1) fs.length) :: fs.map frD
theorem WW_len (S1 : Store) (fs : List Fr) : (WW' S1 fs).length = S1.length + 1 + fs.length := by unfold WW'; rw [List.length_append, List.length_cons, List.length_map]; omega
theorem WW_get (S1 : Store) (fs : List Fr) (Z : Store) : (WW' S1 fs ++ Z)[S1.length]? = some (lsD (rfD (S1.length + 1) fs.length)) := by
  unfold WW'
  rw [List.append_assoc, List.getElem?_append_right (Nat.le_refl _), Nat.sub_self]; rfl
theorem WW_get0 (S1 : Store) (fs : List Fr) : (WW' S1 fs)[S1.length]? = some (lsD (rfD (S1.length + 1) fs.length)) := by
  have := WW_get S1 fs []
  rw [List.append_nil] at this
  exact this
theorem WW_base {S1 : Store} {n : Nat} (h : n < S1.length) (fs : List Fr) (Z : Store) : (WW' S1 fs ++ Z)[n]? = S1[n]? := by
  unfold WW'
  rw [List.append_assoc, List.getElem?_append_left h]
theorem WW_snoc (S1 : Store) (fs : List Fr) (F : Fr) : (WW' S1 fs ++ [frD F]).set S1.length (lsD (rfD (S1.length + 1) fs.length ++ [.ref (WW' S1 fs).length])) = WW' S1 (fs ++ [F]) := by
  rw [WW_len]
  unfold WW'
  rw [List.append_assoc, List.set_append_right _ _ (Nat.le_refl _), Nat.sub_self, List.length_append, List.map_append]
  show S1 ++ (lsD _ :: (fs.map frD ++ [frD F])) = S1 ++ lsD (rfD (S1.length + 1) (fs.length + 1)) :: (fs.map frD ++ [frD F])
  rw [rfD_succ]
def tF : MT := tAnd (tOf (e2 fLe (e2 fAdd (eVar 3) (eC (.int 4))) (eA (a1 fLen) (aCons (e1 (fFld 4 "held") (eVar 0)) (aNil))))) (tOf (e2 fLe (e2 fAdd (e2 fAdd (eVar 3) (eC (.int 4))) (e2 fIx (e1 (fFld 4 "held") (eVar 0)) (eVar 3))) (eA (a1 fLen) (aCons (e1 (fFld 4 "held") (eVar 0)) (aNil)))))
def bF : MS := sSeq (sSet 4 (e2 fAdd (e2 fAdd (eVar 3) (eC (.int 4))) (e2 fIx (e1 (fFld 4 "held") (eVar 0)) (eVar 3))))
  (sSeq (sDrop (eBM isL (m1 fAppend) (eVar 2) (aCons (eA (fMake 3 (fun ds => noErr (m_Frame_init ds))) (aCons (e2 fIx (e1 (fFld 4 "held") (eVar 0)) (e2 fAdd (eVar 3) (eC (.int 1)))) (aCons (e2 fIx (e1 (fFld 4 "held") (eVar 0)) (e2 fAdd (eVar 3) (eC (.int 2)))) (aCons (e2 fIx (e1 (fFld 4 "held") (eVar 0)) (e2 fAdd (eVar 3) (eC (.int 3)))) (aCons (eSl (e1 (fFld 4 "held") (eVar 0)) (oSo (e2 fAdd (eVar 3) (eC (.int 4)))) (oSo (eVar 4))) (aNil)))))) (aNil))))
  (sSet 3 (eVar 4)))
def fsl (n m : Nat) (p : Option D) (i : Int) (o : Option D) : Sl := [some (.ref n), p, some (.ref m), some (.int i), o]
theorem tF_eq {n m : Nat} {p o : Option D} {i : Int} {H : List Int} {S : Store} (hS : S[n]? = some (cuD H)) (h0 : 0 ≤ i) : tF (fsl n m p i o) S = some (.ok (decide (i + 4 ≤ H.length ∧ i + 4 + H.getD i.toNat 0 ≤ H.length)), S) := by
  have gf := fld_cu hS
  have gl := fLen_in H
  by_cases c : i + 4 ≤ (H.length : Int)
  · have gx := fIx_in (ns := H) h0 (by omega)
    generalize H.getD i.toNat 0 = k at *
    unfold tF fsl
    clear hS
    generalize ((H.length : Nat) : Int) = z at *
    by_cases c2 : i + 4 + k ≤ z
    · rw [decide_eq_true ⟨c, c2⟩]
      walk_at "ev*"
    · rw [decide_eq_false (fun h => c2 h.2)]
      walk_at "ev*"
  · rw [decide_eq_false (fun h => c h.1)]
    unfold tF fsl
    clear hS
    generalize ((H.length : Nat) : Int) = z at *
    walk_at "ev*"
theorem bF_eq {n : Nat} {p o : Option D} {i : Int} {H : List Int} {S1 : Store} {fs : List Fr} (hn : n < S1.length) (hS : S1[n]? = some (cuD H)) (h0 : 0 ≤ i) (hH : ∀ x ∈ H, 0 ≤ x) (hl : fs.length < 100000) (h1 : i + 4 ≤ H.length) (h2 : i + 4 + H.getD i.toNat 0 ≤ H.length) :
    bF (fsl n S1.length p i o) (WW' S1 fs) = some (.nx (fsl n S1.length p (i + 4 + H.getD i.toNat 0) (some (.int (i + 4 + H.getD i.toNat 0)))), WW' S1 (fs ++ [⟨H.getD (i + 1).toNat 0, H.getD (i + 2).toNat 0, H.getD (i + 3).toNat 0, (H.drop (i + 4).toNat).take (H.getD i.toNat 0).toNat⟩])) := by
  have hS' : (WW' S1 fs)[n]? = some (cuD H) := by
    have := WW_base hn fs []
    rw [List.append_nil] at this
    rw [this, hS]
  have gf := fld_cu hS'
  have gx := fIx_in (ns := H) h0 (by omega)
  have gx1 := fIx_in (ns := H) (i := i + 1) (by omega) (by omega)
  have gx2 := fIx_in (ns := H) (i := i + 2) (by omega) (by omega)
  have gx3 := fIx_in (ns := H) (i := i + 3) (by omega) (by omega)
  have hk := hH _ (List.mem_of_getElem? (getD_mem (ns := H) (i := i.toNat) (by omega)))
  have gs : ∀ S, fSl (inD1 H) (some (i + 4)) (some (i + 4 + H.getD i.toNat 0)) S = some (.ok (inD1 ((H.drop (i + 4).toNat).take (H.getD i.toNat 0).toNat)), S) := fun S => by
    show some (Except.ok (D.fl (cutD (H.map D.int) (some (i + 4)) (some (i + 4 + H.getD i.toNat 0)))), S) = _
    rw [cut_mid (by omega) (by omega) (by rw [List.length_map]; omega), show (i + 4 + H.getD i.toNat 0).toNat - (i + 4).toNat = (H.getD i.toNat 0).toNat by omega, ← List.map_drop, ← List.map_take]
    rfl
  have gm := frame_make ⟨H.getD (i + 1).toNat 0, H.getD (i + 2).toNat 0, H.getD (i + 3).toNat 0, (H.drop (i + 4).toNat).take (H.getD i.toNat 0).toNat⟩ (WW' S1 fs)
  simp only at gm
  have ga := app_ls (d := .ref (WW' S1 fs).length) (WW_get S1 fs [frD ⟨H.getD (i + 1).toNat 0, H.getD (i + 2).toNat 0, H.getD (i + 3).toNat 0, (H.drop (i + 4).toNat).take (H.getD i.toNat 0).toNat⟩]) (by rw [rfD_len]; omega)
  rw [WW_snoc] at ga
  have gi := isL_ls (WW_get0 S1 fs)
  unfold bF
  generalize WW' S1 fs ++ [frD ⟨H.getD (i + 1).toNat 0, H.getD (i + 2).toNat 0, H.getD (i + 3).toNat 0, (H.drop (i + 4).toNat).take (H.getD i.toNat 0).toNat⟩] = W1 at *
  generalize WW' S1 (fs ++ [⟨H.getD (i + 1).toNat 0, H.getD (i + 2).toNat 0, H.getD (i + 3).toNat 0, (H.drop (i + 4).toNat).take (H.getD i.toNat 0).toNat⟩]) = W2 at *
  generalize (WW' S1 fs).length = q at *
  generalize WW' S1 fs = W0' at *
  generalize inD1 ((H.drop (i + 4).toNat).take (H.getD i.toNat 0).toNat) = Y at *
  generalize H.getD i.toNat 0 = k at *
  generalize H.getD (i + 1).toNat 0 = k1 at *
  generalize H.getD (i + 2).toNat 0 = k2 at *
  generalize H.getD (i + 3).toNat 0 = k3 at *
  clear hS hS' hH hn hk hl
  refine Eq.trans (seq_nx (S' := W0') (l' := fsl n S1.length p i (some (.int (i + 4 + k)))) (by unfold fsl; clear gm ga gi gx1 gx2 gx3 gs; walk_at "ev*")) ?_
  refine Eq.trans (seq_nx (S' := W2) (l' := fsl n S1.length p i (some (.int (i + 4 + k)))) (by unfold fsl; clear gx; walk_at "ev*")) ?_
  unfold fsl
  clear gm ga gi gx1 gx2 gx3 gs gx gf
  walk_at "ev*"
end Law

/-! the cutter fed: the whole -/
namespace Law
open PySem PySem.Spec L2 Sim
theorem while_fed {n : Nat} {p : Option D} {H : List Int} {S1 : Store} (hn : n < S1.length) (hS : S1[n]? = some (cuD H)) (hH : ∀ x ∈ H, 0 ≤ x) (hN : H.length ≤ 50000) : ∀ (k' k : Nat) (i : Int) (fs : List Fr) (o : Option D), 0 ≤ i → i ≤ H.length → (H.length : Int) - i < k' → (H.length : Int) - i < k → (fs.length : Int) ≤ i →
    ∃ o', whileF tF bF k (fsl n S1.length p i o) (WW' S1 fs) = some (.nx (fsl n S1.length p (cutG H k' i fs).2 o'), WW' S1 (cutG H k' i fs).1)
  | 0, k, i, fs, o, _, _, h, h', _ => by omega
  | k' + 1, 0, i, fs, o, _, _, h, h', _ => by omega
  | k' + 1, k + 1, i, fs, o, h0, h1, hk', hk, hf => by
    have hS' : (WW' S1 fs)[n]? = some (cuD H) := by
      have := WW_base hn fs []
      rw [List.append_nil] at this
      rw [this, hS]
    unfold whileF
    rw [tF_eq hS' h0]
    simp only [bndS]
    by_cases c : i + 4 ≤ H.length ∧ i + 4 + H.getD i.toNat 0 ≤ H.length
    · have hk0 := hH _ (List.mem_of_getElem? (getD_mem (ns := H) (i := i.toNat) (by omega)))
      rw [decide_eq_true c, if_pos rfl, bF_eq hn hS h0 hH (by omega) c.1 c.2]
      simp only
      have er : cutG H (k' + 1) i fs = cutG H k' (i + 4 + H.getD i.toNat 0) (fs ++ [⟨H.getD (i + 1).toNat 0, H.getD (i + 2).toNat 0, H.getD (i + 3).toNat 0, (H.drop (i + 4).toNat).take (H.getD i.toNat 0).toNat⟩]) := by
        conv => lhs; unfold cutG
        rw [if_pos c]
      rw [er]
      exact while_fed hn hS hH hN k' k _ _ _ (by omega) c.2 (by omega) (by omega) (by rw [List.length_append]; show ((fs.length + 1 : Nat) : Int) ≤ _; omega)
    · rw [decide_eq_false c, if_neg (by decide)]
      have er : cutG H (k' + 1) i fs = (fs, i) := by
        conv => lhs; unfold cutG
        rw [if_neg c]
      rw [er]
      exact ⟨o, rfl⟩
theorem cutG_in {H : List Int} (hH : ∀ x ∈ H, 0 ≤ x) : ∀ (k : Nat) (i : Int) (fs : List Fr), 0 ≤ i → i ≤ H.length → 0 ≤ (cutG H k i fs).2 ∧ (cutG H k i fs).2 ≤ H.length
  | 0, i, fs, h0, h1 => ⟨h0, h1⟩
  | k + 1, i, fs, h0, h1 => by
    unfold cutG
    split
    · rename_i c
      have hk0 := hH _ (List.mem_of_getElem? (getD_mem (ns := H) (i := i.toNat) (by omega)))
      exact cutG_in hH k _ _ (by omega) c.2
    · exact ⟨h0, h1⟩
def cutH (H : List Int) : List Fr × List Int := ((cutG H (H.length + 1) 0 []).1, H.drop (cutG H (H.length + 1) 0 []).2.toNat)
theorem fed_eq {n : Nat} {H0 P : List Int} {S : Store} (hS : S[n]? = some (cuD H0)) (hH : ∀ x ∈ H0 ++ P, 0 ≤ x) (hN : H0.length + P.length ≤ 50000) :
    m_Cutter_fed [.ref n, inD1 P] S = some (.ok (.ref S.length), (WW' (S.set n (cuD (H0 ++ P))) (cutH (H0 ++ P)).1).set n (cuD (cutH (H0 ++ P)).2)) := by
  have hn : n < S.length := (List.getElem?_eq_some_iff.mp hS).1
  have gf := fld_cu hS
  have gp := put_cu (H' := H0 ++ P) hS
  have fi : ∀ S, fList (inD1 P) S = some (.ok (inD1 P), S) := fun S => rfl
  have fa : ∀ S, fAdd (inD1 H0) (inD1 P) S = some (.ok (inD1 (H0 ++ P)), S) := fun S => fAdd_in (by omega) S
  have hNN : (H0 ++ P).length ≤ 50000 := by rw [List.length_append]; exact hN
  generalize H0 ++ P = H at *
  have hl1 : (S.set n (cuD H)).length = S.length := List.length_set
  obtain ⟨o', lp⟩ := while_fed (n := n) (p := some (inD1 P)) (S1 := S.set n (cuD H)) (by rw [hl1]; exact hn) (List.getElem?_set_self hn) hH hNN (H.length + 1) fuelN 0 [] none (by decide) (by omega) (by omega) (by show (H.length : Int) - 0 < (1000000 : Nat); omega) (by decide)
  have ci := cutG_in hH (H.length + 1) 0 [] (by decide) (by omega)
  unfold cutH
  generalize cutG H (H.length + 1) 0 [] = r at *
  obtain ⟨fs, i⟩ := r
  simp only at lp ci ⊢
  rw [hl1] at lp
  have hS2 : (WW' (S.set n (cuD H)) fs)[n]? = some (cuD H) := by
    have := WW_base (S1 := S.set n (cuD H)) (n := n) (by rw [hl1]; exact hn) fs []
    rw [List.append_nil] at this
    rw [this, List.getElem?_set_self hn]
  have g3 := fld_cu hS2
  have g4 := put_cu (H' := H.drop i.toNat) hS2
  have gs : ∀ S, fSl (inD1 H) (some i) none S = some (.ok (inD1 (H.drop i.toNat)), S) := fun S => by
    show some (Except.ok (D.fl (cutD (H.map D.int) (some i) none)), S) = _
    rw [cut_lo ci.1 (by rw [List.length_map]; exact ci.2), ← List.map_drop]
    rfl
  unfold m_Cutter_fed b_Cutter_fed
  refine fn_rt rfl ?_
  refine Eq.trans (seq_nx (S' := S.set n (cuD H)) (l' := [some (.ref n), some (inD1 P), none, none, none]) (by clear lp g3 g4 gs hH hS hS2 ci; walk_at "ev*")) ?_
  refine Eq.trans (seq_nx (S' := WW' (S.set n (cuD H)) []) (l' := [some (.ref n), some (inD1 P), some (.ref S.length), none, none]) (by
    rw [← hl1]
    rfl)) ?_
  refine Eq.trans (seq_nx (S' := WW' (S.set n (cuD H)) []) (l' := fsl n S.length (some (inD1 P)) 0 none) rfl) ?_
  refine Eq.trans (seq_nx lp) ?_
  clear lp gf gp fa fi hH hS hS2 ci
  generalize WW' (S.set n (cuD H)) fs = W at *
  generalize W.set n (cuD (H.drop i.toNat)) = W2 at *
  generalize inD1 (H.drop i.toNat) = Y at *
  unfold fsl
  refine Eq.trans (seq_nx (S' := W2) (l' := [some (.ref n), some (inD1 P), some (.ref S.length), some (.int i), o']) (by walk_at "ev*")) ?_
  clear g3 g4 gs
  walk_at "ev*"
end Law

/-! cutting a line by pieces: the plain law -/
namespace Law
open PySem PySem.Spec L2 Sim
def lineL : List Fr → List Int → List Int
  | [], T => T
  | F :: t, T => frL F ++ lineL t T
def Short (T : List Int) : Prop := T.length < 4 ∨ (T.length : Int) < 4 + T.getD 0 0
def FOk (F : Fr) : Prop := 0 ≤ F.k ∧ 0 ≤ F.f ∧ 0 ≤ F.t ∧ (∀ x ∈ F.b, 0 ≤ x) ∧ F.b.length ≤ 300
theorem frL_len (F : Fr) : (frL F).length = 4 + F.b.length := by unfold frL; rw [List.length_append]; rfl
theorem cutG_one {pre : List Int} {F : Fr} {post : List Int} {k : Nat} {acc : List Fr} : cutG (pre ++ (frL F ++ post)) (k + 1) (pre.length : Nat) acc = cutG (pre ++ (frL F ++ post)) k ((pre.length : Nat) + (4 + F.b.length : Nat)) (acc ++ [F]) := by
  have hg : ∀ j : Nat, (pre ++ (frL F ++ post)).getD (((pre.length : Nat) : Int) + (j : Nat)).toNat 0 = (frL F ++ post).getD j 0 := fun j => by
    rw [show (((pre.length : Nat) : Int) + (j : Nat)).toNat = pre.length + j by omega, List.getD_eq_getElem?_getD, List.getElem?_append_right (by omega), List.getD_eq_getElem?_getD, show pre.length + j - pre.length = j by omega]
  have g0 := hg 0
  have g1 := hg 1
  have g2 := hg 2
  have g3 := hg 3
  have f0 : (frL F ++ post).getD 0 0 = F.b.length := rfl
  have f1 : (frL F ++ post).getD 1 0 = F.k := rfl
  have f2 : (frL F ++ post).getD 2 0 = F.f := rfl
  have f3 : (frL F ++ post).getD 3 0 = F.t := rfl
  rw [f0] at g0; rw [f1] at g1; rw [f2] at g2; rw [f3] at g3
  have hl : (pre ++ (frL F ++ post)).length = pre.length + (4 + F.b.length + post.length) := by rw [List.length_append, List.length_append, frL_len]
  have g0' : (pre ++ (frL F ++ post)).getD ((pre.length : Nat) : Int).toNat 0 = F.b.length := by rw [← g0]; congr 1
  have hb : ((pre ++ (frL F ++ post)).drop (((pre.length : Nat) : Int) + 4).toNat).take ((F.b.length : Nat) : Int).toNat = F.b := by
    rw [show (((pre.length : Nat) : Int) + 4).toNat = pre.length + 4 by omega, Int.toNat_natCast, List.drop_append, List.drop_eq_nil_of_le (by omega), List.nil_append, show pre.length + 4 - pre.length = 4 by omega]
    show (F.b ++ post).take F.b.length = F.b
    exact List.take_left' rfl
  conv => lhs; unfold cutG
  rw [g0', if_pos ⟨by rw [hl]; omega, by rw [hl]; omega⟩]
  have g1' : (pre ++ (frL F ++ post)).getD (((pre.length : Nat) : Int) + 1).toNat 0 = F.k := g1
  have g2' : (pre ++ (frL F ++ post)).getD (((pre.length : Nat) : Int) + 2).toNat 0 = F.f := g2
  have g3' : (pre ++ (frL F ++ post)).getD (((pre.length : Nat) : Int) + 3).toNat 0 = F.t := g3
  rw [g1', g2', g3', hb]
  congr 1
  omega
end Law

/-! an end, as plain data -/
namespace Law
open PySem PySem.Spec L2 Sim
section
variable {α : Type}
def aget : List (Int × α) → Int → Option α
  | [], _ => none
  | (k, v) :: r, x => if k = x then some v else aget r x
def aput : List (Int × α) → Int → α → List (Int × α)
  | [], x, v => [(x, v)]
  | (k, u) :: r, x, v => if k = x then (k, v) :: r else (k, u) :: aput r x v
theorem aget_put (l : List (Int × α)) (x y : Int) (v : α) : aget (aput l x v) y = if x = y then some v else aget l y := by
  induction l with
  | nil =>
    unfold aput aget
    rfl
  | cons p r ih =>
    obtain ⟨k, u⟩ := p
    unfold aput
    by_cases c : k = x
    · rw [if_pos c]
      unfold aget
      by_cases d : k = y
      · rw [if_pos d, if_pos (by omega)]
      · rw [if_neg d, if_neg (by omega), if_neg d]
    · rw [if_neg c]
      unfold aget
      by_cases d : k = y
      · rw [if_pos d, if_neg (by omega), if_pos d]
      · rw [if_neg d, ih, if_neg d]
theorem aput_keys (l : List (Int × α)) (x : Int) (v : α) : (aput l x v).map (·.1) = if (aget l x).isSome = true then l.map (·.1) else l.map (·.1) ++ [x] := by
  induction l with
  | nil => rfl
  | cons p r ih =>
    obtain ⟨k, u⟩ := p
    unfold aput aget
    by_cases c : k = x
    · rw [if_pos c, if_pos c]
      rfl
    · rw [if_neg c, if_neg c, List.map_cons, ih]
      split <;> rfl
theorem aget_keys (l : List (Int × α)) (x : Int) : (aget l x).isSome = decide (x ∈ l.map (·.1)) := by
  induction l with
  | nil => rfl
  | cons p r ih =>
    obtain ⟨k, u⟩ := p
    unfold aget
    by_cases c : k = x
    · subst c; simp
    · rw [if_neg c, ih]
      simp [Ne.symm c]
theorem aget_mem {l : List (Int × α)} {x : Int} {v : α} (h : aget l x = some v) : (x, v) ∈ l := by
  induction l with
  | nil => cases h
  | cons p r ih =>
    obtain ⟨k, u⟩ := p
    unfold aget at h
    by_cases c : k = x
    · rw [if_pos c] at h
      cases h
      subst c
      exact List.mem_cons_self
    · rw [if_neg c] at h
      exact List.mem_cons_of_mem _ (ih h)
theorem aput_some {l : List (Int × α)} {x : Int} {u v : α} (h : aget l x = some u) : (aput l x v).map (·.1) = l.map (·.1) := by rw [aput_keys, h]; rfl
theorem aput_none {l : List (Int × α)} {x : Int} {v : α} (h : aget l x = none) : aput l x v = l ++ [(x, v)] := by
  induction l with
  | nil => rfl
  | cons p r ih =>
    obtain ⟨k, u⟩ := p
    unfold aget at h
    by_cases c : k = x
    · rw [if_pos c] at h; cases h
    · rw [if_neg c] at h
      unfold aput
      rw [if_neg c, ih h]
      rfl
end
structure Tk where
  num : Int
  may : Int
  gives : Int
  sh : Bool
  hh : Bool
  se : Bool
  he : Bool
  xh : Bool
  xt : Bool
  rank : Int
  served : Int
  waits : List Int
  eb : Bool
def Tk.new (n c : Int) : Tk := ⟨n, c, c, false, false, false, false, false, false, 4, 0, [], false⟩
def Tk.shut (T : Tk) : Bool := T.xh || T.xt
def Tk.drop (T : Tk) : Tk := { T with waits := [], eb := false }
def Tk.can (T L : Tk) : Bool := if T.shut || T.se then false else if T.waits = [] then T.eb else decide (0 < T.may) && decide (0 < L.may)
structure EA where
  side : Int
  line : Tk
  talks : List (Int × Tk)
  told : List Pr
  heard : List Pr
  held : List Int
  out : List (List Int)
  broken : Str
  turns : Int
  mine : Int
  theirs : Int
  left : Option Int
  away : Option Int
def EA.new (side : Int) : EA := ⟨side, Tk.new 0 60, [], [], [], [], [], "", 0, 0, 0, none, none⟩
def b2i (b : Bool) : Int := if b then 1 else 0
def EA.known (E : EA) (k : Int) : Except Str Tk := if E.broken ≠ "" then .error "broken" else match aget E.talks k with
  | none => .error "talk"
  | some T => .ok T
def EA.unshut (E : EA) (k : Int) : Except Str Tk := match E.known k with
  | .error w => .error w
  | .ok T => if T.shut = true then .error "shut" else .ok T
def EA.setT (E : EA) (k : Int) (T : Tk) : EA := { E with talks := aput E.talks k T }
def EA.say (E : EA) (k : Int) (ns : List Int) (last : Bool) : Except Str EA := match E.unshut k with
  | .error w => .error w
  | .ok T => if T.sh = false then .error "early" else if T.se = true ∨ T.eb = true then .error "ended" else .ok (E.setT k { T with waits := T.waits ++ ns, eb := last })
def EA.headed (E : EA) (k : Int) (T : Tk) (hd : List Pr) (last : Bool) : EA :=
  { E with told := (tellH E.told hd).2, out := E.out ++ [frL ⟨1, b2i last, T.num, (tellH E.told hd).1⟩], talks := aput E.talks k { T with sh := true, se := last } }
def EA.next (E : EA) : Int := if E.mine = 0 then 1 + E.side else E.mine + 2
def EA.begin (E : EA) (hd : List Pr) (c last : Bool) : Except Str EA :=
  if E.broken ≠ "" then .error "broken" else if E.away ≠ none then .error "away" else if 250 < E.next then .error "many" else if c = false then .error "head" else
  .ok (({ E with mine := E.next, talks := aput E.talks E.next (Tk.new E.next 20) } : EA).headed E.next (Tk.new E.next 20) hd last)
def EA.answer (E : EA) (k : Int) (hd : List Pr) (c last : Bool) : Except Str EA := match E.unshut k with
  | .error w => .error w
  | .ok T => if T.sh = true then .error "twice" else if c = false then .error "head" else .ok (E.headed k T hd last)
def EA.grant (E : EA) (k m : Int) : Except Str EA :=
  if E.broken ≠ "" then .error "broken" else
  if k = 0 then (if E.line.he = true then .error "ended" else if m < 1 ∨ 10000 < E.line.gives + m then .error "many" else
    .ok { E with line := { E.line with gives := E.line.gives + m }, out := E.out ++ [frL ⟨3, 0, k, [m / 256, m % 256]⟩] })
  else match E.unshut k with
    | .error w => .error w
    | .ok T => if T.he = true then .error "ended" else if m < 1 ∨ 10000 < T.gives + m then .error "many" else
      .ok { E with talks := aput E.talks k { T with gives := T.gives + m }, out := E.out ++ [frL ⟨3, 0, k, [m / 256, m % 256]⟩] }
def EA.reset (E : EA) (k why : Int) : Except Str EA := match E.unshut k with
  | .error w => .error w
  | .ok T => if (T.se = true ∨ T.eb = true) ∧ T.he = true then .error "ended" else
    .ok { E with talks := aput E.talks k { T with xh := true }.drop, out := E.out ++ [frL ⟨4, 0, k, [why]⟩] }
def EA.askRank (E : EA) (k r : Int) : Except Str EA := match E.unshut k with
  | .error w => .error w
  | .ok T => if T.he = true then .error "ended" else if ¬ (0 ≤ r ∧ r ≤ 7) then .error "many" else .ok { E with out := E.out ++ [frL ⟨5, 0, k, [r]⟩] }
def EA.leave (E : EA) : Except Str EA :=
  if E.broken ≠ "" then .error "broken" else if E.left ≠ none then .error "away" else .ok { E with left := some E.theirs, out := E.out ++ [frL ⟨6, 0, 0, [E.theirs]⟩] }
def EA.keys (E : EA) : List Int := srtI (E.talks.map (·.1))
def bestOf (E : EA) : List Int → Option (Int × Tk) → Option (Int × Tk)
  | [], o => o
  | k :: r, o => match aget E.talks k with
    | none => bestOf E r o
    | some T => if T.can E.line = true then (match o with
      | none => bestOf E r (some (k, T))
      | some (_, B) => if T.rank < B.rank ∨ T.rank = B.rank ∧ T.served < B.served then bestOf E r (some (k, T)) else bestOf E r o) else bestOf E r o
def EA.many (E : EA) (T : Tk) : Int := minI (minI (minI T.waits.length T.may) E.line.may) 10
def EA.bodyT (E : EA) (T : Tk) : Tk :=
  { T with waits := T.waits.drop (E.many T).toNat, may := T.may - E.many T, se := decide (T.waits.drop (E.many T).toNat = []) && T.eb, served := E.turns + 1 }
def EA.body (E : EA) (k : Int) (T : Tk) : List Int × EA :=
  (frL ⟨2, b2i (E.bodyT T).se, T.num, T.waits.take (E.many T).toNat⟩,
    { E with talks := aput E.talks k (E.bodyT T), line := { E.line with may := E.line.may - E.many T }, turns := E.turns + 1 })
def EA.nextFrame (E : EA) : List Int × EA :=
  if E.broken ≠ "" then ([], E) else match E.out with
    | F :: r => (F, { E with out := r })
    | [] => match bestOf E E.keys none with
      | none => ([], E)
      | some (k, T) => E.body k T
def EA.leftOf (E : EA) (k : Int) : Except Str Int := if k = 0 then .ok E.line.may else match aget E.talks k with
  | none => .error "talk"
  | some T => .ok T.may
def EA.waiting (E : EA) (k : Int) : Except Str Int := match aget E.talks k with
  | none => .error "talk"
  | some T => .ok T.waits.length
/-! what an end makes of a frame -/
inductive Ev where
  | begun (t : Int) (hd : List Pr) | answer (t : Int) (hd : List Pr) | body (t : Int) (ns : List Int) | ended (t : Int) | credit (t m : Int) | reset (t n : Int) | rank (t r : Int) | away (n : Int) | broken (w : Str)
def sizeOf' (k d : Int) : Int := (tabGet [(3, 2), (4, 1), (5, 1), (6, 1)] k).getD d
def hasSize (k : Int) : Bool := (tabGet [(3, 2), (4, 1), (5, 1), (6, 1)] k).isSome
def Fr.amount (F : Fr) : Int := 256 * F.b.getD 0 0 + F.b.getD 1 0
def whyForm (F : Fr) : Str :=
  if ¬ (1 ≤ F.k ∧ F.k ≤ 6) then "kind" else if 250 < (F.b.length : Int) ∨ (F.b.length : Int) ≠ sizeOf' F.k F.b.length then "size" else
  if 1 < F.f ∨ F.f = 1 ∧ hasSize F.k = true then "flag" else ""
def EA.isNew (E : EA) (F : Fr) : Bool :=
  if F.k ≠ 1 ∨ (aget E.talks F.t).isSome = true ∨ ¬ (1 ≤ F.t ∧ F.t ≤ 250) then false else decide ((F.t + E.side) % 2 = 0) && decide (E.theirs < F.t)
def EA.whyNumber (E : EA) (F : Fr) : Str :=
  if F.k = 6 then (if F.t ≠ 0 ∨ E.mine < F.b.getD 0 0 ∨ 0 < F.b.getD 0 0 ∧ (F.b.getD 0 0 + E.side) % 2 = 0 then "number" else "") else
  if (F.t = 0 ∧ F.k = 3) ∨ (aget E.talks F.t).isSome = true ∨ E.isNew F = true then "" else "number"
def EA.whyBody (E : EA) (T : Tk) (n : Int) : Str :=
  if T.xh = false ∧ T.hh = false then "early" else if T.xh = false ∧ T.he = true then "ended" else if T.xh = false ∧ T.gives < n then "credit" else if E.line.gives < n then "credit" else ""
def EA.talkAt (E : EA) (t : Int) : Option Tk := if 0 < t then aget E.talks t else some E.line
def EA.whyTalk (E : EA) (F : Fr) : Str :=
  if F.k = 6 then (if E.away ≠ none then "away" else "") else match E.talkAt F.t with
    | none => ""
    | some T => if T.xt = true then "shut" else if F.k = 2 then E.whyBody T F.b.length else if T.xh = true then "" else
      if F.k = 1 ∧ T.hh = true then "twice" else if F.k = 3 ∧ (F.amount = 0 ∨ 10000 < T.may + F.amount) then "many" else if F.k = 5 ∧ 7 < F.b.getD 0 0 then "many" else ""
def EA.whyNot (E : EA) (F : Fr) : Str := if whyForm F ≠ "" then whyForm F else if E.whyNumber F ≠ "" then E.whyNumber F else E.whyTalk F
def headT (E : EA) (F : Fr) : Tk := match aget E.talks F.t with
  | some T => T
  | none => { Tk.new F.t 20 with xh := E.left.isSome }
def EA.tookHead (E : EA) (F : Fr) : EA × List Ev :=
  if ¬ ((readH E.heard F.b).1 = true ∧ (readH E.heard F.b).2.1.length ≤ 6) then ({ E with heard := (readH E.heard F.b).2.2, broken := "head" }, [.broken "head"]) else
  if (headT E F).xh = true then
    ({ E with heard := (readH E.heard F.b).2.2, talks := if (aget E.talks F.t).isSome = true then E.talks else aput E.talks F.t (headT E F), theirs := if (aget E.talks F.t).isSome = true then E.theirs else F.t }, [])
  else ({ E with heard := (readH E.heard F.b).2.2, talks := aput E.talks F.t { headT E F with hh := true, he := decide (F.f = 1) }, theirs := if (aget E.talks F.t).isSome = true then E.theirs else F.t },
    (if (aget E.talks F.t).isSome = true then Ev.answer F.t (readH E.heard F.b).2.1 else Ev.begun F.t (readH E.heard F.b).2.1) :: if F.f = 1 then [.ended F.t] else [])
def EA.tookBody (E : EA) (F : Fr) (T : Tk) : EA × List Ev :=
  if T.xh = true then ({ E with line := { E.line with gives := E.line.gives - F.b.length } }, []) else
  ({ E with line := { E.line with gives := E.line.gives - F.b.length }, talks := aput E.talks F.t { T with gives := T.gives - F.b.length, he := decide (F.f = 1) } },
    (if F.b = [] then [] else [.body F.t F.b]) ++ if F.f = 1 then [.ended F.t] else [])
def shutT (T : Tk) : Tk := { T with xt := true }.drop
def EA.tookAway (E : EA) (n : Int) : EA :=
  { E with away := some n, talks := E.talks.map fun p => if n < p.1 ∧ p.1 ≤ E.mine ∧ (p.1 + E.side) % 2 = 1 then (p.1, shutT p.2) else p }
def EA.putAt (E : EA) (t : Int) (T : Tk) : EA := if 0 < t then { E with talks := aput E.talks t T } else { E with line := T }
def EA.tookOther (E : EA) (F : Fr) (T : Tk) : EA × List Ev :=
  if F.k = 4 then (E.putAt F.t (shutT T), if T.xh = true then [] else [.reset F.t (F.b.getD 0 0)]) else
  if T.xh = true then (E, []) else
  if F.k = 5 then (E.putAt F.t { T with rank := F.b.getD 0 0 }, [.rank F.t (F.b.getD 0 0)]) else
  (E.putAt F.t { T with may := T.may + F.amount }, [.credit F.t F.amount])
def EA.took (E : EA) (F : Fr) : EA × List Ev :=
  if E.whyNot F ≠ "" then ({ E with broken := E.whyNot F }, [.broken (E.whyNot F)]) else
  if F.k = 1 then E.tookHead F else
  if F.k = 2 then (match aget E.talks F.t with
    | some T => E.tookBody F T
    | none => (E, [])) else
  if F.k = 6 then (E.tookAway (F.b.getD 0 0), [.away (F.b.getD 0 0)]) else
  match E.talkAt F.t with
    | some T => E.tookOther F T
    | none => (E, [])
def EA.tooks : List Fr → EA → EA × List Ev
  | [], E => (E, [])
  | F :: r, E => if (E.took F).1.broken ≠ "" then E.took F else ((EA.tooks r (E.took F).1).1, (E.took F).2 ++ (EA.tooks r (E.took F).1).2)
def EA.hear (E : EA) (ns : List Int) : EA × List Ev :=
  if E.broken ≠ "" then (E, []) else EA.tooks (cutH (E.held ++ ns)).1 { E with held := (cutH (E.held ++ ns)).2 }
end Law

/-! the cells of an end, read and written -/
namespace Law
open PySem PySem.Spec L2 Sim
def optD : Option Int → D
  | none => .non
  | some i => .int i
theorem optD_n : optD none = .non := rfl
theorem optD_s (i : Int) : optD (some i) = .int i := rfl
theorem isNot_opt (o : Option Int) (S : Store) : fIsNot (optD o) .non S = some (.ok (.bl (decide (o ≠ none))), S) := by cases o <;> rfl
theorem is_opt (o : Option Int) (S : Store) : fIs (optD o) .non S = some (.ok (.bl (decide (o = none))), S) := by cases o <;> rfl
theorem is_ref (n : Nat) (S : Store) : fIs (.ref n) .non S = some (.ok (.bl false), S) := rfl
theorem is_non (S : Store) : fIs .non .non S = some (.ok (.bl true), S) := rfl
theorem isNot_ref (n : Nat) (S : Store) : fIsNot (.ref n) .non S = some (.ok (.bl true), S) := rfl
theorem isNot_non (S : Store) : fIsNot .non .non S = some (.ok (.bl false), S) := rfl
def tkC (T : Tk) : Cell := ⟨.ins 6 [("number", .int T.num), ("may", .int T.may), ("gives", .int T.gives), ("said_head", .bl T.sh), ("heard_head", .bl T.hh), ("said_end", .bl T.se), ("heard_end", .bl T.he), ("shut_here", .bl T.xh), ("shut_there", .bl T.xt), ("rank", .int T.rank), ("served", .int T.served), ("waits", inD1 T.waits), ("ends_behind", .bl T.eb)], false⟩
theorem rd_tkC_number (T : Tk) : rdF 6 "number" (some (tkC T)) = some (.int T.num) := rfl
theorem wr_tkC_number (T : Tk) (v : Int) : wrF 6 "number" (.int v) (some (tkC T)) = some (tkC { T with num := v }) := rfl
theorem rd_tkC_may (T : Tk) : rdF 6 "may" (some (tkC T)) = some (.int T.may) := rfl
theorem wr_tkC_may (T : Tk) (v : Int) : wrF 6 "may" (.int v) (some (tkC T)) = some (tkC { T with may := v }) := rfl
theorem rd_tkC_gives (T : Tk) : rdF 6 "gives" (some (tkC T)) = some (.int T.gives) := rfl
theorem wr_tkC_gives (T : Tk) (v : Int) : wrF 6 "gives" (.int v) (some (tkC T)) = some (tkC { T with gives := v }) := rfl
theorem rd_tkC_said_head (T : Tk) : rdF 6 "said_head" (some (tkC T)) = some (.bl T.sh) := rfl
theorem wr_tkC_said_head (T : Tk) (v : Bool) : wrF 6 "said_head" (.bl v) (some (tkC T)) = some (tkC { T with sh := v }) := rfl
theorem rd_tkC_heard_head (T : Tk) : rdF 6 "heard_head" (some (tkC T)) = some (.bl T.hh) := rfl
theorem wr_tkC_heard_head (T : Tk) (v : Bool) : wrF 6 "heard_head" (.bl v) (some (tkC T)) = some (tkC { T with hh := v }) := rfl
theorem rd_tkC_said_end (T : Tk) : rdF 6 "said_end" (some (tkC T)) = some (.bl T.se) := rfl
theorem wr_tkC_said_end (T : Tk) (v : Bool) : wrF 6 "said_end" (.bl v) (some (tkC T)) = some (tkC { T with se := v }) := rfl
theorem rd_tkC_heard_end (T : Tk) : rdF 6 "heard_end" (some (tkC T)) = some (.bl T.he) := rfl
theorem wr_tkC_heard_end (T : Tk) (v : Bool) : wrF 6 "heard_end" (.bl v) (some (tkC T)) = some (tkC { T with he := v }) := rfl
theorem rd_tkC_shut_here (T : Tk) : rdF 6 "shut_here" (some (tkC T)) = some (.bl T.xh) := rfl
theorem wr_tkC_shut_here (T : Tk) (v : Bool) : wrF 6 "shut_here" (.bl v) (some (tkC T)) = some (tkC { T with xh := v }) := rfl
theorem rd_tkC_shut_there (T : Tk) : rdF 6 "shut_there" (some (tkC T)) = some (.bl T.xt) := rfl
theorem wr_tkC_shut_there (T : Tk) (v : Bool) : wrF 6 "shut_there" (.bl v) (some (tkC T)) = some (tkC { T with xt := v }) := rfl
theorem rd_tkC_rank (T : Tk) : rdF 6 "rank" (some (tkC T)) = some (.int T.rank) := rfl
theorem wr_tkC_rank (T : Tk) (v : Int) : wrF 6 "rank" (.int v) (some (tkC T)) = some (tkC { T with rank := v }) := rfl
theorem rd_tkC_served (T : Tk) : rdF 6 "served" (some (tkC T)) = some (.int T.served) := rfl
theorem wr_tkC_served (T : Tk) (v : Int) : wrF 6 "served" (.int v) (some (tkC T)) = some (tkC { T with served := v }) := rfl
theorem rd_tkC_waits (T : Tk) : rdF 6 "waits" (some (tkC T)) = some (inD1 T.waits) := rfl
theorem wr_tkC_waits (T : Tk) (v : (List Int)) : wrF 6 "waits" (inD1 v) (some (tkC T)) = some (tkC { T with waits := v }) := rfl
theorem we_tkC_waits (T : Tk) : wrF 6 "waits" (.fl []) (some (tkC T)) = some (tkC { T with waits := [] }) := rfl
theorem rd_tkC_ends_behind (T : Tk) : rdF 6 "ends_behind" (some (tkC T)) = some (.bl T.eb) := rfl
theorem wr_tkC_ends_behind (T : Tk) (v : Bool) : wrF 6 "ends_behind" (.bl v) (some (tkC T)) = some (tkC { T with eb := v }) := rfl
theorem mt_tkC_is_shut (T : Tk) : isI 6 "is_shut" (some (tkC T)) = true := rfl
theorem mt_tkC_drop (T : Tk) : isI 6 "drop" (some (tkC T)) = true := rfl
theorem mt_tkC_can_send (T : Tk) : isI 6 "can_send" (some (tkC T)) = true := rfl
def enC (b : Nat) (E : EA) : Cell := ⟨.ins 7 [("side", .int E.side), ("line", .ref (b + 1)), ("talks", .ref (b + 2)), ("told", .ref (b + 3)), ("heard", .ref (b + 4)), ("cutter", .ref (b + 5)), ("out", .ref (b + 6)), ("broken", .str E.broken), ("turns", .int E.turns), ("mine", .int E.mine), ("theirs", .int E.theirs), ("left_at", optD E.left), ("away_at", optD E.away)], false⟩
theorem rd_enC_side (b : Nat) (E : EA) : rdF 7 "side" (some (enC b E)) = some (.int E.side) := rfl
theorem wr_enC_side (b : Nat) (E : EA) (v : Int) : wrF 7 "side" (.int v) (some (enC b E)) = some (enC b { E with side := v }) := rfl
theorem rd_enC_line (b : Nat) (E : EA) : rdF 7 "line" (some (enC b E)) = some (.ref (b + 1)) := rfl
theorem rd_enC_talks (b : Nat) (E : EA) : rdF 7 "talks" (some (enC b E)) = some (.ref (b + 2)) := rfl
theorem rd_enC_told (b : Nat) (E : EA) : rdF 7 "told" (some (enC b E)) = some (.ref (b + 3)) := rfl
theorem rd_enC_heard (b : Nat) (E : EA) : rdF 7 "heard" (some (enC b E)) = some (.ref (b + 4)) := rfl
theorem rd_enC_cutter (b : Nat) (E : EA) : rdF 7 "cutter" (some (enC b E)) = some (.ref (b + 5)) := rfl
theorem rd_enC_out (b : Nat) (E : EA) : rdF 7 "out" (some (enC b E)) = some (.ref (b + 6)) := rfl
theorem rd_enC_broken (b : Nat) (E : EA) : rdF 7 "broken" (some (enC b E)) = some (.str E.broken) := rfl
theorem wr_enC_broken (b : Nat) (E : EA) (v : Str) : wrF 7 "broken" (.str v) (some (enC b E)) = some (enC b { E with broken := v }) := rfl
theorem rd_enC_turns (b : Nat) (E : EA) : rdF 7 "turns" (some (enC b E)) = some (.int E.turns) := rfl
theorem wr_enC_turns (b : Nat) (E : EA) (v : Int) : wrF 7 "turns" (.int v) (some (enC b E)) = some (enC b { E with turns := v }) := rfl
theorem rd_enC_mine (b : Nat) (E : EA) : rdF 7 "mine" (some (enC b E)) = some (.int E.mine) := rfl
theorem wr_enC_mine (b : Nat) (E : EA) (v : Int) : wrF 7 "mine" (.int v) (some (enC b E)) = some (enC b { E with mine := v }) := rfl
theorem rd_enC_theirs (b : Nat) (E : EA) : rdF 7 "theirs" (some (enC b E)) = some (.int E.theirs) := rfl
theorem wr_enC_theirs (b : Nat) (E : EA) (v : Int) : wrF 7 "theirs" (.int v) (some (enC b E)) = some (enC b { E with theirs := v }) := rfl
theorem rd_enC_left_at (b : Nat) (E : EA) : rdF 7 "left_at" (some (enC b E)) = some (optD E.left) := rfl
theorem wr_enC_left_at (b : Nat) (E : EA) (v : (Option Int)) : wrF 7 "left_at" (optD v) (some (enC b E)) = some (enC b { E with left := v }) := rfl
theorem wi_enC_left_at (b : Nat) (E : EA) (v : Int) : wrF 7 "left_at" (.int v) (some (enC b E)) = some (enC b { E with left := some v }) := rfl
theorem rd_enC_away_at (b : Nat) (E : EA) : rdF 7 "away_at" (some (enC b E)) = some (optD E.away) := rfl
theorem wr_enC_away_at (b : Nat) (E : EA) (v : (Option Int)) : wrF 7 "away_at" (optD v) (some (enC b E)) = some (enC b { E with away := v }) := rfl
theorem wi_enC_away_at (b : Nat) (E : EA) (v : Int) : wrF 7 "away_at" (.int v) (some (enC b E)) = some (enC b { E with away := some v }) := rfl
theorem mt_enC_known (b : Nat) (E : EA) : isI 7 "known" (some (enC b E)) = true := rfl
theorem mt_enC_unshut (b : Nat) (E : EA) : isI 7 "unshut" (some (enC b E)) = true := rfl
theorem mt_enC_put_head (b : Nat) (E : EA) : isI 7 "put_head" (some (enC b E)) = true := rfl
theorem mt_enC_begin (b : Nat) (E : EA) : isI 7 "begin" (some (enC b E)) = true := rfl
theorem mt_enC_answer (b : Nat) (E : EA) : isI 7 "answer" (some (enC b E)) = true := rfl
theorem mt_enC_say (b : Nat) (E : EA) : isI 7 "say" (some (enC b E)) = true := rfl
theorem mt_enC_grant (b : Nat) (E : EA) : isI 7 "grant" (some (enC b E)) = true := rfl
theorem mt_enC_reset (b : Nat) (E : EA) : isI 7 "reset" (some (enC b E)) = true := rfl
theorem mt_enC_ask_rank (b : Nat) (E : EA) : isI 7 "ask_rank" (some (enC b E)) = true := rfl
theorem mt_enC_leave (b : Nat) (E : EA) : isI 7 "leave" (some (enC b E)) = true := rfl
theorem mt_enC_next_frame (b : Nat) (E : EA) : isI 7 "next_frame" (some (enC b E)) = true := rfl
theorem mt_enC_body_of (b : Nat) (E : EA) : isI 7 "body_of" (some (enC b E)) = true := rfl
theorem mt_enC_hear (b : Nat) (E : EA) : isI 7 "hear" (some (enC b E)) = true := rfl
theorem mt_enC_left (b : Nat) (E : EA) : isI 7 "left" (some (enC b E)) = true := rfl
theorem mt_enC_waiting (b : Nat) (E : EA) : isI 7 "waiting" (some (enC b E)) = true := rfl
theorem rd_frD_kind (F : Fr) : rdF 3 "kind" (some (frD F)) = some (.int F.k) := rfl
theorem rd_frD_flag (F : Fr) : rdF 3 "flag" (some (frD F)) = some (.int F.f) := rfl
theorem rd_frD_talk (F : Fr) : rdF 3 "talk" (some (frD F)) = some (.int F.t) := rfl
theorem rd_frD_numbers (F : Fr) : rdF 3 "numbers" (some (frD F)) = some (inD1 F.b) := rfl
theorem mt_cuD_fed (H : List Int) : isI 4 "fed" (some (cuD H)) = true := rfl
theorem rd_shD (ps : List Pr) : rdF 5 "pairs" (some (shD ps)) = some (psD ps) := rfl
def dcC (ad : List (Int × Nat)) : Cell := ⟨.dct (ad.map fun p => ((.inl p.1 : Key), D.ref p.2)), false⟩
def refD : Option Nat → Option D
  | none => none
  | some a => some (.ref a)
theorem valD_ad (ad : List (Int × Nat)) (k : Int) : valD (ad.map fun p => ((.inl p.1 : Key), D.ref p.2)) (.inl k) = refD (aget ad k) := by
  induction ad with
  | nil => rfl
  | cons p r ih =>
    obtain ⟨x, a⟩ := p
    by_cases c : x = k
    · subst c
      simp [valD, List.find?_cons, aget, refD]
    · have e1 : valD (((.inl x : Key), D.ref a) :: r.map fun p => ((.inl p.1 : Key), D.ref p.2)) (.inl k) = valD (r.map fun p => ((.inl p.1 : Key), D.ref p.2)) (.inl k) := by
        simp [valD, List.find?_cons, c]
      show valD (((.inl x : Key), D.ref a) :: r.map fun p => ((.inl p.1 : Key), D.ref p.2)) (.inl k) = _
      rw [e1, ih, aget, if_neg c]
theorem in_dcC {ad : List (Int × Nat)} {n : Nat} {S : Store} (h : S[n]? = some (dcC ad)) (k : Int) : fIn (.int k) (.ref n) S = some (.ok (.bl (aget ad k).isSome), S) := by
  rw [in_rr (.int k) S h]
  show blK (some (valD _ (.inl k)).isSome) S = _
  rw [valD_ad]
  cases aget ad k <;> rfl
theorem notIn_dcC {ad : List (Int × Nat)} {n : Nat} {S : Store} (h : S[n]? = some (dcC ad)) (k : Int) : fNotIn (.int k) (.ref n) S = some (.ok (.bl (!(aget ad k).isSome)), S) := by
  rw [notIn_rr (.int k) S h]
  show blK (some (!(valD _ (.inl k)).isSome)) S = _
  rw [valD_ad]
  cases aget ad k <;> rfl
theorem ix_dcC (ad : List (Int × Nat)) (k : Int) : ixC (some (dcC ad)) (.int k) = refD (aget ad k) := by
  show (valD _ (.inl k)) = _
  exact valD_ad ad k
theorem refD_s (a : Nat) : refD (some a) = some (.ref a) := rfl
theorem refD_n : refD none = none := rfl
theorem isD_dcC (ad : List (Int × Nat)) : isD (some (dcC ad)) = true := rfl
def orN : Option Nat → D
  | none => .non
  | some a => .ref a
theorem get_dcC (ad : List (Int × Nat)) (k : Int) : getC (.int k) (some (dcC ad)) = some (orN (aget ad k)) := by
  show some ((valD _ (.inl k)).getD .non) = _
  rw [valD_ad]
  cases aget ad k <;> rfl
theorem orN_s (a : Nat) : orN (some a) = .ref a := rfl
theorem orN_n : orN none = .non := rfl
theorem is_orN (o : Option Nat) (S : Store) : fIs (orN o) .non S = some (.ok (.bl (decide (o = none))), S) := by cases o <;> rfl
theorem putD_ad (ad : List (Int × Nat)) (k : Int) (a : Nat) : putD (ad.map fun p => ((.inl p.1 : Key), D.ref p.2)) (.inl k) (.ref a) = if (aget ad k).isSome = true then (ad.map fun p => if p.1 = k then (k, a) else p).map (fun p => ((.inl p.1 : Key), D.ref p.2)) else (ad ++ [(k, a)]).map fun p => ((.inl p.1 : Key), D.ref p.2) := by
  have hv := valD_ad ad k
  have ha : ((ad.map fun p => ((.inl p.1 : Key), D.ref p.2)).any fun kv => decide (kv.1 = (.inl k : Key))) = (aget ad k).isSome := by
    clear hv
    induction ad with
    | nil => rfl
    | cons p r ih =>
      obtain ⟨x, y⟩ := p
      rw [List.map_cons, List.any_cons, ih, aget]
      by_cases c : x = k
      · rw [if_pos c, c]; simp
      · rw [if_neg c]; simp [c]
  unfold putD
  rw [ha]
  cases h : (aget ad k).isSome with
  | true =>
    rw [if_pos rfl, if_pos rfl, List.map_map, List.map_map]
    apply List.map_congr_left
    intro p hp
    by_cases c : p.1 = k
    · simp [c]
    · simp [c]
  | false => rw [if_neg (by decide), if_neg (by decide), List.map_append]; rfl
theorem wr_dcC {ad : List (Int × Nat)} {k : Int} (a : Nat) (hn : aget ad k = none) (hl : ad.length < 1000) : wrC (some (dcC ad)) (.int k) (.ref a) = some (dcC (ad ++ [(k, a)])) := by
  unfold wrC dcC
  simp only [keyOf]
  rw [if_pos (by rw [List.length_map]; show _ < 16777216; omega), putD_ad, hn]
  rfl
theorem keysI_ad (ad : List (Int × Nat)) : keysI (ad.map fun p => ((.inl p.1 : Key), D.ref p.2)) = some (ad.map (·.1)) := by
  unfold keysI
  induction ad with
  | nil => rfl
  | cons p r ih =>
    rw [List.map_cons, List.map_cons, List.map_cons]
    show Option.map _ (intsOf _) = _
    rw [ih]
    rfl
theorem sorted_dcC {ad : List (Int × Nat)} {n : Nat} {S : Store} (h : S[n]? = some (dcC ad)) (hl : ad.length < 1000) : fSortedD (.ref n) S = some (.ok (inD1 (srtI (ad.map (·.1)))), S) := by
  unfold fSortedD dctOf
  simp only [h, dcC, keysI_ad]
  rw [if_pos (by rw [List.length_map]; show _ ≤ 16777216; omega)]
  rfl
theorem bo01 (b : Nat) : (b = b + 1) = False := eq_false (by omega)
theorem bo02 (b : Nat) : (b = b + 2) = False := eq_false (by omega)
theorem bo03 (b : Nat) : (b = b + 3) = False := eq_false (by omega)
theorem bo04 (b : Nat) : (b = b + 4) = False := eq_false (by omega)
theorem bo05 (b : Nat) : (b = b + 5) = False := eq_false (by omega)
theorem bo06 (b : Nat) : (b = b + 6) = False := eq_false (by omega)
theorem bo10 (b : Nat) : (b + 1 = b) = False := eq_false (by omega)
theorem bo12 (b : Nat) : (b + 1 = b + 2) = False := eq_false (by omega)
theorem bo13 (b : Nat) : (b + 1 = b + 3) = False := eq_false (by omega)
theorem bo14 (b : Nat) : (b + 1 = b + 4) = False := eq_false (by omega)
theorem bo15 (b : Nat) : (b + 1 = b + 5) = False := eq_false (by omega)
theorem bo16 (b : Nat) : (b + 1 = b + 6) = False := eq_false (by omega)
theorem bo20 (b : Nat) : (b + 2 = b) = False := eq_false (by omega)
theorem bo21 (b : Nat) : (b + 2 = b + 1) = False := eq_false (by omega)
theorem bo23 (b : Nat) : (b + 2 = b + 3) = False := eq_false (by omega)
theorem bo24 (b : Nat) : (b + 2 = b + 4) = False := eq_false (by omega)
theorem bo25 (b : Nat) : (b + 2 = b + 5) = False := eq_false (by omega)
theorem bo26 (b : Nat) : (b + 2 = b + 6) = False := eq_false (by omega)
theorem bo30 (b : Nat) : (b + 3 = b) = False := eq_false (by omega)
theorem bo31 (b : Nat) : (b + 3 = b + 1) = False := eq_false (by omega)
theorem bo32 (b : Nat) : (b + 3 = b + 2) = False := eq_false (by omega)
theorem bo34 (b : Nat) : (b + 3 = b + 4) = False := eq_false (by omega)
theorem bo35 (b : Nat) : (b + 3 = b + 5) = False := eq_false (by omega)
theorem bo36 (b : Nat) : (b + 3 = b + 6) = False := eq_false (by omega)
theorem bo40 (b : Nat) : (b + 4 = b) = False := eq_false (by omega)
theorem bo41 (b : Nat) : (b + 4 = b + 1) = False := eq_false (by omega)
theorem bo42 (b : Nat) : (b + 4 = b + 2) = False := eq_false (by omega)
theorem bo43 (b : Nat) : (b + 4 = b + 3) = False := eq_false (by omega)
theorem bo45 (b : Nat) : (b + 4 = b + 5) = False := eq_false (by omega)
theorem bo46 (b : Nat) : (b + 4 = b + 6) = False := eq_false (by omega)
theorem bo50 (b : Nat) : (b + 5 = b) = False := eq_false (by omega)
theorem bo51 (b : Nat) : (b + 5 = b + 1) = False := eq_false (by omega)
theorem bo52 (b : Nat) : (b + 5 = b + 2) = False := eq_false (by omega)
theorem bo53 (b : Nat) : (b + 5 = b + 3) = False := eq_false (by omega)
theorem bo54 (b : Nat) : (b + 5 = b + 4) = False := eq_false (by omega)
theorem bo56 (b : Nat) : (b + 5 = b + 6) = False := eq_false (by omega)
theorem bo60 (b : Nat) : (b + 6 = b) = False := eq_false (by omega)
theorem bo61 (b : Nat) : (b + 6 = b + 1) = False := eq_false (by omega)
theorem bo62 (b : Nat) : (b + 6 = b + 2) = False := eq_false (by omega)
theorem bo63 (b : Nat) : (b + 6 = b + 3) = False := eq_false (by omega)
theorem bo64 (b : Nat) : (b + 6 = b + 4) = False := eq_false (by omega)
theorem bo65 (b : Nat) : (b + 6 = b + 5) = False := eq_false (by omega)
structure Far (b a : Nat) : Prop where
  f0 : (a = b) = False
  g0 : (b = a) = False
  f1 : (a = b + 1) = False
  g1 : (b + 1 = a) = False
  f2 : (a = b + 2) = False
  g2 : (b + 2 = a) = False
  f3 : (a = b + 3) = False
  g3 : (b + 3 = a) = False
  f4 : (a = b + 4) = False
  g4 : (b + 4 = a) = False
  f5 : (a = b + 5) = False
  g5 : (b + 5 = a) = False
  f6 : (a = b + 6) = False
  g6 : (b + 6 = a) = False
theorem far {b a : Nat} (h : b + 6 < a) : ((a = b) = False) ∧ ((b = a) = False) ∧ ((a = b + 1) = False) ∧ ((b + 1 = a) = False) ∧ ((a = b + 2) = False) ∧ ((b + 2 = a) = False) ∧ ((a = b + 3) = False) ∧ ((b + 3 = a) = False) ∧ ((a = b + 4) = False) ∧ ((b + 4 = a) = False) ∧ ((a = b + 5) = False) ∧ ((b + 5 = a) = False) ∧ ((a = b + 6) = False) ∧ ((b + 6 = a) = False) := by refine ⟨eq_false ?_, eq_false ?_, eq_false ?_, eq_false ?_, eq_false ?_, eq_false ?_, eq_false ?_, eq_false ?_, eq_false ?_, eq_false ?_, eq_false ?_, eq_false ?_, eq_false ?_, eq_false ?_⟩ <;> omega
theorem gs_r (S : Store) (i j : Nat) (c : Cell) : (S.set i c)[j]? = if i = j then (if i < S.length then some c else none) else S[j]? := List.getElem?_set
end Law

local macro_rules | `(tactic| simp only [mer, $xs,*]) => `(tactic| simp only [mir, Law.optD_n, Law.optD_s, Law.isNot_opt, Law.is_opt, Law.is_ref, Law.is_non, Law.isNot_ref, Law.isNot_non, Law.rd_tkC_number, Law.wr_tkC_number, Law.rd_tkC_may, Law.wr_tkC_may, Law.rd_tkC_gives, Law.wr_tkC_gives, Law.rd_tkC_said_head, Law.wr_tkC_said_head, Law.rd_tkC_heard_head, Law.wr_tkC_heard_head, Law.rd_tkC_said_end, Law.wr_tkC_said_end, Law.rd_tkC_heard_end, Law.wr_tkC_heard_end, Law.rd_tkC_shut_here, Law.wr_tkC_shut_here, Law.rd_tkC_shut_there, Law.wr_tkC_shut_there, Law.rd_tkC_rank, Law.wr_tkC_rank, Law.rd_tkC_served, Law.wr_tkC_served, Law.rd_tkC_waits, Law.wr_tkC_waits, Law.we_tkC_waits, Law.rd_tkC_ends_behind, Law.wr_tkC_ends_behind, Law.mt_tkC_is_shut, Law.mt_tkC_drop, Law.mt_tkC_can_send, Law.rd_enC_side, Law.wr_enC_side, Law.rd_enC_line, Law.rd_enC_talks, Law.rd_enC_told, Law.rd_enC_heard, Law.rd_enC_cutter, Law.rd_enC_out, Law.rd_enC_broken, Law.wr_enC_broken, Law.rd_enC_turns, Law.wr_enC_turns, Law.rd_enC_mine, Law.wr_enC_mine, Law.rd_enC_theirs, Law.wr_enC_theirs, Law.rd_enC_left_at, Law.wr_enC_left_at, Law.wi_enC_left_at, Law.rd_enC_away_at, Law.wr_enC_away_at, Law.wi_enC_away_at, Law.mt_enC_known, Law.mt_enC_unshut, Law.mt_enC_put_head, Law.mt_enC_begin, Law.mt_enC_answer, Law.mt_enC_say, Law.mt_enC_grant, Law.mt_enC_reset, Law.mt_enC_ask_rank, Law.mt_enC_leave, Law.mt_enC_next_frame, Law.mt_enC_body_of, Law.mt_enC_hear, Law.mt_enC_left, Law.mt_enC_waiting, Law.rd_frD_kind, Law.rd_frD_flag, Law.rd_frD_talk, Law.rd_frD_numbers, Law.mt_cuD_fed, Law.rd_shD, Law.ix_dcC, Law.refD_s, Law.refD_n, Law.isD_dcC, Law.get_dcC, Law.orN_s, Law.orN_n, Law.is_orN, Law.bo01, Law.bo02, Law.bo03, Law.bo04, Law.bo05, Law.bo06, Law.bo10, Law.bo12, Law.bo13, Law.bo14, Law.bo15, Law.bo16, Law.bo20, Law.bo21, Law.bo23, Law.bo24, Law.bo25, Law.bo26, Law.bo30, Law.bo31, Law.bo32, Law.bo34, Law.bo35, Law.bo36, Law.bo40, Law.bo41, Law.bo42, Law.bo43, Law.bo45, Law.bo46, Law.bo50, Law.bo51, Law.bo52, Law.bo53, Law.bo54, Law.bo56, Law.bo60, Law.bo61, Law.bo62, Law.bo63, Law.bo64, Law.bo65, Law.gs_r, Bool.false_eq_true, Bool.true_eq_false, List.length_set, if_true, if_false, ite_true, ite_false, ne_eq, List.set_set, $xs,*])
local macro_rules | `(tactic| simp only [mer]) => `(tactic| simp only [mir, Law.optD_n, Law.optD_s, Law.isNot_opt, Law.is_opt, Law.is_ref, Law.is_non, Law.isNot_ref, Law.isNot_non, Law.rd_tkC_number, Law.wr_tkC_number, Law.rd_tkC_may, Law.wr_tkC_may, Law.rd_tkC_gives, Law.wr_tkC_gives, Law.rd_tkC_said_head, Law.wr_tkC_said_head, Law.rd_tkC_heard_head, Law.wr_tkC_heard_head, Law.rd_tkC_said_end, Law.wr_tkC_said_end, Law.rd_tkC_heard_end, Law.wr_tkC_heard_end, Law.rd_tkC_shut_here, Law.wr_tkC_shut_here, Law.rd_tkC_shut_there, Law.wr_tkC_shut_there, Law.rd_tkC_rank, Law.wr_tkC_rank, Law.rd_tkC_served, Law.wr_tkC_served, Law.rd_tkC_waits, Law.wr_tkC_waits, Law.we_tkC_waits, Law.rd_tkC_ends_behind, Law.wr_tkC_ends_behind, Law.mt_tkC_is_shut, Law.mt_tkC_drop, Law.mt_tkC_can_send, Law.rd_enC_side, Law.wr_enC_side, Law.rd_enC_line, Law.rd_enC_talks, Law.rd_enC_told, Law.rd_enC_heard, Law.rd_enC_cutter, Law.rd_enC_out, Law.rd_enC_broken, Law.wr_enC_broken, Law.rd_enC_turns, Law.wr_enC_turns, Law.rd_enC_mine, Law.wr_enC_mine, Law.rd_enC_theirs, Law.wr_enC_theirs, Law.rd_enC_left_at, Law.wr_enC_left_at, Law.wi_enC_left_at, Law.rd_enC_away_at, Law.wr_enC_away_at, Law.wi_enC_away_at, Law.mt_enC_known, Law.mt_enC_unshut, Law.mt_enC_put_head, Law.mt_enC_begin, Law.mt_enC_answer, Law.mt_enC_say, Law.mt_enC_grant, Law.mt_enC_reset, Law.mt_enC_ask_rank, Law.mt_enC_leave, Law.mt_enC_next_frame, Law.mt_enC_body_of, Law.mt_enC_hear, Law.mt_enC_left, Law.mt_enC_waiting, Law.rd_frD_kind, Law.rd_frD_flag, Law.rd_frD_talk, Law.rd_frD_numbers, Law.mt_cuD_fed, Law.rd_shD, Law.ix_dcC, Law.refD_s, Law.refD_n, Law.isD_dcC, Law.get_dcC, Law.orN_s, Law.orN_n, Law.is_orN, Law.bo01, Law.bo02, Law.bo03, Law.bo04, Law.bo05, Law.bo06, Law.bo10, Law.bo12, Law.bo13, Law.bo14, Law.bo15, Law.bo16, Law.bo20, Law.bo21, Law.bo23, Law.bo24, Law.bo25, Law.bo26, Law.bo30, Law.bo31, Law.bo32, Law.bo34, Law.bo35, Law.bo36, Law.bo40, Law.bo41, Law.bo42, Law.bo43, Law.bo45, Law.bo46, Law.bo50, Law.bo51, Law.bo52, Law.bo53, Law.bo54, Law.bo56, Law.bo60, Law.bo61, Law.bo62, Law.bo63, Law.bo64, Law.bo65, Law.gs_r, Bool.false_eq_true, Bool.true_eq_false, List.length_set, if_true, if_false, ite_true, ite_false, ne_eq, List.set_set])
/-! the law's heads -/
namespace Law
open PySem PySem.Spec L2 Sim
theorem rangeD_get {lo : Int} {n i : Nat} {d : D} (h : (rangeD lo n)[i]? = some d) : d = .int (lo + (i : Nat)) ∧ i < n := by
  unfold rangeD at h
  rw [List.getElem?_map] at h
  cases e : (List.range n)[i]? with
  | none => rw [e] at h; cases h
  | some x =>
    rw [e] at h
    obtain ⟨h1, h2⟩ := List.getElem?_eq_some_iff.mp e
    rw [List.length_range] at h1
    rw [List.getElem_range] at h2
    subst h2
    exact ⟨(Option.some.inj h).symm, h1⟩
theorem pool_at {n : Nat} {S : Store} {ls : List (List Nat)} {k : Nat} {i : Int} (h : S[n]? = some (lsD (txsD ls))) (hk : ls.length = k) (h0 : 0 ≤ i) (h1 : i < k) : ∃ l ∈ ls, fIx (.ref n) (.int i) S = some (.ok (.str (tx l)), S) := by
  have hi : i.toNat < ls.length := by omega
  refine ⟨ls[i.toNat], List.getElem_mem hi, fIx_ref (ds := txsD ls) (b := false) h h0 ?_⟩
  unfold txsD
  rw [List.getElem?_map, List.getElem?_eq_getElem hi]
  rfl
def HOk (p : Pr) : Prop := TOk 8 p.1 ∧ 1 ≤ p.1.length ∧ TOk 20 p.2
def HsOk (ps : List Pr) : Prop := ∀ p ∈ ps, HOk p
theorem HOk.pok {p : Pr} (h : HOk p) : POk p := ⟨h.1.1, h.2.2.1, by have := h.1.2; omega, by have := h.2.2.2; omega⟩
theorem HsOk.pok {ps : List Pr} (h : HsOk ps) : PsOk ps := fun p hp => (h p hp).pok
theorem hs_snoc {ps : List Pr} {p : Pr} (h : HsOk ps) (hp : HOk p) : HsOk (ps ++ [p]) := fun q hq => by
  rcases List.mem_append.mp hq with e | e
  · exact h q e
  · rw [List.mem_singleton.mp e]; exact hp
def bH : MS := sSeq (sDrop (eBM isL (m1 fAppend) (eVar 2) (aCons (eTup (aCons (e2 fIx (e2 fIx (eVar 1) (eC (.int 0))) (e2 fMod (e2 fAdd (eVar 3) (eVar 5)) (eC (.int 4)))) (aCons (e2 fIx (e2 fIx (eVar 1) (eC (.int 1))) (e2 fMod (e2 fAdd (e2 fDiv (eVar 3) (eC (.int 4))) (e2 fMul (eVar 5) (eVar 5))) (eC (.int 5)))) (aNil)))) (aNil))))
  (sSet 3 (e2 fDiv (eVar 3) (eC (.int 20))))
theorem bH_eq {r a b m : Nat} {y z : Int} {i : Int} {u v : Str} {X Y : Store} (gn : fIx (.ref a) (.int ((y + i) % 4)) X = some (.ok (.str u), X)) (gv : fIx (.ref b) (.int ((y / 4 + i * i) % 5)) X = some (.ok (.str v), X)) (gi : isL (.ref m) X = true) (ga : fAppend (.ref m) (.tup [.str u, .str v]) X = some (.ok .non, Y)) (gm : ∀ S, fMul (.int i) (.int i) S = some (.ok (.int (i * i)), S)) :
    bH [some (.ref r), some (.tup [.ref a, .ref b]), some (.ref m), some (.int y), some (.int z), some (.int i)] X = some (.nx [some (.ref r), some (.tup [.ref a, .ref b]), some (.ref m), some (.int (y / 20)), some (.int z), some (.int i)], Y) := by
  unfold bH
  walk_at "ev*"
end Law

/-! lists of pairs, stored or not; heads coded by the law -/
namespace Law
open PySem PySem.Spec L2 Sim
theorem posF_find (f : Pr → Bool) : ∀ (ps : List Pr) (k : Nat), posF f ps k = match ps.findIdx? f with
    | some j => ((k + j : Nat) : Int)
    | none => -1
  | [], _ => rfl
  | q :: t, k => by
    unfold posF
    rw [List.findIdx?_cons]
    by_cases c : f q = true
    · rw [if_pos c, if_pos c]; rfl
    · rw [if_neg c, if_neg c, posF_find f t (k + 1)]
      cases t.findIdx? f with
      | none => rfl
      | some j => show ((k + 1 + j : Nat) : Int) = ((k + (j + 1) : Nat) : Int); omega
theorem posF_any (f : Pr → Bool) (ps : List Pr) (k : Nat) : ps.any f = decide (0 ≤ posF f ps k) := by
  induction ps generalizing k with
  | nil => rfl
  | cons q t ih =>
    rw [List.any_cons]
    unfold posF
    by_cases c : f q = true
    · rw [c, if_pos rfl, Bool.true_or, decide_eq_true (by omega)]
    · rw [if_neg c, ← ih (k + 1)]
      rw [Bool.not_eq_true] at c
      rw [c, Bool.false_or]
def LL (S : Store) (x : D) (ps : List Pr) : Prop := x = psD ps ∨ ∃ n, x = .ref n ∧ S[n]? = some (lsD (ps.map pD))
theorem mapM_pr {S : Store} {k : Nat} (h : 2 ≤ k) : ∀ ps : List Pr, (ps.map pD).mapM (pyD S k) = some (ps.map pP)
  | [] => rfl
  | p :: ps => by
    rw [List.map_cons, List.mapM_cons, mapM_pr h ps, pyD_of k (pD p) (pP p) rfl (show 2 ≤ k from h)]
    rfl
theorem LL.py {S : Store} {x : D} {ps : List Pr} (h : LL S x ps) : pyD S pyDepth x = some (.list (ps.map pP)) := by
  rcases h with rfl | ⟨n, rfl, hS⟩
  · show (((ps.map pD).mapM (pyD S 7)).map PyData.list) = _
    rw [mapM_pr (by decide)]
    rfl
  · show (match S[n]? with
      | some ⟨.lst ds, _⟩ => (ds.mapM (pyD S 7)).map PyData.list
      | _ => none) = _
    rw [hS]
    show (((ps.map pD).mapM (pyD S 7)).map PyData.list) = _
    rw [mapM_pr (by decide)]
    rfl
theorem LL.list {S : Store} {x : D} {ps : List Pr} (h : LL S x ps) : Sim.listOf x S = some (ps.map pD) := by
  rcases h with rfl | ⟨n, rfl, hS⟩
  · rfl
  · exact listOf_ref hS
theorem LL.len {S : Store} {x : D} {ps : List Pr} (h : LL S x ps) : fLen x S = some (.ok (.int ps.length), S) := by
  rcases h with rfl | ⟨n, rfl, hS⟩
  · exact fLen_ps ps S
  · rw [fLen_ref hS, List.length_map]
theorem LL.isi {S : Store} {x : D} {ps : List Pr} (h : LL S x ps) : fIsi "list" x S = some (.ok (.bl true), S) := by
  rcases h with rfl | ⟨n, rfl, hS⟩
  · rfl
  · unfold fIsi tyD
    simp only [hS, lsD]
    rfl
theorem LL.it {S : Store} {x : D} {ps : List Pr} (h : LL S x ps) {a : ME} {l : Sl} (ha : a l S = some (.ok x, S)) : iL a l S = some (.ok (Sim.listOf x), S) := by
  unfold iL
  rw [ha]
  simp only [bnd]
  rw [if_pos (by unfold isL; rw [h.list]; rfl)]
theorem LL.eq {S : Store} {x y : D} {a b : List Pr} (hx : LL S x a) (hy : LL S y b) (ha : PsOk a) (hb : PsOk b) : fEq x y S = some (.ok (.bl (decide (a = b))), S) := by
  unfold fEq eqD
  rw [hx.py, hy.py]
  simp only [shaped_prs ha, shaped_prs hb, and_self, if_true]
  show some (Except.ok (D.bl (PyData.eqvAll _ _)), S) = _
  rw [eqv_prs a b ha hb]
theorem py_pr (p : Pr) (S : Store) : pyD S pyDepth (pD p) = some (pP p) := pyD_of 8 (pD p) (pP p) rfl (show 2 ≤ 8 by decide)
theorem any_on {α : Type} {f g : α → Bool} : ∀ (xs : List α), (∀ x ∈ xs, f x = g x) → xs.any f = xs.any g
  | [], _ => rfl
  | x :: xs, h => by rw [List.any_cons, List.any_cons, h x List.mem_cons_self, any_on xs (fun y hy => h y (List.mem_cons_of_mem _ hy))]
theorem find_on {α : Type} {f g : α → Bool} : ∀ (xs : List α), (∀ x ∈ xs, f x = g x) → xs.findIdx? f = xs.findIdx? g
  | [], _ => rfl
  | x :: xs, h => by rw [List.findIdx?_cons, List.findIdx?_cons, h x List.mem_cons_self, find_on xs (fun y hy => h y (List.mem_cons_of_mem _ hy))]
theorem dct_ps (ps : List Pr) (S : Store) : dctOf (psD ps) S = none := rfl
theorem in_prs {ps : List Pr} {p : Pr} (hp : POk p) (ho : PsOk ps) (S : Store) : inD (pD p) (psD ps) S = some (decide (0 ≤ posF (fun q => decide (q = p)) ps 0)) := by
  unfold inD
  have e : pyD S pyDepth (psD ps) = some (.list (ps.map pP)) := LL.py (.inl rfl)
  have hd := dct_ps ps S
  unfold psD at e hd ⊢
  simp only [hd, py_pr, e, shaped_pr hp, shaped_prs ho, and_self, if_true]
  rw [List.any_map, ← posF_any (fun q => decide (q = p)) ps 0]
  congr 1
  exact any_on ps (fun q hq => eqv_pr (ho q hq) hp)
theorem fIn_prs {ps : List Pr} {p : Pr} (hp : POk p) (ho : PsOk ps) (S : Store) : fIn (pD p) (psD ps) S = some (.ok (.bl (decide (0 ≤ posF (fun q => decide (q = p)) ps 0))), S) := by unfold fIn; rw [in_prs hp ho]
theorem fNotIn_prs {ps : List Pr} {p : Pr} (hp : POk p) (ho : PsOk ps) (S : Store) : fNotIn (pD p) (psD ps) S = some (.ok (.bl (!decide (0 ≤ posF (fun q => decide (q = p)) ps 0))), S) := by unfold fNotIn; rw [in_prs hp ho]
theorem index_prs {ps : List Pr} {p : Pr} (hp : POk p) (ho : PsOk ps) (h : 0 ≤ posF (fun q => decide (q = p)) ps 0) (S : Store) : fIndexL (psD ps) (pD p) S = some (.ok (.int (posF (fun q => decide (q = p)) ps 0)), S) := by
  unfold fIndexL
  have e : pyD S pyDepth (psD ps) = some (.list (ps.map pP)) := LL.py (.inl rfl)
  have hf : (ps.map pP).findIdx? (fun z => PyData.eqv z (pP p)) = ps.findIdx? (fun q => decide (q = p)) := by
    rw [List.findIdx?_map]
    exact find_on ps (fun q hq => eqv_pr (ho q hq) hp)
  simp only [e, py_pr, shaped_pr hp, shaped_prs ho, and_self, if_true, hf]
  rw [posF_find] at h ⊢
  cases hj : ps.findIdx? (fun q => decide (q = p)) with
  | none => rw [hj] at h; exact absurd h (by decide)
  | some j => simp only [Nat.zero_add]
/-! ### names -/
def nmD (ps : List Pr) : D := .fl (ps.map fun p => D.str (tx p.1))
theorem toPs_nms : ∀ ps : List Pr, toPs (ps.map fun p => D.str (tx p.1)) = some (ps.map fun p => PyData.str (tx p.1))
  | [] => rfl
  | p :: ps => by rw [List.map_cons]; unfold toPs; rw [toPs_nms ps]; rfl
theorem depDs_nms : ∀ ps : List Pr, depDs (ps.map fun p => D.str (tx p.1)) = 1
  | [] => rfl
  | p :: ps => by rw [List.map_cons]; unfold depDs; rw [depDs_nms ps]; rfl
theorem lay_nms : ∀ ps : List Pr, PsOk ps → PyData.canLayAll0 (ps.map fun p => PyData.str (tx p.1)) = true
  | [], _ => rfl
  | p :: ps, h => by
    rw [List.map_cons]; unfold PyData.canLayAll0
    rw [lay_nms ps (fun q hq => h q (List.mem_cons_of_mem _ hq))]
    have := h p List.mem_cons_self
    simp [PyData.canLay0, tx_ok this.1]
theorem dep_nms : ∀ ps : List Pr, PyData.depthAll (ps.map fun p => PyData.str (tx p.1)) = 0
  | [] => rfl
  | p :: ps => by rw [List.map_cons]; unfold PyData.depthAll; rw [dep_nms ps]; rfl
theorem shaped_nms {ps : List Pr} (h : PsOk ps) : SeqAt.shaped (.list (ps.map fun p => PyData.str (tx p.1))) = true := by
  unfold SeqAt.shaped
  rw [Bool.and_eq_true]
  refine ⟨?_, ?_⟩
  · unfold PyData.canLay0; exact lay_nms ps h
  · unfold PyData.depth; rw [dep_nms]; decide
theorem py_nms (ps : List Pr) (S : Store) : pyD S pyDepth (nmD ps) = some (.list (ps.map fun p => PyData.str (tx p.1))) :=
  pyD_of 8 (nmD ps) _ (by unfold nmD toP; rw [toPs_nms]; rfl) (by unfold nmD depD; rw [depDs_nms]; decide)
theorem eqv_nm {a b : List Nat} (ha : Sig a) (hb : Sig b) : PyData.eqv (.str (tx a)) (.str (tx b)) = decide (a = b) := by
  show (tx a == tx b) = _
  by_cases c : a = b
  · rw [c]; simp
  · have : ¬ tx a = tx b := fun h => c (tx_inj ha hb h)
    simp [this, c]
theorem dct_nm (ps : List Pr) (S : Store) : dctOf (nmD ps) S = none := rfl
theorem fIn_nms {ps : List Pr} {nm : List Nat} (hp : Sig nm) (ho : PsOk ps) (S : Store) : fIn (.str (tx nm)) (nmD ps) S = some (.ok (.bl (decide (0 ≤ posF (fun q => decide (q.1 = nm)) ps 0))), S) := by
  unfold fIn inD
  have e := py_nms ps S
  have hd := dct_nm ps S
  have e2 : pyD S pyDepth (.str (tx nm)) = some (.str (tx nm)) := rfl
  unfold nmD at e hd ⊢
  simp only [hd, e, e2, shaped_str (tx_ok hp), shaped_nms ho, and_self, if_true]
  rw [List.any_map, ← posF_any (fun q => decide (q.1 = nm)) ps 0]
  have ha : ps.any ((fun z => PyData.eqv z (PyData.str (tx nm))) ∘ fun p => PyData.str (tx p.1)) = ps.any (fun q => decide (q.1 = nm)) := any_on ps (fun q hq => eqv_nm (ho q hq).1 hp)
  rw [ha]
theorem index_nms {ps : List Pr} {nm : List Nat} (hp : Sig nm) (ho : PsOk ps) (h : 0 ≤ posF (fun q => decide (q.1 = nm)) ps 0) (S : Store) : fIndexL (nmD ps) (.str (tx nm)) S = some (.ok (.int (posF (fun q => decide (q.1 = nm)) ps 0)), S) := by
  unfold fIndexL
  have e := py_nms ps S
  have e2 : pyD S pyDepth (.str (tx nm)) = some (.str (tx nm)) := rfl
  have hf : (ps.map fun p => PyData.str (tx p.1)).findIdx? (fun z => PyData.eqv z (.str (tx nm))) = ps.findIdx? (fun q => decide (q.1 = nm)) := by
    rw [List.findIdx?_map]
    exact find_on ps (fun q hq => eqv_nm (ho q hq).1 hp)
  simp only [e, e2, shaped_str (tx_ok hp), shaped_nms ho, and_self, if_true, hf]
  rw [posF_find] at h ⊢
  cases hj : ps.findIdx? (fun q => decide (q.1 = nm)) with
  | none => rw [hj] at h; exact absurd h (by decide)
  | some j => simp only [Nat.zero_add]
end Law

/-! an end in the store -/
namespace Law
open PySem PySem.Spec L2 Sim
structure Tks (S : Store) (b : Nat) (ts : List (Int × Tk)) (ad : List (Int × Nat)) : Prop where
  ky : ad.map (·.1) = ts.map (·.1)
  tk : ∀ k T, aget ts k = some T → ∃ a, aget ad k = some a ∧ S[a]? = some (tkC T)
  inj : ∀ k k' a, aget ad k = some a → aget ad k' = some a → k = k'
  far : ∀ k a, aget ad k = some a → b + 6 < a
structure EOk (E : EA) : Prop where
  bs : PyData.strOk E.broken = true
  to : PsOk E.told
  tl : E.told.length ≤ 24
  ho : PsOk E.heard
  hl : E.heard.length ≤ 24
  kn : (E.talks.map (·.1)).Nodup
  kr : ∀ k ∈ E.talks.map (·.1), 1 ≤ k ∧ k ≤ 250
  hh : ∀ x ∈ E.held, 0 ≤ x ∧ x < 256
  hs : Short E.held
  mt : ∀ k T, aget E.talks k = some T → 0 ≤ T.may
  ml : 0 ≤ E.line.may
  mn : 0 ≤ E.mine ∧ E.mine ≤ 250
structure EndAt (S : Store) (b : Nat) (E : EA) (ad : List (Int × Nat)) : Prop where
  c0 : S[b]? = some (enC b E)
  c1 : S[b + 1]? = some (tkC E.line)
  c2 : S[b + 2]? = some (dcC ad)
  c3 : S[b + 3]? = some (shD E.told)
  c4 : S[b + 4]? = some (shD E.heard)
  c5 : S[b + 5]? = some (cuD E.held)
  c6 : S[b + 6]? = some (lsD (E.out.map inD1))
  t : Tks S b E.talks ad
  ok : EOk E
theorem get_lt {S : Store} {n : Nat} {c : Cell} (h : S[n]? = some c) : n < S.length := (List.getElem?_eq_some_iff.mp h).1
theorem get_ltT {S : Store} {n : Nat} {c : Cell} (h : S[n]? = some c) : (n < S.length) = True := eq_true (get_lt h)
section
variable {S S' : Store} {b : Nat} {E : EA} {ts : List (Int × Tk)} {ad : List (Int × Nat)} {k : Int} {a : Nat} {T : Tk}
theorem EndAt.fx (h : EndAt S b E ad) : S[b]? = some (enC b E) ∧ S[b + 1]? = some (tkC E.line) ∧ S[b + 2]? = some (dcC ad) ∧ S[b + 3]? = some (shD E.told) ∧ S[b + 4]? = some (shD E.heard) ∧ S[b + 5]? = some (cuD E.held) ∧ S[b + 6]? = some (lsD (E.out.map inD1)) ∧
    ((b < S.length) = True) ∧ ((b + 1 < S.length) = True) ∧ ((b + 2 < S.length) = True) ∧ ((b + 3 < S.length) = True) ∧ ((b + 4 < S.length) = True) ∧ ((b + 5 < S.length) = True) ∧ ((b + 6 < S.length) = True) :=
  ⟨h.c0, h.c1, h.c2, h.c3, h.c4, h.c5, h.c6, get_ltT h.c0, get_ltT h.c1, get_ltT h.c2, get_ltT h.c3, get_ltT h.c4, get_ltT h.c5, get_ltT h.c6⟩
theorem Tks.none_iff (h : Tks S b ts ad) (k : Int) : aget ad k = none ↔ aget ts k = none := by
  have e1 := aget_keys ad k
  have e2 := aget_keys ts k
  rw [h.ky, ← e2] at e1
  constructor
  · intro z; rw [z] at e1; cases q : aget ts k with
    | none => rfl
    | some T => rw [q] at e1; cases e1
  · intro z; rw [z] at e1; cases q : aget ad k with
    | none => rfl
    | some T => rw [q] at e1; cases e1
theorem Tks.at (h : Tks S b ts ad) (hk : aget ts k = some T) : ∃ a, aget ad k = some a ∧ S[a]? = some (tkC T) ∧ b + 6 < a := by
  obtain ⟨a, h1, h2⟩ := h.tk k T hk
  exact ⟨a, h1, h2, h.far k a h1⟩
theorem Tks.keep (h : Tks S b ts ad) (q : ∀ k a, aget ad k = some a → S'[a]? = S[a]?) : Tks S' b ts ad :=
  ⟨h.ky, fun k T e => by
    obtain ⟨a, h1, h2⟩ := h.tk k T e
    exact ⟨a, h1, by rw [q k a h1]; exact h2⟩, h.inj, h.far⟩
theorem Tks.put (h : Tks S b ts ad) (hk : aget ad k = some a) (h1 : S'[a]? = some (tkC T)) (q : ∀ k' a', aget ad k' = some a' → a' ≠ a → S'[a']? = S[a']?) : Tks S' b (aput ts k T) ad := by
  have hs : (aget ts k).isSome = true := by
    cases e : aget ts k with
    | none => rw [(h.none_iff k).mpr e] at hk; cases hk
    | some U => rfl
  refine ⟨by rw [aput_keys, hs]; exact h.ky, fun k' T' e => ?_, h.inj, h.far⟩
  rw [aget_put] at e
  by_cases c : k = k'
  · rw [if_pos c] at e
    cases e
    subst c
    exact ⟨a, hk, h1⟩
  · rw [if_neg c] at e
    obtain ⟨a', g1, g2⟩ := h.tk k' T' e
    exact ⟨a', g1, by rw [q k' a' g1 (fun z => c (h.inj k k' a hk (z ▸ g1)))]; exact g2⟩
theorem aget_snoc {α : Type} (l : List (Int × α)) (k x : Int) (v : α) (h : aget l k = none) : aget (l ++ [(k, v)]) x = if k = x then some v else aget l x := by
  rw [← aput_none h, aget_put]
theorem Tks.new (h : Tks S b ts ad) (hk : aget ts k = none) (ha : b + 6 < a) (hf : ∀ k' a', aget ad k' = some a' → a' ≠ a) (h1 : S'[a]? = some (tkC T)) (q : ∀ k' a', aget ad k' = some a' → S'[a']? = S[a']?) : Tks S' b (aput ts k T) (ad ++ [(k, a)]) := by
  have hn := (h.none_iff k).mpr hk
  refine ⟨?_, fun k' T' e => ?_, fun k1 k2 a' e1 e2 => ?_, fun k' a' e => ?_⟩
  · rw [aput_keys, hk, List.map_append, h.ky]; rfl
  · rw [aget_put] at e
    rw [aget_snoc _ _ _ _ hn]
    by_cases c : k = k'
    · rw [if_pos c] at e ⊢
      cases e
      exact ⟨a, rfl, h1⟩
    · rw [if_neg c] at e ⊢
      obtain ⟨a', g1, g2⟩ := h.tk k' T' e
      exact ⟨a', g1, by rw [q k' a' g1]; exact g2⟩
  · rw [aget_snoc _ _ _ _ hn] at e1 e2
    by_cases c1 : k = k1
    · rw [if_pos c1] at e1
      cases e1
      by_cases c2 : k = k2
      · omega
      · rw [if_neg c2] at e2; exact absurd rfl (hf k2 _ e2)
    · rw [if_neg c1] at e1
      by_cases c2 : k = k2
      · rw [if_pos c2] at e2; cases e2; exact absurd rfl (hf k1 _ e1)
      · rw [if_neg c2] at e2; exact h.inj k1 k2 a' e1 e2
  · rw [aget_snoc _ _ _ _ hn] at e
    by_cases c : k = k'
    · rw [if_pos c] at e; cases e; exact ha
    · rw [if_neg c] at e; exact h.far k' a' e
structure Kp (S S' : Store) (b : Nat) (ad : List (Int × Nat)) : Prop where
  len : S.length ≤ S'.length
  keep : ∀ i, i < S.length → (i < b ∨ b + 6 < i) → (∀ k, aget ad k ≠ some i) → S'[i]? = S[i]?
end
theorem nodup_len : ∀ (n : Nat) (l : List Int), l.Nodup → (∀ k ∈ l, 1 ≤ k ∧ k ≤ n) → l.length ≤ n
  | 0, l, _, h => by
    cases l with
    | nil => exact Nat.le_refl _
    | cons x r => have := h x List.mem_cons_self; omega
  | n + 1, l, hn, h => by
    have h1 : (l.erase ((n + 1 : Nat) : Int)).Nodup := hn.erase _
    have h2 := nodup_len n (l.erase ((n + 1 : Nat) : Int)) h1 (fun k hk => by
      have hm := List.mem_of_mem_erase hk
      have := h k hm
      have hne : k ≠ ((n + 1 : Nat) : Int) := by
        rw [hn.mem_erase_iff] at hk
        exact hk.1
      omega)
    have h3 := List.length_erase (a := ((n + 1 : Nat) : Int)) (l := l)
    split at h3 <;> omega
theorem EOk.len {E : EA} (h : EOk E) : E.talks.length ≤ 250 := by
  have := nodup_len 250 _ h.kn h.kr
  rw [List.length_map] at this
  exact this
theorem EndAt.adl {S : Store} {b : Nat} {E : EA} {ad : List (Int × Nat)} (h : EndAt S b E ad) : ad.length ≤ 250 := by
  have e := congrArg List.length h.t.ky
  rw [List.length_map, List.length_map] at e
  rw [e]
  exact h.ok.len
theorem held_len {H : List Int} (h1 : Short H) (h2 : ∀ x ∈ H, 0 ≤ x ∧ x < 256) : H.length < 260 := by
  rcases h1 with h | h
  · omega
  · cases H with
    | nil => simp
    | cons x r =>
      have := h2 x List.mem_cons_self
      have e : (x :: r).getD 0 0 = x := rfl
      rw [e] at h
      omega
def nd (w : Str) : Exn := ⟨1, some [("why", .str w)]⟩
theorem strOk_c : PyData.strOk "" = true ∧ PyData.strOk "broken" = true ∧ PyData.strOk "kind" = true ∧ PyData.strOk "size" = true ∧ PyData.strOk "flag" = true ∧ PyData.strOk "number" = true ∧ PyData.strOk "away" = true ∧ PyData.strOk "shut" = true ∧ PyData.strOk "early" = true ∧ PyData.strOk "ended" = true ∧ PyData.strOk "credit" = true ∧ PyData.strOk "twice" = true ∧ PyData.strOk "many" = true ∧ PyData.strOk "head" = true ∧ PyData.strOk "talk" = true := by decide +kernel
theorem fNe_s {s t : Str} (h : PyData.strOk s = true) (h2 : PyData.strOk t = true) (S : Store) : fNe (.str s) (.str t) S = some (.ok (.bl (!decide (s = t))), S) := by unfold fNe; rw [eqD_str S h h2]
theorem fEq_s {s t : Str} (h : PyData.strOk s = true) (h2 : PyData.strOk t = true) (S : Store) : fEq (.str s) (.str t) S = some (.ok (.bl (decide (s = t))), S) := by unfold fEq; rw [eqD_str S h h2]
end Law

/-! known, unshut, say -/
namespace Law
open PySem PySem.Spec L2 Sim
section
variable {S : Store} {b : Nat} {E : EA} {ad : List (Int × Nat)}
def exA (ad : List (Int × Nat)) (k : Int) : Except Str Tk → Except Exn D
  | .error w => .error (nd w)
  | .ok _ => .ok (orN (aget ad k))
theorem known_eq (h : EndAt S b E ad) (k : Int) : m_End_known [.ref b, .int k] S = some (exA ad k (E.known k), S) := by
  have fx := h.fx
  have gn := fNe_s h.ok.bs strOk_c.1 S
  have gi := notIn_dcC h.c2 k
  (unfold m_End_known b_End_known; refine Eq.trans (fnM_l (l := [_, _]) rfl rfl _) ?_)
  unfold EA.known
  by_cases c : E.broken = ""
  · have c' := eq_true c
    rw [if_neg (not_not_intro c)]
    cases e : aget E.talks k with
    | none =>
      have e2 := (h.t.none_iff k).mpr e
      simp only [mer, fx, gn, gi, c', e2, Option.isSome_none, Option.isSome_some, not_true_eq_false]
      rfl
    | some T =>
      obtain ⟨a, h1, h2, h3⟩ := h.t.at e
      simp only [mer, fx, gn, gi, c', h1, Option.isSome_none, Option.isSome_some, not_true_eq_false, exA]
  · rw [if_pos c]
    simp only [mer, fx, gn, gi, c, not_false_eq_true]
    rfl
theorem is_shut_eq {a : Nat} {T : Tk} (h : S[a]? = some (tkC T)) : m_Talk_is_shut [.ref a] S = some (.ok (.bl T.shut), S) := by
  (unfold m_Talk_is_shut b_Talk_is_shut; refine Eq.trans (fnM_l (l := [_]) rfl rfl _) ?_)
  unfold Tk.shut
  cases hx : T.xh
  · simp only [mer, h, hx, Bool.false_or]
  · simp only [mer, h, hx, Bool.true_or]
theorem unshut_eq (h : EndAt S b E ad) (k : Int) : m_End_unshut [.ref b, .int k] S = some (exA ad k (E.unshut k), S) := by
  have fx := h.fx
  have kn := known_eq h k
  (unfold m_End_unshut b_End_unshut; refine Eq.trans (fnM_l (l := [_, _, none]) rfl rfl _) ?_)
  unfold EA.unshut
  cases e : E.known k with
  | error w =>
    rw [e] at kn
    simp only [mer, fx, kn, exA]
  | ok T =>
    rw [e] at kn
    have e1 : aget E.talks k = some T := by
      unfold EA.known at e
      split at e
      · cases e
      · split at e
        · cases e
        · rename_i T' hT; cases e; exact hT
    obtain ⟨a, h1, h2, h3⟩ := h.t.at e1
    have fr := far h3
    have is := is_shut_eq h2
    by_cases c : T.shut = true
    · simp only [mer, fx, kn, exA, h1, h2, fr, is, c]
      rfl
    · rw [Bool.not_eq_true] at c
      simp only [mer, fx, kn, exA, h1, h2, fr, is, c]
theorem unshut_some {k : Int} {T : Tk} (h : E.unshut k = .ok T) : aget E.talks k = some T ∧ E.broken = "" ∧ T.shut = false := by
  unfold EA.unshut EA.known at h
  split at h
  · cases h
  · rename_i T' hT
    split at hT
    · cases hT
    · rename_i hb
      split at hT
      · cases hT
      · rename_i U hU
        cases hT
        split at h
        · cases h
        · rename_i hs
          cases h
          exact ⟨hU, Classical.not_not.mp hb, by rw [Bool.not_eq_true] at hs; exact hs⟩
def Does (m : Out D) (S : Store) (b : Nat) (ad : List (Int × Nat)) (d : D) : Except Str EA → Prop
  | .error w => m = some (.error (nd w), S)
  | .ok E' => ∃ S' ad', m = some (.ok d, S') ∧ EndAt S' b E' ad' ∧ Kp S S' b ad ∧ (∀ k a, aget ad' k = some a → aget ad k = some a ∨ S.length ≤ a)
theorem mt_put {ts : List (Int × Tk)} {k : Int} {T : Tk} (h : ∀ k T, aget ts k = some T → 0 ≤ T.may) (hm : 0 ≤ T.may) : ∀ k' T', aget (aput ts k T) k' = some T' → 0 ≤ T'.may := fun k' T' e => by
  rw [aget_put] at e
  by_cases c : k = k'
  · rw [if_pos c] at e; cases e; exact hm
  · rw [if_neg c] at e; exact h k' T' e
theorem EOk.setT (h : EOk E) {k : Int} {T U : Tk} (e : aget E.talks k = some U) (hm : 0 ≤ T.may) : EOk (E.setT k T) :=
  ⟨h.bs, h.to, h.tl, h.ho, h.hl, by show ((aput E.talks k T).map _).Nodup; rw [aput_some e]; exact h.kn, by show ∀ x ∈ (aput E.talks k T).map _, _; rw [aput_some e]; exact h.kr, h.hh, h.hs, mt_put h.mt hm, h.ml, h.mn⟩
def Own (b : Nat) (ad : List (Int × Nat)) (x : Nat) : Prop := (b ≤ x ∧ x ≤ b + 6) ∨ ∃ k, aget ad k = some x
theorem Kp.refl (S : Store) : Kp S S b ad := ⟨Nat.le_refl _, fun _ _ _ _ => rfl⟩
theorem Kp.trans {S1 S2 : Store} (h : Kp S S1 b ad) (g : Kp S1 S2 b ad) : Kp S S2 b ad :=
  ⟨Nat.le_trans h.len g.len, fun i h1 h2 h3 => (g.keep i (Nat.lt_of_lt_of_le h1 h.len) h2 h3).trans (h.keep i h1 h2 h3)⟩
theorem Kp.trans' {S1 S2 : Store} {ad' : List (Int × Nat)} (h : Kp S S1 b ad) (g : Kp S1 S2 b ad') (q : ∀ k a, aget ad' k = some a → aget ad k = some a ∨ S.length ≤ a) : Kp S S2 b ad :=
  ⟨Nat.le_trans h.len g.len, fun i h1 h2 h3 => (g.keep i (Nat.lt_of_lt_of_le h1 h.len) h2 (fun k z => by
    rcases q k i z with y | y
    · exact h3 k y
    · omega)).trans (h.keep i h1 h2 h3)⟩
theorem Kp.set {x : Nat} {c : Cell} (h : Own b ad x) : Kp S (S.set x c) b ad :=
  ⟨by rw [List.length_set]; exact Nat.le_refl _, fun i h1 h2 h3 => by
    rw [gs_r, if_neg (fun z => ?_)]
    subst z
    rcases h with h | ⟨k, h⟩
    · omega
    · exact h3 k h⟩
theorem Kp.app (X : Store) : Kp S (S ++ X) b ad := ⟨by rw [List.length_append]; omega, fun i h1 _ _ => List.getElem?_append_left h1⟩
theorem EndAt.keep {S' : Store} (h : EndAt S b E ad) (q : ∀ x, Own b ad x → S'[x]? = S[x]?) : EndAt S' b E ad := by
  have o : ∀ j, j ≤ 6 → S'[b + j]? = S[b + j]? := fun j hj => q _ (.inl ⟨by omega, by omega⟩)
  exact ⟨(o 0 (by decide)).trans h.c0, (o 1 (by decide)).trans h.c1, (o 2 (by decide)).trans h.c2, (o 3 (by decide)).trans h.c3, (o 4 (by decide)).trans h.c4, (o 5 (by decide)).trans h.c5, (o 6 (by decide)).trans h.c6, h.t.keep (fun k a e => q a (.inr ⟨k, e⟩)), h.ok⟩
theorem EndAt.own_lt (h : EndAt S b E ad) {x : Nat} (o : Own b ad x) : x < S.length := by
  rcases o with ⟨o1, o2⟩ | ⟨k, o⟩
  · have := get_lt h.c6; omega
  · cases e : aget E.talks k with
    | none => rw [(h.t.none_iff k).mpr e] at o; cases o
    | some T =>
      obtain ⟨a, h1, h2, _⟩ := h.t.at e
      rw [o] at h1
      cases h1
      exact get_lt h2
theorem EndAt.app (h : EndAt S b E ad) (X : Store) : EndAt (S ++ X) b E ad := h.keep fun x o => List.getElem?_append_left (h.own_lt o)
theorem EndAt.sets (h : EndAt S b E ad) {x : Nat} (c : Cell) (o : ¬ Own b ad x) : EndAt (S.set x c) b E ad := h.keep fun y q => by rw [gs_r, if_neg (fun z : x = y => o (by rw [z]; exact q))]
theorem EndAt.putT {k : Int} {a : Nat} {T U : Tk} (h : EndAt S b E ad) (hk : aget ad k = some a) (h2 : S[a]? = some (tkC U)) (hm : 0 ≤ T.may) : EndAt (S.set a (tkC T)) b (E.setT k T) ad := by
  have fx := h.fx
  have fr := far (h.t.far k a hk)
  have hl := get_ltT h2
  have e1 : ∃ V, aget E.talks k = some V := by
    cases e : aget E.talks k with
    | none => rw [(h.t.none_iff k).mpr e] at hk; cases hk
    | some V => exact ⟨V, rfl⟩
  obtain ⟨V, e1⟩ := e1
  refine ⟨?_, ?_, ?_, ?_, ?_, ?_, ?_, ?_, h.ok.setT e1 hm⟩
  · simp only [mer, fx, fr]; rfl
  · simp only [mer, fx, fr]; rfl
  · simp only [mer, fx, fr]
  · simp only [mer, fx, fr]; rfl
  · simp only [mer, fx, fr]; rfl
  · simp only [mer, fx, fr]; rfl
  · simp only [mer, fx, fr]; rfl
  · exact h.t.put hk (by simp only [mer, hl]) (fun k' a' g1 g2 => by rw [gs_r, if_neg (Ne.symm g2)])
theorem EndAt.tkeep {j : Nat} (h : EndAt S b E ad) (c : Cell) (hj : j ≤ 6) : Tks (S.set (b + j) c) b E.talks ad := h.t.keep fun k a e => by
  have := h.t.far k a e
  rw [gs_r, if_neg (by omega)]
theorem EndAt.putOut (h : EndAt S b E ad) (o : List (List Int)) : EndAt (S.set (b + 6) (lsD (o.map inD1))) b { E with out := o } ad := by
  have fx := h.fx
  refine ⟨?_, ?_, ?_, ?_, ?_, ?_, ?_, h.tkeep _ (by decide), ⟨h.ok.bs, h.ok.to, h.ok.tl, h.ok.ho, h.ok.hl, h.ok.kn, h.ok.kr, h.ok.hh, h.ok.hs, h.ok.mt, h.ok.ml, h.ok.mn⟩⟩ <;> simp only [mer, fx] <;> rfl
theorem EndAt.putLine (h : EndAt S b E ad) (L : Tk) (hm : 0 ≤ L.may) : EndAt (S.set (b + 1) (tkC L)) b { E with line := L } ad := by
  have fx := h.fx
  refine ⟨?_, ?_, ?_, ?_, ?_, ?_, ?_, h.tkeep _ (by decide), ⟨h.ok.bs, h.ok.to, h.ok.tl, h.ok.ho, h.ok.hl, h.ok.kn, h.ok.kr, h.ok.hh, h.ok.hs, h.ok.mt, hm, h.ok.mn⟩⟩ <;> (try simp only [mer, fx]) <;> rfl
theorem EndAt.putTold (h : EndAt S b E ad) {ps : List Pr} (h1 : PsOk ps) (h2 : ps.length ≤ 24) : EndAt (S.set (b + 3) (shD ps)) b { E with told := ps } ad := by
  have fx := h.fx
  refine ⟨?_, ?_, ?_, ?_, ?_, ?_, ?_, h.tkeep _ (by decide), ⟨h.ok.bs, h1, h2, h.ok.ho, h.ok.hl, h.ok.kn, h.ok.kr, h.ok.hh, h.ok.hs, h.ok.mt, h.ok.ml, h.ok.mn⟩⟩ <;> (try simp only [mer, fx]) <;> rfl
theorem EndAt.putHeard (h : EndAt S b E ad) {ps : List Pr} (h1 : PsOk ps) (h2 : ps.length ≤ 24) : EndAt (S.set (b + 4) (shD ps)) b { E with heard := ps } ad := by
  have fx := h.fx
  refine ⟨?_, ?_, ?_, ?_, ?_, ?_, ?_, h.tkeep _ (by decide), ⟨h.ok.bs, h.ok.to, h.ok.tl, h1, h2, h.ok.kn, h.ok.kr, h.ok.hh, h.ok.hs, h.ok.mt, h.ok.ml, h.ok.mn⟩⟩ <;> (try simp only [mer, fx]) <;> rfl
theorem EndAt.putHeld (h : EndAt S b E ad) {H : List Int} (h1 : ∀ x ∈ H, 0 ≤ x ∧ x < 256) (h2 : Short H) : EndAt (S.set (b + 5) (cuD H)) b { E with held := H } ad := by
  have fx := h.fx
  refine ⟨?_, ?_, ?_, ?_, ?_, ?_, ?_, h.tkeep _ (by decide), ⟨h.ok.bs, h.ok.to, h.ok.tl, h.ok.ho, h.ok.hl, h.ok.kn, h.ok.kr, h1, h2, h.ok.mt, h.ok.ml, h.ok.mn⟩⟩ <;> (try simp only [mer, fx]) <;> rfl
theorem EndAt.putE {E' : EA} (h : EndAt S b E ad) (h1 : E'.line = E.line) (h2 : E'.talks = E.talks) (h3 : E'.told = E.told) (h4 : E'.heard = E.heard) (h5 : E'.held = E.held) (h6 : E'.out = E.out) (h7 : PyData.strOk E'.broken = true) (h8 : 0 ≤ E'.mine ∧ E'.mine ≤ 250) : EndAt (S.set b (enC b E')) b E' ad := by
  have fx := h.fx
  refine ⟨?_, ?_, ?_, ?_, ?_, ?_, ?_, ?_, ⟨h7, by rw [h3]; exact h.ok.to, by rw [h3]; exact h.ok.tl, by rw [h4]; exact h.ok.ho, by rw [h4]; exact h.ok.hl, by rw [h2]; exact h.ok.kn, by rw [h2]; exact h.ok.kr, by rw [h5]; exact h.ok.hh, by rw [h5]; exact h.ok.hs, by rw [h2]; exact h.ok.mt, by rw [h1]; exact h.ok.ml, h8⟩⟩
  · simp only [mer, fx]
  · simp only [mer, fx, h1]
  · simp only [mer, fx]
  · simp only [mer, fx, h3]
  · simp only [mer, fx, h4]
  · simp only [mer, fx, h5]
  · simp only [mer, fx, h6]
  · rw [h2]; exact h.tkeep (j := 0) _ (by decide)
theorem own0 (j : Nat) (h : j ≤ 6 := by decide) : Own b ad (b + j) := .inl ⟨by omega, by omega⟩
theorem ownb : Own b ad b := .inl ⟨by omega, by omega⟩
theorem own1 {k : Int} {a : Nat} (h : aget ad k = some a) : Own b ad a := .inr ⟨k, h⟩
theorem Does.er {m : Out D} {d : D} {r : Except Str EA} {w : Str} (hr : r = .error w) (h : m = some (.error (nd w), S)) : Does m S b ad d r := by rw [hr]; exact h
theorem Does.go {m : Out D} {d : D} {r : Except Str EA} {E' : EA} (hr : r = .ok E') (S' : Store) (ad' : List (Int × Nat)) (h : m = some (.ok d, S')) (h1 : EndAt S' b E' ad') (h2 : Kp S S' b ad) (h3 : ∀ k a, aget ad' k = some a → aget ad k = some a ∨ S.length ≤ a) : Does m S b ad d r := by
  rw [hr]; exact ⟨S', ad', h, h1, h2, h3⟩
theorem say_eq (h : EndAt S b E ad) (k : Int) {d : D} {ns : List Int} (last : Bool) (hd : fList d S = some (.ok (inD1 ns), S)) (hb : ∀ T, aget E.talks k = some T → T.waits.length + ns.length ≤ 16777216) :
    Does (m_End_say [.ref b, .int k, d, .bl last] S) S b ad .non (E.say k ns last) := by
  have fx := h.fx
  have un := unshut_eq h k
  cases e : E.unshut k with
  | error w =>
    rw [e] at un
    refine Does.er (w := w) (by unfold EA.say; rw [e]) ?_
    (unfold m_End_say b_End_say; refine Eq.trans (fnM_l (l := [_, _, _, _, none]) rfl rfl _) ?_)
    simp only [mer, fx, un, exA]
  | ok T =>
    rw [e] at un
    obtain ⟨e1, e2, e3⟩ := unshut_some e
    obtain ⟨a, h1, h2, h3⟩ := h.t.at e1
    have fr := far h3
    have hl := get_ltT h2
    cases hsh : T.sh with
    | false =>
      refine Does.er (w := "early") (by unfold EA.say; rw [e]; simp only [hsh, if_true]) ?_
      (unfold m_End_say b_End_say; refine Eq.trans (fnM_l (l := [_, _, _, _, none]) rfl rfl _) ?_)
      simp only [mer, fx, un, exA, h1, h2, fr, hsh]
      rfl
    | true =>
      by_cases hse : T.se = true ∨ T.eb = true
      · refine Does.er (w := "ended") (by unfold EA.say; rw [e]; simp only [hsh, if_pos hse, Bool.true_eq_false, if_false]) ?_
        (unfold m_End_say b_End_say; refine Eq.trans (fnM_l (l := [_, _, _, _, none]) rfl rfl _) ?_)
        rcases hse with hse | hse
        · simp only [mer, fx, un, exA, h1, h2, fr, hsh, hse]
          rfl
        · cases hs2 : T.se
          · simp only [mer, fx, un, exA, h1, h2, fr, hsh, hse, hs2]
            rfl
          · simp only [mer, fx, un, exA, h1, h2, fr, hsh, hse, hs2]
            rfl
      · obtain ⟨hs1, hs2⟩ : T.se = false ∧ T.eb = false := by
          revert hse
          cases T.se <;> cases T.eb <;> simp
        have fa := fun S => fAdd_in (a := T.waits) (b := ns) (hb T e1) S
        refine Does.go (E' := E.setT k { T with waits := T.waits ++ ns, eb := last }) (by unfold EA.say; rw [e]; simp only [hsh, if_neg hse, Bool.true_eq_false, if_false]) (S.set a (tkC { T with waits := T.waits ++ ns, eb := last })) ad ?_ (h.putT h1 h2 (h.ok.mt k T e1)) (Kp.set (own1 h1)) (fun _ _ z => .inl z)
        (unfold m_End_say b_End_say; refine Eq.trans (fnM_l (l := [_, _, _, _, none]) rfl rfl _) ?_)
        simp only [mer, fx, un, exA, h1, h2, hl, fr, hsh, hs1, hs2, hd, fa]
end
end Law

/-! grant, reset, ask_rank, leave, left, waiting -/
namespace Law
open PySem PySem.Spec L2 Sim
section
variable {S : Store} {b : Nat} {E : EA} {ad : List (Int × Nat)}
theorem framed_go (k f t : Int) (ns : List Int) (h : ns.length ≤ 1000) (S : Store) : m_framed [.int k, .int f, .int t, inD1 ns] S = some (.ok (inD1 (frL ⟨k, f, t, ns⟩)), S) := framed_eq ⟨k, f, t, ns⟩ h S
theorem apC_out {o : List (List Int)} {F : List Int} (h : o.length < 16777216) : apC (inD1 F) (some (lsD (o.map inD1))) = some (lsD ((o ++ [F]).map inD1)) := by
  unfold apC lsD
  simp only
  rw [if_pos (by rw [List.length_map]; exact h), List.map_append]
  rfl
theorem isLC_ls (ds : List D) : isLC (some (lsD ds)) = true := rfl
theorem fl2 (x y : Int) : D.fl [.int x, .int y] = inD1 [x, y] := rfl
theorem fl1 (x : Int) : D.fl [.int x] = inD1 [x] := rfl
theorem fl0 : D.fl [] = inD1 [] := rfl
theorem drop_eq {a : Nat} {T : Tk} (h : S[a]? = some (tkC T)) : m_Talk_drop [.ref a] S = some (.ok .non, S.set a (tkC T.drop)) := by
  have hl := get_ltT h
  (unfold m_Talk_drop b_Talk_drop; refine Eq.trans (fnM_l (l := [_]) rfl rfl _) ?_)
  simp only [mer, h, hl]
  rfl
theorem drop_in (a : Nat) (S : Store) : m_Talk_drop [.ref a] S = fnR ((sSeq (sFld 6 (eVar 0) "waits" (eLst (aNil)))
  (sFld 6 (eVar 0) "ends_behind" (eC (.bl false)))) [some (.ref a)] S) := by
  unfold m_Talk_drop b_Talk_drop
  exact fnM_l rfl rfl S
theorem setO (h : EndAt S b E ad) {k : Int} {a : Nat} {T : Tk} (hk : aget ad k = some a) (h2 : S[a]? = some (tkC T)) (U : Tk) (o : List (List Int)) (hm : 0 ≤ U.may) :
    EndAt ((S.set a (tkC U)).set (b + 6) (lsD (o.map inD1))) b { E with talks := aput E.talks k U, out := o } ad := (h.putT (T := U) hk h2 hm).putOut o
theorem setOK {k : Int} {a : Nat} (hk : aget ad k = some a) (c d : Cell) : Kp S ((S.set a c).set (b + 6) d) b ad := (Kp.set (own1 hk)).trans (Kp.set (own0 6))
theorem fDiv_256 (m : Int) (S : Store) : fDiv (.int m) (.int 256) S = some (.ok (.int (m / 256)), S) := fDiv_i (by decide) (by decide) S
theorem fMod_256 (m : Int) (S : Store) : fMod (.int m) (.int 256) S = some (.ok (.int (m % 256)), S) := fMod_i (by decide) S
theorem grant_eq (h : EndAt S b E ad) (k m : Int) (ho : E.out.length < 16777216) : Does (m_End_grant [.ref b, .int k, .int m] S) S b ad .non (E.grant k m) := by
  have fx := h.fx
  have gn := fNe_s h.ok.bs strOk_c.1 S
  have ap := fun F => apC_out (o := E.out) (F := F) ho
  have gf := fun S => framed_go 3 0 k [m / 256, m % 256] (by show 2 ≤ 1000; decide) S
  by_cases c : E.broken = ""
  · have c' := eq_true c
    by_cases ck : k = 0
    · subst ck
      by_cases he : E.line.he = true
      · refine Does.er (w := "ended") (by unfold EA.grant; rw [if_neg (not_not_intro c), if_pos rfl, if_pos he]) ?_
        (unfold m_End_grant b_End_grant; refine Eq.trans (fnM_l (l := [_, _, _, none]) rfl rfl _) ?_)
        simp only [mer, fx, gn, c', he]
        rfl
      · have he' : E.line.he = false := by rw [Bool.not_eq_true] at he; exact he
        by_cases hm : m < 1 ∨ 10000 < E.line.gives + m
        · refine Does.er (w := "many") (by unfold EA.grant; rw [if_neg (not_not_intro c), if_pos rfl, if_neg he, if_pos hm]) ?_
          (unfold m_End_grant b_End_grant; refine Eq.trans (fnM_l (l := [_, _, _, none]) rfl rfl _) ?_)
          by_cases h1 : m < 1
          · simp only [mer, fx, gn, c', he', h1]
            rfl
          · have h2 : 10000 < E.line.gives + m := by omega
            simp only [mer, fx, gn, c', he', h1, h2]
            rfl
        · have h1 : (m < 1) = False := eq_false (by omega)
          have h2 : (10000 < E.line.gives + m) = False := eq_false (by omega)
          refine Does.go (by unfold EA.grant; rw [if_neg (not_not_intro c), if_pos rfl, if_neg he, if_neg hm]) ((S.set (b + 1) (tkC { E.line with gives := E.line.gives + m })).set (b + 6) (lsD ((E.out ++ [frL ⟨3, 0, 0, [m / 256, m % 256]⟩]).map inD1))) ad ?_ ((h.putLine { E.line with gives := E.line.gives + m } h.ok.ml).putOut _) ((Kp.set (own0 1)).trans (Kp.set (own0 6))) (fun _ _ z => .inl z)
          (unfold m_End_grant b_End_grant; refine Eq.trans (fnM_l (l := [_, _, _, none]) rfl rfl _) ?_)
          simp only [mer, fx, gn, c', he', h1, h2, fDiv_256, fMod_256, fl2, gf, isLC_ls, ap]
    · have ck' := eq_false ck
      have un := unshut_eq h k
      cases e : E.unshut k with
      | error w =>
        rw [e] at un
        refine Does.er (w := w) (by unfold EA.grant; rw [if_neg (not_not_intro c), if_neg ck, e]) ?_
        (unfold m_End_grant b_End_grant; refine Eq.trans (fnM_l (l := [_, _, _, none]) rfl rfl _) ?_)
        simp only [mer, fx, gn, c', ck', un, exA]
      | ok T =>
        rw [e] at un
        obtain ⟨e1, e2, e3⟩ := unshut_some e
        obtain ⟨a, h1, h2, h3⟩ := h.t.at e1
        have fr := far h3
        have hl := get_ltT h2
        cases he : T.he with
        | true =>
          refine Does.er (w := "ended") (by unfold EA.grant; rw [if_neg (not_not_intro c), if_neg ck, e]; simp only [he, if_true]) ?_
          (unfold m_End_grant b_End_grant; refine Eq.trans (fnM_l (l := [_, _, _, none]) rfl rfl _) ?_)
          simp only [mer, fx, gn, c', ck', un, exA, h1, h2, fr, he]
          rfl
        | false =>
          by_cases hm : m < 1 ∨ 10000 < T.gives + m
          · refine Does.er (w := "many") (by unfold EA.grant; rw [if_neg (not_not_intro c), if_neg ck, e]; simp only [he, Bool.false_eq_true, if_false, if_pos hm]) ?_
            (unfold m_End_grant b_End_grant; refine Eq.trans (fnM_l (l := [_, _, _, none]) rfl rfl _) ?_)
            by_cases q1 : m < 1
            · simp only [mer, fx, gn, c', ck', un, exA, h1, h2, fr, he, q1]
              rfl
            · have q2 : 10000 < T.gives + m := by omega
              simp only [mer, fx, gn, c', ck', un, exA, h1, h2, fr, he, q1, q2]
              rfl
          · have q1 : (m < 1) = False := eq_false (by omega)
            have q2 : (10000 < T.gives + m) = False := eq_false (by omega)
            refine Does.go (by unfold EA.grant; rw [if_neg (not_not_intro c), if_neg ck, e]; simp only [he, Bool.false_eq_true, if_false, if_neg hm]) _ ad ?_ (setO h h1 h2 { T with gives := T.gives + m } (E.out ++ [frL ⟨3, 0, k, [m / 256, m % 256]⟩]) (h.ok.mt k T e1)) (setOK h1 _ _) (fun _ _ z => .inl z)
            (unfold m_End_grant b_End_grant; refine Eq.trans (fnM_l (l := [_, _, _, none]) rfl rfl _) ?_)
            simp only [mer, fx, gn, c', ck', un, exA, h1, h2, fr, hl, he, q1, q2, fDiv_256, fMod_256, fl2, gf, isLC_ls, ap]
  · refine Does.er (w := "broken") (by unfold EA.grant; rw [if_pos c]) ?_
    (unfold m_End_grant b_End_grant; refine Eq.trans (fnM_l (l := [_, _, _, none]) rfl rfl _) ?_)
    simp only [mer, fx, gn, c, not_false_eq_true]
    rfl
theorem reset_eq (h : EndAt S b E ad) (k why : Int) (ho : E.out.length < 16777216) : Does (m_End_reset [.ref b, .int k, .int why] S) S b ad .non (E.reset k why) := by
  have fx := h.fx
  have un := unshut_eq h k
  have ap := fun F => apC_out (o := E.out) (F := F) ho
  have gf := fun S => framed_go 4 0 k [why] (by show 1 ≤ 1000; decide) S
  cases e : E.unshut k with
  | error w =>
    rw [e] at un
    refine Does.er (w := w) (by unfold EA.reset; rw [e]) ?_
    (unfold m_End_reset b_End_reset; refine Eq.trans (fnM_l (l := [_, _, _, none]) rfl rfl _) ?_)
    simp only [mer, fx, un, exA]
  | ok T =>
    rw [e] at un
    obtain ⟨e1, e2, e3⟩ := unshut_some e
    obtain ⟨a, h1, h2, h3⟩ := h.t.at e1
    have fr := far h3
    have hl := get_ltT h2
    by_cases c : (T.se = true ∨ T.eb = true) ∧ T.he = true
    · refine Does.er (w := "ended") (by unfold EA.reset; rw [e]; simp only [if_pos c]) ?_
      (unfold m_End_reset b_End_reset; refine Eq.trans (fnM_l (l := [_, _, _, none]) rfl rfl _) ?_)
      obtain ⟨c1, c2⟩ := c
      cases hse : T.se with
      | true =>
        simp only [mer, fx, un, exA, h1, h2, fr, hse, c2]
        rfl
      | false =>
        have c3 : T.eb = true := by
          rcases c1 with z | z
          · rw [hse] at z; cases z
          · exact z
        simp only [mer, fx, un, exA, h1, h2, fr, hse, c2, c3]
        rfl
    · skip
      refine Does.go (by unfold EA.reset; rw [e]; simp only [if_neg c]) _ ad ?_ (setO h h1 h2 { T with xh := true }.drop (E.out ++ [frL ⟨4, 0, k, [why]⟩]) (h.ok.mt k T e1)) (setOK h1 _ _) (fun _ _ z => .inl z)
      (unfold m_End_reset b_End_reset; refine Eq.trans (fnM_l (l := [_, _, _, none]) rfl rfl _) ?_)
      cases hse : T.se with
      | true =>
        have c2 : T.he = false := by
          cases q : T.he
          · rfl
          · exact absurd ⟨.inl hse, q⟩ c
        simp only [mer, fx, un, exA, h1, h2, fr, hl, hse, c2, drop_in, Tk.drop, fl1, gf, isLC_ls, ap]
      | false =>
        cases heb : T.eb with
        | true =>
          have c2 : T.he = false := by
            cases q : T.he
            · rfl
            · exact absurd ⟨.inr heb, q⟩ c
          simp only [mer, fx, un, exA, h1, h2, fr, hl, hse, heb, c2, drop_in, Tk.drop, fl1, gf, isLC_ls, ap]
        | false => simp only [mer, fx, un, exA, h1, h2, fr, hl, hse, heb, drop_in, Tk.drop, fl1, gf, isLC_ls, ap]
theorem askRank_eq (h : EndAt S b E ad) (k r : Int) (ho : E.out.length < 16777216) : Does (m_End_ask_rank [.ref b, .int k, .int r] S) S b ad .non (E.askRank k r) := by
  have fx := h.fx
  have un := unshut_eq h k
  have ap := fun F => apC_out (o := E.out) (F := F) ho
  have gf := fun S => framed_go 5 0 k [r] (by show 1 ≤ 1000; decide) S
  cases e : E.unshut k with
  | error w =>
    rw [e] at un
    refine Does.er (w := w) (by unfold EA.askRank; rw [e]) ?_
    (unfold m_End_ask_rank b_End_ask_rank; refine Eq.trans (fnM_l (l := [_, _, _, none]) rfl rfl _) ?_)
    simp only [mer, fx, un, exA]
  | ok T =>
    rw [e] at un
    obtain ⟨e1, e2, e3⟩ := unshut_some e
    obtain ⟨a, h1, h2, h3⟩ := h.t.at e1
    have fr := far h3
    cases he : T.he with
    | true =>
      refine Does.er (w := "ended") (by unfold EA.askRank; rw [e]; simp only [he, if_true]) ?_
      (unfold m_End_ask_rank b_End_ask_rank; refine Eq.trans (fnM_l (l := [_, _, _, none]) rfl rfl _) ?_)
      simp only [mer, fx, un, exA, h1, h2, fr, he]
      rfl
    | false =>
      by_cases c : 0 ≤ r ∧ r ≤ 7
      · obtain ⟨c1, c2⟩ := c
        refine Does.go (by unfold EA.askRank; rw [e]; simp only [he, Bool.false_eq_true, if_false, c1, c2, and_self, not_true_eq_false]) _ ad ?_ (h.putOut (E.out ++ [frL ⟨5, 0, k, [r]⟩])) (Kp.set (own0 6)) (fun _ _ z => .inl z)
        (unfold m_End_ask_rank b_End_ask_rank; refine Eq.trans (fnM_l (l := [_, _, _, none]) rfl rfl _) ?_)
        simp only [mer, fx, un, exA, h1, h2, fr, he, c1, c2, fl1, gf, isLC_ls, ap]
      · refine Does.er (w := "many") (by unfold EA.askRank; rw [e]; simp only [he, Bool.false_eq_true, if_false, c, not_false_eq_true, if_true]) ?_
        (unfold m_End_ask_rank b_End_ask_rank; refine Eq.trans (fnM_l (l := [_, _, _, none]) rfl rfl _) ?_)
        by_cases c1 : 0 ≤ r
        · have c2 : (r ≤ 7) = False := eq_false (by omega)
          simp only [mer, fx, un, exA, h1, h2, fr, he, c1, c2]
          rfl
        · have c1' := eq_false c1
          simp only [mer, fx, un, exA, h1, h2, fr, he, c1']
          rfl
theorem leave_eq (h : EndAt S b E ad) (ho : E.out.length < 16777216) : Does (m_End_leave [.ref b] S) S b ad .non E.leave := by
  have fx := h.fx
  have gn := fNe_s h.ok.bs strOk_c.1 S
  have ap := fun F => apC_out (o := E.out) (F := F) ho
  have gf := fun S => framed_go 6 0 0 [E.theirs] (by show 1 ≤ 1000; decide) S
  by_cases c : E.broken = ""
  · have c' := eq_true c
    by_cases cl : E.left = none
    · have cl' := eq_true cl
      refine Does.go (by unfold EA.leave; rw [if_neg (not_not_intro c), if_neg (not_not_intro cl)]) ((S.set b (enC b { E with left := some E.theirs })).set (b + 6) (lsD ((E.out ++ [frL ⟨6, 0, 0, [E.theirs]⟩]).map inD1))) ad ?_ ((h.putE (E' := { E with left := some E.theirs }) rfl rfl rfl rfl rfl rfl h.ok.bs h.ok.mn).putOut _) ((Kp.set ownb).trans (Kp.set (own0 6))) (fun _ _ z => .inl z)
      (unfold m_End_leave b_End_leave; refine Eq.trans (fnM_l (l := [_]) rfl rfl _) ?_)
      simp only [mer, fx, gn, c', cl', fl1, gf, isLC_ls, ap]
    · refine Does.er (w := "away") (by unfold EA.leave; rw [if_neg (not_not_intro c), if_pos cl]) ?_
      (unfold m_End_leave b_End_leave; refine Eq.trans (fnM_l (l := [_]) rfl rfl _) ?_)
      simp only [mer, fx, gn, c', cl, not_false_eq_true]
      rfl
  · refine Does.er (w := "broken") (by unfold EA.leave; rw [if_pos c]) ?_
    (unfold m_End_leave b_End_leave; refine Eq.trans (fnM_l (l := [_]) rfl rfl _) ?_)
    simp only [mer, fx, gn, c, not_false_eq_true]
    rfl
def ansI : Except Str Int → Except Exn D
  | .error w => .error (nd w)
  | .ok i => .ok (.int i)
theorem left_eq (h : EndAt S b E ad) (k : Int) : m_End_left [.ref b, .int k] S = some (ansI (E.leftOf k), S) := by
  have fx := h.fx
  have gi := notIn_dcC h.c2 k
  unfold EA.leftOf
  by_cases c : k = 0
  · subst c
    rw [if_pos rfl]
    (unfold m_End_left b_End_left; refine Eq.trans (fnM_l (l := [_, _]) rfl rfl _) ?_)
    simp only [mer, fx]
    rfl
  · have c' := eq_false c
    rw [if_neg c]
    cases e : aget E.talks k with
    | none =>
      have e2 := (h.t.none_iff k).mpr e
      (unfold m_End_left b_End_left; refine Eq.trans (fnM_l (l := [_, _]) rfl rfl _) ?_)
      simp only [mer, fx, c', gi, e2, Option.isSome_none]
      rfl
    | some T =>
      obtain ⟨a, h1, h2, h3⟩ := h.t.at e
      have fr := far h3
      (unfold m_End_left b_End_left; refine Eq.trans (fnM_l (l := [_, _]) rfl rfl _) ?_)
      simp only [mer, fx, c', gi, h1, h2, fr, Option.isSome_some]
      rfl
theorem waiting_eq (h : EndAt S b E ad) (k : Int) : m_End_waiting [.ref b, .int k] S = some (ansI (E.waiting k), S) := by
  have fx := h.fx
  have gi := notIn_dcC h.c2 k
  unfold EA.waiting
  cases e : aget E.talks k with
  | none =>
    have e2 := (h.t.none_iff k).mpr e
    (unfold m_End_waiting b_End_waiting; refine Eq.trans (fnM_l (l := [_, _]) rfl rfl _) ?_)
    simp only [mer, fx, gi, e2, Option.isSome_none]
    rfl
  | some T =>
    obtain ⟨a, h1, h2, h3⟩ := h.t.at e
    have fr := far h3
    have gl := fLen_in T.waits
    (unfold m_End_waiting b_End_waiting; refine Eq.trans (fnM_l (l := [_, _]) rfl rfl _) ?_)
    simp only [mer, fx, gi, h1, h2, fr, Option.isSome_some, gl]
    rfl
end
end Law

/-! what goes next -/
namespace Law
open PySem PySem.Spec L2 Sim
theorem toPs_ll : ∀ xs : List (List Int), toPs (xs.map inD1) = some (xs.map fun F => PyData.list (F.map PyData.int))
  | [] => rfl
  | F :: xs => by
    rw [List.map_cons]
    unfold toPs inD1 toP
    rw [toPs_ints]
    have := toPs_ll xs
    unfold inD1 at this
    rw [this]
    rfl
theorem depDs_ll : ∀ xs : List (List Int), depDs (xs.map inD1) ≤ 2
  | [] => by decide
  | F :: xs => by
    rw [List.map_cons]
    unfold depDs inD1 depD
    rw [depDs_ints]
    have := depDs_ll xs
    unfold inD1 at this
    omega
theorem lay_ll : ∀ xs : List (List Int), PyData.canLayAll0 (xs.map fun F => PyData.list (F.map PyData.int)) = true
  | [] => rfl
  | F :: xs => by
    rw [List.map_cons]
    unfold PyData.canLayAll0
    rw [lay_ll xs]
    unfold PyData.canLay0
    rw [lay_ints]
    rfl
theorem dep_ll : ∀ xs : List (List Int), PyData.depthAll (xs.map fun F => PyData.list (F.map PyData.int)) ≤ 1
  | [] => by decide
  | F :: xs => by
    rw [List.map_cons]
    unfold PyData.depthAll PyData.depth
    rw [dep_ints]
    have := dep_ll xs
    omega
theorem shaped_ll (xs : List (List Int)) : SeqAt.shaped (.list (xs.map fun F => PyData.list (F.map PyData.int))) = true := by
  unfold SeqAt.shaped
  rw [Bool.and_eq_true]
  refine ⟨?_, ?_⟩
  · unfold PyData.canLay0; exact lay_ll xs
  · unfold PyData.depth; have := dep_ll xs; exact decide_eq_true (by omega)
theorem fNe_out {S : Store} {n : Nat} {o : List (List Int)} (h : S[n]? = some (lsD (o.map inD1))) : fNe (.ref n) (.fl []) S = some (.ok (.bl (!decide (o = []))), S) := by
  have p1 : pyD S pyDepth (.ref n) = some (.list (o.map fun F => PyData.list (F.map PyData.int))) := by
    show pyD S (7 + 1) (.ref n) = _
    unfold pyD
    simp only [h, lsD]
    rw [mapM_py (fun d x q r => pyD_of 7 d x q r) _ _ (toPs_ll o) (Nat.le_trans (depDs_ll o) (by decide))]
    rfl
  have p2 : pyD S pyDepth (.fl []) = some (.list []) := rfl
  unfold fNe eqD
  rw [p1, p2]
  simp only
  rw [if_pos ⟨shaped_ll o, by decide +kernel⟩]
  cases o <;> rfl
theorem fEq_in (a c : List Int) (S : Store) : fEq (inD1 a) (inD1 c) S = some (.ok (.bl (decide (a = c))), S) := by unfold fEq inD1; rw [eqD_ints]
theorem fEq_in0 (a : List Int) (S : Store) : fEq (inD1 a) (.fl []) S = some (.ok (.bl (decide (a = []))), S) := fEq_in a [] S
theorem fNe_in (a c : List Int) (S : Store) : fNe (inD1 a) (inD1 c) S = some (.ok (.bl (!decide (a = c))), S) := by unfold fNe inD1; rw [eqD_ints]
theorem fLt_pair (r s r' s' : Int) (S : Store) : fLt (.tup [.int r, .int s]) (.tup [.int r', .int s']) S = some (.ok (.bl (decide (r < r' ∨ r = r' ∧ s < s'))), S) := by
  show some (Except.ok (D.bl (HT.lexLt [r, s] [r', s'])), S) = _
  have : HT.lexLt [r, s] [r', s'] = decide (r < r' ∨ r = r' ∧ s < s') := by
    rw [HT.lexLt_cons, HT.lexLt_cons, HT.lexLt_nil_nil]
    by_cases c : r = r'
    · rw [if_pos c]
      by_cases d : s = s'
      · rw [if_pos d, decide_eq_false (by omega)]
      · rw [if_neg d]
        by_cases e : s < s'
        · rw [decide_eq_true e, decide_eq_true (by omega)]
        · rw [decide_eq_false e, decide_eq_false (by omega)]
    · rw [if_neg c]
      by_cases e : r < r'
      · rw [decide_eq_true e, decide_eq_true (by omega)]
      · rw [decide_eq_false e, decide_eq_false (by omega)]
  rw [this]
theorem fMin4 (i j k z : Int) (S : Store) : fMinN 4 [.int i, .int j, .int k, .int z] S = some (.ok (.int (minI (minI (minI i j) k) z)), S) := rfl
theorem fMin3 (i j k : Int) (S : Store) : fMinN 3 [.int i, .int j, .int k] S = some (.ok (.int (minI (minI i j) k)), S) := rfl
section
variable {S : Store} {b : Nat} {E : EA} {ad : List (Int × Nat)}
theorem can_eq {a n : Nat} {T L : Tk} (h : S[a]? = some (tkC T)) (h2 : S[n]? = some (tkC L)) : m_Talk_can_send [.ref a, .ref n] S = some (.ok (.bl (T.can L)), S) := by
  have is := is_shut_eq h
  have fe := fun S => fEq_in0 T.waits S
  unfold Tk.can
  cases c : T.shut with
  | true =>
    (unfold m_Talk_can_send b_Talk_can_send; refine Eq.trans (fnM_l (l := [_, _]) rfl rfl _) ?_)
    simp only [mer, h, is, c, Bool.true_or]
  | false =>
    cases c2 : T.se with
    | true =>
      (unfold m_Talk_can_send b_Talk_can_send; refine Eq.trans (fnM_l (l := [_, _]) rfl rfl _) ?_)
      simp only [mer, h, is, c, c2, Bool.false_or]
    | false =>
      by_cases c3 : T.waits = []
      · have c3' := eq_true c3
        rw [if_neg (by decide), if_pos c3]
        (unfold m_Talk_can_send b_Talk_can_send; refine Eq.trans (fnM_l (l := [_, _]) rfl rfl _) ?_)
        simp only [mer, h, is, c, c2, fe, c3']
      · rw [if_neg (by decide), if_neg c3]
        (unfold m_Talk_can_send b_Talk_can_send; refine Eq.trans (fnM_l (l := [_, _]) rfl rfl _) ?_)
        by_cases c4 : 0 < T.may
        · simp only [mer, h, h2, is, c, c2, fe, c3, c4, Bool.true_and]
        · simp only [mer, h, h2, is, c, c2, fe, c3, c4, Bool.false_and]
def bNx : MS := (sSeq (sSet 3 (e2 fIx (e1 (fFld 7 "talks") (eVar 0)) (eVar 2)))
  (sIf (tOf (eMeth 6 "can_send" m_Talk_can_send (eVar 3) (aCons (e1 (fFld 7 "line") (eVar 0)) (aNil)))) (sIf (tOr (tOf (e2 fIs (eVar 1) (eC (.non)))) (tOf (e2 fLt (eTup (aCons (e1 (fFld 6 "rank") (eVar 3)) (aCons (e1 (fFld 6 "served") (eVar 3)) (aNil)))) (eTup (aCons (e1 (fFld 6 "rank") (eVar 1)) (aCons (e1 (fFld 6 "served") (eVar 1)) (aNil))))))) (sSet 1 (eVar 3)) (sNext)) (sNext)))
def Best (S : Store) (ad : List (Int × Nat)) : Option (Int × Tk) → D → Prop
  | none, d => d = .non
  | some (k, T), d => ∃ a, d = .ref a ∧ aget ad k = some a ∧ S[a]? = some (tkC T)
theorem best_loop (h : EndAt S b E ad) : ∀ (ks : List Int) (o : Option (Int × Tk)) (d : D) (o2 o3 : Option D), (∀ k ∈ ks, (aget E.talks k).isSome = true) → Best S ad o d →
    ∃ d' o2' o3', forL (.one 2) bNx (ks.map D.int) [some (.ref b), some d, o2, o3] S = some (.nx [some (.ref b), some d', o2', o3'], S) ∧ Best S ad (bestOf E ks o) d'
  | [], o, d, o2, o3, _, hb => ⟨d, o2, o3, rfl, hb⟩
  | k :: ks, o, d, o2, o3, hk, hb => by
    have fx := h.fx
    cases e : aget E.talks k with
    | none => have := hk k List.mem_cons_self; rw [e] at this; cases this
    | some T =>
      obtain ⟨a, h1, h2, h3⟩ := h.t.at e
      have fr := far h3
      have cs := can_eq h2 h.c1
      have hks : ∀ k ∈ ks, (aget E.talks k).isSome = true := fun x hx => hk x (List.mem_cons_of_mem _ hx)
      rw [List.map_cons, forL]
      simp only [tgSet, List.set_cons_succ, List.set_cons_zero]
      unfold bestOf
      simp only [e]
      cases c : T.can E.line with
      | false =>
        have step : bNx [some (.ref b), some d, some (.int k), o3] S = some (.nx [some (.ref b), some d, some (.int k), some (.ref a)], S) := by
          unfold bNx
          simp only [mer, fx, h1, h2, fr, cs, c]
        rw [step]
        simp only [Bool.false_eq_true, if_false]
        exact best_loop h ks o d _ _ hks hb
      | true =>
        simp only [if_true]
        cases o with
        | none =>
          have hd : d = .non := hb
          subst hd
          have step : bNx [some (.ref b), some .non, some (.int k), o3] S = some (.nx [some (.ref b), some (.ref a), some (.int k), some (.ref a)], S) := by
            unfold bNx
            simp only [mer, fx, h1, h2, fr, cs, c]
          rw [step]
          exact best_loop h ks (some (k, T)) (.ref a) _ _ hks ⟨a, rfl, h1, h2⟩
        | some p =>
          obtain ⟨k0, B⟩ := p
          obtain ⟨a0, rfl, g1, g2⟩ := hb
          simp only
          by_cases lt : T.rank < B.rank ∨ T.rank = B.rank ∧ T.served < B.served
          · have lt' := eq_true lt
            have step : bNx [some (.ref b), some (.ref a0), some (.int k), o3] S = some (.nx [some (.ref b), some (.ref a), some (.int k), some (.ref a)], S) := by
              unfold bNx
              simp only [mer, fx, h1, h2, g2, fr, cs, c, fLt_pair, lt']
            rw [step, if_pos lt]
            exact best_loop h ks (some (k, T)) (.ref a) _ _ hks ⟨a, rfl, h1, h2⟩
          · have lt' := eq_false lt
            have step : bNx [some (.ref b), some (.ref a0), some (.int k), o3] S = some (.nx [some (.ref b), some (.ref a0), some (.int k), some (.ref a)], S) := by
              unfold bNx
              simp only [mer, fx, h1, h2, g2, fr, cs, c, fLt_pair, lt']
            rw [step, if_neg lt]
            exact best_loop h ks (some (k0, B)) (.ref a0) _ _ hks ⟨a0, rfl, g1, g2⟩
theorem minI_le (i j : Int) : minI i j ≤ i ∧ minI i j ≤ j := by unfold minI; split <;> omega
theorem minI_ge {i j n : Int} (h1 : n ≤ i) (h2 : n ≤ j) : n ≤ minI i j := by unfold minI; split <;> omega
theorem EA.many_in (h : EOk E) {k : Int} {T : Tk} (e : aget E.talks k = some T) : 0 ≤ E.many T ∧ E.many T ≤ T.waits.length ∧ E.many T ≤ T.may ∧ E.many T ≤ E.line.may ∧ E.many T ≤ 10 := by
  have h1 := h.mt k T e
  have h2 := h.ml
  unfold EA.many
  obtain ⟨a1, a2⟩ := minI_le (minI (minI T.waits.length T.may) E.line.may) 10
  obtain ⟨a3, a4⟩ := minI_le (minI (T.waits.length : Int) T.may) E.line.may
  obtain ⟨a5, a6⟩ := minI_le (T.waits.length : Int) T.may
  refine ⟨minI_ge (minI_ge (minI_ge (by omega) h1) h2) (by decide), by omega, by omega, by omega, a2⟩
theorem scm {i j : Nat} (h : i ≠ j) (S : Store) (c d : Cell) : (S.set i c).set j d = (S.set j d).set i c := List.set_comm c d h
theorem body_eq (h : EndAt S b E ad) {k : Int} {a : Nat} {T : Tk} (e : aget E.talks k = some T) (h1 : aget ad k = some a) (h2 : S[a]? = some (tkC T)) :
    ∃ S', m_End_body_of [.ref b, .ref a] S = some (.ok (inD1 (E.body k T).1), S') ∧ EndAt S' b (E.body k T).2 ad ∧ Kp S S' b ad := by
  have fx := h.fx
  have h3 := h.t.far k a h1
  have fr := far h3
  have hl := get_ltT h2
  obtain ⟨n0, n1, n2, n3, n4⟩ := EA.many_in h.ok e
  have gl := fLen_in T.waits
  have gm : ∀ S, fMinN 4 [.int (T.waits.length : Nat), .int T.may, .int E.line.may, .int 10] S = some (.ok (.int (E.many T)), S) := fun S => fMin4 _ _ _ _ S
  generalize hm : E.many T = m at *
  have s1 : ∀ S, fSl (inD1 T.waits) none (some m) S = some (.ok (inD1 (T.waits.take m.toNat)), S) := fun S => by
    show some (Except.ok (D.fl (cutD (T.waits.map D.int) none (some m))), S) = _
    rw [cut_hi n0 (by rw [List.length_map]; exact n1), ← List.map_take]
    rfl
  have s2 : ∀ S, fSl (inD1 T.waits) (some m) none S = some (.ok (inD1 (T.waits.drop m.toNat)), S) := fun S => by
    show some (Except.ok (D.fl (cutD (T.waits.map D.int) (some m) none)), S) = _
    rw [cut_lo n0 (by rw [List.length_map]; exact n1), ← List.map_drop]
    rfl
  have fe := fun S => fEq_in0 (T.waits.drop m.toNat) S
  have gf := fun (c : Bool) S => framed_go 2 (b2i c) T.num (T.waits.take m.toNat) (by rw [List.length_take]; omega) S
  have gi : ∀ (c : Bool) S, fInt (.bl c) S = some (.ok (.int (b2i c)), S) := fun _ _ => rfl
  have e1 := h.putT (T := E.bodyT T) h1 h2 (by show 0 ≤ T.may - E.many T; rw [hm]; omega)
  have e2 := e1.putLine { E.line with may := E.line.may - m } (by show 0 ≤ E.line.may - m; omega)
  have e3 := e2.putE (E' := (E.body k T).2) (by unfold EA.body; rw [hm]) rfl rfl rfl rfl rfl h.ok.bs h.ok.mn
  refine ⟨((S.set a (tkC (E.bodyT T))).set (b + 1) (tkC { E.line with may := E.line.may - m })).set b (enC b { E with turns := E.turns + 1 }), ?_, e3, ((Kp.set (own1 h1)).trans (Kp.set (own0 1))).trans (Kp.set ownb)⟩
  unfold EA.body EA.bodyT
  simp only [hm]
  generalize T.waits.take m.toNat = W1 at *
  generalize T.waits.drop m.toNat = W2 at *
  clear gm e1 e2 e3
  have gm : ∀ S, fMinN 4 [.int (T.waits.length : Nat), .int T.may, .int E.line.may, .int 10] S = some (.ok (.int m), S) := fun S => by rw [← hm]; exact fMin4 _ _ _ _ S
  generalize ((T.waits.length : Nat) : Int) = z at *
  have sc1 := scm (i := b + 1) (j := a) (by omega)
  have sc0 := scm (i := b) (j := a) (by omega)
  (unfold m_End_body_of b_End_body_of; refine Eq.trans (fnM_l (l := [_, _, none, none]) rfl rfl _) ?_)
  by_cases c : W2 = []
  · have c' := eq_true c
    simp only [mer, fx, h1, h2, fr, hl, gl, gm, s1, s2, fe, gf, gi, c', Bool.true_and, sc1, sc0]
  · have c' := eq_false c
    simp only [mer, fx, h1, h2, fr, hl, gl, gm, s1, s2, fe, gf, gi, c', Bool.false_and, sc1, sc0]
theorem best_in : ∀ (ks : List Int) (o : Option (Int × Tk)), (∀ k T, o = some (k, T) → aget E.talks k = some T) → ∀ k T, bestOf E ks o = some (k, T) → aget E.talks k = some T
  | [], o, h, k, T, e => h k T e
  | x :: ks, o, h, k, T, e => by
    unfold bestOf at e
    split at e
    · exact best_in ks o h k T e
    · rename_i U hU
      have hn : ∀ k T, some (x, U) = some (k, T) → aget E.talks k = some T := fun k T z => by cases z; exact hU
      split at e
      · split at e
        · exact best_in ks _ hn k T e
        · split at e
          · exact best_in ks _ hn k T e
          · exact best_in ks _ h k T e
      · exact best_in ks o h k T e
theorem pop_out {n : Nat} {F : List Int} {r : List (List Int)} (h : S[n]? = some (lsD ((F :: r).map inD1))) (hl : r.length < 16777215) : fPopAt (.ref n) (.int 0) S = some (.ok (inD1 F), S.set n (lsD (r.map inD1))) := by
  unfold fPopAt
  simp only [h, lsD, List.map_cons]
  rw [if_pos (by rw [List.length_cons, List.length_map]; show _ ≤ 16777216; omega)]
theorem next_eq (h : EndAt S b E ad) (hol : E.out.length < 16777216) : ∃ S', m_End_next_frame [.ref b] S = some (.ok (inD1 E.nextFrame.1), S') ∧ EndAt S' b E.nextFrame.2 ad ∧ Kp S S' b ad := by
  have fx := h.fx
  have gn := fNe_s h.ok.bs strOk_c.1 S
  have go := fNe_out h.c6
  unfold EA.nextFrame
  by_cases c : E.broken = ""
  · have c' := eq_true c
    rw [if_neg (not_not_intro c)]
    cases ho : E.out with
    | cons F r =>
      simp only
      have pp := pop_out (S := S) (n := b + 6) (F := F) (r := r) (by rw [← ho]; exact h.c6) (by rw [ho] at hol; simp at hol; omega)
      refine ⟨S.set (b + 6) (lsD (r.map inD1)), ?_, h.putOut r, Kp.set (own0 6)⟩
      have ho' : (E.out = []) = False := eq_false (by rw [ho]; simp)
      (unfold m_End_next_frame b_End_next_frame; refine Eq.trans (fnM_l (l := [_, none, none, none]) rfl rfl _) ?_)
      simp only [mer, fx, gn, go, c', ho', pp, isLC_ls]
    | nil =>
      simp only
      have ho' := eq_true ho
      have srt := sorted_dcC (ad := ad) h.c2 (by have := h.adl; omega)
      have hks : ∀ k ∈ E.keys, (aget E.talks k).isSome = true := fun k hk => by
        rw [aget_keys]
        exact decide_eq_true ((srtI_perm _).mem_iff.mp hk)
      obtain ⟨d', o2', o3', lp, hb⟩ := best_loop h E.keys none .non none none hks rfl
      have hsf : sFor (iL (eA (a1 fSortedD) (aCons (e1 (fFld 7 "talks") (eVar 0)) aNil))) (.one 2) bNx [some (.ref b), some D.non, none, none] S = some (.nx [some (.ref b), some d', o2', o3'], S) := by
        rw [sFor_fl (ds := E.keys.map D.int) (S1 := S) (by
          simp only [mer, fx, srt]
          unfold EA.keys inD1
          rw [h.t.ky])]
        exact lp
      unfold bNx at hsf
      cases hbo : bestOf E E.keys none with
      | none =>
        rw [hbo] at hb
        have hd : d' = .non := hb
        subst hd
        refine ⟨S, ?_, h, Kp.refl S⟩
        (unfold m_End_next_frame b_End_next_frame; refine Eq.trans (fnM_l (l := [_, none, none, none]) rfl rfl _) ?_)
        simp only [mer, fx, gn, go, c', ho', hsf]
        rfl
      | some p =>
        obtain ⟨k, T⟩ := p
        rw [hbo] at hb
        obtain ⟨a, rfl, h1, h2⟩ := hb
        have e := best_in E.keys none (fun _ _ z => nomatch z) k T hbo
        obtain ⟨S', q1, q2, q3⟩ := body_eq h e h1 h2
        refine ⟨S', ?_, q2, q3⟩
        (unfold m_End_next_frame b_End_next_frame; refine Eq.trans (fnM_l (l := [_, none, none, none]) rfl rfl _) ?_)
        simp only [mer, fx, gn, go, c', ho', hsf, q1]
  · rw [if_pos c]
    refine ⟨S, ?_, h, Kp.refl S⟩
    (unfold m_End_next_frame b_End_next_frame; refine Eq.trans (fnM_l (l := [_, none, none, none]) rfl rfl _) ?_)
    simp only [mer, fx, gn, c, not_false_eq_true]
    rfl
end
end Law

/-! heads: may they be told, told; begin, answer -/
namespace Law
open PySem PySem.Spec L2 Sim
def Hd (S : Store) (n : Nat) (x : D) (hd : List Pr) : Prop := ∀ c : Cell, LL (S.set n c) x hd
theorem Hd.ps (S : Store) (n : Nat) (hd : List Pr) : Hd S n (psD hd) hd := fun _ => .inl rfl
theorem Hd.ref {S : Store} {n m : Nat} {hd : List Pr} (h : S[m]? = some (lsD (hd.map pD))) (hm : n ≠ m) : Hd S n (.ref m) hd := fun c => .inr ⟨m, rfl, by rw [List.getElem?_set_ne hm]; exact h⟩
theorem told_head_x {n : Nat} {ps hd : List Pr} {S : Store} {x : D} (hS : S[n]? = some (shD ps)) (hx : Hd S n x hd) (hh : PsOk hd) (h7 : hd.length ≤ 1000) (ho : PsOk ps) (hl : ps.length ≤ 24) :
    m_told_head [.ref n, x] S = some (.ok (inD1 (tellH ps hd).1), S.set n (shD (tellH ps hd).2)) := by
  have hn : n < S.length := (List.getElem?_eq_some_iff.mp hS).1
  have hx0 : LL S x hd := by have := hx (shD ps); rw [set_same hS] at this; exact this
  unfold m_told_head b_told_head
  refine fn_rt rfl ?_
  refine Eq.trans (seq_nx (S' := S) (l' := [some (.ref n), some x, some (inD1 []), none, none, none]) rfl) ?_
  obtain ⟨l', S', e, ⟨⟨o3, o4, o5, rfl⟩, rfl⟩⟩ := sFor_thru (items := iL (eVar 1)) (tg := .one 3) (body := bT1) (ds := hd.map pD) (l := [some (.ref n), some x, some (inD1 []), none, none, none]) (S := S)
    (fun i l S' => (∃ o3 o4 o5, l = [some (.ref n), some x, some (inD1 (tellH ps (hd.take i)).1), o3, o4, o5]) ∧ S' = S.set n (shD (tellH ps (hd.take i)).2))
    (hx0.it rfl) ⟨⟨none, none, none, rfl⟩, (set_same hS).symm⟩ (by rintro i l S' ⟨_, rfl⟩; exact (hx _).list) (by
      rintro i d l S1 ⟨⟨o3, o4, o5, rfl⟩, rfl⟩ hd'
      rw [List.getElem?_map] at hd'
      cases hq : hd[i]? with
      | none => rw [hq] at hd'; cases hd'
      | some q =>
        rw [hq] at hd'
        cases hd'
        obtain ⟨k1, k2, k3⟩ := tellH_ok (take_ok hh i) ho hl
        have hi : i < hd.length := (List.getElem?_eq_some_iff.mp hq).1
        have ht : (hd.take i).length ≤ 1000 := by rw [List.length_take]; omega
        obtain ⟨o4', o5', e⟩ := bT1_eq (h := x) (acc := (tellH ps (hd.take i)).1) o4 o5 (List.getElem?_set_self hn) (hh q (List.mem_of_getElem? hq)) k1 k2 (by omega)
        rw [List.set_set] at e
        refine ⟨_, rfl, _, _, e, ?_⟩
        rw [tellH_take hq]
        exact ⟨⟨_, _, _, rfl⟩, rfl⟩)
  rw [List.length_map, List.take_length] at e
  refine Eq.trans (seq_nx e) ?_
  rfl
theorem framed_big (F : Fr) (h : F.b.length ≤ 10000) (S : Store) : m_framed [.int F.k, .int F.f, .int F.t, inD1 F.b] S = some (.ok (inD1 (frL F)), S) := by
  have gl := fLen_in F.b
  have fi : ∀ S, fList (inD1 F.b) S = some (.ok (inD1 F.b), S) := fun S => rfl
  have fa : ∀ S, fAdd (.fl [.int (F.b.length : Nat), .int F.k, .int F.f, .int F.t]) (inD1 F.b) S = some (.ok (inD1 (frL F)), S) := fun S => fAdd_in (a := [(F.b.length : Int), F.k, F.f, F.t]) (by show 4 + F.b.length ≤ _; omega) S
  (unfold m_framed b_framed; refine Eq.trans (fnM_l (l := [_, _, _, _]) rfl rfl _) ?_)
  simp only [mir, gl, fi, fa]
section
variable {S : Store} {b : Nat} {E : EA} {ad : List (Int × Nat)}
theorem talk_make (n c : Int) (S : Store) : fMake 6 (fun ds => noErr (m_Talk_init ds)) [.int n, .int c] S = some (.ok (.ref S.length), S ++ [tkC (Tk.new n c)]) := by
  have h : m_Talk_init [.ref S.length, .int n, .int c] (S ++ [⟨.ins 6 [], false⟩]) = some (.ok .non, S ++ [tkC (Tk.new n c)]) := by
    have hg : ∀ c : Cell, (S ++ [c])[S.length]? = some c := fun c => by rw [List.getElem?_append_right (Nat.le_refl _), Nat.sub_self]; rfl
    have hs : ∀ c d : Cell, (S ++ [c]).set S.length d = S ++ [d] := fun c d => by rw [List.set_append_right _ _ (Nat.le_refl _), Nat.sub_self]; rfl
    have w1 : ∀ d, wrF 6 "number" d (some ⟨.ins 6 [], false⟩) = some ⟨.ins 6 [("number", d)], false⟩ := fun _ => rfl
    have w2 : ∀ x d, wrF 6 "may" d (some ⟨.ins 6 [("number", x)], false⟩) = some ⟨.ins 6 [("number", x), ("may", d)], false⟩ := fun _ _ => rfl
    have w3 : ∀ x1 x2 d, wrF 6 "gives" d (some ⟨.ins 6 [("number", x1), ("may", x2)], false⟩) = some ⟨.ins 6 [("number", x1), ("may", x2), ("gives", d)], false⟩ := fun _ _ _ => rfl
    have w4 : ∀ x1 x2 x3 d, wrF 6 "said_head" d (some ⟨.ins 6 [("number", x1), ("may", x2), ("gives", x3)], false⟩) = some ⟨.ins 6 [("number", x1), ("may", x2), ("gives", x3), ("said_head", d)], false⟩ := fun _ _ _ _ => rfl
    have w5 : ∀ x1 x2 x3 x4 d, wrF 6 "heard_head" d (some ⟨.ins 6 [("number", x1), ("may", x2), ("gives", x3), ("said_head", x4)], false⟩) = some ⟨.ins 6 [("number", x1), ("may", x2), ("gives", x3), ("said_head", x4), ("heard_head", d)], false⟩ := fun _ _ _ _ _ => rfl
    have w6 : ∀ x1 x2 x3 x4 x5 d, wrF 6 "said_end" d (some ⟨.ins 6 [("number", x1), ("may", x2), ("gives", x3), ("said_head", x4), ("heard_head", x5)], false⟩) = some ⟨.ins 6 [("number", x1), ("may", x2), ("gives", x3), ("said_head", x4), ("heard_head", x5), ("said_end", d)], false⟩ := fun _ _ _ _ _ _ => rfl
    have w7 : ∀ x1 x2 x3 x4 x5 x6 d, wrF 6 "heard_end" d (some ⟨.ins 6 [("number", x1), ("may", x2), ("gives", x3), ("said_head", x4), ("heard_head", x5), ("said_end", x6)], false⟩) = some ⟨.ins 6 [("number", x1), ("may", x2), ("gives", x3), ("said_head", x4), ("heard_head", x5), ("said_end", x6), ("heard_end", d)], false⟩ := fun _ _ _ _ _ _ _ => rfl
    have w8 : ∀ x1 x2 x3 x4 x5 x6 x7 d, wrF 6 "shut_here" d (some ⟨.ins 6 [("number", x1), ("may", x2), ("gives", x3), ("said_head", x4), ("heard_head", x5), ("said_end", x6), ("heard_end", x7)], false⟩) = some ⟨.ins 6 [("number", x1), ("may", x2), ("gives", x3), ("said_head", x4), ("heard_head", x5), ("said_end", x6), ("heard_end", x7), ("shut_here", d)], false⟩ := fun _ _ _ _ _ _ _ _ => rfl
    have w9 : ∀ x1 x2 x3 x4 x5 x6 x7 x8 d, wrF 6 "shut_there" d (some ⟨.ins 6 [("number", x1), ("may", x2), ("gives", x3), ("said_head", x4), ("heard_head", x5), ("said_end", x6), ("heard_end", x7), ("shut_here", x8)], false⟩) = some ⟨.ins 6 [("number", x1), ("may", x2), ("gives", x3), ("said_head", x4), ("heard_head", x5), ("said_end", x6), ("heard_end", x7), ("shut_here", x8), ("shut_there", d)], false⟩ := fun _ _ _ _ _ _ _ _ _ => rfl
    have w10 : ∀ x1 x2 x3 x4 x5 x6 x7 x8 x9 d, wrF 6 "rank" d (some ⟨.ins 6 [("number", x1), ("may", x2), ("gives", x3), ("said_head", x4), ("heard_head", x5), ("said_end", x6), ("heard_end", x7), ("shut_here", x8), ("shut_there", x9)], false⟩) = some ⟨.ins 6 [("number", x1), ("may", x2), ("gives", x3), ("said_head", x4), ("heard_head", x5), ("said_end", x6), ("heard_end", x7), ("shut_here", x8), ("shut_there", x9), ("rank", d)], false⟩ := fun _ _ _ _ _ _ _ _ _ _ => rfl
    have w11 : ∀ x1 x2 x3 x4 x5 x6 x7 x8 x9 x10 d, wrF 6 "served" d (some ⟨.ins 6 [("number", x1), ("may", x2), ("gives", x3), ("said_head", x4), ("heard_head", x5), ("said_end", x6), ("heard_end", x7), ("shut_here", x8), ("shut_there", x9), ("rank", x10)], false⟩) = some ⟨.ins 6 [("number", x1), ("may", x2), ("gives", x3), ("said_head", x4), ("heard_head", x5), ("said_end", x6), ("heard_end", x7), ("shut_here", x8), ("shut_there", x9), ("rank", x10), ("served", d)], false⟩ := fun _ _ _ _ _ _ _ _ _ _ _ => rfl
    have w12 : ∀ x1 x2 x3 x4 x5 x6 x7 x8 x9 x10 x11 d, wrF 6 "waits" d (some ⟨.ins 6 [("number", x1), ("may", x2), ("gives", x3), ("said_head", x4), ("heard_head", x5), ("said_end", x6), ("heard_end", x7), ("shut_here", x8), ("shut_there", x9), ("rank", x10), ("served", x11)], false⟩) = some ⟨.ins 6 [("number", x1), ("may", x2), ("gives", x3), ("said_head", x4), ("heard_head", x5), ("said_end", x6), ("heard_end", x7), ("shut_here", x8), ("shut_there", x9), ("rank", x10), ("served", x11), ("waits", d)], false⟩ := fun _ _ _ _ _ _ _ _ _ _ _ _ => rfl
    have w13 : ∀ x1 x2 x3 x4 x5 x6 x7 x8 x9 x10 x11 x12 d, wrF 6 "ends_behind" d (some ⟨.ins 6 [("number", x1), ("may", x2), ("gives", x3), ("said_head", x4), ("heard_head", x5), ("said_end", x6), ("heard_end", x7), ("shut_here", x8), ("shut_there", x9), ("rank", x10), ("served", x11), ("waits", x12)], false⟩) = some ⟨.ins 6 [("number", x1), ("may", x2), ("gives", x3), ("said_head", x4), ("heard_head", x5), ("said_end", x6), ("heard_end", x7), ("shut_here", x8), ("shut_there", x9), ("rank", x10), ("served", x11), ("waits", x12), ("ends_behind", d)], false⟩ := fun _ _ _ _ _ _ _ _ _ _ _ _ _ => rfl
    (unfold m_Talk_init b_Talk_init; refine Eq.trans (fnM_l (l := [_, _, _]) rfl rfl _) ?_)
    simp only [mir, hg, hs, w1, w2, w3, w4, w5, w6, w7, w8, w9, w10, w11, w12, w13]
    rfl
  unfold fMake
  simp only [noErr_ok h]
theorem put_head_eq (h : EndAt S b E ad) {k : Int} {a : Nat} {T : Tk} {x : D} {hd : List Pr} (last : Bool) (h1 : aget ad k = some a) (h2 : S[a]? = some (tkC T)) (hT : 0 ≤ T.may) (hx : Hd S (b + 3) x hd) (hh : PsOk hd) (h6 : hd.length ≤ 6) (ho : E.out.length < 16777216) :
    ∃ S', m_End_put_head [.ref b, .ref a, x, .bl last] S = some (.ok .non, S') ∧ EndAt S' b (E.headed k T hd last) ad ∧ Kp S S' b ad := by
  have fx := h.fx
  have h3 := h.t.far k a h1
  have fr := far h3
  have hl := get_ltT h2
  obtain ⟨t1, t2, t3⟩ := tellH_ok hh h.ok.to h.ok.tl
  have th := told_head_x h.c3 hx hh (by omega) h.ok.to h.ok.tl
  have ap := fun F => apC_out (o := E.out) (F := F) ho
  have e1 := h.putTold (ps := (tellH E.told hd).2) t1 t2
  have e2 := e1.putOut (E.out ++ [frL ⟨1, b2i last, T.num, (tellH E.told hd).1⟩])
  have e3 := e2.putT (k := k) (a := a) (T := { T with sh := true, se := last }) (U := T) h1 (by simp only [mer, fr, h2]) hT
  have gi : ∀ (c : Bool) S, fInt (.bl c) S = some (.ok (.int (b2i c)), S) := fun _ _ => rfl
  have fl : (tellH E.told hd).1.length ≤ 10000 := by omega
  have gf : ∀ S, m_framed [.int 1, .int (b2i last), .int T.num, inD1 (tellH E.told hd).1] S = some (.ok (inD1 (frL ⟨1, b2i last, T.num, (tellH E.told hd).1⟩)), S) := fun S => framed_big ⟨1, b2i last, T.num, (tellH E.told hd).1⟩ fl S
  refine ⟨_, ?_, e3, ((Kp.set (own0 3)).trans (Kp.set (own0 6))).trans (Kp.set (own1 h1))⟩
  (unfold m_End_put_head b_End_put_head; refine Eq.trans (fnM_l (l := [_, _, _, _, none]) rfl rfl _) ?_)
  simp only [mer, fx, fr, hl, h2, th, ap, isLC_ls, gi, gf]
theorem EndAt.newT (h : EndAt S b E ad) {k : Int} {T : Tk} (hk : aget E.talks k = none) (k1 : 1 ≤ k) (k2 : k ≤ 250) (hT : 0 ≤ T.may) : EndAt ((S ++ [tkC T]).set (b + 2) (dcC (ad ++ [(k, S.length)]))) b { E with talks := aput E.talks k T } (ad ++ [(k, S.length)]) := by
  have fx := (h.app [tkC T]).fx
  have hb : b + 6 < S.length := get_lt h.c6
  have hlt : ∀ k' a', aget ad k' = some a' → a' < S.length := fun k' a' e => h.own_lt (own1 e)
  refine ⟨?_, ?_, ?_, ?_, ?_, ?_, ?_, ?_, ⟨h.ok.bs, h.ok.to, h.ok.tl, h.ok.ho, h.ok.hl, ?_, ?_, h.ok.hh, h.ok.hs, mt_put h.ok.mt hT, h.ok.ml, h.ok.mn⟩⟩
  · simp only [mer, fx]; rfl
  · simp only [mer, fx]
  · simp only [mer, fx]
  · simp only [mer, fx]
  · simp only [mer, fx]
  · simp only [mer, fx]
  · simp only [mer, fx]
  · refine h.t.new hk hb (fun k' a' e => by have := hlt k' a' e; omega) ?_ (fun k' a' e => ?_)
    · rw [gs_r, if_neg (by omega), List.getElem?_append_right (Nat.le_refl _), Nat.sub_self]; rfl
    · have := hlt k' a' e
      have := h.t.far k' a' e
      rw [gs_r, if_neg (by omega), List.getElem?_append_left (by omega)]
  · show ((aput E.talks k T).map (·.1)).Nodup
    rw [aput_keys, hk]
    show (E.talks.map (·.1) ++ [k]).Nodup
    rw [List.nodup_append]
    refine ⟨h.ok.kn, by simp, fun x hx y hy e => ?_⟩
    rw [List.mem_singleton] at hy
    subst hy
    subst e
    have := aget_keys E.talks x
    rw [hk, decide_eq_true hx] at this
    cases this
  · intro x hx
    have hx : x ∈ (aput E.talks k T).map (·.1) := hx
    rw [aput_keys, hk] at hx
    rcases List.mem_append.mp hx with hx | hx
    · exact h.ok.kr x hx
    · rw [List.mem_singleton.mp hx]; exact ⟨k1, k2⟩
def DoesN (m : Out D) (S : Store) (b : Nat) (ad : List (Int × Nat)) (d : D) : Except Str EA → Prop := Does m S b ad d
theorem begin_eq (h : EndAt S b E ad) {x : D} {hd : List Pr} {c : Bool} (last : Bool) (hi : m_is_head [x] S = some (.ok (.bl c), S)) (hx : c = true → (∀ S', S.length ≤ S'.length → (∀ i, i < S.length → ¬ Own b ad i → S'[i]? = S[i]?) → Hd S' (b + 3) x hd) ∧ PsOk hd ∧ hd.length ≤ 6) (ho : E.out.length < 16777216)
    (hn : aget E.talks E.next = none) (h1 : 1 ≤ E.next) : Does (m_End_begin [.ref b, x, .bl last] S) S b ad (.int E.next) (E.begin hd c last) := by
  have fx := h.fx
  have gn := fNe_s h.ok.bs strOk_c.1 S
  have key : ∀ v : Int, E.next = v → ∀ l, l = [some (.ref b), some x, some (.bl last), some (.int v)] → E.broken = "" → E.away = none →
      Does (fnR (sSeq (sIf (tOf (e2 fGt (eVar 3) (eC (.int 250)))) (sRaiseN 1 "why" (aCons (eC (.str "many")) (aNil))) (sNext))
  (sSeq (sIf (tNot (tOf (eA m_is_head (aCons (eVar 1) (aNil))))) (sRaiseN 1 "why" (aCons (eC (.str "head")) (aNil))) (sNext))
  (sSeq (sFld 7 (eVar 0) "mine" (eVar 3))
  (sSeq (sPut (e1 (fFld 7 "talks") (eVar 0)) (eVar 3) (eA (fMake 6 (fun ds => noErr (m_Talk_init ds))) (aCons (eVar 3) (aCons (eC (.int 20)) (aNil)))))
  (sSeq (sDrop (eMeth 7 "put_head" m_End_put_head (eVar 0) (aCons (e2 fIx (e1 (fFld 7 "talks") (eVar 0)) (eVar 3)) (aCons (eVar 1) (aCons (eVar 2) (aNil))))))
  (sRet (eVar 3)))))) l S)) S b ad (.int v) (E.begin hd c last) := by
    rintro v rfl l rfl cb ca
    by_cases cm : 250 < E.next
    · have cm' := eq_true cm
      refine Does.er (w := "many") (by unfold EA.begin; rw [if_neg (not_not_intro cb), if_neg (not_not_intro ca), if_pos cm]) ?_
      simp only [mer, cm']
      rfl
    · have cm' := eq_false cm
      cases c with
      | false =>
        refine Does.er (w := "head") (by unfold EA.begin; rw [if_neg (not_not_intro cb), if_neg (not_not_intro ca), if_neg cm, if_pos rfl]) ?_
        simp only [mer, cm', hi]
        rfl
      | true =>
        obtain ⟨hx1, hh, h6⟩ := hx rfl
        have s1 := h.putE (E' := { E with mine := E.next }) rfl rfl rfl rfl rfl rfl h.ok.bs (by show 0 ≤ E.next ∧ E.next ≤ 250; omega)
        have s2 := s1.newT (k := E.next) (T := Tk.new E.next 20) hn h1 (by omega) (by show (0 : Int) ≤ 20; decide)
        rw [List.length_set] at s2
        have hnn := (h.t.none_iff E.next).mpr hn
        have hb : b + 6 < S.length := get_lt h.c6
        have hlt : ∀ k' a', aget ad k' = some a' → a' < S.length := fun k' a' e => h.own_lt (own1 e)
        have ha : aget (ad ++ [(E.next, S.length)]) E.next = some S.length := by rw [aget_snoc _ _ _ _ hnn, if_pos rfl]
        generalize hS2 : (S.set b (enC b { E with mine := E.next }) ++ [tkC (Tk.new E.next 20)]).set (b + 2) (dcC (ad ++ [(E.next, S.length)])) = S2 at s2
        have hS2l : S2.length = S.length + 1 := by rw [← hS2, List.length_set, List.length_append, List.length_set]; rfl
        have hold : ∀ i, i < S.length → ¬ Own b ad i → S2[i]? = S[i]? := fun i hi' no => by
          have n1 : ¬ (b ≤ i ∧ i ≤ b + 6) := fun z => no (.inl z)
          rw [← hS2, gs_r, if_neg (by omega), List.getElem?_append_left (by rw [List.length_set]; exact hi'), gs_r, if_neg (by omega)]
        have hg : S2[S.length]? = some (tkC (Tk.new E.next 20)) := by
          rw [← hS2, gs_r, if_neg (by omega), List.getElem?_append_right (by rw [List.length_set]; exact Nat.le_refl _), List.length_set, Nat.sub_self]; rfl
        obtain ⟨S3, p1, p2, p3⟩ := put_head_eq s2 (x := x) (hd := hd) last ha hg (by show (0 : Int) ≤ 20; decide) (hx1 S2 (by omega) hold) hh h6 ho
        have hq : ∀ k a, aget (ad ++ [(E.next, S.length)]) k = some a → aget ad k = some a ∨ S.length ≤ a := fun k a e => by
          rw [aget_snoc _ _ _ _ hnn] at e
          split at e
          · cases e; exact .inr (Nat.le_refl _)
          · exact .inl e
        refine Does.go (E' := (({ E with mine := E.next, talks := aput E.talks E.next (Tk.new E.next 20) } : EA).headed E.next (Tk.new E.next 20) hd last)) (by unfold EA.begin; rw [if_neg (not_not_intro cb), if_neg (not_not_intro ca), if_neg cm, if_neg (by decide)]) S3 (ad ++ [(E.next, S.length)]) ?_ p2 ?_ hq
        · have mk := talk_make E.next 20
          have wr := wr_dcC (k := E.next) S.length hnn (by have := h.adl; omega)
          have gl : ∀ j, j ≤ 6 → (S.set b (enC b { E with mine := E.next }) ++ [tkC (Tk.new E.next 20)])[b + j]? = (S.set b (enC b { E with mine := E.next }))[b + j]? := fun j hj => List.getElem?_append_left (by rw [List.length_set]; omega)
          have g0 := gl 0 (by decide)
          have g2 := gl 2 (by decide)
          rw [Nat.add_zero] at g0
          have fx2 := s2.fx
          simp only [mer, cm', hi, fx, mk, g0, g2, wr, hS2, fx2, ha, p1]
        · refine Kp.trans' (S1 := S2) ⟨by omega, fun i g1 g2 g3 => hold i g1 (fun o => ?_)⟩ p3 hq
          rcases o with o | ⟨k, o⟩
          · omega
          · exact g3 k o
  by_cases cb : E.broken = ""
  · have cb' := eq_true cb
    by_cases ca : E.away = none
    · have ca' := eq_true ca
      unfold m_End_begin b_End_begin
      by_cases cz : E.mine = 0
      · have k := key (1 + E.side) (by unfold EA.next; rw [if_pos cz]) _ rfl cb ca
        have hv : E.next = 1 + E.side := by unfold EA.next; rw [if_pos cz]
        rw [hv]
        have cz' := eq_true cz
        refine Eq.mp (congrArg (fun m => Does m S b ad (.int (1 + E.side)) (E.begin hd c last)) (Eq.symm ?_)) k
        refine Eq.trans (fnM_l (l := [_, _, _, none]) rfl rfl _) ?_
        rw [seq_nx (S' := S) (l' := [some (.ref b), some x, some (.bl last), none]) (by simp only [mer, fx, gn, cb'])]
        rw [seq_nx (S' := S) (l' := [some (.ref b), some x, some (.bl last), none]) (by simp only [mer, fx, ca'])]
        rw [seq_nx (S' := S) (l' := [some (.ref b), some x, some (.bl last), some (.int (E.mine + 2))]) (by simp only [mer, fx])]
        rw [seq_nx (S' := S) (l' := [some (.ref b), some x, some (.bl last), some (.int (1 + E.side))]) (by simp only [mer, fx, cz'])]
      · have hv : E.next = E.mine + 2 := by unfold EA.next; rw [if_neg cz]
        have k := key (E.mine + 2) hv _ rfl cb ca
        rw [hv]
        have cz' := eq_false cz
        refine Eq.mp (congrArg (fun m => Does m S b ad (.int (E.mine + 2)) (E.begin hd c last)) (Eq.symm ?_)) k
        refine Eq.trans (fnM_l (l := [_, _, _, none]) rfl rfl _) ?_
        rw [seq_nx (S' := S) (l' := [some (.ref b), some x, some (.bl last), none]) (by simp only [mer, fx, gn, cb'])]
        rw [seq_nx (S' := S) (l' := [some (.ref b), some x, some (.bl last), none]) (by simp only [mer, fx, ca'])]
        rw [seq_nx (S' := S) (l' := [some (.ref b), some x, some (.bl last), some (.int (E.mine + 2))]) (by simp only [mer, fx])]
        rw [seq_nx (S' := S) (l' := [some (.ref b), some x, some (.bl last), some (.int (E.mine + 2))]) (by simp only [mer, fx, cz'])]
    · refine Does.er (w := "away") (by unfold EA.begin; rw [if_neg (not_not_intro cb), if_pos ca]) ?_
      (unfold m_End_begin b_End_begin; refine Eq.trans (fnM_l (l := [_, _, _, none]) rfl rfl _) ?_)
      simp only [mer, fx, gn, cb', ca, not_false_eq_true]
      rfl
  · refine Does.er (w := "broken") (by unfold EA.begin; rw [if_pos cb]) ?_
    (unfold m_End_begin b_End_begin; refine Eq.trans (fnM_l (l := [_, _, _, none]) rfl rfl _) ?_)
    simp only [mer, fx, gn, cb, not_false_eq_true]
    rfl
theorem answer_eq (h : EndAt S b E ad) (k : Int) {x : D} {hd : List Pr} {c : Bool} (last : Bool) (hi : m_is_head [x] S = some (.ok (.bl c), S)) (hx : c = true → Hd S (b + 3) x hd ∧ PsOk hd ∧ hd.length ≤ 6) (ho : E.out.length < 16777216) :
    Does (m_End_answer [.ref b, .int k, x, .bl last] S) S b ad .non (E.answer k hd c last) := by
  have fx := h.fx
  have un := unshut_eq h k
  cases e : E.unshut k with
  | error w =>
    rw [e] at un
    refine Does.er (w := w) (by unfold EA.answer; rw [e]) ?_
    (unfold m_End_answer b_End_answer; refine Eq.trans (fnM_l (l := [_, _, _, _, none]) rfl rfl _) ?_)
    simp only [mer, fx, un, exA]
  | ok T =>
    rw [e] at un
    obtain ⟨e1, e2, e3⟩ := unshut_some e
    obtain ⟨a, h1, h2, h3⟩ := h.t.at e1
    have fr := far h3
    cases hs : T.sh with
    | true =>
      refine Does.er (w := "twice") (by unfold EA.answer; rw [e]; simp only [hs, if_true]) ?_
      (unfold m_End_answer b_End_answer; refine Eq.trans (fnM_l (l := [_, _, _, _, none]) rfl rfl _) ?_)
      simp only [mer, fx, un, exA, h1, h2, fr, hs]
      rfl
    | false =>
      cases c with
      | false =>
        refine Does.er (w := "head") (by unfold EA.answer; rw [e]; simp only [hs, Bool.false_eq_true, if_false, if_true]) ?_
        (unfold m_End_answer b_End_answer; refine Eq.trans (fnM_l (l := [_, _, _, _, none]) rfl rfl _) ?_)
        simp only [mer, fx, un, exA, h1, h2, fr, hs, hi]
        rfl
      | true =>
        obtain ⟨hx1, hh, h6⟩ := hx rfl
        obtain ⟨S', p1, p2, p3⟩ := put_head_eq h (x := x) (hd := hd) last h1 h2 (h.ok.mt k T e1) hx1 hh h6 ho
        refine Does.go (E' := E.headed k T hd last) (by unfold EA.answer; rw [e]; simp only [hs, Bool.false_eq_true, if_false, Bool.true_eq_false]) S' ad ?_ p2 p3 (fun _ _ z => .inl z)
        (unfold m_End_answer b_End_answer; refine Eq.trans (fnM_l (l := [_, _, _, _, none]) rfl rfl _) ?_)
        simp only [mer, fx, un, exA, h1, h2, fr, hs, hi, p1]
end
end Law

/-! what is wrong with a frame -/
namespace Law
open PySem PySem.Spec L2 Sim
theorem getK_r (t : List (Int × Int)) (k d : ME) (l : Sl) (S : Store) : eGetK t k d l S = e2 (fGetK t) k d l S := rfl
theorem fGetK_i (t : List (Int × Int)) (i d : Int) (S : Store) : fGetK t (.int i) (.int d) S = some (.ok (.int ((tabGet t i).getD d)), S) := by
  unfold fGetK
  simp only
  cases tabGet t i <;> rfl
theorem fInK_i (t : List (Int × Int)) (i : Int) (S : Store) : fInK t (.int i) S = some (.ok (.bl (tabGet t i).isSome), S) := rfl
theorem fEq_str0 {s : Str} (h : PyData.strOk s = true) (S : Store) : fEq (.str s) (.str "") S = some (.ok (.bl (decide (s = ""))), S) := fEq_s h strOk_c.1 S
section
variable {S : Store} {b : Nat} {E : EA} {ad : List (Int × Nat)} {f : Nat} {F : Fr}
theorem why_form_eq (hf : S[f]? = some (frD F)) : m_why_form [.ref f] S = some (.ok (.str (whyForm F)), S) := by
  have gl := fLen_in F.b
  have sz : (tabGet t_SIZES F.k).getD (F.b.length : Nat) = sizeOf' F.k F.b.length := rfl
  have hz : (tabGet t_SIZES F.k).isSome = hasSize F.k := rfl
  unfold whyForm
  generalize sizeOf' F.k F.b.length = z at *
  generalize ((F.b.length : Nat) : Int) = n at *
  by_cases c1 : 1 ≤ F.k
  · by_cases c2 : F.k ≤ 6
    · by_cases c3 : 250 < n
      · have c3' : (n > 250) = True := eq_true c3
        (unfold m_why_form b_why_form; refine Eq.trans (fnM_l (l := [_, none]) rfl rfl _) ?_)
        simp only [mer, hf, c1, c2, c3, c3', gl, getK_r, fGetK_i, fInK_i, sz, hz, and_self, true_or, not_true_eq_false]
      · by_cases c4 : n = z
        · have c4' := eq_true c4
          by_cases c5 : 1 < F.f
          · (unfold m_why_form b_why_form; refine Eq.trans (fnM_l (l := [_, none]) rfl rfl _) ?_)
            simp only [mer, hf, c1, c2, c3, c4', c5, gl, getK_r, fGetK_i, fInK_i, sz, hz, and_self, true_or, false_or, not_true_eq_false, ne_eq]
          · by_cases c6 : F.f = 1
            · have c6' := eq_true c6
              cases c7 : hasSize F.k <;> (unfold m_why_form b_why_form; refine Eq.trans (fnM_l (l := [_, none]) rfl rfl _) ?_) <;> simp only [mer, hf, c1, c2, c3, c4', c5, c6', c7, gl, getK_r, fGetK_i, fInK_i, sz, hz, and_self, true_or, false_or, or_self, and_true, true_and, and_false, not_true_eq_false, ne_eq]
            · have c6' := eq_false c6
              (unfold m_why_form b_why_form; refine Eq.trans (fnM_l (l := [_, none]) rfl rfl _) ?_)
              simp only [mer, hf, c1, c2, c3, c4', c5, c6', gl, getK_r, fGetK_i, fInK_i, sz, hz, and_self, true_or, false_or, or_self, false_and, not_true_eq_false, ne_eq]
        · have c4' := eq_false c4
          (unfold m_why_form b_why_form; refine Eq.trans (fnM_l (l := [_, none]) rfl rfl _) ?_)
          simp only [mer, hf, c1, c2, c3, c4', gl, getK_r, fGetK_i, fInK_i, sz, hz, and_self, true_or, false_or, not_true_eq_false, ne_eq, not_false_eq_true]
    · (unfold m_why_form b_why_form; refine Eq.trans (fnM_l (l := [_, none]) rfl rfl _) ?_)
      simp only [mer, hf, c1, c2, and_false, not_false_eq_true]
  · (unfold m_why_form b_why_form; refine Eq.trans (fnM_l (l := [_, none]) rfl rfl _) ?_)
    simp only [mer, hf, c1, false_and, not_false_eq_true]
theorem amount_in (F : Fr) (h : 2 ≤ F.b.length) (S : Store) (hf : S[f]? = some (frD F)) : m_amount_of [.ref f] S = some (.ok (.int F.amount), S) := by
  have g0 := fIx_in (ns := F.b) (i := 0) (by decide) (by omega)
  have g1 := fIx_in (ns := F.b) (i := 1) (by decide) (by omega)
  have gm : ∀ i S, fMul (.int 256) (.int i) S = some (.ok (.int (256 * i)), S) := fun i S => fMul_l (by decide) (by decide) S
  unfold Fr.amount
  rw [show (0 : Int).toNat = 0 from rfl] at g0
  rw [show (1 : Int).toNat = 1 from rfl] at g1
  (unfold m_amount_of b_amount_of; refine Eq.trans (fnM_l (l := [_]) rfl rfl _) ?_)
  simp only [mer, hf, g0, g1, gm]
theorem is_new_eq (h : EndAt S b E ad) (hf : S[f]? = some (frD F)) : m_is_new [.ref b, .ref f] S = some (.ok (.bl (E.isNew F)), S) := by
  have fx := h.fx
  have gi := in_dcC h.c2 F.t
  have gm := fun i S => fMod_i (i := i) (j := 2) (by decide) S
  have e : (aget ad F.t).isSome = (aget E.talks F.t).isSome := by
    cases q : aget E.talks F.t with
    | none => rw [(h.t.none_iff _).mpr q]; rfl
    | some T => obtain ⟨a, q1, _⟩ := h.t.at q; rw [q1]; rfl
  rw [e] at gi
  unfold EA.isNew
  by_cases c1 : F.k = 1
  · have c1' := eq_true c1
    cases c2 : (aget E.talks F.t).isSome with
    | true =>
      rw [if_pos (.inr (.inl rfl))]
      (unfold m_is_new b_is_new; refine Eq.trans (fnM_l (l := [_, _]) rfl rfl _) ?_)
      simp only [mer, fx, hf, c1', gi, c2]
    | false =>
      by_cases c3 : 1 ≤ F.t
      · by_cases c4 : F.t ≤ 250
        · rw [if_neg (by rintro (z | z | z) <;> first | exact z c1 | cases z | exact z ⟨c3, c4⟩)]
          by_cases c5 : (F.t + E.side) % 2 = 0
          · have c5' := eq_true c5
            (unfold m_is_new b_is_new; refine Eq.trans (fnM_l (l := [_, _]) rfl rfl _) ?_)
            simp only [mer, fx, hf, c1', gi, c2, c3, c4, gm, c5', Bool.true_and]
          · have c5' := eq_false c5
            (unfold m_is_new b_is_new; refine Eq.trans (fnM_l (l := [_, _]) rfl rfl _) ?_)
            simp only [mer, fx, hf, c1', gi, c2, c3, c4, gm, c5', Bool.false_and]
        · rw [if_pos (.inr (.inr fun z => c4 z.2))]
          (unfold m_is_new b_is_new; refine Eq.trans (fnM_l (l := [_, _]) rfl rfl _) ?_)
          simp only [mer, fx, hf, c1', gi, c2, c3, c4]
      · rw [if_pos (.inr (.inr fun z => c3 z.1))]
        (unfold m_is_new b_is_new; refine Eq.trans (fnM_l (l := [_, _]) rfl rfl _) ?_)
        simp only [mer, fx, hf, c1', gi, c2, c3]
  · rw [if_pos (.inl c1)]
    have c1' := eq_false c1
    (unfold m_is_new b_is_new; refine Eq.trans (fnM_l (l := [_, _]) rfl rfl _) ?_)
    simp only [mer, fx, hf, c1']
theorem why_number_eq (h : EndAt S b E ad) (hf : S[f]? = some (frD F)) (hs : F.k = 6 → 1 ≤ F.b.length) : m_why_number [.ref b, .ref f] S = some (.ok (.str (E.whyNumber F)), S) := by
  have fx := h.fx
  have gi := in_dcC h.c2 F.t
  have gm := fun i S => fMod_i (i := i) (j := 2) (by decide) S
  have nw := is_new_eq h hf
  have e : (aget ad F.t).isSome = (aget E.talks F.t).isSome := by
    cases q : aget E.talks F.t with
    | none => rw [(h.t.none_iff _).mpr q]; rfl
    | some T => obtain ⟨a, q1, _⟩ := h.t.at q; rw [q1]; rfl
  rw [e] at gi
  unfold EA.whyNumber
  by_cases c1 : F.k = 6
  · have c1' := eq_true c1
    have g0 := fIx_in (ns := F.b) (i := 0) (by decide) (by have := hs c1; omega)
    rw [show (0 : Int).toNat = 0 from rfl] at g0
    rw [if_pos c1]
    generalize F.b.getD 0 0 = n at *
    by_cases c2 : F.t = 0
    · have c2' := eq_true c2
      by_cases c3 : E.mine < n
      · rw [if_pos (.inr (.inl c3))]
        (unfold m_why_number b_why_number; refine Eq.trans (fnM_l (l := [_, _, none]) rfl rfl _) ?_)
        simp only [mer, fx, hf, c1', c2', c3, g0]
      · by_cases c4 : 0 < n
        · by_cases c5 : (n + E.side) % 2 = 0
          · rw [if_pos (.inr (.inr ⟨c4, c5⟩))]
            have c5' := eq_true c5
            (unfold m_why_number b_why_number; refine Eq.trans (fnM_l (l := [_, _, none]) rfl rfl _) ?_)
            simp only [mer, fx, hf, c1', c2', c3, c4, c5', gm, g0]
          · rw [if_neg (by rintro (z | z | z) <;> first | exact z c2 | exact c3 z | exact c5 z.2)]
            have c5' := eq_false c5
            (unfold m_why_number b_why_number; refine Eq.trans (fnM_l (l := [_, _, none]) rfl rfl _) ?_)
            simp only [mer, fx, hf, c1', c2', c3, c4, c5', gm, g0]
        · rw [if_neg (by rintro (z | z | z) <;> first | exact z c2 | exact c3 z | exact c4 z.1)]
          (unfold m_why_number b_why_number; refine Eq.trans (fnM_l (l := [_, _, none]) rfl rfl _) ?_)
          simp only [mer, fx, hf, c1', c2', c3, c4, g0]
    · rw [if_pos (.inl c2)]
      have c2' := eq_false c2
      (unfold m_why_number b_why_number; refine Eq.trans (fnM_l (l := [_, _, none]) rfl rfl _) ?_)
      simp only [mer, fx, hf, c1', c2', g0]
  · have c1' := eq_false c1
    rw [if_neg c1]
    cases c2 : (aget E.talks F.t).isSome with
    | true =>
      rw [if_pos (.inr (.inl rfl))]
      by_cases c3 : F.t = 0
      · have c3' := eq_true c3
        by_cases c4 : F.k = 3
        · have c4' := eq_true c4
          (unfold m_why_number b_why_number; refine Eq.trans (fnM_l (l := [_, _, none]) rfl rfl _) ?_)
          simp only [mer, fx, hf, c1', c3', c4']
        · have c4' := eq_false c4
          (unfold m_why_number b_why_number; refine Eq.trans (fnM_l (l := [_, _, none]) rfl rfl _) ?_)
          simp only [mer, fx, hf, c1', c3', c4', gi, c2]
      · have c3' := eq_false c3
        (unfold m_why_number b_why_number; refine Eq.trans (fnM_l (l := [_, _, none]) rfl rfl _) ?_)
        simp only [mer, fx, hf, c1', c3', gi, c2]
    | false =>
      cases c5 : E.isNew F with
      | true =>
        rw [if_pos (.inr (.inr rfl))]
        by_cases c3 : F.t = 0
        · have c3' := eq_true c3
          by_cases c4 : F.k = 3
          · have c4' := eq_true c4
            (unfold m_why_number b_why_number; refine Eq.trans (fnM_l (l := [_, _, none]) rfl rfl _) ?_)
            simp only [mer, fx, hf, c1', c3', c4']
          · have c4' := eq_false c4
            (unfold m_why_number b_why_number; refine Eq.trans (fnM_l (l := [_, _, none]) rfl rfl _) ?_)
            simp only [mer, fx, hf, c1', c3', c4', gi, c2, nw, c5]
        · have c3' := eq_false c3
          (unfold m_why_number b_why_number; refine Eq.trans (fnM_l (l := [_, _, none]) rfl rfl _) ?_)
          simp only [mer, fx, hf, c1', c3', gi, c2, nw, c5]
      | false =>
        by_cases c3 : F.t = 0
        · have c3' := eq_true c3
          by_cases c4 : F.k = 3
          · have c4' := eq_true c4
            rw [if_pos (.inl ⟨c3, c4⟩)]
            (unfold m_why_number b_why_number; refine Eq.trans (fnM_l (l := [_, _, none]) rfl rfl _) ?_)
            simp only [mer, fx, hf, c1', c3', c4']
          · have c4' := eq_false c4
            rw [if_neg (by rintro (z | z | z) <;> first | exact c4 z.2 | cases z)]
            (unfold m_why_number b_why_number; refine Eq.trans (fnM_l (l := [_, _, none]) rfl rfl _) ?_)
            simp only [mer, fx, hf, c1', c3', c4', gi, c2, nw, c5]
        · have c3' := eq_false c3
          rw [if_neg (by rintro (z | z | z) <;> first | exact c3 z.1 | cases z)]
          (unfold m_why_number b_why_number; refine Eq.trans (fnM_l (l := [_, _, none]) rfl rfl _) ?_)
          simp only [mer, fx, hf, c1', c3', gi, c2, nw, c5]
theorem why_body_eq (h : EndAt S b E ad) {a : Nat} {T : Tk} (h2 : S[a]? = some (tkC T)) (hf : S[f]? = some (frD F)) : m_why_body [.ref b, .ref a, .ref f] S = some (.ok (.str (E.whyBody T F.b.length)), S) := by
  have fx := h.fx
  have gl := fLen_in F.b
  unfold EA.whyBody
  generalize ((F.b.length : Nat) : Int) = n at *
  cases c1 : T.xh <;> cases c2 : T.hh <;> cases c3 : T.he <;> by_cases c4 : T.gives < n <;> by_cases c5 : E.line.gives < n <;> (unfold m_why_body b_why_body; refine Eq.trans (fnM_l (l := [_, _, _, none]) rfl rfl _) ?_) <;> simp only [mer, fx, hf, h2, gl, c1, c2, c3, c4, c5, and_self, and_true, true_and, false_and, and_false]
end
end Law

/-! what is wrong with a frame, as things stand -/
namespace Law
open PySem PySem.Spec L2 Sim
structure Sized (F : Fr) : Prop where
  s3 : F.k = 3 → 2 ≤ F.b.length
  s4 : F.k = 4 → 1 ≤ F.b.length
  s5 : F.k = 5 → 1 ≤ F.b.length
  s6 : F.k = 6 → 1 ≤ F.b.length
  k1 : 1 ≤ F.k
  k6 : F.k ≤ 6
  b : F.b.length ≤ 250
  f : F.f ≤ 1
theorem sized_of {F : Fr} (h : whyForm F = "") : Sized F := by
  have d : ("kind" : Str) ≠ "" ∧ ("size" : Str) ≠ "" ∧ ("flag" : Str) ≠ "" := by decide +kernel
  unfold whyForm at h
  split at h
  · exact absurd h d.1
  · rename_i c1
    split at h
    · exact absurd h d.2.1
    · rename_i c2
      split at h
      · exact absurd h d.2.2
      · rename_i c3
        have c2' : (F.b.length : Int) = sizeOf' F.k F.b.length ∧ (F.b.length : Int) ≤ 250 := by omega
        have g : ∀ k v, F.k = k → sizeOf' k F.b.length = v → (F.b.length : Int) = v := fun k v e1 e2 => by rw [e1, e2] at c2'; exact c2'.1
        refine ⟨fun e => ?_, fun e => ?_, fun e => ?_, fun e => ?_, by omega, by omega, by omega, by omega⟩
        · have := g 3 2 e rfl; omega
        · have := g 4 1 e rfl; omega
        · have := g 5 1 e rfl; omega
        · have := g 6 1 e rfl; omega
section
variable {S : Store} {b : Nat} {E : EA} {ad : List (Int × Nat)} {f : Nat} {F : Fr}
def EA.whyT (E : EA) (F : Fr) (T : Tk) : Str := if T.xt = true then "shut" else if F.k = 2 then E.whyBody T F.b.length else if T.xh = true then "" else
      if F.k = 1 ∧ T.hh = true then "twice" else if F.k = 3 ∧ (F.amount = 0 ∨ 10000 < T.may + F.amount) then "many" else if F.k = 5 ∧ 7 < F.b.getD 0 0 then "many" else ""
theorem why_tail (h : EndAt S b E ad) (hf : S[f]? = some (frD F)) (hz : Sized F) {a : Nat} {T : Tk} (h2 : S[a]? = some (tkC T)) : fnR ((sSeq (sIf (tOf (e2 fIs (eVar 2) (eC (.non)))) (sRet (eC (.str ""))) (sNext))
  (sSeq (sIf (tOf (e1 (fFld 6 "shut_there") (eVar 2))) (sRet (eC (.str "shut"))) (sNext))
  (sSeq (sIf (tOf (e2 fEq (e1 (fFld 3 "kind") (eVar 1)) (eC (.int 2)))) (sRet (eA m_why_body (aCons (eVar 0) (aCons (eVar 2) (aCons (eVar 1) (aNil)))))) (sNext))
  (sSeq (sIf (tOf (e1 (fFld 6 "shut_here") (eVar 2))) (sRet (eC (.str ""))) (sNext))
  (sSeq (sIf (tAnd (tOf (e2 fEq (e1 (fFld 3 "kind") (eVar 1)) (eC (.int 1)))) (tOf (e1 (fFld 6 "heard_head") (eVar 2)))) (sRet (eC (.str "twice"))) (sNext))
  (sSeq (sIf (tAnd (tOf (e2 fEq (e1 (fFld 3 "kind") (eVar 1)) (eC (.int 3)))) (tOr (tOf (e2 fEq (eA m_amount_of (aCons (eVar 1) (aNil))) (eC (.int 0)))) (tOf (e2 fGt (e2 fAdd (e1 (fFld 6 "may") (eVar 2)) (eA m_amount_of (aCons (eVar 1) (aNil)))) (eC (.int 10000)))))) (sRet (eC (.str "many"))) (sNext))
  (sSeq (sIf (tAnd (tOf (e2 fEq (e1 (fFld 3 "kind") (eVar 1)) (eC (.int 5)))) (tOf (e2 fGt (e2 fIx (e1 (fFld 3 "numbers") (eVar 1)) (eC (.int 0))) (eC (.int 7))))) (sRet (eC (.str "many"))) (sNext))
  (sRet (eC (.str "")))))))))) [some (.ref b), some (.ref f), some (.ref a)] S) = some (.ok (.str (E.whyT F T)), S) := by
  have fx := h.fx
  have wb := why_body_eq h h2 hf
  unfold EA.whyT
  cases c1 : T.xt with
  | true =>
    simp only [mer, fx, hf, h2, c1]
  | false =>
    by_cases c2 : F.k = 2
    · have c2' := eq_true c2
      simp only [mer, fx, hf, h2, c1, c2', wb]
    · have c2' := eq_false c2
      cases c3 : T.xh with
      | true => simp only [mer, fx, hf, h2, c1, c2', c3]
      | false =>
        by_cases c4 : F.k = 1
        · have c4' := eq_true c4
          have c5' : (F.k = 3) = False := eq_false (by omega)
          have c6' : (F.k = 5) = False := eq_false (by omega)
          cases c7 : T.hh <;> simp only [mer, fx, hf, h2, c1, c2', c3, c4', c5', c6', c7, and_self, true_and, false_and]
        · have c4' := eq_false c4
          by_cases c5 : F.k = 3
          · have c5' := eq_true c5
            have c6' : (F.k = 5) = False := eq_false (by omega)
            have am := amount_in F (hz.s3 c5) S hf
            by_cases c7 : F.amount = 0
            · have c7' := eq_true c7
              simp only [mer, fx, hf, h2, c1, c2', c3, c4', c5', c6', c7', am, true_or, true_and, false_and, and_self]
            · have c7' := eq_false c7
              by_cases c8 : 10000 < T.may + F.amount
              · simp only [mer, fx, hf, h2, c1, c2', c3, c4', c5', c6', c7', c8, am, false_or, true_and, false_and, and_self]
              · simp only [mer, fx, hf, h2, c1, c2', c3, c4', c5', c6', c7', c8, am, false_or, or_self, true_and, false_and, and_self]
          · have c5' := eq_false c5
            by_cases c6 : F.k = 5
            · have c6' := eq_true c6
              have g0 := fIx_in (ns := F.b) (i := 0) (by decide) (by have := hz.s5 c6; omega)
              rw [show (0 : Int).toNat = 0 from rfl] at g0
              generalize F.b.getD 0 0 = n at *
              by_cases c7 : 7 < n
              · simp only [mer, fx, hf, h2, c1, c2', c3, c4', c5', c6', c7, g0, true_and, false_and, and_self]
              · simp only [mer, fx, hf, h2, c1, c2', c3, c4', c5', c6', c7, g0, true_and, false_and, and_self, and_false]
            · have c6' := eq_false c6
              simp only [mer, fx, hf, h2, c1, c2', c3, c4', c5', c6', true_and, false_and, and_self, and_false]
theorem why_talk_eq (h : EndAt S b E ad) (hf : S[f]? = some (frD F)) (hz : Sized F) : m_why_talk [.ref b, .ref f] S = some (.ok (.str (E.whyTalk F)), S) := by
  have fx := h.fx
  unfold EA.whyTalk
  by_cases c1 : F.k = 6
  · have c1' := eq_true c1
    by_cases c2 : E.away = none
    · have c2' := eq_true c2
      (unfold m_why_talk b_why_talk; refine Eq.trans (fnM_l (l := [_, _, none]) rfl rfl _) ?_)
      simp only [mer, fx, hf, c1', c2', not_true_eq_false]
    · have c2' := eq_false c2
      (unfold m_why_talk b_why_talk; refine Eq.trans (fnM_l (l := [_, _, none]) rfl rfl _) ?_)
      simp only [mer, fx, hf, c1', c2', not_false_eq_true]
  · have c1' := eq_false c1
    rw [if_neg c1]
    unfold EA.talkAt
    by_cases c3 : 0 < F.t
    · have c3' : (F.t > 0) = True := eq_true c3
      rw [if_pos c3]
      cases e : aget E.talks F.t with
      | none =>
        have e2 := (h.t.none_iff _).mpr e
        (unfold m_why_talk b_why_talk; refine Eq.trans (fnM_l (l := [_, _, none]) rfl rfl _) ?_)
        simp only [mer, fx, hf, c1', c3, c3', e2]
      | some T =>
        obtain ⟨a, h1, h2, h3⟩ := h.t.at e
        have wt := why_tail h hf hz h2
        refine Eq.trans ?_ wt
        (unfold m_why_talk b_why_talk; refine Eq.trans (fnM_l (l := [_, _, none]) rfl rfl _) ?_)
        rw [seq_nx (S' := S) (l' := [some (.ref b), some (.ref f), none]) (by simp only [mer, fx, hf, c1'])]
        rw [seq_nx (S' := S) (l' := [some (.ref b), some (.ref f), some (.ref (b + 1))]) (by simp only [mer, fx])]
        rw [seq_nx (S' := S) (l' := [some (.ref b), some (.ref f), some (.ref a)]) (by simp only [mer, fx, hf, c3, c3', h1])]
    · have c3' : (F.t > 0) = False := eq_false c3
      rw [if_neg c3]
      have wt := why_tail h hf hz h.c1
      refine Eq.trans ?_ wt
      (unfold m_why_talk b_why_talk; refine Eq.trans (fnM_l (l := [_, _, none]) rfl rfl _) ?_)
      rw [seq_nx (S' := S) (l' := [some (.ref b), some (.ref f), none]) (by simp only [mer, fx, hf, c1'])]
      rw [seq_nx (S' := S) (l' := [some (.ref b), some (.ref f), some (.ref (b + 1))]) (by simp only [mer, fx])]
      rw [seq_nx (S' := S) (l' := [some (.ref b), some (.ref f), some (.ref (b + 1))]) (by simp only [mer, fx, hf, c3, c3'])]
theorem strOk_form (F : Fr) : PyData.strOk (whyForm F) = true := by
  obtain ⟨k0, k1, k2, k3, k4, k5, k6, k7, k8, k9, k10, k11, k12, k13, k14⟩ := strOk_c
  unfold whyForm
  split
  · assumption
  · split
    · assumption
    · split <;> assumption
theorem strOk_num (E : EA) (F : Fr) : PyData.strOk (E.whyNumber F) = true := by
  obtain ⟨k0, k1, k2, k3, k4, k5, k6, k7, k8, k9, k10, k11, k12, k13, k14⟩ := strOk_c
  unfold EA.whyNumber
  split
  · split <;> assumption
  · split <;> assumption
theorem strOk_talk (E : EA) (F : Fr) : PyData.strOk (E.whyTalk F) = true := by
  obtain ⟨k0, k1, k2, k3, k4, k5, k6, k7, k8, k9, k10, k11, k12, k13, k14⟩ := strOk_c
  unfold EA.whyTalk
  split
  · split <;> assumption
  · split
    · assumption
    · split
      · assumption
      · split
        · unfold EA.whyBody
          split
          · assumption
          · split
            · assumption
            · split
              · assumption
              · split <;> assumption
        · split
          · assumption
          · split
            · assumption
            · split
              · assumption
              · split <;> assumption
theorem strOk_not (E : EA) (F : Fr) : PyData.strOk (E.whyNot F) = true := by
  unfold EA.whyNot
  split
  · exact strOk_form F
  · split
    · exact strOk_num E F
    · exact strOk_talk E F
theorem why_not_eq (h : EndAt S b E ad) (hf : S[f]? = some (frD F)) : m_why_not [.ref b, .ref f] S = some (.ok (.str (E.whyNot F)), S) := by
  have fx := h.fx
  have wf := why_form_eq hf
  have e1 := fEq_s (strOk_form F) strOk_c.1 S
  have e2 := fEq_s (strOk_num E F) strOk_c.1 S
  unfold EA.whyNot
  by_cases c1 : whyForm F = ""
  · have c1' := eq_true c1
    have hz := sized_of c1
    have wn := why_number_eq h hf (hz.s6)
    have wt := why_talk_eq h hf hz
    by_cases c2 : E.whyNumber F = ""
    · have c2' := eq_true c2
      (unfold m_why_not b_why_not; refine Eq.trans (fnM_l (l := [_, _, none]) rfl rfl _) ?_)
      simp only [mer, fx, wf, wn, wt, e1, e2, c1', c2', not_true_eq_false]
    · have c2' := eq_false c2
      (unfold m_why_not b_why_not; refine Eq.trans (fnM_l (l := [_, _, none]) rfl rfl _) ?_)
      simp only [mer, fx, wf, wn, e1, e2, c1', c2', not_true_eq_false, not_false_eq_true]
  · have c1' := eq_false c1
    (unfold m_why_not b_why_not; refine Eq.trans (fnM_l (l := [_, _, none]) rfl rfl _) ?_)
    simp only [mer, fx, wf, e1, c1', not_false_eq_true]
end
end Law

/-! frames taken: bodies, credit, resets, ranks, leaving -/
namespace Law
open PySem PySem.Spec L2 Sim
def EvAt (S : Store) (b : Nat) (ad : List (Int × Nat)) (n : Nat) (d : D) : Ev → Prop
  | .begun t hd => ∃ m, d = .tup [.str "begun", .int t, .ref m] ∧ S[m]? = some (lsD (hd.map pD)) ∧ ¬ Own b ad m ∧ n ≤ m
  | .answer t hd => ∃ m, d = .tup [.str "answer", .int t, .ref m] ∧ S[m]? = some (lsD (hd.map pD)) ∧ ¬ Own b ad m ∧ n ≤ m
  | .body t ns => d = .tup [.str "body", .int t, inD1 ns]
  | .ended t => d = .tup [.str "ended", .int t]
  | .credit t m => d = .tup [.str "credit", .int t, .int m]
  | .reset t n => d = .tup [.str "reset", .int t, .int n]
  | .rank t r => d = .tup [.str "rank", .int t, .int r]
  | .away n => d = .tup [.str "away", .int n]
  | .broken w => d = .tup [.str "broken", .str w]
def EvsAt (S : Store) (b : Nat) (ad : List (Int × Nat)) (n : Nat) : List D → List Ev → Prop
  | [], [] => True
  | d :: ds, e :: es => EvAt S b ad n d e ∧ EvsAt S b ad n ds es
  | _, _ => False
def TookN (n : Nat) (m : Out D) (S : Store) (b : Nat) (ad : List (Int × Nat)) (r : EA × List Ev) : Prop :=
  ∃ x ds S' ad', m = some (.ok x, S') ∧ catOf x S' = some ds ∧ ds.length ≤ 2 ∧ EvsAt S' b ad' n ds r.2 ∧ EndAt S' b r.1 ad' ∧ Kp S S' b ad ∧ ∀ k a, aget ad' k = some a → aget ad k = some a ∨ S.length ≤ a
abbrev Took (m : Out D) (S : Store) (b : Nat) (ad : List (Int × Nat)) (r : EA × List Ev) : Prop := TookN S.length m S b ad r
theorem aput_map {α : Type} {l : List (Int × α)} {k : Int} {u v : α} (nd : (l.map (·.1)).Nodup) (h : aget l k = some u) : aput l k v = l.map fun p => if p.1 = k then (p.1, v) else p := by
  induction l with
  | nil => cases h
  | cons p r ih =>
    obtain ⟨x, w⟩ := p
    rw [List.map_cons, List.nodup_cons] at nd
    rw [List.map_cons]
    unfold aput
    rw [aget] at h
    by_cases c : x = k
    · rw [if_pos c, if_pos c]
      congr 1
      rw [← List.map_id r] 
      rw [List.map_map]
      apply List.map_congr_left
      intro q hq
      have : q.1 ≠ k := fun z => nd.1 (by rw [c, ← z]; exact List.mem_map.mpr ⟨q, hq, rfl⟩)
      simp [this]
    · rw [if_neg c] at h
      rw [if_neg c, if_neg c, ih nd.2 h]
section
variable {S : Store} {b : Nat} {E : EA} {ad : List (Int × Nat)} {f : Nat} {F : Fr}
theorem EndAt.putAt (h : EndAt S b E ad) {t : Int} {a : Nat} {T U : Tk} (q : (0 < t ∧ aget ad t = some a ∧ S[a]? = some (tkC U)) ∨ (¬ 0 < t ∧ a = b + 1)) (hm : 0 ≤ T.may) : EndAt (S.set a (tkC T)) b (E.putAt t T) ad ∧ Kp S (S.set a (tkC T)) b ad := by
  unfold EA.putAt
  rcases q with ⟨q1, q2, q3⟩ | ⟨q1, rfl⟩
  · rw [if_pos q1]
    exact ⟨h.putT q2 q3 hm, Kp.set (own1 q2)⟩
  · rw [if_neg q1]
    exact ⟨h.putLine T hm, Kp.set (own0 1)⟩
theorem cat_fl (ds : List D) (S : Store) : catOf (.fl ds) S = some ds := rfl
theorem other_tail (h : EndAt S b E ad) (hf : S[f]? = some (frD F)) (hz : Sized F) (hk : F.k = 3 ∨ F.k = 4 ∨ F.k = 5) {a : Nat} {T : Tk} (h2 : S[a]? = some (tkC T)) (q : (0 < F.t ∧ aget ad F.t = some a ∧ S[a]? = some (tkC T)) ∨ (¬ 0 < F.t ∧ a = b + 1)) (hm : 0 ≤ T.may) (hb0 : ∀ x ∈ F.b, 0 ≤ x) :
    (¬ (a = f)) → Took (fnR ((sSeq (sSet 3 (e1 (fFld 6 "shut_here") (eVar 2)))
  (sSeq (sIf (tOf (e2 fEq (e1 (fFld 3 "kind") (eVar 1)) (eC (.int 4)))) (sSeq (sFld 6 (eVar 2) "shut_there" (eC (.bl true)))
  (sDrop (eMeth 6 "drop" m_Talk_drop (eVar 2) aNil))) (sNext))
  (sSeq (sIf (tOf (eVar 3)) (sRet (eLst (aNil))) (sNext))
  (sSeq (sIf (tOf (e2 fEq (e1 (fFld 3 "kind") (eVar 1)) (eC (.int 4)))) (sRet (eLst (aCons (eTup (aCons (eC (.str "reset")) (aCons (e1 (fFld 3 "talk") (eVar 1)) (aCons (e2 fIx (e1 (fFld 3 "numbers") (eVar 1)) (eC (.int 0))) (aNil))))) (aNil)))) (sNext))
  (sSeq (sIf (tOf (e2 fEq (e1 (fFld 3 "kind") (eVar 1)) (eC (.int 5)))) (sSeq (sFld 6 (eVar 2) "rank" (e2 fIx (e1 (fFld 3 "numbers") (eVar 1)) (eC (.int 0))))
  (sRet (eLst (aCons (eTup (aCons (eC (.str "rank")) (aCons (e1 (fFld 3 "talk") (eVar 1)) (aCons (e1 (fFld 6 "rank") (eVar 2)) (aNil))))) (aNil))))) (sNext))
  (sSeq (sFld 6 (eVar 2) "may" (e2 fAdd (e1 (fFld 6 "may") (eVar 2)) (eA m_amount_of (aCons (eVar 1) (aNil)))))
  (sRet (eLst (aCons (eTup (aCons (eC (.str "credit")) (aCons (e1 (fFld 3 "talk") (eVar 1)) (aCons (eA m_amount_of (aCons (eVar 1) (aNil))) (aNil))))) (aNil)))))))))) [some (.ref b), some (.ref f), some (.ref a), none] S)) S b ad (E.tookOther F T) := fun haf => by
  have fx := h.fx
  have hl := get_ltT h2
  have haf' : (a = f) = False := eq_false haf
  have hnn : ∀ i : Nat, 0 ≤ F.b.getD i 0 := fun i => by
    by_cases c : i < F.b.length
    · exact hb0 _ (List.mem_of_getElem? (getD_mem c))
    · rw [List.getD_eq_getElem?_getD, List.getElem?_eq_none (by omega)]; decide
  have ham : 0 ≤ F.amount := by have := hnn 0; have := hnn 1; unfold Fr.amount; omega
  unfold EA.tookOther
  by_cases c4 : F.k = 4
  · have c4' := eq_true c4
    rw [if_pos c4]
    have g0 := fIx_in (ns := F.b) (i := 0) (by decide) (by have := hz.s4 c4; omega)
    rw [show (0 : Int).toNat = 0 from rfl] at g0
    obtain ⟨p1, p2⟩ := h.putAt (T := shutT T) q hm
    cases c1 : T.xh with
    | true =>
      refine ⟨.fl [], [], S.set a (tkC (shutT T)), ad, ?_, rfl, by decide, trivial, p1, p2, fun _ _ z => .inl z⟩
      simp only [mer, fx, hf, h2, hl, haf', c1, c4', drop_in]
      unfold shutT Tk.drop
      simp only [c1]
    | false =>
      refine ⟨.fl [.tup [.str "reset", .int F.t, .int (F.b.getD 0 0)]], _, S.set a (tkC (shutT T)), ad, ?_, rfl, by show 1 ≤ 2; decide, ⟨rfl, trivial⟩, p1, p2, fun _ _ z => .inl z⟩
      generalize F.b.getD 0 0 = n at *
      simp only [mer, fx, hf, h2, hl, haf', c1, c4', g0, drop_in]
      unfold shutT Tk.drop
      simp only [c1]
  · have c4' := eq_false c4
    rw [if_neg c4]
    cases c1 : T.xh with
    | true =>
      refine ⟨.fl [], [], S, ad, ?_, rfl, by decide, trivial, h, Kp.refl S, fun _ _ z => .inl z⟩
      simp only [mer, fx, hf, h2, hl, haf', c1, c4']
    | false =>
      by_cases c5 : F.k = 5
      · have c5' := eq_true c5
        have g0 := fIx_in (ns := F.b) (i := 0) (by decide) (by have := hz.s5 c5; omega)
        rw [show (0 : Int).toNat = 0 from rfl] at g0
        obtain ⟨p1, p2⟩ := h.putAt (T := { T with rank := F.b.getD 0 0 }) q hm
        rw [if_neg (by decide), if_pos c5]
        rw [c1] at p1 p2
        refine ⟨.fl [.tup [.str "rank", .int F.t, .int (F.b.getD 0 0)]], _, _, ad, ?_, rfl, by show 1 ≤ 2; decide, ⟨rfl, trivial⟩, p1, p2, fun _ _ z => .inl z⟩
        generalize F.b.getD 0 0 = n at *
        simp only [mer, fx, hf, h2, hl, haf', c1, c4', c5', g0]
      · have c5' := eq_false c5
        have c3 : F.k = 3 := by omega
        have am := fun S => amount_in (f := f) F (hz.s3 c3) S
        have am1 := am S hf
        obtain ⟨p1, p2⟩ := h.putAt (T := { T with may := T.may + F.amount }) q (by show 0 ≤ T.may + F.amount; omega)
        rw [if_neg (by decide), if_neg c5]
        rw [c1] at p1 p2
        have am2 := am (S.set a (tkC { T with may := T.may + F.amount })) (by rw [gs_r, if_neg haf, hf])
        refine ⟨.fl [.tup [.str "credit", .int F.t, .int F.amount]], _, _, ad, ?_, rfl, by show 1 ≤ 2; decide, ⟨rfl, trivial⟩, p1, p2, fun _ _ z => .inl z⟩
        generalize F.amount = n at *
        rw [c1] at am2
        simp only [mer, fx, hf, h2, hl, haf', c1, c4', c5', am1, am2]
theorem other_eq (h : EndAt S b E ad) (hf : S[f]? = some (frD F)) (hno : ¬ Own b ad f) (hz : Sized F) (hk : F.k = 3 ∨ F.k = 4 ∨ F.k = 5) {T : Tk} (e : E.talkAt F.t = some T) (hb0 : ∀ x ∈ F.b, 0 ≤ x) : Took (m_took_other [.ref b, .ref f] S) S b ad (E.tookOther F T) := by
  have fx := h.fx
  unfold EA.talkAt at e
  by_cases c3 : 0 < F.t
  · have c3' : (F.t > 0) = True := eq_true c3
    rw [if_pos c3] at e
    obtain ⟨a, h1, h2, h3⟩ := h.t.at e
    have t := other_tail h hf hz hk h2 (.inl ⟨c3, h1, h2⟩) (h.ok.mt _ _ e) hb0 (fun z => hno (z ▸ own1 h1))
    refine Eq.mp (congrArg (fun m => Took m S b ad (E.tookOther F T)) (Eq.symm ?_)) t
    (unfold m_took_other b_took_other; refine Eq.trans (fnM_l (l := [_, _, none, none]) rfl rfl _) ?_)
    rw [seq_nx (S' := S) (l' := [some (.ref b), some (.ref f), some (.ref (b + 1)), none]) (by simp only [mer, fx])]
    rw [seq_nx (S' := S) (l' := [some (.ref b), some (.ref f), some (.ref a), none]) (by simp only [mer, fx, hf, c3, c3', h1])]
  · have c3' : (F.t > 0) = False := eq_false c3
    rw [if_neg c3] at e
    cases e
    have t := other_tail h hf hz hk h.c1 (.inr ⟨c3, rfl⟩) h.ok.ml hb0 (fun z => hno (z ▸ own0 1))
    refine Eq.mp (congrArg (fun m => Took m S b ad (E.tookOther F E.line)) (Eq.symm ?_)) t
    (unfold m_took_other b_took_other; refine Eq.trans (fnM_l (l := [_, _, none, none]) rfl rfl _) ?_)
    rw [seq_nx (S' := S) (l' := [some (.ref b), some (.ref f), some (.ref (b + 1)), none]) (by simp only [mer, fx])]
    rw [seq_nx (S' := S) (l' := [some (.ref b), some (.ref f), some (.ref (b + 1)), none]) (by simp only [mer, fx, hf, c3, c3'])]
end
end Law

/-! frames taken: bodies, leaving -/
namespace Law
open PySem PySem.Spec L2 Sim
section
variable {S : Store} {b : Nat} {E : EA} {ad : List (Int × Nat)} {f : Nat} {F : Fr}
theorem apC_fl {ds : List D} {d : D} (h : ds.length < 16777216) : apC d (some (lsD ds)) = some (lsD (ds ++ [d])) := by
  unfold apC lsD
  simp only
  rw [if_pos (show ds.length < lineN from h)]
theorem lsD_nil : (⟨.lst [], false⟩ : Cell) = lsD [] := rfl
theorem apC0 (d : D) : apC d (some (lsD [])) = some (lsD [d]) := apC_fl (by show 0 < 16777216; decide)
theorem apC1 (x d : D) : apC d (some (lsD [x])) = some (lsD [x, d]) := apC_fl (by show 1 < 16777216; decide)
theorem aget_of_mem {α : Type} {l : List (Int × α)} (nd : (l.map (·.1)).Nodup) {p : Int × α} (h : p ∈ l) : aget l p.1 = some p.2 := by
  induction l with
  | nil => cases h
  | cons q r ih =>
    obtain ⟨x, v⟩ := q
    rw [List.map_cons, List.nodup_cons] at nd
    rw [aget]
    rcases List.mem_cons.mp h with e | h'
    · subst e; rw [if_pos rfl]
    · rw [if_neg (fun z => nd.1 (List.mem_map.mpr ⟨p, h', z.symm⟩))]; exact ih nd.2 h'
theorem cat_ref {n : Nat} {ds : List D} {S : Store} (h : S[n]? = some (lsD ds)) : catOf (.ref n) S = some ds := by unfold catOf; simp only [h, lsD]
theorem lsD_one (d : D) : (⟨.lst [d], false⟩ : Cell) = lsD [d] := rfl
theorem get_new (S : Store) (c : Cell) : (S ++ [c])[S.length]? = some c := by rw [List.getElem?_append_right (Nat.le_refl _), Nat.sub_self]; rfl
theorem set_new (S : Store) (c d : Cell) : (S ++ [c]).set S.length d = S ++ [d] := by rw [List.set_append_right _ _ (Nat.le_refl _), Nat.sub_self]; rfl
theorem tookBody_eq (h : EndAt S b E ad) (hf : S[f]? = some (frD F)) (hno : ¬ Own b ad f) {T : Tk} (e : aget E.talks F.t = some T) : Took (m_took_body [.ref b, .ref f] S) S b ad (E.tookBody F T) := by
  have fx := h.fx
  obtain ⟨a, h1, h2, h3⟩ := h.t.at e
  have fr := far h3
  have hl := get_ltT h2
  have hflt := get_lt hf
  have hfl := get_ltT hf
  have haf : (a = f) = False := eq_false (fun z => hno (z ▸ own1 h1))
  have hbf : (b + 1 = f) = False := eq_false (fun z => hno (z ▸ own0 1))
  have gl := fLen_in F.b
  have gli : ∀ S, fList (inD1 F.b) S = some (.ok (inD1 F.b), S) := fun _ => rfl
  have gz : ((F.b.length : Nat) : Int) > 0 ↔ F.b ≠ [] := by cases F.b <;> simp <;> omega
  unfold EA.tookBody
  have s1 := h.putLine { E.line with gives := E.line.gives - F.b.length } h.ok.ml
  have k1 : Kp S (S.set (b + 1) (tkC { E.line with gives := E.line.gives - F.b.length })) b ad := Kp.set (own0 1)
  cases c1 : T.xh with
  | true =>
    refine ⟨.fl [], [], _, ad, ?_, rfl, by decide, trivial, s1, k1, fun _ _ z => .inl z⟩
    generalize ((F.b.length : Nat) : Int) = n at *
    (unfold m_took_body b_took_body; refine Eq.trans (fnM_l (l := [_, _, none, none, none]) rfl rfl _) ?_)
    simp only [mer, fx, hf, h1, h2, fr, hl, hbf, gl, c1]
  | false =>
    rw [if_neg (by decide)]
    have s2 := s1.putT (k := F.t) (a := a) (T := { T with gives := T.gives - F.b.length, he := decide (F.f = 1) }) (U := T) h1 (by simp only [mer, fr, h2]) (by have := h.ok.mt _ _ e; exact this)
    rw [c1] at s2
    have k2 : Kp S ((S.set (b + 1) (tkC { E.line with gives := E.line.gives - F.b.length })).set a (tkC { T with xh := false, gives := T.gives - F.b.length, he := decide (F.f = 1) })) b ad := k1.trans (Kp.set (own1 h1))
    have gnew := fun (X : Store) (c : Cell) (q : X.length = S.length) => (q ▸ get_new X c : (X ++ [c])[S.length]? = some c)
    have snew := fun (X : Store) (c d : Cell) (q : X.length = S.length) => (q ▸ set_new X c d : (X ++ [c]).set S.length d = X ++ [d])
    have key : ∀ (ds : List D) (r : List Ev), ds.length ≤ 2 → (∀ S', EvsAt S' b ad S.length ds r) → m_took_body [.ref b, .ref f] S = some (.ok (.ref S.length), ((S.set (b + 1) (tkC { E.line with gives := E.line.gives - F.b.length })).set a (tkC { T with xh := false, gives := T.gives - F.b.length, he := decide (F.f = 1) })) ++ [lsD ds]) →
        Took (m_took_body [.ref b, .ref f] S) S b ad ({ E with line := { E.line with gives := E.line.gives - F.b.length }, talks := aput E.talks F.t { T with xh := false, gives := T.gives - F.b.length, he := decide (F.f = 1) } }, r) := fun ds r h1 h2 h3 =>
      ⟨_, ds, _, ad, h3, cat_ref (gnew _ _ (by rw [List.length_set, List.length_set])), h1, h2 _, s2.app _, k2.trans (Kp.app _), fun _ _ z => .inl z⟩
    by_cases c2 : F.b = []
    · have gz' : (((F.b.length : Nat) : Int) > 0) = False := eq_false (fun z => gz.mp z c2)
      by_cases c3 : F.f = 1
      · have c3' := eq_true c3
        rw [if_pos c2, if_pos c3]
        refine key [.tup [.str "ended", .int F.t]] _ (by show 1 ≤ 2; decide) (fun _ => ⟨rfl, trivial⟩) ?_
        generalize ((F.b.length : Nat) : Int) = n at *
        (unfold m_took_body b_took_body; refine Eq.trans (fnM_l (l := [_, _, none, none, none]) rfl rfl _) ?_)
        simp only [mer, fx, hf, h1, h2, fr, hl, hfl, hbf, haf, gl, gli, c1, c3', gz', lsD_nil, List.getElem?_append_left, gnew, snew, apC0, apC1, isLC_ls]
      · have c3' := eq_false c3
        rw [if_pos c2, if_neg c3]
        refine key [] _ (by decide) (fun _ => trivial) ?_
        generalize ((F.b.length : Nat) : Int) = n at *
        (unfold m_took_body b_took_body; refine Eq.trans (fnM_l (l := [_, _, none, none, none]) rfl rfl _) ?_)
        simp only [mer, fx, hf, h1, h2, fr, hl, hfl, hbf, haf, gl, gli, c1, c3', gz', lsD_nil, List.getElem?_append_left, gnew, snew, apC0, apC1, isLC_ls]
    · have gz' : (((F.b.length : Nat) : Int) > 0) = True := eq_true (gz.mpr c2)
      by_cases c3 : F.f = 1
      · have c3' := eq_true c3
        rw [if_neg c2, if_pos c3]
        refine key [.tup [.str "body", .int F.t, inD1 F.b], .tup [.str "ended", .int F.t]] _ (by show 2 ≤ 2; decide) (fun _ => ⟨rfl, rfl, trivial⟩) ?_
        generalize ((F.b.length : Nat) : Int) = n at *
        (unfold m_took_body b_took_body; refine Eq.trans (fnM_l (l := [_, _, none, none, none]) rfl rfl _) ?_)
        simp only [mer, fx, hf, h1, h2, fr, hl, hfl, hbf, haf, gl, gli, c1, c3', gz', lsD_nil, List.getElem?_append_left, gnew, snew, apC0, apC1, isLC_ls]
      · have c3' := eq_false c3
        rw [if_neg c2, if_neg c3]
        refine key [.tup [.str "body", .int F.t, inD1 F.b]] _ (by show 1 ≤ 2; decide) (fun _ => ⟨rfl, trivial⟩) ?_
        generalize ((F.b.length : Nat) : Int) = n at *
        (unfold m_took_body b_took_body; refine Eq.trans (fnM_l (l := [_, _, none, none, none]) rfl rfl _) ?_)
        simp only [mer, fx, hf, h1, h2, fr, hl, hfl, hbf, haf, gl, gli, c1, c3', gz', lsD_nil, List.getElem?_append_left, gnew, snew, apC0, apC1, isLC_ls]
def shutG (E : EA) (n j : Int) (p : Int × Tk) : Int × Tk := if n < p.1 ∧ p.1 ≤ j ∧ (p.1 + E.side) % 2 = 1 then (p.1, shutT p.2) else p
theorem aget_mapG {α : Type} {l : List (Int × α)} (g : Int × α → Int × α) (hg : ∀ p, (g p).1 = p.1) (k : Int) : aget (l.map g) k = (aget l k).map fun v => (g (k, v)).2 := by
  induction l with
  | nil => rfl
  | cons p r ih =>
    obtain ⟨x, v⟩ := p
    rw [List.map_cons]
    have e : g (x, v) = (x, (g (x, v)).2) := Prod.ext (hg (x, v)) rfl
    rw [e, aget, aget]
    by_cases c : x = k
    · subst c; rw [if_pos rfl, if_pos rfl]; rfl
    · rw [if_neg c, if_neg c, ih]
theorem shutG_fst (E : EA) (n j : Int) (p : Int × Tk) : (shutG E n j p).1 = p.1 := by unfold shutG; split <;> rfl
def bAw : MS := (sSeq (sSet 3 (eGet1 (e1 (fFld 7 "talks") (eVar 0)) (eVar 2)))
  (sIf (tAnd (tOf (e2 fIsNot (eVar 3) (eC (.non)))) (tOf (e2 fEq (e2 fMod (e2 fAdd (eVar 2) (e1 (fFld 7 "side") (eVar 0))) (eC (.int 2))) (eC (.int 1))))) (sSeq (sFld 6 (eVar 3) "shut_there" (eC (.bl true)))
  (sDrop (eMeth 6 "drop" m_Talk_drop (eVar 3) aNil))) (sNext)))
theorem away_loop {n : Int} (hmn : E.mine ≤ 250) : ∀ (m : Nat) (j : Int) (S : Store) (o2 o3 : Option D), 0 ≤ n → n ≤ j → j + m = E.mine → EndAt S b { E with away := some n, talks := E.talks.map (shutG E n j) } ad →
    ∃ o2' o3' S', forL (.one 2) bAw (rangeD (j + 1) m) [some (.ref b), some (.ref f), o2, o3] S = some (.nx [some (.ref b), some (.ref f), o2', o3'], S') ∧ EndAt S' b { E with away := some n, talks := E.talks.map (shutG E n E.mine) } ad ∧ Kp S S' b ad
  | 0, j, S, o2, o3, h0, h1, hj, h => by
    have e : j = E.mine := by omega
    subst e
    exact ⟨o2, o3, S, rfl, h, Kp.refl S⟩
  | m + 1, j, S, o2, o3, h0, h1, hj, h => by
    have fx := h.fx
    have gm := fun i S => fMod_i (i := i) (j := 2) (by decide) S
    rw [rangeD_succ, forL]
    simp only [tgSet, List.set_cons_succ, List.set_cons_zero]
    have gT := aget_mapG (l := E.talks) (shutG E n j) (shutG_fst E n j) (j + 1)
    have hnd : ((E.talks.map (shutG E n j)).map (·.1)).Nodup := h.ok.kn
    have nxt' : ∀ p ∈ E.talks, p.1 ≠ j + 1 ∨ ¬ (p.1 + E.side) % 2 = 1 → shutG E n (j + 1) p = shutG E n j p := fun p hp q => by
      unfold shutG
      by_cases c : n < p.1 ∧ p.1 ≤ j ∧ (p.1 + E.side) % 2 = 1
      · rw [if_pos c, if_pos ⟨c.1, by omega, c.2.2⟩]
      · rw [if_neg c, if_neg (fun z => c ⟨z.1, by omega, z.2.2⟩)]
    have same : (∀ p ∈ E.talks, p.1 ≠ j + 1 ∨ ¬ (p.1 + E.side) % 2 = 1) → E.talks.map (shutG E n (j + 1)) = E.talks.map (shutG E n j) := fun q => List.map_congr_left fun p hp => nxt' p hp (q p hp)
    cases e : aget E.talks (j + 1) with
    | none =>
      rw [e] at gT
      have e2 := (h.t.none_iff (j + 1)).mpr gT
      have step : bAw [some (.ref b), some (.ref f), some (.int (j + 1)), o3] S = some (.nx [some (.ref b), some (.ref f), some (.int (j + 1)), some .non], S) := by
        unfold bAw
        simp only [mer, fx, e2]
      rw [step]
      have h' : EndAt S b { E with away := some n, talks := E.talks.map (shutG E n (j + 1)) } ad := by
        rw [same (fun p hp => .inl (fun z => by
          have := aget_keys E.talks (j + 1)
          rw [e, decide_eq_true (List.mem_map.mpr ⟨p, hp, z⟩)] at this
          cases this))]
        exact h
      exact away_loop hmn m (j + 1) S _ _ h0 (by omega) (by omega) h'
    | some T =>
      rw [e] at gT
      have gT' : aget (E.talks.map (shutG E n j)) (j + 1) = some T := by
        rw [gT]
        show some (shutG E n j (j + 1, T)).2 = some T
        unfold shutG
        rw [if_neg (show ¬ (n < j + 1 ∧ j + 1 ≤ j ∧ (j + 1 + E.side) % 2 = 1) by omega)]
      obtain ⟨a, h1', h2', h3'⟩ := h.t.at gT'
      have fr := far h3'
      have hl := get_ltT h2'
      by_cases c : (j + 1 + E.side) % 2 = 1
      · have c' := eq_true c
        have step : bAw [some (.ref b), some (.ref f), some (.int (j + 1)), o3] S = some (.nx [some (.ref b), some (.ref f), some (.int (j + 1)), some (.ref a)], S.set a (tkC (shutT T))) := by
          unfold bAw shutT
          simp only [mer, fx, h1', h2', fr, hl, gm, c', drop_in, Tk.drop]
        rw [step]
        have hp := h.putT (T := shutT T) h1' h2' (by have := h.ok.mt _ _ gT'; exact this)
        have h' : EndAt (S.set a (tkC (shutT T))) b { E with away := some n, talks := E.talks.map (shutG E n (j + 1)) } ad := by
          have e3 : aput (E.talks.map (shutG E n j)) (j + 1) (shutT T) = E.talks.map (shutG E n (j + 1)) := by
            rw [aput_map hnd gT', List.map_map]
            apply List.map_congr_left
            intro p hp
            by_cases c4 : p.1 = j + 1
            · have hT : p.2 = T := by
                have e4 := aget_of_mem (l := E.talks) (by
                  have q := hnd
                  rw [List.map_map] at q
                  have : ((·.1) ∘ shutG E n j) = (fun p : Int × Tk => p.1) := funext fun p => shutG_fst E n j p
                  rw [this] at q
                  exact q) hp
                rw [c4, e] at e4
                exact (Option.some.inj e4).symm
              show (if (shutG E n j p).1 = j + 1 then ((shutG E n j p).1, shutT T) else shutG E n j p) = _
              rw [shutG_fst, if_pos c4]
              unfold shutG
              rw [if_pos ⟨by omega, by omega, by rw [c4]; exact c⟩, hT]
            · show (if (shutG E n j p).1 = j + 1 then ((shutG E n j p).1, shutT T) else shutG E n j p) = _
              rw [shutG_fst, if_neg c4, nxt' p hp (.inl c4)]
          rw [← e3]
          exact hp
        obtain ⟨q2, q3, S', r1, r2, r3⟩ := away_loop hmn m (j + 1) _ _ _ h0 (by omega) (by omega) h'
        exact ⟨q2, q3, S', r1, r2, (Kp.set (own1 h1')).trans r3⟩
      · have c' := eq_false c
        have step : bAw [some (.ref b), some (.ref f), some (.int (j + 1)), o3] S = some (.nx [some (.ref b), some (.ref f), some (.int (j + 1)), some (.ref a)], S) := by
          unfold bAw
          simp only [mer, fx, h1', h2', fr, hl, gm, c']
        rw [step]
        have h' : EndAt S b { E with away := some n, talks := E.talks.map (shutG E n (j + 1)) } ad := by
          rw [same (fun p hp => by
            by_cases c4 : p.1 = j + 1
            · exact .inr (by rw [c4]; exact c)
            · exact .inl c4)]
          exact h
        exact away_loop hmn m (j + 1) S _ _ h0 (by omega) (by omega) h'
theorem away_eq (h : EndAt S b E ad) (hf : S[f]? = some (frD F)) (hno : ¬ Own b ad f) (hz : Sized F) (h6 : F.k = 6) (hb0 : ∀ x ∈ F.b, 0 ≤ x) (hle : F.b.getD 0 0 ≤ E.mine) : Took (m_took_away [.ref b, .ref f] S) S b ad (E.tookAway (F.b.getD 0 0), [.away (F.b.getD 0 0)]) := by
  have fx := h.fx
  have hl6 := hz.s6 h6
  have g0 := fIx_in (ns := F.b) (i := 0) (by decide) (by omega)
  rw [show (0 : Int).toNat = 0 from rfl] at g0
  have hn0 : 0 ≤ F.b.getD 0 0 := hb0 _ (List.mem_of_getElem? (getD_mem hl6))
  have hbf : (b = f) = False := eq_false (fun z => hno (z ▸ ownb))
  generalize F.b.getD 0 0 = n at *
  have hmn := h.ok.mn
  have s1 := h.putE (E' := { E with away := some n }) rfl rfl rfl rfl rfl rfl h.ok.bs h.ok.mn
  have s2 : EndAt (S.set b (enC b { E with away := some n })) b { E with away := some n, talks := E.talks.map (shutG E n n) } ad := by
    have : E.talks.map (shutG E n n) = E.talks := by
      conv => rhs; rw [← List.map_id E.talks]
      apply List.map_congr_left
      intro p hp
      unfold shutG
      rw [if_neg (by omega)]
      rfl
    rw [this]
    exact s1
  obtain ⟨o2', o3', S', lp, p1, p2⟩ := away_loop (f := f) (n := n) (b := b) (ad := ad) hmn.2 (E.mine - n).toNat n _ none none hn0 (Int.le_refl _) (by omega) s2
  have fx2 := s1.fx
  have fx3 := p1.fx
  refine ⟨.fl [.tup [.str "away", .int n]], _, S', ad, ?_, rfl, by show 1 ≤ 2; decide, ⟨rfl, trivial⟩, p1, (Kp.set ownb).trans p2, fun _ _ z => .inl z⟩
  have hs : sFor (iR2 (e2 fAdd (e1 (fFld 7 "away_at") (eVar 0)) (eC (.int 1))) (e2 fAdd (e1 (fFld 7 "mine") (eVar 0)) (eC (.int 1)))) (.one 2) bAw [some (.ref b), some (.ref f), none, none] (S.set b (enC b { E with away := some n })) = some (.nx [some (.ref b), some (.ref f), o2', o3'], S') := by
    have hi : iR2 (e2 fAdd (e1 (fFld 7 "away_at") (eVar 0)) (eC (.int 1))) (e2 fAdd (e1 (fFld 7 "mine") (eVar 0)) (eC (.int 1))) [some (.ref b), some (.ref f), none, none] (S.set b (enC b { E with away := some n })) = some (.ok (fun _ => some (rangeD (n + 1) (E.mine + 1 - (n + 1)).toNat)), S.set b (enC b { E with away := some n })) := by
      unfold iR2
      simp only [mer, fx]
      rw [if_pos ⟨bigI_of (by omega) (by omega), bigI_of (by omega) (by omega)⟩]
    unfold sFor
    rw [hi]
    simp only [bndS, forG_all]
    rw [show (E.mine + 1 - (n + 1)).toNat = (E.mine - n).toNat by omega]
    exact lp
  unfold bAw at hs
  (unfold m_took_away b_took_away; refine Eq.trans (fnM_l (l := [_, _, none, none]) rfl rfl _) ?_)
  simp only [mer, fx, hf, g0, hbf, hs, fx3]
end
end Law

/-! frames taken: heads; all frames; numbers heard -/
namespace Law
open PySem PySem.Spec L2 Sim
theorem EvAt.keep {S S' : Store} {b : Nat} {ad ad' : List (Int × Nat)} {d : D} {ev : Ev} {n : Nat} (h : EvAt S b ad n d ev) (k : Kp S S' b ad) (q : ∀ k a, aget ad' k = some a → aget ad k = some a ∨ S.length ≤ a) : EvAt S' b ad' n d ev := by
  have go : ∀ m c, S[m]? = some c → ¬ Own b ad m → S'[m]? = some c ∧ ¬ Own b ad' m := fun m c h1 h2 => by
    have hm := get_lt h1
    have h3 : m < b ∨ b + 6 < m := by
      have : ¬ (b ≤ m ∧ m ≤ b + 6) := fun z => h2 (.inl z)
      omega
    refine ⟨by rw [k.keep m hm h3 (fun k z => h2 (own1 z)), h1], ?_⟩
    rintro (o | ⟨x, o⟩)
    · exact h2 (.inl o)
    · rcases q x m o with z | z
      · exact h2 (own1 z)
      · omega
  cases ev with
  | begun t hd => obtain ⟨m, h1, h2, h3, h4⟩ := h; obtain ⟨g1, g2⟩ := go m _ h2 h3; exact ⟨m, h1, g1, g2, h4⟩
  | answer t hd => obtain ⟨m, h1, h2, h3, h4⟩ := h; obtain ⟨g1, g2⟩ := go m _ h2 h3; exact ⟨m, h1, g1, g2, h4⟩
  | body t ns => exact h
  | ended t => exact h
  | credit t m => exact h
  | reset t n => exact h
  | rank t r => exact h
  | away n => exact h
  | broken w => exact h
theorem EvsAt.keep {S S' : Store} {b n : Nat} {ad ad' : List (Int × Nat)} (k : Kp S S' b ad) (q : ∀ k a, aget ad' k = some a → aget ad k = some a ∨ S.length ≤ a) : ∀ {ds : List D} {es : List Ev}, EvsAt S b ad n ds es → EvsAt S' b ad' n ds es
  | [], [], _ => trivial
  | d :: ds, e :: es, h => ⟨h.1.keep k q, EvsAt.keep k q h.2⟩
  | [], _ :: _, h => h.elim
  | _ :: _, [], h => h.elim
theorem EvsAt.append {S : Store} {b n : Nat} {ad : List (Int × Nat)} : ∀ {ds ds' : List D} {es es' : List Ev}, EvsAt S b ad n ds es → EvsAt S b ad n ds' es' → EvsAt S b ad n (ds ++ ds') (es ++ es')
  | [], _, [], _, _, h => h
  | d :: ds, _, e :: es, _, h, g => ⟨h.1, EvsAt.append h.2 g⟩
  | [], _, _ :: _, _, h, _ => h.elim
  | _ :: _, _, [], _, h, _ => h.elim
theorem EvsAt.low {S : Store} {b n n' : Nat} {ad : List (Int × Nat)} (hn : n' ≤ n) : ∀ {ds : List D} {es : List Ev}, EvsAt S b ad n ds es → EvsAt S b ad n' ds es
  | [], [], _ => trivial
  | d :: ds, e :: es, h => ⟨by
    have := h.1
    cases e with
    | begun t hd => obtain ⟨m, h1, h2, h3, h4⟩ := this; exact ⟨m, h1, h2, h3, Nat.le_trans hn h4⟩
    | answer t hd => obtain ⟨m, h1, h2, h3, h4⟩ := this; exact ⟨m, h1, h2, h3, Nat.le_trans hn h4⟩
    | _ => exact this, EvsAt.low hn h.2⟩
  | [], _ :: _, h => h.elim
  | _ :: _, [], h => h.elim
theorem EvsAt.len {S : Store} {b n : Nat} {ad : List (Int × Nat)} : ∀ {ds : List D} {es : List Ev}, EvsAt S b ad n ds es → ds.length = es.length
  | [], [], _ => rfl
  | d :: ds, e :: es, h => by rw [List.length_cons, List.length_cons, EvsAt.len h.2]
  | [], _ :: _, h => h.elim
  | _ :: _, [], h => h.elim
section
variable {S : Store} {b : Nat} {E : EA} {ad : List (Int × Nat)} {f : Nat} {F : Fr}
theorem catch_bad : catch_BadHead xBad.c = some true := rfl
theorem head_tail {hd : List Pr} {m n : Nat} {wd : Str} (h : EndAt S b E ad) (hf : S[f]? = some (frD F)) (hno : ¬ Own b ad f) {T : Tk} {a : Nat} (h1 : aget ad F.t = some a) (h2 : S[a]? = some (tkC T)) (hm : S[m]? = some (lsD (hd.map pD))) (hmo : ¬ Own b ad m) (ev : Ev)
    (hev : ∀ S', S'[m]? = some (lsD (hd.map pD)) → ∀ ad', ¬ Own b ad' m → EvAt S' b ad' n (.tup [.str wd, .int F.t, .ref m]) ev) (e : E.talks.map (·.1) = E.talks.map (·.1)) (hT : aget E.talks F.t = some T) :
    TookN n (fnR ((sSeq (sIf (tOf (e1 (fFld 6 "shut_here") (eVar 4))) (sRet (eLst (aNil))) (sNext))
  (sSeq (sFld 6 (eVar 4) "heard_head" (eC (.bl true)))
  (sSeq (sFld 6 (eVar 4) "heard_end" (e2 fEq (e1 (fFld 3 "flag") (eVar 1)) (eC (.int 1))))
  (sSeq (sSet 5 (eLstR (aCons (eTup (aCons (eVar 3) (aCons (e1 (fFld 3 "talk") (eVar 1)) (aCons (eVar 2) (aNil))))) (aNil))))
  (sSeq (sIf (tOf (e1 (fFld 6 "heard_end") (eVar 4))) (sDrop (eBM isL (m1 fAppend) (eVar 5) (aCons (eTup (aCons (eC (.str "ended")) (aCons (e1 (fFld 3 "talk") (eVar 1)) (aNil)))) (aNil)))) (sNext))
  (sRet (eVar 5))))))) [some (.ref b), some (.ref f), some (.ref m), some (.str wd), some (.ref a), none] S)) S b ad
      (if T.xh = true then (E, []) else ({ E with talks := aput E.talks F.t { T with hh := true, he := decide (F.f = 1) } }, ev :: if F.f = 1 then [.ended F.t] else [])) := by
  have fx := h.fx
  have h3 := h.t.far _ a h1
  have fr := far h3
  have hl := get_ltT h2
  have hfl := get_ltT hf
  have haf : (a = f) = False := eq_false (fun z => hno (z ▸ own1 h1))
  cases c1 : T.xh with
  | true =>
    refine ⟨.fl [], [], S, ad, ?_, rfl, by decide, trivial, h, Kp.refl S, fun _ _ z => .inl z⟩
    simp only [mer, fx, hf, h2, fr, c1]
  | false =>
    rw [if_neg (by decide)]
    have s2 := h.putT (k := F.t) (a := a) (T := { T with hh := true, he := decide (F.f = 1) }) (U := T) h1 h2 (by have := h.ok.mt _ _ hT; exact this)
    rw [c1] at s2
    have k2 : Kp S (S.set a (tkC { T with xh := false, hh := true, he := decide (F.f = 1) })) b ad := Kp.set (own1 h1)
    have gnew := fun (X : Store) (c : Cell) (q : X.length = S.length) => (q ▸ get_new X c : (X ++ [c])[S.length]? = some c)
    have snew := fun (X : Store) (c d : Cell) (q : X.length = S.length) => (q ▸ set_new X c d : (X ++ [c]).set S.length d = X ++ [d])
    have hml := get_lt hm
    have hma : a ≠ m := fun z => hmo (z ▸ own1 h1)
    have key : ∀ (ds : List D) (r : List Ev), ds.length ≤ 2 → (∀ S', S'[m]? = some (lsD (hd.map pD)) → EvsAt S' b ad n ds r) → fnR ((sSeq (sIf (tOf (e1 (fFld 6 "shut_here") (eVar 4))) (sRet (eLst (aNil))) (sNext))
  (sSeq (sFld 6 (eVar 4) "heard_head" (eC (.bl true)))
  (sSeq (sFld 6 (eVar 4) "heard_end" (e2 fEq (e1 (fFld 3 "flag") (eVar 1)) (eC (.int 1))))
  (sSeq (sSet 5 (eLstR (aCons (eTup (aCons (eVar 3) (aCons (e1 (fFld 3 "talk") (eVar 1)) (aCons (eVar 2) (aNil))))) (aNil))))
  (sSeq (sIf (tOf (e1 (fFld 6 "heard_end") (eVar 4))) (sDrop (eBM isL (m1 fAppend) (eVar 5) (aCons (eTup (aCons (eC (.str "ended")) (aCons (e1 (fFld 3 "talk") (eVar 1)) (aNil)))) (aNil)))) (sNext))
  (sRet (eVar 5))))))) [some (.ref b), some (.ref f), some (.ref m), some (.str wd), some (.ref a), none] S) = some (.ok (.ref S.length), (S.set a (tkC { T with xh := false, hh := true, he := decide (F.f = 1) })) ++ [lsD ds]) →
        TookN n (fnR ((sSeq (sIf (tOf (e1 (fFld 6 "shut_here") (eVar 4))) (sRet (eLst (aNil))) (sNext))
  (sSeq (sFld 6 (eVar 4) "heard_head" (eC (.bl true)))
  (sSeq (sFld 6 (eVar 4) "heard_end" (e2 fEq (e1 (fFld 3 "flag") (eVar 1)) (eC (.int 1))))
  (sSeq (sSet 5 (eLstR (aCons (eTup (aCons (eVar 3) (aCons (e1 (fFld 3 "talk") (eVar 1)) (aCons (eVar 2) (aNil))))) (aNil))))
  (sSeq (sIf (tOf (e1 (fFld 6 "heard_end") (eVar 4))) (sDrop (eBM isL (m1 fAppend) (eVar 5) (aCons (eTup (aCons (eC (.str "ended")) (aCons (e1 (fFld 3 "talk") (eVar 1)) (aNil)))) (aNil)))) (sNext))
  (sRet (eVar 5))))))) [some (.ref b), some (.ref f), some (.ref m), some (.str wd), some (.ref a), none] S)) S b ad ({ E with talks := aput E.talks F.t { T with xh := false, hh := true, he := decide (F.f = 1) } }, r) := fun ds r h1 h2 h3 =>
      ⟨_, ds, _, ad, h3, cat_ref (gnew _ _ (by rw [List.length_set])), h1, h2 _ (by rw [List.getElem?_append_left (by rw [List.length_set]; exact hml), gs_r, if_neg hma, hm]), s2.app _, k2.trans (Kp.app _), fun _ _ z => .inl z⟩
    by_cases c3 : F.f = 1
    · have c3' := eq_true c3
      rw [if_pos c3]
      refine key [.tup [.str wd, .int F.t, .ref m], .tup [.str "ended", .int F.t]] _ (by show 2 ≤ 2; decide) (fun S' q => ⟨hev S' q ad hmo, rfl, trivial⟩) ?_
      simp only [mer, fx, hf, h2, fr, hl, hfl, haf, c1, c3', lsD_one, List.getElem?_append_left, gnew, snew, apC1, isLC_ls]
    · have c3' := eq_false c3
      rw [if_neg c3]
      refine key [.tup [.str wd, .int F.t, .ref m]] _ (by show 1 ≤ 2; decide) (fun S' q => ⟨hev S' q ad hmo, trivial⟩) ?_
      simp only [mer, fx, hf, h2, fr, hl, hfl, haf, c1, c3', lsD_one, List.getElem?_append_left, gnew, snew, apC1, isLC_ls]
theorem aput_aput {α : Type} (l : List (Int × α)) (k : Int) (u v : α) : aput (aput l k u) k v = aput l k v := by
  induction l with
  | nil => show aput [(k, u)] k v = [(k, v)]; rw [aput, if_pos rfl]
  | cons p r ih =>
    obtain ⟨x, w⟩ := p
    rw [aput]
    by_cases c : x = k
    · rw [if_pos c, aput, if_pos c, aput, if_pos c]
    · rw [if_neg c, aput, if_neg c, aput, if_neg c, ih]
theorem TookN.weak {n : Nat} {m : Out D} {S2 : Store} {ad2 : List (Int × Nat)} {r : EA × List Ev} (t : TookN n m S2 b ad2 r) (k : Kp S S2 b ad) (q : ∀ k a, aget ad2 k = some a → aget ad k = some a ∨ S.length ≤ a) : TookN n m S b ad r := by
  obtain ⟨x, ds, S', ad', t1, t2, t3, t4, t5, t6, t7⟩ := t
  refine ⟨x, ds, S', ad', t1, t2, t3, t4, t5, Kp.trans' k t6 q, fun k' a e => ?_⟩
  rcases t7 k' a e with z | z
  · exact q k' a z
  · exact .inr (Nat.le_trans k.len z)
theorem TookN.cast {n : Nat} {m m' : Out D} {r r' : EA × List Ev} (t : TookN n m S b ad r) (e : m' = m) (e2 : r' = r) : TookN n m' S b ad r' := by rw [e, e2]; exact t
theorem not_own_fresh (h : EndAt S b E ad) {m : Nat} (hm : S.length ≤ m) : ¬ Own b ad m := fun o => by have := h.own_lt o; omega
theorem head_took (h : EndAt S b E ad) (hf : S[f]? = some (frD F)) (hno : ¬ Own b ad f) (hb0 : ∀ x ∈ F.b, 0 ≤ x) (hbl : F.b.length ≤ 250) (hnew : aget E.talks F.t = none → 1 ≤ F.t ∧ F.t ≤ 250) : Took (m_took_head [.ref b, .ref f] S) S b ad (E.tookHead F) := by
  have fx := h.fx
  have rd := read_head_eq h.c4 h.ok.ho h.ok.hl hb0 (by omega)
  have hk := readG_ok hb0 (F.b.length + 1) E.heard 0 [] h.ok.ho (fun _ h => nomatch h) h.ok.hl (by decide) (by omega) (by decide)
  rw [show readG F.b (F.b.length + 1) E.heard 0 [] = readH E.heard F.b from rfl] at hk
  obtain ⟨hk1, hk2, hk3, hk4⟩ := hk
  have hfl := get_ltT hf
  unfold EA.tookHead
  generalize readH E.heard F.b = r at *
  obtain ⟨good, hd, ps'⟩ := r
  simp only at rd hk1 hk2 hk3 ⊢
  have s1 := (h.putHeard (ps := ps') hk2 hk3).app [lsD (hd.map pD)]
  have k1 : Kp S (S.set (b + 4) (shD ps') ++ [lsD (hd.map pD)]) b ad := (Kp.set (own0 4)).trans (Kp.app _)
  have hfo : (b + 4 = f) = False := eq_false (fun z => hno (z ▸ own0 4))
  have hf1 : (S.set (b + 4) (shD ps') ++ [lsD (hd.map pD)])[f]? = some (frD F) := by
    rw [List.getElem?_append_left (by rw [List.length_set]; exact get_lt hf), gs_r, if_neg (fun z => by rw [hfo] at z; exact z), hf]
  have hm1 : (S.set (b + 4) (shD ps') ++ [lsD (hd.map pD)])[S.length]? = some (lsD (hd.map pD)) := by
    have := get_new (S.set (b + 4) (shD ps')) (lsD (hd.map pD))
    rw [List.length_set] at this
    exact this
  by_cases cg : good = true ∧ hd.length ≤ 6
  · rw [if_neg (not_not_intro cg)]
    rw [if_pos cg] at rd
    generalize hS1 : S.set (b + 4) (shD ps') ++ [lsD (hd.map pD)] = S1 at *
    have hS1l : S1.length = S.length + 1 := by rw [← hS1, List.length_append, List.length_set]; rfl
    have fx1 := s1.fx
    have hmo : ¬ Own b ad S.length := not_own_fresh h (Nat.le_refl _)
    unfold headT
    cases e : aget E.talks F.t with
    | some T =>
      obtain ⟨a, h1, h2, h3⟩ := s1.t.at e
      have t := head_tail (wd := "answer") s1 hf1 hno h1 h2 hm1 hmo (.answer F.t hd) (fun S' q ad' o => ⟨S.length, rfl, q, o, Nat.le_refl _⟩) rfl e
      refine TookN.cast (TookN.weak t k1 (fun _ _ z => .inl z)) ?_ ?_
      · (unfold m_took_head b_took_head; refine Eq.trans (fnM_l (l := [_, _, none, none, none, none]) rfl rfl _) ?_)
        rw [seq_nx (S' := S1) (l' := [some (.ref b), some (.ref f), some (.ref S.length), none, none, none]) (by simp only [mer, fx, hf, rd])]
        rw [seq_nx (S' := S1) (l' := [some (.ref b), some (.ref f), some (.ref S.length), some (.str "answer"), none, none]) (by simp only [mer])]
        rw [seq_nx (S' := S1) (l' := [some (.ref b), some (.ref f), some (.ref S.length), some (.str "answer"), some (.ref a), none]) (by simp only [mer, fx1, hf1, h1])]
        rw [seq_nx (S' := S1) (l' := [some (.ref b), some (.ref f), some (.ref S.length), some (.str "answer"), some (.ref a), none]) (by simp only [mer])]
      · simp only [Option.isSome_some, if_true]
    | none =>
      obtain ⟨n1, n2⟩ := hnew e
      have e2 := (h.t.none_iff F.t).mpr e
      have s2 := s1.newT (k := F.t) (T := { Tk.new F.t 20 with xh := E.left.isSome }) e n1 n2 (by show (0 : Int) ≤ 20; decide)
      have s3 := s2.putE (E' := { E with heard := ps', talks := aput E.talks F.t { Tk.new F.t 20 with xh := E.left.isSome }, theirs := F.t }) rfl rfl rfl rfl rfl rfl h.ok.bs h.ok.mn
      have hb6 : b + 6 < S.length := get_lt h.c6
      have hfl' := get_lt hf
      generalize hS3 : ((S1 ++ [tkC { Tk.new F.t 20 with xh := E.left.isSome }]).set (b + 2) (dcC (ad ++ [(F.t, S1.length)]))).set b (enC b { E with heard := ps', talks := aput E.talks F.t { Tk.new F.t 20 with xh := E.left.isSome }, theirs := F.t }) = S3 at s3
      have hq : ∀ k a, aget (ad ++ [(F.t, S1.length)]) k = some a → aget ad k = some a ∨ S1.length ≤ a := fun k a q => by
        rw [aget_snoc _ _ _ _ e2] at q
        split at q
        · cases q; exact .inr (Nat.le_refl _)
        · exact .inl q
      have hold : ∀ i, i < S1.length → ¬ (b ≤ i ∧ i ≤ b + 6) → S3[i]? = S1[i]? := fun i hi no => by
        rw [← hS3, gs_r, if_neg (by omega), gs_r, if_neg (by omega), List.getElem?_append_left hi]
      have nof : ¬ (b ≤ f ∧ f ≤ b + 6) := fun z => hno (.inl z)
      have nom : ¬ (b ≤ S.length ∧ S.length ≤ b + 6) := fun z => hmo (.inl z)
      have hf3 : S3[f]? = some (frD F) := by rw [hold f (by omega) nof, hf1]
      have hm3 : S3[S.length]? = some (lsD (hd.map pD)) := by rw [hold S.length (by omega) nom, hm1]
      have no2 : ∀ i, i < S1.length → ¬ Own b ad i → ¬ Own b (ad ++ [(F.t, S1.length)]) i := fun i hi no o => by
        rcases o with o | ⟨k, o⟩
        · exact no (.inl o)
        · rcases hq k i o with z | z
          · exact no (own1 z)
          · omega
      have k3 : Kp S1 S3 b ad := ⟨by rw [← hS3, List.length_set, List.length_set, List.length_append]; omega, fun i g1 g2 g3 => hold i g1 (by omega)⟩
      have ha3 : aget (ad ++ [(F.t, S1.length)]) F.t = some S1.length := by rw [aget_snoc _ _ _ _ e2, if_pos rfl]
      have hg3 : S3[S1.length]? = some (tkC { Tk.new F.t 20 with xh := E.left.isSome }) := by
        rw [← hS3, gs_r, if_neg (by omega), gs_r, if_neg (by omega)]
        exact get_new _ _
      have t := head_tail (wd := "begun") s3 hf3 (no2 f (by omega) hno) ha3 hg3 hm3 (no2 S.length (by omega) hmo) (.begun F.t hd) (fun S' q ad' o => ⟨S.length, rfl, q, o, Nat.le_refl _⟩) rfl (by show aget (aput E.talks F.t _) F.t = _; rw [aget_put, if_pos rfl])
      refine TookN.cast (TookN.weak t (k1.trans k3) (fun k a q => by
        rcases hq k a q with z | z
        · exact .inl z
        · exact .inr (by omega))) ?_ ?_
      · have mk := talk_make F.t 20
        have wr := wr_dcC (k := F.t) S1.length e2 (by have := h.adl; omega)
        have gl : ∀ (c : Cell) j, j ≤ 6 → (S1 ++ [c])[b + j]? = S1[b + j]? := fun c j hj => List.getElem?_append_left (by omega)
        have g0 := fun c => gl c 0 (by decide)
        have g2 := fun c => gl c 2 (by decide)
        rw [Nat.add_zero] at g0
        have gf : ∀ c, (S1 ++ [c])[f]? = S1[f]? := fun c => List.getElem?_append_left (by omega)
        have gn := get_new S1
        have sn := set_new S1
        have lb : ∀ c : Cell, (b + 2 < (S1 ++ [c]).length) = True := fun c => eq_true (by rw [List.length_append]; omega)
        have nbf : (b = f) = False := eq_false (fun z => hno (z ▸ ownb))
        have nbf2 : (b + 2 = f) = False := eq_false (fun z => hno (z ▸ own0 2))
        have hsm : fIsNot (optD E.left) .non (S1 ++ [tkC (Tk.new F.t 20)]) = some (.ok (.bl E.left.isSome), S1 ++ [tkC (Tk.new F.t 20)]) := by cases E.left <;> rfl
        have wx : ∀ v, wrF 6 "shut_here" (.bl v) (some (tkC (Tk.new F.t 20))) = some (tkC { Tk.new F.t 20 with xh := v }) := fun _ => rfl
        (unfold m_took_head b_took_head; refine Eq.trans (fnM_l (l := [_, _, none, none, none, none]) rfl rfl _) ?_)
        rw [seq_nx (S' := S1) (l' := [some (.ref b), some (.ref f), some (.ref S.length), none, none, none]) (by simp only [mer, fx, hf, rd])]
        rw [seq_nx (S' := S1) (l' := [some (.ref b), some (.ref f), some (.ref S.length), some (.str "answer"), none, none]) (by simp only [mer])]
        rw [seq_nx (S' := S1) (l' := [some (.ref b), some (.ref f), some (.ref S.length), some (.str "answer"), some .non, none]) (by simp only [mer, fx1, hf1, e2])]
        rw [seq_nx (S' := S3) (l' := [some (.ref b), some (.ref f), some (.ref S.length), some (.str "begun"), some (.ref S1.length), none]) (by
          rw [← hS3]
          simp only [mer, fx1, hf1, mk, g0, g2, gf, gn, sn, wx, hsm, wr, lb, nbf, nbf2]
          rfl)]
      · simp only [Option.isSome_none, Bool.false_eq_true, if_false, aput_aput]
  · rw [if_pos cg]
    rw [if_neg cg] at rd
    have s2 := s1.putE (E' := { E with heard := ps', broken := "head" }) rfl rfl rfl rfl rfl rfl (show PyData.strOk "head" = true from strOk_c.2.2.2.2.2.2.2.2.2.2.2.2.2.1) h.ok.mn
    refine ⟨.fl [.tup [.str "broken", .str "head"]], _, _, ad, ?_, rfl, by show 1 ≤ 2; decide, ⟨rfl, trivial⟩, s2, k1.trans (Kp.set ownb), fun _ _ z => .inl z⟩
    have fx1 := s1.fx
    (unfold m_took_head b_took_head; refine Eq.trans (fnM_l (l := [_, _, none, none, none, none]) rfl rfl _) ?_)
    simp only [mer, fx, hf, rd, catch_bad, fx1]
end
end Law

/-! a frame taken; numbers heard -/
namespace Law
open PySem PySem.Spec L2 Sim
theorem frD_inj {F G : Fr} (h : frD F = frD G) : True := trivial
structure FIn (F : Fr) : Prop where
  k : 0 ≤ F.k
  t : 0 ≤ F.t
  f : 0 ≤ F.f
  b : ∀ x ∈ F.b, 0 ≤ x ∧ x < 256
section
variable {S : Store} {b : Nat} {E : EA} {ad : List (Int × Nat)} {f : Nat} {F : Fr}
theorem wn_ne : ("number" : Str) ≠ "" := by decide +kernel
theorem whyNumber_new (hn : E.whyNumber F = "") (h6 : F.k ≠ 6) : (F.t = 0 ∧ F.k = 3) ∨ (aget E.talks F.t).isSome = true ∨ E.isNew F = true := by
  unfold EA.whyNumber at hn
  rw [if_neg h6] at hn
  split at hn
  · assumption
  · exact absurd hn wn_ne
theorem isNew_in (h : E.isNew F = true) : F.k = 1 ∧ 1 ≤ F.t ∧ F.t ≤ 250 := by
  unfold EA.isNew at h
  split at h
  · cases h
  · rename_i c
    have c1 : F.k = 1 := Classical.not_not.mp fun z => c (.inl z)
    have c2 : 1 ≤ F.t ∧ F.t ≤ 250 := Classical.not_not.mp fun z => c (.inr (.inr z))
    exact ⟨c1, c2.1, c2.2⟩
theorem took_eq (h : EndAt S b E ad) (hf : S[f]? = some (frD F)) (hno : ¬ Own b ad f) (hF : FIn F) : Took (m_took [.ref b, .ref f] S) S b ad (E.took F) := by
  have fx := h.fx
  have wn := why_not_eq h hf
  have sw := strOk_not E F
  have ne := fNe_s sw strOk_c.1 S
  have hb0 : ∀ x ∈ F.b, 0 ≤ x := fun x hx => (hF.b x hx).1
  unfold EA.took
  by_cases c0 : E.whyNot F = ""
  · have c0' := eq_true c0
    rw [if_neg (not_not_intro c0)]
    obtain ⟨w1, w2, w3⟩ : whyForm F = "" ∧ E.whyNumber F = "" ∧ E.whyTalk F = "" := by
      unfold EA.whyNot at c0
      split at c0
      · rename_i z; exact absurd c0 z
      · rename_i z
        split at c0
        · rename_i z2; exact absurd c0 z2
        · rename_i z2; exact ⟨Classical.not_not.mp z, Classical.not_not.mp z2, c0⟩
    have hz := sized_of w1
    by_cases c1 : F.k = 1
    · have c1' := eq_true c1
      rw [if_pos c1]
      have t := head_took h hf hno hb0 hz.b (fun e => by
        rcases whyNumber_new w2 (by omega) with z | z | z
        · omega
        · rw [e] at z; cases z
        · exact (isNew_in z).2)
      refine TookN.cast t ?_ rfl
      obtain ⟨x, ds, S', ad', t1, _⟩ := t
      rw [t1]
      (unfold m_took b_took; refine Eq.trans (fnM_l (l := [_, _, none]) rfl rfl _) ?_)
      simp only [mer, fx, hf, wn, ne, c0', c1', t1]
    · have c1' := eq_false c1
      rw [if_neg c1]
      by_cases c2 : F.k = 2
      · have c2' := eq_true c2
        rw [if_pos c2]
        have e : ∃ T, aget E.talks F.t = some T := by
          rcases whyNumber_new w2 (by omega) with z | z | z
          · omega
          · exact Option.isSome_iff_exists.mp z
          · exact absurd (isNew_in z).1 c1
        obtain ⟨T, e⟩ := e
        rw [e]
        have t := tookBody_eq h hf hno e
        refine TookN.cast t ?_ rfl
        obtain ⟨x, ds, S', ad', t1, _⟩ := t
        rw [t1]
        (unfold m_took b_took; refine Eq.trans (fnM_l (l := [_, _, none]) rfl rfl _) ?_)
        simp only [mer, fx, hf, wn, ne, c0', c1', c2', t1]
      · have c2' := eq_false c2
        rw [if_neg c2]
        by_cases c6 : F.k = 6
        · have c6' := eq_true c6
          rw [if_pos c6]
          have hle : F.b.getD 0 0 ≤ E.mine := by
            unfold EA.whyNumber at w2
            rw [if_pos c6] at w2
            split at w2
            · exact absurd w2 wn_ne
            · omega
          have t := away_eq h hf hno hz c6 hb0 hle
          refine TookN.cast t ?_ rfl
          obtain ⟨x, ds, S', ad', t1, _⟩ := t
          rw [t1]
          (unfold m_took b_took; refine Eq.trans (fnM_l (l := [_, _, none]) rfl rfl _) ?_)
          simp only [mer, fx, hf, wn, ne, c0', c1', c2', c6', t1]
        · have c6' := eq_false c6
          rw [if_neg c6]
          have e : ∃ T, E.talkAt F.t = some T := by
            unfold EA.talkAt
            by_cases ct : 0 < F.t
            · rw [if_pos ct]
              rcases whyNumber_new w2 c6 with z | z | z
              · omega
              · exact Option.isSome_iff_exists.mp z
              · exact absurd (isNew_in z).1 c1
            · exact ⟨E.line, by rw [if_neg ct]⟩
          obtain ⟨T, e⟩ := e
          rw [e]
          have t := other_eq h hf hno hz (by have := hz.k1; have := hz.k6; omega) e hb0
          refine TookN.cast t ?_ rfl
          obtain ⟨x, ds, S', ad', t1, _⟩ := t
          rw [t1]
          (unfold m_took b_took; refine Eq.trans (fnM_l (l := [_, _, none]) rfl rfl _) ?_)
          simp only [mer, fx, hf, wn, ne, c0', c1', c2', c6', t1]
  · have c0' := eq_false c0
    rw [if_pos c0]
    have s1 := h.putE (E' := { E with broken := E.whyNot F }) rfl rfl rfl rfl rfl rfl sw h.ok.mn
    refine ⟨.fl [.tup [.str "broken", .str (E.whyNot F)]], _, _, ad, ?_, rfl, by show 1 ≤ 2; decide, ⟨rfl, trivial⟩, s1, Kp.set ownb, fun _ _ z => .inl z⟩
    generalize E.whyNot F = w at *
    (unfold m_took b_took; refine Eq.trans (fnM_l (l := [_, _, none]) rfl rfl _) ?_)
    simp only [mer, fx, wn, ne, c0']
def bHr : MS := (sSeq (sSet 2 (e2 fAdd (eVar 2) (eA m_took (aCons (eVar 0) (aCons (eVar 3) (aNil))))))
  (sIf (tOf (e2 fNe (e1 (fFld 7 "broken") (eVar 0)) (eC (.str "")))) (sRet (eVar 2)) (sNext)))
theorem fAdd_cat {a : List D} {x : D} {ds : List D} (h : catOf x S = some ds) (hl : a.length + ds.length ≤ 16777216) : fAdd (.fl a) x S = some (.ok (.fl (a ++ ds)), S) := by
  unfold fAdd
  have : catOf (.fl a) S = some a := rfl
  cases x <;> first | (cases h; done) | (simp only [this, h]; rw [if_pos (show _ ≤ lineN from hl)])
theorem hear_loop {lo : Nat} {p : Option D} {fs : List Fr} {S0 : Store} {ad0 : List (Int × Nat)} (hfs : ∀ F ∈ fs, FIn F) : ∀ (n i : Nat) (S : Store) (E : EA) (ad : List (Int × Nat)) (acc : List D) (evs : List Ev) (o3 : Option D) (k : Nat), n + i = fs.length → n < k → E.broken = "" → EndAt S b E ad → Kp S0 S b ad0 → (∀ k a, aget ad k = some a → aget ad0 k = some a ∨ S0.length ≤ a) →
    EvsAt S b ad S0.length acc evs → acc.length ≤ 2 * i → fs.length ≤ 100000 → S[lo]? = some (lsD (rfD (lo + 1) fs.length)) → ¬ Own b ad lo → (∀ j F, fs[j]? = some F → S[lo + 1 + j]? = some (frD F) ∧ ¬ Own b ad (lo + 1 + j)) →
    ∃ fl S' ad' ds, forG (Sim.listOf (.ref lo)) (.one 3) bHr k i [some (.ref b), p, some (.fl acc), o3] S = some (fl, S') ∧ (fl = .rt (.fl ds) ∨ ∃ o, fl = .nx [some (.ref b), p, some (.fl ds), o]) ∧ EndAt S' b (EA.tooks (fs.drop i) E).1 ad' ∧ EvsAt S' b ad' S0.length ds (evs ++ (EA.tooks (fs.drop i) E).2) ∧ Kp S0 S' b ad0 ∧ (∀ k a, aget ad' k = some a → aget ad0 k = some a ∨ S0.length ≤ a)
  | 0, i, S, E, ad, acc, evs, o3, k, hi, hk, hb, h, hK, hq, he, hal, hN, hlo, hno, hfr => by
    cases k with
    | zero => omega
    | succ k =>
      refine ⟨_, S, ad, acc, ?_, .inr ⟨o3, rfl⟩, ?_, ?_, hK, hq⟩
      · unfold forG
        simp only [listOf_ref (b := false) hlo]
        rw [List.getElem?_eq_none (by rw [rfD_len]; omega)]
      · rw [List.drop_of_length_le (by omega)]; exact h
      · rw [List.drop_of_length_le (by omega)]
        show EvsAt S b ad S0.length acc (evs ++ [])
        rw [List.append_nil]; exact he
  | n + 1, i, S, E, ad, acc, evs, o3, k, hi, hk, hb, h, hK, hq, he, hal, hN, hlo, hno, hfr => by
    cases k with
    | zero => omega
    | succ k =>
      have hil : i < fs.length := by omega
      have hF := List.getElem?_eq_getElem hil
      generalize fs[i] = F at hF
      obtain ⟨hf, hfo⟩ := hfr i F hF
      obtain ⟨x, ds, S1, ad1, t1, t2, t3, t4, t5, t6, t7⟩ := took_eq h hf hfo (hfs F (List.mem_of_getElem? hF))
      have hix : (rfD (lo + 1) fs.length)[i]? = some (.ref (lo + 1 + i)) := by
        unfold rfD
        rw [List.getElem?_map, List.getElem?_range hil]
        rfl
      have hdrop : fs.drop i = F :: fs.drop (i + 1) := by
        rw [List.drop_eq_getElem_cons hil]
        rw [List.getElem?_eq_getElem hil] at hF
        rw [Option.some.inj hF]
      have hq1 : ∀ k a, aget ad1 k = some a → aget ad0 k = some a ∨ S0.length ≤ a := fun k a e => by
        rcases t7 k a e with z | z
        · exact hq k a z
        · exact .inr (Nat.le_trans hK.len z)
      have hK1 : Kp S0 S1 b ad0 := Kp.trans' hK t6 hq
      have he1 := (he.keep t6 t7).append (t4.low hK.len)
      have fa := fAdd_cat (S := S1) (a := acc) t2 (by omega)
      have fx1 := t5.fx
      have gn := fNe_s t5.ok.bs strOk_c.1 S1
      rw [hdrop]
      have hget : forG (Sim.listOf (.ref lo)) (.one 3) bHr (k + 1) i [some (.ref b), p, some (.fl acc), o3] S = match bHr [some (.ref b), p, some (.fl acc), some (.ref (lo + 1 + i))] S with
        | some (.nx l', S') => forG (Sim.listOf (.ref lo)) (.one 3) bHr k (i + 1) l' S'
        | some (.ct l', S') => forG (Sim.listOf (.ref lo)) (.one 3) bHr k (i + 1) l' S'
        | some (.bk l', S') => some (.nx l', S')
        | r => r := by
        conv => lhs; unfold forG
        simp only [listOf_ref (b := false) hlo, hix, tgSet, List.set_cons_succ, List.set_cons_zero]
        try rfl
      rw [hget]
      unfold EA.tooks
      by_cases cb : (E.took F).1.broken = ""
      · have cb' := eq_true cb
        rw [if_neg (not_not_intro cb)]
        have step : bHr [some (.ref b), p, some (.fl acc), some (.ref (lo + 1 + i))] S = some (.nx [some (.ref b), p, some (.fl (acc ++ ds)), some (.ref (lo + 1 + i))], S1) := by
          unfold bHr
          simp only [mer, t1, fa, fx1, gn, cb']
        rw [step]
        have keepc : ∀ m c, S[m]? = some c → ¬ Own b ad m → S1[m]? = some c ∧ ¬ Own b ad1 m := fun m c g1 g2 => by
          have hm := get_lt g1
          have h3 : m < b ∨ b + 6 < m := by
            have : ¬ (b ≤ m ∧ m ≤ b + 6) := fun z => g2 (.inl z)
            omega
          refine ⟨by rw [t6.keep m hm h3 (fun k z => g2 (own1 z)), g1], ?_⟩
          rintro (o | ⟨y, o⟩)
          · exact g2 (.inl o)
          · rcases t7 y m o with z | z
            · exact g2 (own1 z)
            · omega
        obtain ⟨l1, l2⟩ := keepc lo _ hlo hno
        obtain ⟨fl, S', ad', ds', r1, r2, r3, r4, r5, r6⟩ := hear_loop (p := p) hfs n (i + 1) S1 (E.took F).1 ad1 (acc ++ ds) (evs ++ (E.took F).2) (some (.ref (lo + 1 + i))) k (by omega) (by omega) cb t5 hK1 hq1 he1 (by rw [List.length_append]; omega) hN l1 l2 (fun j G hG => keepc _ _ (hfr j G hG).1 (hfr j G hG).2)
        refine ⟨fl, S', ad', ds', r1, r2, r3, ?_, r5, r6⟩
        rw [← List.append_assoc]
        exact r4
      · have cb' := eq_false cb
        rw [if_pos cb]
        have step : bHr [some (.ref b), p, some (.fl acc), some (.ref (lo + 1 + i))] S = some (.rt (.fl (acc ++ ds)), S1) := by
          unfold bHr
          simp only [mer, t1, fa, fx1, gn, cb']
        rw [step]
        exact ⟨_, S1, ad1, acc ++ ds, rfl, .inl rfl, t5, he1, hK1, hq1⟩
end
end Law

/-! an end made; hear -/
namespace Law
open PySem PySem.Spec L2 Sim
def newE (b : Nat) (side : Int) : Store := [enC b (EA.new side), tkC (Tk.new 0 60), dcC [], shD [], shD [], cuD [], lsD []]
theorem end_make (side : Int) (S : Store) : fMake 7 (fun ds => noErr (m_End_init ds)) [.int side] S = some (.ok (.ref S.length), S ++ newE S.length side) := by
  have h : m_End_init [.ref S.length, .int side] (S ++ [⟨.ins 7 [], false⟩]) = some (.ok .non, S ++ newE S.length side) := by
    have hg : ∀ (c : Cell) r, (S ++ c :: r)[S.length]? = some c := fun c r => by rw [List.getElem?_append_right (Nat.le_refl _), Nat.sub_self]; rfl
    have hs : ∀ (c : Cell) r d, (S ++ c :: r).set S.length d = S ++ d :: r := fun c r d => by rw [List.set_append_right _ _ (Nat.le_refl _), Nat.sub_self]; rfl
    have w0 : ∀  d, wrF 7 "side" d (some ⟨.ins 7 [], false⟩) = some ⟨.ins 7 [("side", d)], false⟩ := fun _ => rfl
    have w1 : ∀ x0 d, wrF 7 "line" d (some ⟨.ins 7 [("side", x0)], false⟩) = some ⟨.ins 7 [("side", x0), ("line", d)], false⟩ := fun _ _ => rfl
    have w2 : ∀ x0 x1 d, wrF 7 "talks" d (some ⟨.ins 7 [("side", x0), ("line", x1)], false⟩) = some ⟨.ins 7 [("side", x0), ("line", x1), ("talks", d)], false⟩ := fun _ _ _ => rfl
    have w3 : ∀ x0 x1 x2 d, wrF 7 "told" d (some ⟨.ins 7 [("side", x0), ("line", x1), ("talks", x2)], false⟩) = some ⟨.ins 7 [("side", x0), ("line", x1), ("talks", x2), ("told", d)], false⟩ := fun _ _ _ _ => rfl
    have w4 : ∀ x0 x1 x2 x3 d, wrF 7 "heard" d (some ⟨.ins 7 [("side", x0), ("line", x1), ("talks", x2), ("told", x3)], false⟩) = some ⟨.ins 7 [("side", x0), ("line", x1), ("talks", x2), ("told", x3), ("heard", d)], false⟩ := fun _ _ _ _ _ => rfl
    have w5 : ∀ x0 x1 x2 x3 x4 d, wrF 7 "cutter" d (some ⟨.ins 7 [("side", x0), ("line", x1), ("talks", x2), ("told", x3), ("heard", x4)], false⟩) = some ⟨.ins 7 [("side", x0), ("line", x1), ("talks", x2), ("told", x3), ("heard", x4), ("cutter", d)], false⟩ := fun _ _ _ _ _ _ => rfl
    have w6 : ∀ x0 x1 x2 x3 x4 x5 d, wrF 7 "out" d (some ⟨.ins 7 [("side", x0), ("line", x1), ("talks", x2), ("told", x3), ("heard", x4), ("cutter", x5)], false⟩) = some ⟨.ins 7 [("side", x0), ("line", x1), ("talks", x2), ("told", x3), ("heard", x4), ("cutter", x5), ("out", d)], false⟩ := fun _ _ _ _ _ _ _ => rfl
    have w7 : ∀ x0 x1 x2 x3 x4 x5 x6 d, wrF 7 "broken" d (some ⟨.ins 7 [("side", x0), ("line", x1), ("talks", x2), ("told", x3), ("heard", x4), ("cutter", x5), ("out", x6)], false⟩) = some ⟨.ins 7 [("side", x0), ("line", x1), ("talks", x2), ("told", x3), ("heard", x4), ("cutter", x5), ("out", x6), ("broken", d)], false⟩ := fun _ _ _ _ _ _ _ _ => rfl
    have w8 : ∀ x0 x1 x2 x3 x4 x5 x6 x7 d, wrF 7 "turns" d (some ⟨.ins 7 [("side", x0), ("line", x1), ("talks", x2), ("told", x3), ("heard", x4), ("cutter", x5), ("out", x6), ("broken", x7)], false⟩) = some ⟨.ins 7 [("side", x0), ("line", x1), ("talks", x2), ("told", x3), ("heard", x4), ("cutter", x5), ("out", x6), ("broken", x7), ("turns", d)], false⟩ := fun _ _ _ _ _ _ _ _ _ => rfl
    have w9 : ∀ x0 x1 x2 x3 x4 x5 x6 x7 x8 d, wrF 7 "mine" d (some ⟨.ins 7 [("side", x0), ("line", x1), ("talks", x2), ("told", x3), ("heard", x4), ("cutter", x5), ("out", x6), ("broken", x7), ("turns", x8)], false⟩) = some ⟨.ins 7 [("side", x0), ("line", x1), ("talks", x2), ("told", x3), ("heard", x4), ("cutter", x5), ("out", x6), ("broken", x7), ("turns", x8), ("mine", d)], false⟩ := fun _ _ _ _ _ _ _ _ _ _ => rfl
    have w10 : ∀ x0 x1 x2 x3 x4 x5 x6 x7 x8 x9 d, wrF 7 "theirs" d (some ⟨.ins 7 [("side", x0), ("line", x1), ("talks", x2), ("told", x3), ("heard", x4), ("cutter", x5), ("out", x6), ("broken", x7), ("turns", x8), ("mine", x9)], false⟩) = some ⟨.ins 7 [("side", x0), ("line", x1), ("talks", x2), ("told", x3), ("heard", x4), ("cutter", x5), ("out", x6), ("broken", x7), ("turns", x8), ("mine", x9), ("theirs", d)], false⟩ := fun _ _ _ _ _ _ _ _ _ _ _ => rfl
    have w11 : ∀ x0 x1 x2 x3 x4 x5 x6 x7 x8 x9 x10 d, wrF 7 "left_at" d (some ⟨.ins 7 [("side", x0), ("line", x1), ("talks", x2), ("told", x3), ("heard", x4), ("cutter", x5), ("out", x6), ("broken", x7), ("turns", x8), ("mine", x9), ("theirs", x10)], false⟩) = some ⟨.ins 7 [("side", x0), ("line", x1), ("talks", x2), ("told", x3), ("heard", x4), ("cutter", x5), ("out", x6), ("broken", x7), ("turns", x8), ("mine", x9), ("theirs", x10), ("left_at", d)], false⟩ := fun _ _ _ _ _ _ _ _ _ _ _ _ => rfl
    have w12 : ∀ x0 x1 x2 x3 x4 x5 x6 x7 x8 x9 x10 x11 d, wrF 7 "away_at" d (some ⟨.ins 7 [("side", x0), ("line", x1), ("talks", x2), ("told", x3), ("heard", x4), ("cutter", x5), ("out", x6), ("broken", x7), ("turns", x8), ("mine", x9), ("theirs", x10), ("left_at", x11)], false⟩) = some ⟨.ins 7 [("side", x0), ("line", x1), ("talks", x2), ("told", x3), ("heard", x4), ("cutter", x5), ("out", x6), ("broken", x7), ("turns", x8), ("mine", x9), ("theirs", x10), ("left_at", x11), ("away_at", d)], false⟩ := fun _ _ _ _ _ _ _ _ _ _ _ _ _ => rfl
    have m6 := fun T => talk_make 0 60 T
    have m5 := shelf_make
    have m4 := cutter_make
    have md : ∀ l T, eDct0 l T = some (.ok (.ref T.length), T ++ [dcC []]) := fun _ _ => rfl
    have ml : ∀ l T, eLstR aNil l T = some (.ok (.ref T.length), T ++ [lsD []]) := fun _ _ => rfl
    have apn : ∀ (X Y : Store) , (S ++ X) ++ Y = S ++ (X ++ Y) := fun X Y => List.append_assoc _ _ _
    have ln : ∀ (X : Store), (S ++ X).length = S.length + X.length := fun X => List.length_append
    (unfold m_End_init b_End_init; refine Eq.trans (fnM_l (l := [_, _]) rfl rfl _) ?_)
    simp only [mir, hg, hs, w0, w1, w2, w3, w4, w5, w6, w7, w8, w9, w10, w11, w12, m6, m5, m4, md, ml, apn, ln, List.cons_append, List.nil_append, List.length_cons, List.length_nil, Nat.zero_add, Nat.reduceAdd]
    rfl
  unfold fMake
  simp only [noErr_ok h]
theorem end_new (S : Store) (side : Int) : EndAt (S ++ newE S.length side) S.length (EA.new side) [] := by
  have g : ∀ j, (S ++ newE S.length side)[S.length + j]? = (newE S.length side)[j]? := fun j => by
    rw [List.getElem?_append_right (by omega)]; congr 1; omega
  refine ⟨g 0, g 1, g 2, g 3, g 4, g 5, g 6, ⟨rfl, fun _ _ z => (by cases z), fun _ _ _ z => (by cases z), fun _ _ z => (by cases z)⟩, ⟨strOk_c.1, ?_, Nat.zero_le _, ?_, Nat.zero_le _, List.nodup_nil, ?_, ?_, .inl (show (0 : Nat) < 4 by decide), fun _ _ z => (by cases z), (show (0 : Int) ≤ 60 by decide), (show (0 : Int) ≤ 0 ∧ (0 : Int) ≤ 250 by decide)⟩⟩
  · intro p hp; cases hp
  · intro p hp; cases hp
  · intro p hp; cases hp
  · intro p hp; cases hp
theorem cut_all {H : List Int} (hH : ∀ x ∈ H, 0 ≤ x ∧ x < 256) : ∀ (k : Nat) (i : Int) (fs : List Fr), 0 ≤ i → i ≤ H.length → (H.length : Int) - i < k → (fs.length : Int) ≤ i → (∀ F ∈ fs, FIn F) → (∀ F ∈ (cutG H k i fs).1, FIn F) ∧ Short (H.drop (cutG H k i fs).2.toNat) ∧ (((cutG H k i fs).1.length : Int) ≤ H.length)
  | 0, i, fs, h0, h1, hk, _, _ => by omega
  | k + 1, i, fs, h0, h1, hk, hl, hf => by
    have g : ∀ j : Int, 0 ≤ j → j < H.length → 0 ≤ H.getD j.toNat 0 ∧ H.getD j.toNat 0 < 256 := fun j a b => hH _ (List.mem_of_getElem? (getD_mem (ns := H) (i := j.toNat) (by omega)))
    unfold cutG
    by_cases c : i + 4 ≤ (H.length : Int) ∧ i + 4 + H.getD i.toNat 0 ≤ H.length
    · rw [if_pos c]
      have p0 := g i h0 (by omega)
      refine cut_all hH k _ _ (by omega) c.2 (by omega) (by rw [List.length_append]; show ((fs.length + 1 : Nat) : Int) ≤ _; omega) ?_
      intro F hF
      rcases List.mem_append.mp hF with hF | hF
      · exact hf F hF
      · rw [List.mem_singleton.mp hF]
        exact ⟨(g (i + 1) (by omega) (by omega)).1, (g (i + 3) (by omega) (by omega)).1, (g (i + 2) (by omega) (by omega)).1, fun x hx => hH x (List.mem_of_mem_drop (List.mem_of_mem_take hx))⟩
    · rw [if_neg c]
      refine ⟨hf, ?_, by show (fs.length : Int) ≤ _; omega⟩
      show Short (H.drop i.toNat)
      unfold Short
      rw [List.length_drop]
      have e : (H.drop i.toNat).getD 0 0 = H.getD i.toNat 0 := by rw [List.getD_eq_getElem?_getD, List.getElem?_drop, List.getD_eq_getElem?_getD, Nat.add_zero]
      rw [e]
      omega
section
variable {S : Store} {b : Nat} {E : EA} {ad : List (Int × Nat)}
theorem hear_eq (h : EndAt S b E ad) {P : List Int} (hP : ∀ x ∈ P, 0 ≤ x ∧ x < 256) (hN : P.length ≤ 49000) :
    ∃ ds S' ad', m_End_hear [.ref b, inD1 P] S = some (.ok (.fl ds), S') ∧ EndAt S' b (E.hear P).1 ad' ∧ EvsAt S' b ad' S.length ds (E.hear P).2 ∧ Kp S S' b ad ∧ (∀ k a, aget ad' k = some a → aget ad k = some a ∨ S.length ≤ a) := by
  have fx := h.fx
  have gn := fNe_s h.ok.bs strOk_c.1 S
  unfold EA.hear
  by_cases c : E.broken = ""
  · have c' := eq_true c
    rw [if_neg (not_not_intro c)]
    have hl := held_len h.ok.hs h.ok.hh
    have hH : ∀ x ∈ E.held ++ P, 0 ≤ x ∧ x < 256 := fun x hx => (List.mem_append.mp hx).elim (h.ok.hh x) (hP x)
    have fe := fed_eq (P := P) h.c5 (fun x hx => (hH x hx).1) (by omega)
    obtain ⟨q1, q2, q3⟩ := cut_all hH ((E.held ++ P).length + 1) 0 [] (by decide) (by omega) (by omega) (by decide) (fun F hF => by cases hF)
    have r1 : (cutH (E.held ++ P)).1 = (cutG (E.held ++ P) ((E.held ++ P).length + 1) 0 []).1 := rfl
    have r2 : (cutH (E.held ++ P)).2 = (E.held ++ P).drop (cutG (E.held ++ P) ((E.held ++ P).length + 1) 0 []).2.toNat := rfl
    rw [← r1] at q1 q3
    rw [← r2] at q2
    have hHl : ((E.held ++ P).length : Int) ≤ 49300 := by rw [List.length_append]; omega
    have q5 : ∀ x ∈ (cutH (E.held ++ P)).2, 0 ≤ x ∧ x < 256 := fun x hx => hH x (List.mem_of_mem_drop (by rw [r2] at hx; exact hx))
    clear r1 r2
    generalize cutH (E.held ++ P) = r at *
    obtain ⟨fs, T⟩ := r
    simp only at q1 q2 q3 q5 fe ⊢
    have hlen : (S.set (b + 5) (cuD (E.held ++ P))).length = S.length := List.length_set
    have hb5 : b + 5 < S.length := get_lt h.c5
    have hW : (WW' (S.set (b + 5) (cuD (E.held ++ P))) fs).set (b + 5) (cuD T) = S.set (b + 5) (cuD T) ++ lsD (rfD (S.length + 1) fs.length) :: fs.map frD := by
      unfold WW'
      rw [List.set_append_left _ _ (by rw [hlen]; exact hb5), List.set_set, hlen]
    rw [hW] at fe
    have s1 := (h.putHeld q5 q2).app (lsD (rfD (S.length + 1) fs.length) :: fs.map frD)
    have k1 : Kp S (S.set (b + 5) (cuD T) ++ lsD (rfD (S.length + 1) fs.length) :: fs.map frD) b ad := (Kp.set (own0 5)).trans (Kp.app _)
    have hlo : (S.set (b + 5) (cuD T) ++ lsD (rfD (S.length + 1) fs.length) :: fs.map frD)[S.length]? = some (lsD (rfD (S.length + 1) fs.length)) := by
      rw [List.getElem?_append_right (by rw [List.length_set]; omega), List.length_set, Nat.sub_self]; rfl
    have hfr : ∀ j F, fs[j]? = some F → (S.set (b + 5) (cuD T) ++ lsD (rfD (S.length + 1) fs.length) :: fs.map frD)[S.length + 1 + j]? = some (frD F) ∧ ¬ Own b ad (S.length + 1 + j) := fun j F e => by
      refine ⟨?_, not_own_fresh h (by omega)⟩
      rw [List.getElem?_append_right (by rw [List.length_set]; omega), List.length_set, show S.length + 1 + j - S.length = j + 1 by omega, List.getElem?_cons_succ, List.getElem?_map, e]
      rfl
    generalize S.set (b + 5) (cuD T) ++ lsD (rfD (S.length + 1) fs.length) :: fs.map frD = S1 at *
    obtain ⟨fl, S', ad', ds, t1, t2, t3, t4, t5, t6⟩ := hear_loop (lo := S.length) (p := some (inD1 P)) (S0 := S) (ad0 := ad) q1 fs.length 0 S1 { E with held := T } ad [] [] none (fs.length + 1) (by omega) (by omega) c s1 k1 (fun _ _ z => .inl z) trivial (Nat.zero_le _) (by omega) hlo (not_own_fresh h (Nat.le_refl _)) hfr
    have hs : sFor (iL (eMeth 4 "fed" m_Cutter_fed (e1 (fFld 7 "cutter") (eVar 0)) (aCons (eVar 1) (aNil)))) (.one 3) bHr [some (.ref b), some (inD1 P), some (.fl []), none] S = some (fl, S') := by
      have hi : iL (eMeth 4 "fed" m_Cutter_fed (e1 (fFld 7 "cutter") (eVar 0)) (aCons (eVar 1) (aNil))) [some (.ref b), some (inD1 P), some (.fl []), none] S = some (.ok (Sim.listOf (.ref S.length)), S1) := by
        have hm : eMeth 4 "fed" m_Cutter_fed (e1 (fFld 7 "cutter") (eVar 0)) (aCons (eVar 1) (aNil)) [some (.ref b), some (inD1 P), some (.fl []), none] S = some (.ok (.ref S.length), S1) := by simp only [mer, fx, fe]
        unfold iL
        rw [hm]
        show (if isL (.ref S.length) S1 = true then _ else _) = _
        have hq : isL (.ref S.length) S1 = true := by unfold isL; simp only [listOf_ref (b := false) hlo, hlo]; rfl
        rw [if_pos hq]
      unfold sFor
      rw [hi]
      show (match Sim.listOf (.ref S.length) S1 with | none => none | some ds => forG (Sim.listOf (.ref S.length)) (.one 3) bHr (ds.length + 1) 0 [some (.ref b), some (inD1 P), some (.fl []), none] S1) = _
      rw [listOf_ref (b := false) hlo]
      show forG (Sim.listOf (.ref S.length)) (.one 3) bHr ((rfD (S.length + 1) fs.length).length + 1) 0 [some (.ref b), some (inD1 P), some (.fl []), none] S1 = _
      rw [rfD_len, t1]
    refine ⟨ds, S', ad', ?_, t3, ?_, t5, t6⟩
    · (unfold m_End_hear b_End_hear; refine Eq.trans (fnM_l (l := [_, _, none, none]) rfl rfl _) ?_)
      rw [seq_nx (S' := S) (l' := [some (.ref b), some (inD1 P), some (.fl []), none]) rfl]
      rw [seq_nx (S' := S) (l' := [some (.ref b), some (inD1 P), some (.fl []), none]) (by simp only [mer, fx, gn, c'])]
      rcases t2 with t2 | ⟨o, t2⟩
      · rw [t2] at hs
        unfold bHr at hs
        rw [seq_rt hs]
        rfl
      · rw [t2] at hs
        unfold bHr at hs
        rw [seq_nx hs]
        simp only [mer]
    · have t4' := t4
      rw [List.nil_append] at t4'
      exact t4'
  · have c' := eq_false c
    rw [if_pos c]
    refine ⟨[], S, ad, ?_, h, trivial, Kp.refl S, fun _ _ z => .inl z⟩
    (unfold m_End_hear b_End_hear; refine Eq.trans (fnM_l (l := [_, _, none, none]) rfl rfl _) ?_)
    simp only [mer, fx, gn, c']
    try rfl
end
end Law

/-! one frame heard; credit heard -/
namespace Law
open PySem PySem.Spec L2 Sim
theorem cutH_one (F : Fr) : cutH (frL F) = ([F], []) := by
  have e : cutG (frL F) ((frL F).length + 1) 0 [] = ([F], (((frL F).length : Nat) : Int)) := by
    have h := cutG_one (pre := []) (F := F) (post := []) (k := (frL F).length) (acc := [])
    rw [List.append_nil, List.nil_append] at h
    refine Eq.trans h ?_
    have hl := frL_len F
    rw [hl, show 4 + F.b.length = (3 + F.b.length) + 1 by omega]
    unfold cutG
    rw [if_neg (fun z => by
      have z1 := z.1
      rw [hl] at z1
      simp at z1
      omega)]
    simp only [List.nil_append, List.length_nil, Prod.mk.injEq, true_and]
    omega
  unfold cutH
  rw [e]
  show ([F], (frL F).drop ((frL F).length : Int).toNat) = _
  rw [Int.toNat_natCast, List.drop_length]
theorem tooks_one (E : EA) (F : Fr) : EA.tooks [F] E = E.took F := by
  unfold EA.tooks
  split
  · rfl
  · unfold EA.tooks
    simp only [List.append_nil]
theorem hear_one {E : EA} (hb : E.broken = "") (hh : E.held = []) (F : Fr) : E.hear (frL F) = E.took F := by
  unfold EA.hear
  rw [if_neg (not_not_intro hb), hh, List.nil_append, cutH_one]
  show EA.tooks [F] { E with held := [] } = _
  rw [tooks_one]
  obtain ⟨⟩ := E
  simp only at hh
  subst hh
  rfl
theorem took_credit {E : EA} {T : Tk} {t x y : Int} (ht : E.talkAt t = some T) (hn : t = 0 ∨ (aget E.talks t).isSome = true) (hx : T.xh = false) (h2 : T.xt = false) (m1 : 256 * x + y ≠ 0) (m2 : T.may + (256 * x + y) ≤ 10000) :
    E.took ⟨3, 0, t, [x, y]⟩ = (E.putAt t { T with may := T.may + (256 * x + y) }, [.credit t (256 * x + y)]) := by
  have am : Fr.amount ⟨3, 0, t, [x, y]⟩ = 256 * x + y := rfl
  have w1 : whyForm ⟨3, 0, t, [x, y]⟩ = "" := rfl
  have w2 : E.whyNumber ⟨3, 0, t, [x, y]⟩ = "" := by
    unfold EA.whyNumber
    rw [if_neg (by show ¬ (3 : Int) = 6; decide)]
    rw [if_pos (by rcases hn with z | z; exact .inl ⟨z, rfl⟩; exact .inr (.inl z))]
  have w3 : E.whyTalk ⟨3, 0, t, [x, y]⟩ = "" := by
    unfold EA.whyTalk
    rw [if_neg (by show ¬ (3 : Int) = 6; decide), ht]
    simp only [h2, hx, am]
    rw [if_neg (by decide), if_neg (by decide), if_neg (by decide), if_neg (by rintro ⟨z, _⟩; exact absurd z (by decide)), if_neg (by rintro ⟨_, z | z⟩ <;> omega), if_neg (by rintro ⟨z, _⟩; exact absurd z (by decide))]
  have w : E.whyNot ⟨3, 0, t, [x, y]⟩ = "" := by
    unfold EA.whyNot
    rw [if_neg (not_not_intro w1), if_neg (not_not_intro w2), w3]
  unfold EA.took
  rw [if_neg (not_not_intro w), if_neg (by show ¬ (3 : Int) = 1; decide), if_neg (by show ¬ (3 : Int) = 2; decide), if_neg (by show ¬ (3 : Int) = 6; decide)]
  show (match E.talkAt t with | some T => E.tookOther ⟨3, 0, t, [x, y]⟩ T | none => (E, [])) = _
  rw [ht]
  unfold EA.tookOther
  simp only [am, hx]
  rw [if_neg (by decide), if_neg (by decide), if_neg (by decide)]
theorem fEq_cr (t m : Int) (S : Store) : fEq (.fl [.tup [.str "credit", .int t, .int m]]) (.fl [.tup [.str "credit", .int t, .int m]]) S = some (.ok (.bl true), S) := by
  unfold fEq
  rw [eqD_of (a := .fl [.tup [.str "credit", .int t, .int m]]) (b := .fl [.tup [.str "credit", .int t, .int m]]) (x := .list [.tuple [.str "credit", .int t, .int m]]) (y := .list [.tuple [.str "credit", .int t, .int m]]) rfl rfl (show 3 ≤ 8 by decide) (show 3 ≤ 8 by decide) ?_ ?_]
  · simp [PyData.eqv, PyData.eqvAll]
  · have := strOk_c.2.2.2.2.2.2.2.2.2.2.1
    unfold SeqAt.shaped
    simp [PyData.canLay0, PyData.canLayAll0, PyData.depth, PyData.depthAll, this]
  · have := strOk_c.2.2.2.2.2.2.2.2.2.2.1
    unfold SeqAt.shaped
    simp [PyData.canLay0, PyData.canLayAll0, PyData.depth, PyData.depthAll, this]
theorem frame_law (k f t : Int) {ns : List Int} (h : ns.length ≤ 10000) (S : Store) : m__law_frame [.int k, .int f, .int t, inD1 ns] S = some (.ok (inD1 (frL ⟨k, f, t, ns⟩)), S) := by
  have gl := fLen_in ns
  have fa : ∀ S, fAdd (.fl [.int (ns.length : Nat), .int k, .int f, .int t]) (inD1 ns) S = some (.ok (inD1 (frL ⟨k, f, t, ns⟩)), S) := fun S => fAdd_in (a := [(ns.length : Int), k, f, t]) (by show 4 + ns.length ≤ _; omega) S
  (unfold m__law_frame b__law_frame; refine Eq.trans (fnM_l (l := [_, _, _, _]) rfl rfl _) ?_)
  simp only [mir, gl, fa]
theorem list_law (a b : List Int) (S : Store) : m__law_list [inD1 a, inD1 b] S = some (.ok (.bl (decide (a = b))), S) := list_eq a b S
theorem is_head0 (S : Store) : m_is_head [.fl []] S = some (.ok (.bl true), S) := by
  have lp : ∀ body, sFor (iL (eVar 0)) (.one 1) body [some (.fl []), none, none] S = some (.nx [some (.fl []), none, none], S) := fun body => by
    rw [sFor_fl (ds := []) (S1 := S) rfl]; rfl
  have gl : fLen (.fl []) S = some (.ok (.int 0), S) := rfl
  have c0 : ((0 : Int) < 6) = True := eq_true (by decide)
  have c1 : ((6 : Int) < 0) = False := eq_false (by decide)
  unfold m_is_head b_is_head
  refine Eq.trans (fnM_l (ds := [.fl []]) (np := 1) (l := [some (.fl []), none, none]) rfl rfl _) ?_
  rw [seq_nx (S' := S) (l' := [some (.fl []), none, none]) (by simp only [mir, gl, c1]; try rfl), seq_nx (lp _)]
  simp only [mir]
theorem head0 (S : Store) (n : Nat) : Hd S n (.fl []) [] := fun c => .inl rfl
theorem best_one {E : EA} {t : Int} {T : Tk} (h : E.talks = [(t, T)]) : bestOf E E.keys none = if T.can E.line = true then some (t, T) else none := by
  have hk : E.keys = [t] := by unfold EA.keys; rw [h]; rfl
  have hg : aget E.talks t = some T := by rw [h]; unfold aget; rw [if_pos rfl]
  rw [hk]
  unfold bestOf
  rw [hg]
  simp only
  split
  · unfold bestOf; rfl
  · unfold bestOf; rfl
end Law

/-! an end beside the row; frames heard; what happened -/
namespace Law
open PySem PySem.Spec L2 Sim
structure JE (b : Nat) (S : Store) (R : Row) (E : EA) (ad : List (Int × Nat)) : Prop where
  r : S[0]? = some (rowD R)
  rk : RowOk R
  e : EndAt S b E ad
  b0 : 0 < b
section
variable {b : Nat} {S : Store} {R : Row} {E : EA} {ad : List (Int × Nat)}
theorem JE.no0 (j : JE b S R E ad) : ¬ Own b ad 0 := by
  have := j.b0
  rintro (⟨h, _⟩ | ⟨k, h⟩)
  · omega
  · have := j.e.t.far k 0 h; omega
theorem JE.row (j : JE b S R E ad) {R' : Row} (h : RowOk R') : JE b (S.set 0 (rowD R')) R' E ad :=
  ⟨List.getElem?_set_self (get_lt j.r), h, j.e.sets _ j.no0, j.b0⟩
theorem JE.app (j : JE b S R E ad) (X : Store) : JE b (S ++ X) R E ad :=
  ⟨by rw [List.getElem?_append_left (get_lt j.r), j.r], j.rk, j.e.app X, j.b0⟩
theorem JE.act (j : JE b S R E ad) {S' : Store} {E' : EA} {ad' : List (Int × Nat)} (h : EndAt S' b E' ad') (k : Kp S S' b ad) : JE b S' R E' ad' :=
  ⟨by rw [k.keep 0 (get_lt j.r) (.inl j.b0) (fun k z => j.no0 (own1 z)), j.r], j.rk, h, j.b0⟩
theorem JE.dr (j : JE b S R E ad) (k : Int) (h0 : 0 < k) (h1 : k < 1606938044258990275541962092341162602522202993782792835301376) : ∃ x R', m__law_taken [.ref 0, .int k] S = some (.ok (.int x), S.set 0 (rowD R')) ∧ JE b (S.set 0 (rowD R')) R' E ad ∧ 0 ≤ x ∧ x < k := by
  obtain ⟨x, R', t, o, a, b⟩ := draw k j.r j.rk h0 h1
  exact ⟨x, R', t, j.row o, a, b⟩
theorem JE.isi (j : JE b S R E ad) (m : Str) (h : ([("side", .int E.side), ("line", .ref (b + 1)), ("talks", .ref (b + 2)), ("told", .ref (b + 3)), ("heard", .ref (b + 4)), ("cutter", .ref (b + 5)), ("out", .ref (b + 6)), ("broken", .str E.broken), ("turns", .int E.turns), ("mine", .int E.mine), ("theirs", .int E.theirs), ("left_at", optD E.left), ("away_at", optD E.away)] : List (Str × D)).lookup m = none) : isI 7 m S[b]? = true := by
  rw [j.e.c0]
  show decide (7 = 7 ∧ _ = none) = true
  exact decide_eq_true ⟨rfl, h⟩
theorem EvsAt.one {n : Nat} {ds : List D} {e : Ev} (h : EvsAt S b ad n ds [e]) : ∃ d, ds = [d] ∧ EvAt S b ad n d e := by
  cases ds with
  | nil => exact absurd h id
  | cons d ds =>
    cases ds with
    | nil => exact ⟨d, rfl, h.1⟩
    | cons e ds => exact absurd h.2 id
theorem EvsAt.none {n : Nat} {ds : List D} (h : EvsAt S b ad n ds []) : ds = [] := by
  cases ds with
  | nil => rfl
  | cons d ds => exact absurd h id
theorem JE.hear (j : JE b S R E ad) (hb : E.broken = "") (hh : E.held = []) {F : Fr} (hk : 0 ≤ F.k ∧ F.k < 256) (hf : 0 ≤ F.f ∧ F.f < 256) (ht : 0 ≤ F.t ∧ F.t < 256) (hn : ∀ x ∈ F.b, 0 ≤ x ∧ x < 256) (hl : F.b.length < 256) :
    ∃ ds S' ad', m_End_hear [.ref b, inD1 (frL F)] S = some (.ok (.fl ds), S') ∧ JE b S' R (E.took F).1 ad' ∧ EvsAt S' b ad' S.length ds (E.took F).2 := by
  obtain ⟨ds, S', ad', p1, p2, p3, p4, _⟩ := hear_eq j.e (P := frL F) (by
    intro z hz
    have hz : z ∈ [(F.b.length : Int), F.k, F.f, F.t] ++ F.b := hz
    rcases List.mem_append.mp hz with hz | hz
    · simp only [List.mem_cons, List.not_mem_nil, or_false] at hz
      rcases hz with rfl | rfl | rfl | rfl <;> omega
    · exact hn z hz) (by rw [frL_len]; omega)
  rw [hear_one hb hh] at p2 p3
  exact ⟨ds, S', ad', p1, j.act p2 p4, p3⟩
end
theorem fMul_one (x : D) (S : Store) : fMul (.fl [x]) (.int 1) S = some (.ok (.fl [x]), S) := rfl
theorem fMul_none (x : D) (S : Store) : fMul (.fl [x]) (.int 0) S = some (.ok (.fl []), S) := rfl
theorem flat_rep {x : D} : ∀ n : Nat, (List.replicate n [x]).flatten = List.replicate n x
  | 0 => rfl
  | n + 1 => by rw [List.replicate_succ, List.flatten_cons, flat_rep n, List.replicate_succ]; rfl
theorem fMul_rep (x n : Int) (h0 : 0 ≤ n) (h1 : n ≤ 1000) (S : Store) : fMul (.fl [.int x]) (.int n) S = some (.ok (inD1 (List.replicate n.toNat x)), S) := by
  show (if -1000000 ≤ n ∧ n ≤ 1000000 ∧ 1 * n.toNat ≤ 16777216 then some (Except.ok (D.fl (List.replicate n.toNat [D.int x]).flatten), S) else none) = _
  rw [if_pos (by omega), flat_rep]
  unfold inD1
  rw [List.map_replicate]
theorem eqD_ev {x : D} {p : PyData} (S : Store) (h : toP (.fl [x]) = some (.list [p])) (hd : depD (.fl [x]) ≤ 8) (hs : SeqAt.shaped (.list [p]) = true) (he : PyData.eqv p p = true) : eqD (.fl [x]) (.fl [x]) S = some true := by
  rw [eqD_of (a := .fl [x]) (b := .fl [x]) h h hd hd hs hs]
  show some (PyData.eqv p p && true) = _
  rw [he]; rfl
theorem eqD_nil (S : Store) : eqD (.fl []) (.fl []) S = some true := rfl
theorem shaped_nil : SeqAt.shaped (.list []) = true := by decide +kernel
theorem eqD_e0 {x : D} {p : PyData} (S : Store) (h : toP (.fl [x]) = some (.list [p])) (hd : depD (.fl [x]) ≤ 8) (hs : SeqAt.shaped (.list [p]) = true) : eqD (.fl [x]) (.fl []) S = some false := by
  rw [eqD_of (a := .fl [x]) (b := .fl []) (y := .list []) h rfl hd (by decide) hs shaped_nil]
  rfl
theorem evb_p (t : Int) (ns : List Int) : toP (.fl [.tup [.str "body", .int t, inD1 ns]]) = some (.list [.tuple [.str "body", .int t, .list (ns.map PyData.int)]]) := by
  have : toP (inD1 ns) = some (.list (ns.map PyData.int)) := by unfold inD1 toP; rw [toPs_ints]; rfl
  unfold toP toPs toP toPs toP toPs toP toPs
  rw [this]
  rfl
theorem evb_d (t : Int) (ns : List Int) : depD (.fl [.tup [.str "body", .int t, inD1 ns]]) ≤ 8 := by
  have : depDs (ns.map D.int) ≤ 1 := by rw [depDs_ints]; exact Nat.le_refl _
  simp only [depD, depDs, inD1]
  omega
theorem strOk_b : PyData.strOk "body" = true := by decide +kernel
theorem evb_s (t : Int) (ns : List Int) : SeqAt.shaped (.list [.tuple [.str "body", .int t, .list (ns.map PyData.int)]]) = true := by
  unfold SeqAt.shaped
  have h1 := lay_ints ns
  have h2 := dep_ints ns
  simp [PyData.canLay0, PyData.canLayAll0, PyData.depth, PyData.depthAll, strOk_b, h1]
  try omega
theorem evb_e (t : Int) (ns : List Int) : PyData.eqv (.tuple [.str "body", .int t, .list (ns.map PyData.int)]) (.tuple [.str "body", .int t, .list (ns.map PyData.int)]) = true := by
  simp [PyData.eqv, PyData.eqvAll, eqv_ints]
theorem fNe_body (t : Int) (ns : List Int) (S : Store) : fNe (.fl [.tup [.str "body", .int t, inD1 ns]]) (.fl [.tup [.str "body", .int t, inD1 ns]]) S = some (.ok (.bl false), S) := by
  unfold fNe
  rw [eqD_ev S (evb_p t ns) (evb_d t ns) (evb_s t ns) (evb_e t ns)]
  rfl
theorem fNe_nil (S : Store) : fNe (.fl []) (.fl []) S = some (.ok (.bl false), S) := rfl
theorem fEq_br {w : Str} (hw : PyData.strOk w = true) (S : Store) : fEq (.fl [.tup [.str "broken", .str w]]) (.fl [.tup [.str "broken", .str w]]) S = some (.ok (.bl true), S) := by
  have h1 := strOk_c.2.1
  unfold fEq
  rw [eqD_ev S (x := .tup [.str "broken", .str w]) (p := .tuple [.str "broken", .str w]) rfl (show 3 ≤ 8 by decide) (by
    unfold SeqAt.shaped
    simp [PyData.canLay0, PyData.canLayAll0, PyData.depth, PyData.depthAll, h1, hw]) (by simp [PyData.eqv, PyData.eqvAll])]
theorem took_broken {E : EA} {F : Fr} {w : Str} (h : E.whyNot F = w) (hw : w ≠ "") : E.took F = ({ E with broken := w }, [.broken w]) := by
  unfold EA.took
  rw [if_pos (by rw [h]; exact hw), h]
theorem many_credit {E : EA} {T : Tk} {t x y : Int} (ht : E.talkAt t = some T) (hn : t = 0 ∨ (aget E.talks t).isSome = true) (hx : T.xh = false) (h2 : T.xt = false) (m : 256 * x + y = 0 ∨ 10000 < T.may + (256 * x + y)) : E.whyNot ⟨3, 0, t, [x, y]⟩ = "many" := by
  have am : Fr.amount ⟨3, 0, t, [x, y]⟩ = 256 * x + y := rfl
  have w1 : whyForm ⟨3, 0, t, [x, y]⟩ = "" := rfl
  have w2 : E.whyNumber ⟨3, 0, t, [x, y]⟩ = "" := by
    unfold EA.whyNumber
    rw [if_neg (by show ¬ (3 : Int) = 6; decide)]
    rw [if_pos (by rcases hn with z | z; exact .inl ⟨z, rfl⟩; exact .inr (.inl z))]
  unfold EA.whyNot
  rw [if_neg (not_not_intro w1), if_neg (not_not_intro w2)]
  unfold EA.whyTalk
  rw [if_neg (by show ¬ (3 : Int) = 6; decide), ht]
  simp only [h2, hx, am]
  rw [if_neg (by decide), if_neg (by decide), if_neg (by decide), if_neg (by rintro ⟨z, _⟩; exact absurd z (by decide)), if_pos ⟨trivial, m⟩]
theorem took_new0 {E : EA} {f t : Int} (hn : E.isNew ⟨1, f, t, []⟩ = true) (hf : f = 0 ∨ f = 1) (hl : E.left = none) (ht : 0 < t) (hs : E.heard = E.heard) : E.took ⟨1, f, t, []⟩ = ({ E with talks := aput E.talks t { Tk.new t 20 with hh := true, he := decide (f = 1) }, theirs := t }, Ev.begun t [] :: if f = 1 then [.ended t] else []) := by
  have hnone : aget E.talks t = none := by
    unfold EA.isNew at hn
    split at hn
    · cases hn
    · rename_i c
      cases e : aget E.talks t with
      | none => rfl
      | some T => exact absurd (.inr (.inl (by rw [e]; rfl))) c
  have w1 : whyForm ⟨1, f, t, []⟩ = "" := by rcases hf with rfl | rfl <;> rfl
  have w2 : E.whyNumber ⟨1, f, t, []⟩ = "" := by
    unfold EA.whyNumber
    rw [if_neg (by show ¬ (1 : Int) = 6; decide), if_pos (.inr (.inr hn))]
  have w3 : E.whyTalk ⟨1, f, t, []⟩ = "" := by
    unfold EA.whyTalk EA.talkAt
    rw [if_neg (by show ¬ (1 : Int) = 6; decide), if_pos ht, hnone]
  have w : E.whyNot ⟨1, f, t, []⟩ = "" := by
    unfold EA.whyNot
    rw [if_neg (not_not_intro w1), if_neg (not_not_intro w2), w3]
  have hr : readH E.heard [] = (true, [], E.heard) := rfl
  have hh : headT E ⟨1, f, t, []⟩ = Tk.new t 20 := by
    unfold headT
    rw [hnone, hl]
    rfl
  unfold EA.took
  rw [if_neg (not_not_intro w), if_pos (by show (1 : Int) = 1; decide)]
  unfold EA.tookHead
  rw [hh]
  show (if ¬ ((readH E.heard []).1 = true ∧ (readH E.heard []).2.1.length ≤ 6) then _ else _) = _
  rw [hr, if_neg (by show ¬ ¬ (true = true ∧ 0 ≤ 6); decide), if_neg (by show ¬ (false = true); decide)]
  simp only [hnone, Option.isSome_none, Bool.false_eq_true, if_false]
theorem took_body_ok {E : EA} {T : Tk} {t f : Int} {ns : List Int} (ht : aget E.talks t = some T) (hf : f = 0 ∨ f = 1) (h0 : 0 < t) (hl : ns.length ≤ 250) (hx : T.xt = false) (hg : T.xh = false → T.hh = true ∧ T.he = false ∧ (ns.length : Int) ≤ T.gives) (hgl : (ns.length : Int) ≤ E.line.gives) :
    E.took ⟨2, f, t, ns⟩ = E.tookBody ⟨2, f, t, ns⟩ T := by
  have w1 : whyForm ⟨2, f, t, ns⟩ = "" := by
    unfold whyForm
    rw [if_neg (by show ¬ ¬ ((1 : Int) ≤ 2 ∧ (2 : Int) ≤ 6); decide), if_neg (by
      show ¬ (250 < (ns.length : Int) ∨ (ns.length : Int) ≠ ns.length)
      omega), if_neg (by
      rintro (z | ⟨_, z⟩)
      · have z : 1 < f := z
        omega
      · exact absurd (show hasSize 2 = true from z) (by decide))]
  have w2 : E.whyNumber ⟨2, f, t, ns⟩ = "" := by
    unfold EA.whyNumber
    rw [if_neg (by show ¬ (2 : Int) = 6; decide), if_pos (.inr (.inl (by rw [ht]; rfl)))]
  have w3 : E.whyTalk ⟨2, f, t, ns⟩ = "" := by
    unfold EA.whyTalk EA.talkAt
    rw [if_neg (by show ¬ (2 : Int) = 6; decide), if_pos h0, ht]
    simp only
    rw [if_neg (by rw [hx]; decide), if_pos trivial]
    unfold EA.whyBody
    rw [if_neg (by rintro ⟨a, z⟩; rw [(hg a).1] at z; cases z), if_neg (by rintro ⟨a, z⟩; rw [(hg a).2.1] at z; cases z), if_neg (by rintro ⟨a, z⟩; have := (hg a).2.2; omega), if_neg (by omega)]
  have w : E.whyNot ⟨2, f, t, ns⟩ = "" := by
    unfold EA.whyNot
    rw [if_neg (not_not_intro w1), if_neg (not_not_intro w2), w3]
  unfold EA.took
  rw [if_neg (not_not_intro w), if_neg (by show ¬ (2 : Int) = 1; decide), if_pos (by show (2 : Int) = 2; decide)]
  show (match aget E.talks t with | some T => E.tookBody ⟨2, f, t, ns⟩ T | none => (E, [])) = _
  rw [ht]
end Law

/-! heads that may be told -/
namespace Law
open PySem PySem.Spec L2 Sim
theorem notin_sg {i : Nat} (h : i < 94) (S : Store) : fNotIn (.str ⟨#[sgc i]⟩) (.str sg) S = some (.ok (.bl false), S) := by
  unfold fNotIn inD
  have : sgc i ∈ sg.cps.toList := by rw [sg_list]; exact List.mem_of_getElem? (sgc_get h)
  simp only [decide_eq_true this]
  rfl
def bIs : MS := (sSeq (sIf (tOr (tNot (tOf (eChain fLe fLe (eC (.int 1)) (eA (a1 fLen) (aCons (e2 fIx (eVar 1) (eC (.int 0))) (aNil))) (eC (.int 8))))) (tOf (e2 fGt (eA (a1 fLen) (aCons (e2 fIx (eVar 1) (eC (.int 1))) (aNil))) (eC (.int 20))))) (sRet (eC (.bl false))) (sNext))
  (sFor (iS (e2 fAdd (e2 fIx (eVar 1) (eC (.int 0))) (e2 fIx (eVar 1) (eC (.int 1))))) (.one 2) (sIf (tOf (e2 fNotIn (eVar 2) (eC (.str c_SIGNS)))) (sRet (eC (.bl false))) (sNext))))
def bIn : MS := (sIf (tOf (e2 fNotIn (eVar 2) (eC (.str c_SIGNS)))) (sRet (eC (.bl false))) (sNext))
theorem sign_loop {x y : Option D} {S : Store} : ∀ (l : List Nat) (o : Option D), Sig l → ∃ o', forL (.one 2) bIn (l.map fun i => D.str ⟨#[sgc i]⟩) [x, y, o] S = some (.nx [x, y, o'], S)
  | [], o, _ => ⟨o, rfl⟩
  | i :: r, o, h => by
    obtain ⟨o', e⟩ := sign_loop (x := x) (y := y) (S := S) r (some (.str ⟨#[sgc i]⟩)) (fun j hj => h j (List.mem_cons_of_mem _ hj))
    refine ⟨o', ?_⟩
    have g := notin_sg (h i List.mem_cons_self) S
    have sgn : c_SIGNS = sg := SIGNS_eq
    have step : bIn [x, y, some (.str ⟨#[sgc i]⟩)] S = some (.nx [x, y, some (.str ⟨#[sgc i]⟩)], S) := by
      unfold bIn
      rw [sgn]
      simp only [mir, g]
      try rfl
    rw [List.map_cons, forL]
    simp only [tgSet, List.set_cons_succ, List.set_cons_zero, step]
    exact e
theorem pair_step {x o1 o2 : Option D} {S : Store} {p : Pr} (hp : HOk p) : ∃ o2', bIs [x, some (pD p), o2] S = some (.nx [x, some (pD p), o2'], S) := by
  obtain ⟨⟨a1, a2⟩, a3, b1, b2⟩ := hp
  have g0 : ∀ S, fIx (pD p) (.int 0) S = some (.ok (.str (tx p.1)), S) := fun S => fIx_t0 _ _ S
  have g1 : ∀ S, fIx (pD p) (.int 1) S = some (.ok (.str (tx p.2)), S) := fun S => fIx_t1 _ _ _ S
  have l0 := fun S => fLen_tx (l := p.1) (by omega) S
  have l1 := fun S => fLen_tx (l := p.2) (by omega) S
  have ca : ∀ S, fAdd (.str (tx p.1)) (.str (tx p.2)) S = some (.ok (.str (tx (p.1 ++ p.2))), S) := fun S => by
    rw [fAdd_str (by rw [tx_len, tx_len]; omega), tx_app]
  have q1 : ∀ i j S, fLe (.int i) (.int j) S = some (.ok (.bl (decide (i ≤ j))), S) := fun _ _ _ => rfl
  have q2 : ∀ i j S, fGt (.int i) (.int j) S = some (.ok (.bl (decide (i > j))), S) := fun _ _ _ => rfl
  have d1 : ((1 : Int) ≤ (p.1.length : Nat)) = True := eq_true (by omega)
  have d2 : (((p.1.length : Nat) : Int) ≤ 8) = True := eq_true (by omega)
  have d3 : (((p.2.length : Nat) : Int) > 20) = False := eq_false (by omega)
  obtain ⟨o2', e⟩ := sign_loop (x := x) (y := some (pD p)) (S := S) (p.1 ++ p.2) o2 (fun j hj => (List.mem_append.mp hj).elim (a1 j) (b1 j))
  refine ⟨o2', ?_⟩
  have lp : sFor (iS (e2 fAdd (e2 fIx (eVar 1) (eC (.int 0))) (e2 fIx (eVar 1) (eC (.int 1))))) (.one 2) bIn [x, some (pD p), o2] S = some (.nx [x, some (pD p), o2'], S) := by
    rw [sFor_str (z := tx (p.1 ++ p.2)) (S1 := S) (by simp only [mir, g0, g1, ca])]
    rw [signs_tx]
    exact e
  unfold bIn at lp
  unfold bIs
  generalize ((p.1.length : Nat) : Int) = z1 at *
  generalize ((p.2.length : Nat) : Int) = z2 at *
  rw [seq_nx (S' := S) (l' := [x, some (pD p), o2]) (by simp only [mir, g0, g1, l0, l1, d1, d2, d3]; try rfl)]
  exact lp
theorem is_head_ok {hd : List Pr} (h : HsOk hd) (h6 : hd.length ≤ 6) (S : Store) : m_is_head [psD hd] S = some (.ok (.bl true), S) := by
  have loop : ∀ (hd : List Pr) (o1 o2 : Option D), HsOk hd → ∀ x, ∃ o1' o2', forL (.one 1) bIs (hd.map pD) [x, o1, o2] S = some (.nx [x, o1', o2'], S) := fun hd => by
    induction hd with
    | nil => intro o1 o2 _ x; exact ⟨o1, o2, rfl⟩
    | cons p r ih =>
      intro o1 o2 h x
      obtain ⟨o2', e⟩ := pair_step (x := x) (o1 := o1) (o2 := o2) (S := S) (h p List.mem_cons_self)
      obtain ⟨a, b, c⟩ := ih (some (pD p)) o2' (fun q hq => h q (List.mem_cons_of_mem _ hq)) x
      refine ⟨a, b, ?_⟩
      rw [List.map_cons, forL]
      simp only [tgSet, List.set_cons_succ, List.set_cons_zero, e]
      exact c
  obtain ⟨o1, o2, lp⟩ := loop hd none none h (some (psD hd))
  have gl := fun S => fLen_fl (hd.map pD) S
  rw [List.length_map] at gl
  have c1 : (((hd.length : Nat) : Int) > 6) = False := eq_false (by omega)
  have q2 : ∀ i j S, fGt (.int i) (.int j) S = some (.ok (.bl (decide (i > j))), S) := fun _ _ _ => rfl
  have lp2 : sFor (iL (eVar 0)) (.one 1) bIs [some (psD hd), none, none] S = some (.nx [some (psD hd), o1, o2], S) := by
    rw [sFor_fl (ds := hd.map pD) (S1 := S) rfl]
    exact lp
  unfold bIs at lp2
  unfold psD at *
  generalize ((hd.length : Nat) : Int) = z at *
  unfold m_is_head b_is_head
  refine Eq.trans (fnM_l (ds := [.fl (hd.map pD)]) (np := 1) (l := [some (.fl (hd.map pD)), none, none]) rfl rfl _) ?_
  rw [seq_nx (S' := S) (l' := [some (.fl (hd.map pD)), none, none]) (by simp only [mir, gl, c1]; try rfl), seq_nx lp2]
  simp only [mir]
end Law

/-! an end beside the row and cells of the law's own -/
namespace Law
open PySem PySem.Spec L2 Sim
structure JF (b : Nat) (S : Store) (R : Row) (E : EA) (ad : List (Int × Nat)) (F : List (Nat × Cell)) : Prop where
  j : JE b S R E ad
  f : ∀ p ∈ F, p.1 ≠ 0 ∧ S[p.1]? = some p.2 ∧ ¬ Own b ad p.1
section
variable {b : Nat} {S S' : Store} {R : Row} {E E' : EA} {ad ad' : List (Int × Nat)} {F : List (Nat × Cell)}
theorem own_new (n : ∀ k a, aget ad' k = some a → aget ad k = some a ∨ S.length ≤ a) {x : Nat} (h : ¬ Own b ad x) (hx : x < S.length) : ¬ Own b ad' x := by
  rintro (o | ⟨k, o⟩)
  · exact h (.inl o)
  · rcases n k x o with z | z
    · exact h (own1 z)
    · omega
theorem no_range {x : Nat} (h : ¬ Own b ad x) : x < b ∨ b + 6 < x := by
  by_cases c : b ≤ x ∧ x ≤ b + 6
  · exact absurd (.inl c) h
  · omega
theorem JF.act (h : JF b S R E ad F) (e : EndAt S' b E' ad') (k : Kp S S' b ad) (n : ∀ k a, aget ad' k = some a → aget ad k = some a ∨ S.length ≤ a) : JF b S' R E' ad' F :=
  ⟨h.j.act e k, fun p hp => by
    obtain ⟨h0, h1, h2⟩ := h.f p hp
    have hl := get_lt h1
    refine ⟨h0, ?_, own_new n h2 hl⟩
    rw [k.keep p.1 hl (no_range h2) (fun q z => h2 (own1 z)), h1]⟩
theorem JF.row (h : JF b S R E ad F) {R' : Row} (o : RowOk R') : JF b (S.set 0 (rowD R')) R' E ad F :=
  ⟨h.j.row o, fun p hp => by
    obtain ⟨h0, h1, h2⟩ := h.f p hp
    exact ⟨h0, by rw [List.getElem?_set_ne (Ne.symm h0), h1], h2⟩⟩
theorem JF.dr (h : JF b S R E ad F) (k : Int) (h0 : 0 < k) (h1 : k < 1606938044258990275541962092341162602522202993782792835301376) : ∃ x R', m__law_taken [.ref 0, .int k] S = some (.ok (.int x), S.set 0 (rowD R')) ∧ JF b (S.set 0 (rowD R')) R' E ad F ∧ 0 ≤ x ∧ x < k := by
  obtain ⟨x, R', t, o, a, b⟩ := draw k h.j.r h.j.rk h0 h1
  exact ⟨x, R', t, h.row o, a, b⟩
theorem JF.app (h : JF b S R E ad F) (X : Store) : JF b (S ++ X) R E ad F :=
  ⟨h.j.app X, fun p hp => by
    obtain ⟨h0, h1, h2⟩ := h.f p hp
    exact ⟨h0, by rw [List.getElem?_append_left (get_lt h1), h1], h2⟩⟩
theorem JF.new (h : JF b S R E ad F) (c : Cell) : JF b (S ++ [c]) R E ad ((S.length, c) :: F) :=
  ⟨h.j.app [c], fun p hp => by
    rcases List.mem_cons.mp hp with rfl | hp
    · refine ⟨?_, get_new S c, fun o => ?_⟩
      · have := get_lt h.j.r
        show S.length ≠ 0
        omega
      · exact absurd (h.j.e.own_lt o) (Nat.lt_irrefl _)
    · exact (h.app [c]).f p hp⟩
theorem JF.put {n : Nat} {c c' : Cell} (h : JF b S R E ad ((n, c) :: F)) (hn : ∀ p ∈ F, p.1 ≠ n) : JF b (S.set n c') R E ad ((n, c') :: F) := by
  obtain ⟨h0, h1, h2⟩ := h.f (n, c) List.mem_cons_self
  have h0 : n ≠ 0 := h0
  have h1 : S[n]? = some c := h1
  refine ⟨⟨by rw [List.getElem?_set_ne h0, h.j.r], h.j.rk, h.j.e.sets _ h2, h.j.b0⟩, fun p hp => ?_⟩
  rcases List.mem_cons.mp hp with rfl | hp
  · exact ⟨h0, List.getElem?_set_self (get_lt h1), h2⟩
  · obtain ⟨g0, g1, g2⟩ := h.f p (List.mem_cons_of_mem _ hp)
    exact ⟨g0, by rw [List.getElem?_set_ne (Ne.symm (hn p hp)), g1], g2⟩
theorem JF.go {m : Out D} {d : D} {r : Except Str EA} (h : JF b S R E ad F) (g : Does m S b ad d r) (e : r = .ok E') : ∃ S' ad', m = some (.ok d, S') ∧ JF b S' R E' ad' F := by
  subst e
  obtain ⟨S', ad', p1, p2, p3, p4⟩ := g
  exact ⟨S', ad', p1, h.act p2 p3 p4⟩
theorem Does.no {m : Out D} {d : D} {r : Except Str EA} {w : Str} (g : Does m S b ad d r) (e : r = .error w) : m = some (.error (nd w), S) := by
  subst e
  exact g
theorem JF.next (h : JF b S R E ad F) (ho : E.out.length < 16777216) : ∃ S', m_End_next_frame [.ref b] S = some (.ok (inD1 E.nextFrame.1), S') ∧ JF b S' R E.nextFrame.2 ad F := by
  obtain ⟨S', p1, p2, p3⟩ := next_eq h.j.e ho
  exact ⟨S', p1, h.act p2 p3 (fun _ _ z => .inl z)⟩
theorem JF.hears (h : JF b S R E ad F) {P : List Int} (hP : ∀ x ∈ P, 0 ≤ x ∧ x < 256) (hN : P.length ≤ 49000) :
    ∃ ds S' ad', m_End_hear [.ref b, inD1 P] S = some (.ok (.fl ds), S') ∧ JF b S' R (E.hear P).1 ad' F ∧ EvsAt S' b ad' S.length ds (E.hear P).2 := by
  obtain ⟨ds, S', ad', p1, p2, p3, p4, p5⟩ := hear_eq h.j.e hP hN
  exact ⟨ds, S', ad', p1, h.act p2 p4 p5, p3⟩
structure FrIn (F : Fr) : Prop where
  k : 0 ≤ F.k ∧ F.k < 256
  f : 0 ≤ F.f ∧ F.f < 256
  t : 0 ≤ F.t ∧ F.t < 256
  b : ∀ x ∈ F.b, 0 ≤ x ∧ x < 256
  l : F.b.length < 256
theorem FrIn.all {F : Fr} (h : FrIn F) : ∀ x ∈ frL F, 0 ≤ x ∧ x < 256 := by
  intro z hz
  have hl := h.l
  have hz : z ∈ [(F.b.length : Int), F.k, F.f, F.t] ++ F.b := hz
  rcases List.mem_append.mp hz with hz | hz
  · simp only [List.mem_cons, List.not_mem_nil, or_false] at hz
    rcases hz with rfl | rfl | rfl | rfl
    · omega
    · exact h.k
    · exact h.f
    · exact h.t
  · exact h.b z hz
theorem JF.hear (h : JF b S R E ad F) (hb : E.broken = "") (hh : E.held = []) {G : Fr} (hG : FrIn G) :
    ∃ ds S' ad', m_End_hear [.ref b, inD1 (frL G)] S = some (.ok (.fl ds), S') ∧ JF b S' R (E.took G).1 ad' F ∧ EvsAt S' b ad' S.length ds (E.took G).2 := by
  obtain ⟨ds, S', ad', p1, p2, p3⟩ := h.hears hG.all (by rw [frL_len]; have := hG.l; omega)
  rw [hear_one hb hh] at p2 p3
  exact ⟨ds, S', ad', p1, p2, p3⟩
theorem JF.isi (h : JF b S R E ad F) (m : Str) (e : ([("side", .int E.side), ("line", .ref (b + 1)), ("talks", .ref (b + 2)), ("told", .ref (b + 3)), ("heard", .ref (b + 4)), ("cutter", .ref (b + 5)), ("out", .ref (b + 6)), ("broken", .str E.broken), ("turns", .int E.turns), ("mine", .int E.mine), ("theirs", .int E.theirs), ("left_at", optD E.left), ("away_at", optD E.away)] : List (Str × D)).lookup m = none) : isI 7 m S[b]? = true := h.j.isi m e
theorem JF.at (h : JF b S R E ad F) {n : Nat} {c : Cell} (hm : (n, c) ∈ F) : S[n]? = some c := (h.f (n, c) hm).2.1
end
/-! an end is broken: each deed is refused -/
section
variable {b : Nat} {S : Store} {E : EA} {ad : List (Int × Nat)}
theorem known_br {k : Int} (h : E.broken ≠ "") : E.known k = .error "broken" := by unfold EA.known; rw [if_pos h]
theorem unshut_br {k : Int} (h : E.broken ≠ "") : E.unshut k = .error "broken" := by unfold EA.unshut; rw [known_br h]
theorem begin_br (e : EndAt S b E ad) (h : E.broken ≠ "") (x : D) (last : Bool) : m_End_begin [.ref b, x, .bl last] S = some (.error (nd "broken"), S) := by
  have c0 := e.c0
  have f0 := fun S => fNe_s e.ok.bs strOk_c.1 S
  have h' := eq_false h
  (unfold m_End_begin b_End_begin; refine Eq.trans (fnM_l (l := [_, _, _, none]) rfl rfl _) ?_)
  simp only [mer, c0, f0, h', nd, decide_false]
  try rfl
theorem answer_br (e : EndAt S b E ad) (h : E.broken ≠ "") (k : Int) (x : D) (last : Bool) : m_End_answer [.ref b, .int k, x, .bl last] S = some (.error (nd "broken"), S) := by
  have u := unshut_eq e k
  rw [unshut_br h] at u
  have u : m_End_unshut [.ref b, .int k] S = some (.error (nd "broken"), S) := u
  have c0 := e.c0
  (unfold m_End_answer b_End_answer; refine Eq.trans (fnM_l (l := [_, _, _, _, none]) rfl rfl _) ?_)
  simp only [mer, c0, u, nd]
  try rfl
theorem say_br (e : EndAt S b E ad) (h : E.broken ≠ "") (k : Int) (x : D) (last : Bool) : m_End_say [.ref b, .int k, x, .bl last] S = some (.error (nd "broken"), S) := by
  have u := unshut_eq e k
  rw [unshut_br h] at u
  have u : m_End_unshut [.ref b, .int k] S = some (.error (nd "broken"), S) := u
  have c0 := e.c0
  (unfold m_End_say b_End_say; refine Eq.trans (fnM_l (l := [_, _, _, _, none]) rfl rfl _) ?_)
  simp only [mer, c0, u, nd]
  try rfl
theorem reset_br (e : EndAt S b E ad) (h : E.broken ≠ "") (k m : Int) : m_End_reset [.ref b, .int k, .int m] S = some (.error (nd "broken"), S) := by
  have u := unshut_eq e k
  rw [unshut_br h] at u
  have u : m_End_unshut [.ref b, .int k] S = some (.error (nd "broken"), S) := u
  have c0 := e.c0
  (unfold m_End_reset b_End_reset; refine Eq.trans (fnM_l (l := [_, _, _, none]) rfl rfl _) ?_)
  simp only [mer, c0, u, nd]
  try rfl
theorem rank_br (e : EndAt S b E ad) (h : E.broken ≠ "") (k m : Int) : m_End_ask_rank [.ref b, .int k, .int m] S = some (.error (nd "broken"), S) := by
  have u := unshut_eq e k
  rw [unshut_br h] at u
  have u : m_End_unshut [.ref b, .int k] S = some (.error (nd "broken"), S) := u
  have c0 := e.c0
  (unfold m_End_ask_rank b_End_ask_rank; refine Eq.trans (fnM_l (l := [_, _, _, none]) rfl rfl _) ?_)
  simp only [mer, c0, u, nd]
  try rfl
theorem grant_br (e : EndAt S b E ad) (h : E.broken ≠ "") (k m : Int) : m_End_grant [.ref b, .int k, .int m] S = some (.error (nd "broken"), S) := by
  have c0 := e.c0
  have f0 := fun S => fNe_s e.ok.bs strOk_c.1 S
  have h' := eq_false h
  (unfold m_End_grant b_End_grant; refine Eq.trans (fnM_l (l := [_, _, _, none]) rfl rfl _) ?_)
  simp only [mer, c0, f0, h', nd, decide_false]
  try rfl
theorem leave_br (e : EndAt S b E ad) (h : E.broken ≠ "") : m_End_leave [.ref b] S = some (.error (nd "broken"), S) := by
  have c0 := e.c0
  have f0 := fun S => fNe_s e.ok.bs strOk_c.1 S
  have h' := eq_false h
  (unfold m_End_leave b_End_leave; refine Eq.trans (fnM_l (l := [_]) rfl rfl _) ?_)
  simp only [mer, c0, f0, h', nd, decide_false]
  try rfl
theorem next_br (h : E.broken ≠ "") : E.nextFrame = ([], E) := by unfold EA.nextFrame; rw [if_pos h]
theorem hear_br (h : E.broken ≠ "") (P : List Int) : E.hear P = (E, []) := by unfold EA.hear; rw [if_pos h]
end
end Law

/-! an end alone: what its deeds and frames leave as it was -/
namespace Law
open PySem PySem.Spec L2 Sim
def begX (E : EA) (hd : List Pr) (last : Bool) : EA := ({ E with mine := E.next, talks := aput E.talks E.next (Tk.new E.next 20) } : EA).headed E.next (Tk.new E.next 20) hd last
theorem begX_eq {E : EA} (hb : E.broken = "") (ha : E.away = none) (hn : E.next ≤ 250) (hd : List Pr) (last : Bool) : E.begin hd true last = .ok (begX E hd last) := by
  unfold EA.begin
  rw [if_neg (not_not_intro hb), if_neg (not_not_intro ha), if_neg (by omega), if_neg (by decide)]
  rfl
def begTk (k : Int) (last : Bool) : Tk := { Tk.new k 20 with sh := true, se := last }
theorem begX_talks (E : EA) (hd : List Pr) (last : Bool) (h : aget E.talks E.next = none) : (begX E hd last).talks = E.talks ++ [(E.next, begTk E.next last)] := by
  show aput (aput E.talks E.next (Tk.new E.next 20)) E.next (begTk E.next last) = _
  rw [aput_aput, aput_none h]
theorem begX_get (E : EA) (hd : List Pr) (last : Bool) (t : Int) : aget (begX E hd last).talks t = if E.next = t then some (begTk E.next last) else aget E.talks t := by
  show aget (aput (aput E.talks E.next (Tk.new E.next 20)) E.next (begTk E.next last)) t = _
  rw [aput_aput, aget_put]
theorem begX_next (E : EA) (hd : List Pr) (last : Bool) (h : 1 ≤ E.next) : (begX E hd last).next = E.next + 2 := by
  show (if E.next = 0 then _ else E.next + 2) = _
  rw [if_neg (by omega)]
theorem begX_out (E : EA) (hd : List Pr) (last : Bool) : (begX E hd last).out.length = E.out.length + 1 := by
  show (E.out ++ [_]).length = _
  rw [List.length_append]; rfl
theorem unshut_is {E : EA} {k : Int} {T : Tk} (hT : aget E.talks k = some T) (hb : E.broken = "") (hs : T.shut = false) : E.unshut k = .ok T := by
  unfold EA.unshut EA.known
  rw [if_neg (not_not_intro hb), hT]
  show (if T.shut = true then _ else _) = _
  rw [if_neg (by rw [hs]; decide)]
def sayT (T : Tk) (ns : List Int) (last : Bool) : Tk := { T with waits := T.waits ++ ns, eb := last }
theorem say_is {E : EA} {k : Int} {T : Tk} (hT : aget E.talks k = some T) (hb : E.broken = "") (hs : T.shut = false) (h1 : T.sh = true) (h2 : T.se = false) (h3 : T.eb = false) (ns : List Int) (last : Bool) : E.say k ns last = .ok (E.setT k (sayT T ns last)) := by
  unfold EA.say
  rw [unshut_is hT hb hs]
  show (if T.sh = false then _ else if T.se = true ∨ T.eb = true then _ else _) = _
  rw [if_neg (by rw [h1]; decide), if_neg (by rw [h2, h3]; decide)]
  rfl
theorem none_of {α : Type} {l : List (Int × α)} {L : List Int} {k : Int} (e : l.map (·.1) = L) (h : k ∉ L) : aget l k = none := by
  have q := aget_keys l k
  rw [e, decide_eq_false h] at q
  cases z : aget l k with
  | none => rfl
  | some T => rw [z] at q; cases q
theorem some_of {α : Type} {l : List (Int × α)} {L : List Int} {k : Int} (e : l.map (·.1) = L) (h : k ∈ L) : ∃ T, aget l k = some T := by
  have q := aget_keys l k
  rw [e, decide_eq_true h] at q
  cases z : aget l k with
  | none => rw [z] at q; cases q
  | some T => exact ⟨T, rfl⟩
theorem mem_of {α : Type} {l : List (Int × α)} {L : List Int} {k : Int} {T : α} (e : l.map (·.1) = L) (h : aget l k = some T) : k ∈ L := by
  rw [← e]
  exact List.mem_map.mpr ⟨_, aget_mem h, rfl⟩
theorem insI_ltX {x : Int} : ∀ {l : List Int}, (∀ y ∈ l, x < y) → insI x l = x :: l
  | [], _ => rfl
  | y :: r, h => by
    have := h y List.mem_cons_self
    unfold insI
    rw [if_pos (by omega)]
theorem srtI_idX : ∀ {l : List Int}, l.Pairwise (· < ·) → srtI l = l
  | [], _ => rfl
  | x :: r, h => by
    rw [List.pairwise_cons] at h
    unfold srtI
    rw [srtI_idX h.2, insI_ltX h.1]
structure Calm (E E' : EA) : Prop where
  br : E'.broken = E.broken
  held : E'.held = E.held
  left : E'.left = E.left
  away : E'.away = E.away
  side : E'.side = E.side
  mine : E'.mine = E.mine
  theirs : E'.theirs = E.theirs
  lx : E'.line.xh = E.line.xh
  lt : E'.line.xt = E.line.xt
  told : E'.told = E.told
  heard : E'.heard = E.heard
  ky : E'.talks.map (·.1) = E.talks.map (·.1)
theorem next_calm (E : EA) : Calm E E.nextFrame.2 ∧ E.nextFrame.2.out.length ≤ E.out.length := by
  unfold EA.nextFrame
  split
  · exact ⟨⟨rfl, rfl, rfl, rfl, rfl, rfl, rfl, rfl, rfl, rfl, rfl, rfl⟩, Nat.le_refl _⟩
  · split
    · rename_i F r hr
      refine ⟨⟨rfl, rfl, rfl, rfl, rfl, rfl, rfl, rfl, rfl, rfl, rfl, rfl⟩, ?_⟩
      show r.length ≤ _
      rw [hr, List.length_cons]
      omega
    · rename_i hr
      split
      · exact ⟨⟨rfl, rfl, rfl, rfl, rfl, rfl, rfl, rfl, rfl, rfl, rfl, rfl⟩, by rw [hr]; exact Nat.le_refl _⟩
      · rename_i k T hk
        have e := best_in E.keys none (fun k T z => nomatch z) k T hk
        exact ⟨⟨rfl, rfl, rfl, rfl, rfl, rfl, rfl, rfl, rfl, rfl, rfl, aput_some e⟩, by show E.out.length ≤ _; rw [hr]; exact Nat.le_refl _⟩
end Law

/-! law k21: the end ahead of the frame by which it breaks -/
namespace Law
open PySem PySem.Spec L2 Sim
structure Q1 (E : EA) (side : Int) (i : Nat) (L : List Int) : Prop where
  br : E.broken = ""
  held : E.held = []
  left : E.left = none
  aw : E.away = none
  lx : E.line.xh = false
  lt : E.line.xt = false
  sd : E.side = side
  ky : E.talks.map (·.1) = L
  nx : E.next = 1 + side + 2 * i
  ln : L.length = i
  inn : ∀ k ∈ L, 1 ≤ k ∧ k < 1 + side + 2 * i ∧ (k + side) % 2 = 1
  th : E.theirs = 0
  out : E.out.length = i
theorem q1_new (side : Int) : Q1 (EA.new side) side 0 [] := ⟨rfl, rfl, rfl, rfl, rfl, rfl, rfl, rfl, (by show (if (0 : Int) = 0 then 1 + side else _) = _; rw [if_pos rfl]; omega), rfl, (fun k hk => nomatch hk), rfl, rfl⟩
structure Q2 (E : EA) (side : Int) (L : List Int) : Prop where
  br : E.broken = ""
  held : E.held = []
  left : E.left = none
  lx : E.line.xh = false
  lt : E.line.xt = false
  sd : E.side = side
  ky : E.talks.map (·.1) = L
  inn : ∀ k ∈ L, 1 ≤ k ∧ k ≤ 200 ∧ ((k + side) % 2 = 1 ∨ k ≤ E.theirs)
  out : E.out.length ≤ 10
  ln : L.length ≤ 10
section
variable {E : EA} {side : Int} {i : Nat} {L : List Int}
theorem Q1.q2 (h : Q1 E side i L) (hi : i ≤ 3) (hs : 0 ≤ side ∧ side < 2) : Q2 E side L :=
  ⟨h.br, h.held, h.left, h.lx, h.lt, h.sd, h.ky, fun k hk => by have := h.inn k hk; omega, by rw [h.out]; omega, by rw [h.ln]; omega⟩
theorem Q1.none (h : Q1 E side i L) : aget E.talks E.next = none := none_of h.ky (fun z => by have := (h.inn _ z).2.1; rw [h.nx] at this; omega)
theorem Q1.step (h : Q1 E side i L) (hs : 0 ≤ side ∧ side < 2) (hd : List Pr) (ns : List Int) (last : Bool) :
    ∃ E2, (begX E hd false).say E.next ns last = .ok E2 ∧ Q1 E2 side (i + 1) (L ++ [E.next]) := by
  have hk := h.nx
  refine ⟨_, say_is (E := begX E hd false) (T := begTk E.next false) (by rw [begX_get, if_pos rfl]) h.br rfl rfl rfl rfl ns last, ?_⟩
  have hg : aget (begX E hd false).talks E.next = some (begTk E.next false) := by rw [begX_get, if_pos rfl]
  refine ⟨h.br, h.held, h.left, h.aw, h.lx, h.lt, h.sd, ?_, ?_, ?_, ?_, h.th, ?_⟩
  · show (aput (begX E hd false).talks E.next _).map (·.1) = _
    rw [aput_some hg, begX_talks _ _ _ h.none, List.map_append, h.ky]
    rfl
  · show (begX E hd false).next = _
    rw [begX_next _ _ _ (by omega), hk]
    omega
  · rw [List.length_append, h.ln]; rfl
  · intro k hk'
    rcases List.mem_append.mp hk' with z | z
    · have := h.inn k z; omega
    · rw [List.mem_singleton.mp z, hk]; omega
  · show (begX E hd false).out.length = _
    rw [begX_out, h.out]
theorem Q2.new (h : Q2 E side L) {t : Int} (ht : (t + side) % 2 = 0) (h1 : 1 ≤ t) (h2 : t ≤ 200) (h3 : E.theirs < t) (hl : L.length ≤ 9) : ∃ E' ev, E.took ⟨1, 0, t, []⟩ = (E', ev) ∧ Q2 E' side (L ++ [t]) ∧ E'.theirs = t := by
  have hn : aget E.talks t = Option.none := none_of h.ky (fun z => by have := (h.inn _ z).2.2; omega)
  have hnew : E.isNew ⟨1, 0, t, []⟩ = true := by
    unfold EA.isNew
    rw [if_neg (by
      rintro (z | z | z)
      · exact z rfl
      · rw [show (⟨1, 0, t, []⟩ : Fr).t = t from rfl, hn] at z; cases z
      · exact z ⟨h1, by show t ≤ 250; omega⟩)]
    have a : (t + E.side) % 2 = 0 := by rw [h.sd]; exact ht
    show (decide ((t + E.side) % 2 = 0) && decide (E.theirs < t)) = true
    rw [decide_eq_true a, decide_eq_true h3]
    rfl
  refine ⟨_, _, took_new0 hnew (.inl rfl) h.left (by omega) rfl, ⟨h.br, h.held, h.left, h.lx, h.lt, h.sd, ?_, ?_, h.out, ?_⟩, rfl⟩
  · show (aput E.talks t _).map (·.1) = _
    rw [aput_none hn, List.map_append, h.ky]
    rfl
  · intro k hk
    show 1 ≤ k ∧ k ≤ 200 ∧ ((k + side) % 2 = 1 ∨ k ≤ t)
    rcases List.mem_append.mp hk with z | z
    · have := h.inn k z; omega
    · rw [List.mem_singleton.mp z]; omega
  · rw [List.length_append]; show L.length + 1 ≤ _; omega
theorem Q2.next (h : Q2 E side L) : Q2 E.nextFrame.2 side L := by
  obtain ⟨c, o⟩ := next_calm E
  exact ⟨by rw [c.br, h.br], by rw [c.held, h.held], by rw [c.left, h.left], by rw [c.lx, h.lx], by rw [c.lt, h.lt], by rw [c.side, h.sd], by rw [c.ky, h.ky], fun k hk => by rw [c.theirs]; exact h.inn k hk, Nat.le_trans o h.out, h.ln⟩
def badF (way x : Int) : Fr := if way = 0 then ⟨7 + x, 0, 0, []⟩ else if way = 1 then ⟨2, 0, 0, [1]⟩ else if way = 2 then ⟨3, 0, 0, [0, 0]⟩ else ⟨5, 0, 0, [8]⟩
def badW (way : Int) : Str := if way = 0 then "kind" else if way = 1 then "number" else if way = 2 then "many" else "number"
theorem badW_ne (way : Int) : badW way ≠ "" := by
  unfold badW
  split
  · decide +kernel
  · split
    · decide +kernel
    · split <;> decide +kernel
theorem badW_ok (way : Int) : PyData.strOk (badW way) = true := by
  unfold badW
  split
  · decide +kernel
  · split
    · decide +kernel
    · split <;> decide +kernel
theorem number_why {F : Fr} (h1 : whyForm F = "") (h2 : F.k ≠ 6) (h3 : ¬ (F.t = 0 ∧ F.k = 3)) (h4 : aget E.talks F.t = Option.none) (h5 : F.k ≠ 1) : E.whyNot F = "number" := by
  have w2 : E.whyNumber F = "number" := by
    unfold EA.whyNumber
    rw [if_neg h2, if_neg]
    rintro (z | z | z)
    · exact h3 z
    · rw [h4] at z; cases z
    · unfold EA.isNew at z
      rw [if_pos (.inl h5)] at z
      cases z
  unfold EA.whyNot
  rw [if_neg (not_not_intro h1), w2, if_pos (by decide +kernel)]
theorem Q2.bad (h : Q2 E side L) (way x : Int) (hw : 0 ≤ way ∧ way < 4) (hx : 0 ≤ x) : E.took (badF way x) = ({ E with broken := badW way }, [.broken (badW way)]) := by
  have h0 : aget E.talks 0 = Option.none := none_of h.ky (fun z => by have := (h.inn _ z).1; omega)
  refine took_broken ?_ (badW_ne way)
  unfold badF badW
  by_cases c0 : way = 0
  · rw [if_pos c0, if_pos c0]
    have : whyForm ⟨7 + x, 0, 0, []⟩ = "kind" := by
      unfold whyForm
      rw [if_pos (by
        rintro ⟨_, z⟩
        have z : 7 + x ≤ 6 := z
        omega)]
    unfold EA.whyNot
    rw [this, if_pos (by decide +kernel)]
  · rw [if_neg c0, if_neg c0]
    by_cases c1 : way = 1
    · rw [if_pos c1, if_pos c1]
      exact number_why rfl (by decide) (by decide) h0 (by decide)
    · rw [if_neg c1, if_neg c1]
      by_cases c2 : way = 2
      · rw [if_pos c2, if_pos c2]
        exact many_credit (E := E) (T := E.line) (t := 0) (x := 0) (y := 0) (by unfold EA.talkAt; rw [if_neg (by decide)]) (.inl rfl) h.lx h.lt (.inl (by decide))
      · rw [if_neg c2, if_neg c2]
        exact number_why rfl (by decide) (by decide) h0 (by decide)
theorem badF_in {way x : Int} (hx : 0 ≤ x ∧ x < 249) : FrIn (badF way x) := by
  unfold badF
  split
  · exact ⟨⟨by show 0 ≤ 7 + x; omega, by show 7 + x < 256; omega⟩, ⟨Int.le_refl 0, by show (0 : Int) < 256; decide⟩, ⟨Int.le_refl 0, by show (0 : Int) < 256; decide⟩, (fun x hx => nomatch hx), (by show 0 < 256; decide)⟩
  · split
    · exact ⟨⟨by decide, by decide⟩, ⟨by decide, by decide⟩, ⟨by decide, by decide⟩, (fun x hx => by rw [List.mem_singleton.mp hx]; decide), (by decide)⟩
    · split
      · refine ⟨⟨by decide, by decide⟩, ⟨by decide, by decide⟩, ⟨by decide, by decide⟩, (fun x hx => ?_), (by decide)⟩
        have hx : x ∈ ([0, 0] : List Int) := hx
        simp only [List.mem_cons, List.not_mem_nil, or_false, or_self] at hx
        subst hx
        decide
      · exact ⟨⟨by decide, by decide⟩, ⟨by decide, by decide⟩, ⟨by decide, by decide⟩, (fun x hx => by rw [List.mem_singleton.mp hx]; decide), (by decide)⟩
end
/-! what is seen of the talks -/
def tkv (E : EA) (t : Int) : List Int := match aget E.talks t with
  | some T => [T.may, (T.waits.length : Int)]
  | none => []
def seenL (E : EA) (L : List Int) : List Int := E.line.may :: L.flatMap (tkv E)
theorem tkv_len (E : EA) : ∀ L : List Int, (L.flatMap (tkv E)).length ≤ 2 * L.length
  | [] => Nat.le_refl _
  | t :: r => by
    have := tkv_len E r
    rw [List.flatMap_cons, List.length_append, List.length_cons]
    have : (tkv E t).length ≤ 2 := by
      unfold tkv
      split
      · exact Nat.le_refl _
      · exact Nat.zero_le _
    omega
def bSe : MS := (sSet 2 (e2 fAdd (eVar 2) (eLst (aCons (eMeth 7 "left" m_End_left (eVar 0) (aCons (eVar 3) (aNil))) (aCons (eMeth 7 "waiting" m_End_waiting (eVar 0) (aCons (eVar 3) (aNil))) (aNil))))))
theorem seen_eq {S : Store} {b n : Nat} {E : EA} {ad : List (Int × Nat)} {L : List Int} (e : EndAt S b E ad) (hn : S[n]? = some (lsD (L.map D.int))) (hL : ∀ t ∈ L, ∃ T, aget E.talks t = some T) (h0 : ∀ t ∈ L, t ≠ 0) (hl : L.length ≤ 1000) :
    m__law_seen [.ref b, .ref n] S = some (.ok (inD1 (seenL E L)), S) := by
  have c0 := e.c0
  have l0 := left_eq e 0
  have l0 : m_End_left [.ref b, .int 0] S = some (.ok (.int E.line.may), S) := l0
  have i1 : isI 7 "left" S[b]? = true := by rw [c0]; rfl
  have i2 : isI 7 "waiting" S[b]? = true := by rw [c0]; rfl
  obtain ⟨l', S', lp, rfl, o, rfl⟩ := sFor_thru (items := iL (eVar 1)) (src := Sim.listOf (.ref n)) (tg := .one 3) (body := bSe) (ds := L.map D.int)
    (fun i l S1 => S1 = S ∧ ∃ o, l = [some (.ref b), some (.ref n), some (inD1 (E.line.may :: (L.take i).flatMap (tkv E))), o])
    (l := [some (.ref b), some (.ref n), some (inD1 [E.line.may]), none]) (S := S) (S1 := S)
    (by unfold iL; simp only [mir, hn]; rfl)
    ⟨rfl, none, rfl⟩
    (by
      rintro i l S1 ⟨rfl, o, rfl⟩
      unfold Sim.listOf
      simp only [hn]
      rfl) (by
      rintro i d l S1 ⟨rfl, o, rfl⟩ hd
      rw [List.getElem?_map] at hd
      cases e1 : L[i]? with
      | none => rw [e1] at hd; cases hd
      | some t =>
        rw [e1] at hd
        cases hd
        have hm := List.mem_of_getElem? e1
        obtain ⟨T, hT⟩ := hL t hm
        have hi := (List.getElem?_eq_some_iff.mp e1).1
        have l1 := left_eq e t
        have w1 := waiting_eq e t
        unfold EA.leftOf at l1
        rw [if_neg (h0 t hm), hT] at l1
        unfold EA.waiting at w1
        rw [hT] at w1
        have l1 : m_End_left [.ref b, .int t] S1 = some (.ok (.int T.may), S1) := l1
        have w1 : m_End_waiting [.ref b, .int t] S1 = some (.ok (.int (T.waits.length : Int)), S1) := w1
        refine ⟨_, rfl, [some (.ref b), some (.ref n), some (inD1 (E.line.may :: (L.take (i + 1)).flatMap (tkv E))), some (.int t)], S1, ?_, rfl, _, rfl⟩
        have hlen := tkv_len E (L.take i)
        have fa : fAdd (inD1 (E.line.may :: (L.take i).flatMap (tkv E))) (.fl [.int T.may, .int (T.waits.length : Int)]) S1 = some (.ok (inD1 (E.line.may :: (L.take (i + 1)).flatMap (tkv E))), S1) := by
          have q := fAdd_in (a := E.line.may :: (L.take i).flatMap (tkv E)) (b := [T.may, (T.waits.length : Int)]) (by
            rw [List.length_cons]
            rw [List.length_take] at hlen
            show _ + 2 ≤ _
            omega) S1
          have e2 : L.take (i + 1) = L.take i ++ [t] := by rw [List.take_succ, e1]; rfl
          rw [e2, List.flatMap_append]
          have e3 : [t].flatMap (tkv E) = [T.may, (T.waits.length : Int)] := by
            rw [List.flatMap_cons, List.flatMap_nil, List.append_nil]
            unfold tkv
            rw [hT]
          rw [e3]
          exact q
        show bSe [some (.ref b), some (.ref n), some (inD1 (E.line.may :: (L.take i).flatMap (tkv E))), some (.int t)] S1 = _
        generalize ((T.waits.length : Nat) : Int) = w at *
        unfold bSe
        simp only [mir, i1, i2, l1, w1, fa])
  rw [List.length_map, List.take_length] at lp
  unfold bSe at lp
  have fl1' : D.fl [.int E.line.may] = inD1 [E.line.may] := rfl
  (unfold m__law_seen b__law_seen; refine Eq.trans (fnM_l (l := [_, _, none, none]) rfl rfl _) ?_)
  rw [seq_nx (S' := S') (l' := [some (.ref b), some (.ref n), some (inD1 [E.line.may]), none]) (by simp only [mir, i1, l0, fl1'])]
  rw [seq_nx lp]
  simp only [mir]
  rfl
end Law

/-! law k21 -/
namespace Law
open PySem PySem.Spec L2 Sim
theorem cat_le : catch_LineError 1 = some true := rfl
theorem tab_bh : tab_BadHead 1 = some false := rfl
theorem tab_nd : tab_NoDeed 1 = some true := rfl
theorem isE2_r {tab : Nat → Option Bool} {x : Exn} {c : Bool} (h : tab x.c = some c) (l : Sl) (S : Store) : eIsE2 tab x l S = some (.ok (.bl c), S) := by unfold eIsE2; rw [h]
section
variable {b : Nat} {S : Store} {E : EA} {ad : List (Int × Nat)}
theorem deed_br (e : EndAt S b E ad) (h : E.broken ≠ "") {way num odd : Int} (hw : 0 ≤ way ∧ way < 7) (ho : 0 ≤ odd ∧ odd < 2) : m__law_deed [.ref b, .int way, .int num, .int odd] S = some (.error (nd "broken"), S) := by
  have c0 := e.c0
  have i0 : isI 7 "begin" S[b]? = true := by rw [c0]; rfl
  have i1 : isI 7 "answer" S[b]? = true := by rw [c0]; rfl
  have i2 : isI 7 "say" S[b]? = true := by rw [c0]; rfl
  have i3 : isI 7 "grant" S[b]? = true := by rw [c0]; rfl
  have i4 : isI 7 "reset" S[b]? = true := by rw [c0]; rfl
  have i5 : isI 7 "ask_rank" S[b]? = true := by rw [c0]; rfl
  have i6 : isI 7 "leave" S[b]? = true := by rw [c0]; rfl
  have ms : ∀ S, fMulS (.str "b") (.int (20 + odd)) S = some (.ok (.str (Txt.mul "b" (20 + odd))), S) := fun S => by
    unfold fMulS
    simp only
    rw [if_pos ⟨by decide, by omega, by omega⟩]
  have d0 := begin_br e h (.fl [.tup [.str "a", .str (Txt.mul "b" (20 + odd))]]) false
  have d1 := answer_br e h num (.fl []) false
  have d2 := say_br e h num (.fl [.int 1, .int 2])
  have d3 := grant_br e h num
  have d4 := reset_br e h num 7
  have d5 := rank_br e h num
  have d6 := leave_br e h
  have m9 : ∀ S, fMul (.int 9) (.int odd) S = some (.ok (.int (9 * odd)), S) := fun S => fMul_l (by decide) (by decide) S
  generalize Txt.mul "b" (20 + odd) = bb at *
  rcases (by omega : way = 0 ∨ way = 1 ∨ way = 2 ∨ way = 3 ∨ way = 4 ∨ way = 5 ∨ way = 6) with rfl | rfl | rfl | rfl | rfl | rfl | rfl
  all_goals
    ((unfold m__law_deed b__law_deed; refine Eq.trans (fnM_l (l := [_, _, _, _]) rfl rfl _) ?_))
    simp only [mir, i0, i1, i2, i3, i4, i5, i6, d0, d1, d2, d3, d4, d5, d6, ms, m9]
    try rfl
theorem why_br (e : EndAt S b E ad) (h : E.broken ≠ "") {way num odd : Int} (hw : 0 ≤ way ∧ way < 7) (ho : 0 ≤ odd ∧ odd < 2) : m__law_why [.ref b, .int way, .int num, .int odd] S = some (.ok (.str "broken"), S) := by
  have d := deed_br e h (num := num) hw ho
  have t1 : ∀ l S, eIsE2 tab_BadHead ⟨1, some [("why", .str "broken")]⟩ l S = some (.ok (.bl false), S) := fun l S => isE2_r tab_bh l S
  have t2 : ∀ l S, eIsE2 tab_NoDeed ⟨1, some [("why", .str "broken")]⟩ l S = some (.ok (.bl true), S) := fun l S => isE2_r tab_nd l S
  (unfold m__law_why b__law_why; refine Eq.trans (fnM_l (l := [_, _, _, _, none]) rfl rfl _) ?_)
  simp only [mir, d, nd, cat_le, t1, t2]
  try rfl
end
/-! the law -/
def hd21 : List Pr := [([77], [85])]
theorem hd21_n : tx [77] = "n" := by decide +kernel
theorem hd21_v : tx [85] = "v" := by decide +kernel
theorem hd21_d : psD hd21 = .fl [.tup [.str "n", .str "v"]] := by
  show D.fl [D.tup [.str (tx [77]), .str (tx [85])]] = _
  rw [hd21_n, hd21_v]
theorem hd21_ok : HsOk hd21 := by
  intro p hp
  rw [List.mem_singleton.mp hp]
  refine ⟨⟨fun i hi => ?_, by decide⟩, by decide, ⟨fun i hi => ?_, by decide⟩⟩
  · rw [List.mem_singleton.mp hi]; decide
  · rw [List.mem_singleton.mp hi]; decide
def sl21 (ns : List Int) (side : Int) (o5 o6 o7 o8 o9 o10 o11 o12 : Option D) : Sl := [some (.scr ns), some (.ref 0), some (.int side), some (.ref 1), some (.ref 8), o5, o6, o7, o8, o9, o10, o11, o12]
def f21 (L : List Int) : List (Nat × Cell) := [(8, lsD (L.map D.int))]
def bA21 : MS := (sSeq (sDrop (eBM isL (m1 fAppend) (eVar 4) (aCons (eMeth 7 "begin" m_End_begin (eVar 3) (aCons (eLst (aCons (eTup (aCons (eC (.str "n")) (aCons (eC (.str "v")) (aNil)))) (aNil))) (aCons (eC (.bl false)) (aNil)))) (aNil))))
  (sDrop (eMeth 7 "say" m_End_say (eVar 3) (aCons (e2 fIx (eVar 4) (eVar 5)) (aCons (e2 fMul (eLst (aCons (eVar 5) (aNil))) (eA m__law_taken (aCons (eVar 1) (aCons (eC (.int 31)) (aNil))))) (aCons (e2 fEq (eA m__law_taken (aCons (eVar 1) (aCons (eC (.int 3)) (aNil)))) (eC (.int 2))) (aNil)))))))
def bB21 : MS := (sSeq (sDrop (eMeth 7 "hear" m_End_hear (eVar 3) (aCons (eA m__law_frame (aCons (eC (.int 1)) (aCons (eC (.int 0)) (aCons (e2 fAdd (e2 fSub (eC (.int 2)) (eVar 2)) (e2 fMul (eC (.int 2)) (eVar 5))) (aCons (eLst (aNil)) (aNil)))))) (aNil))))
  (sDrop (eBM isL (m1 fAppend) (eVar 4) (aCons (e2 fAdd (e2 fSub (eC (.int 2)) (eVar 2)) (e2 fMul (eC (.int 2)) (eVar 5))) (aNil)))))
def bC21 : MS := (sDrop (eMeth 7 "next_frame" m_End_next_frame (eVar 3) aNil))
def bD21 : MS := (sFor (iR1 (eC (.int 2))) (.one 12) (sIf (tOr (tOf (e2 fNe (eA m__law_why (aCons (eVar 3) (aCons (eVar 8) (aCons (eVar 11) (aCons (eVar 12) (aNil)))))) (eC (.str "broken")))) (tOf (e2 fNe (eA m__law_why (aCons (eVar 3) (aCons (eVar 8) (aCons (eC (.int 0)) (aCons (eVar 12) (aNil)))))) (eC (.str "broken"))))) (sRet (eC (.bl false))) (sNext)))
section
variable {S : Store} {R : Row} {E : EA} {ad : List (Int × Nat)} {side : Int} {L : List Int} {ns : List Int}
theorem turnA21 {i : Nat} (h : JF 1 S R E ad (f21 L)) (q : Q1 E side i L) (hi : i < 3) (hs : 0 ≤ side ∧ side < 2) :
    ∃ S' R' E' ad', bA21 (sl21 ns side (some (.int i)) none none none none none none none) S = some (.nx (sl21 ns side (some (.int i)) none none none none none none none), S') ∧ JF 1 S' R' E' ad' (f21 (L ++ [E.next])) ∧ Q1 E' side (i + 1) (L ++ [E.next]) := by
  have nx := q.nx
  have bg := begin_eq h.j.e false (x := psD hd21) (hd := hd21) (c := true) (is_head_ok hd21_ok (by decide) S) (fun _ => ⟨fun S' _ _ => Hd.ps S' _ hd21, hd21_ok.pok, by decide⟩) (by rw [q.out]; omega) q.none (by omega)
  obtain ⟨S1, ad1, p1, h1⟩ := h.go bg (begX_eq q.br q.aw (by omega) hd21 false)
  rw [hd21_d] at p1
  have h2 := h1.put (c' := lsD ((L ++ [E.next]).map D.int)) (fun p hp => nomatch hp)
  have g8 := h.at (n := 8) List.mem_cons_self
  have g81 := h1.at (n := 8) List.mem_cons_self
  have ap : apC (.int E.next) (some (lsD (L.map D.int))) = some (lsD ((L ++ [E.next]).map D.int)) := by
    have := apC_fl (ds := L.map D.int) (d := .int E.next) (by rw [List.length_map, q.ln]; omega)
    rw [this, List.map_append]
    rfl
  generalize hS2 : S1.set 8 (lsD ((L ++ [E.next]).map D.int)) = S2 at *
  have g82 := h2.at (n := 8) List.mem_cons_self
  have ix : ixC (some (lsD ((L ++ [E.next]).map D.int))) (.int i) = some (.int E.next) := by
    show atI ((L ++ [E.next]).map D.int) (i : Int) = _
    refine atI_n ?_
    rw [List.getElem?_map, List.getElem?_append_right (by rw [q.ln]; exact Nat.le_refl _), q.ln, Nat.sub_self]
    rfl
  obtain ⟨m, R3, t3, h3, m0, m1⟩ := h2.dr 31 (by decide) (by decide)
  generalize S2.set 0 (rowD R3) = S3 at *
  obtain ⟨y, R4, t4, h4, y0, y1⟩ := h3.dr 3 (by decide) (by decide)
  generalize S3.set 0 (rowD R4) = S4 at *
  have fr := fun S => fMul_rep (i : Int) m m0 (by omega) S
  have hn : (List.replicate m.toNat (i : Int)).length ≤ 30 := by rw [List.length_replicate]; omega
  generalize List.replicate m.toNat (i : Int) = xs at *
  obtain ⟨E5, e5, q5⟩ := q.step hs hd21 xs (decide (y = 2))
  have sy := say_eq h4.j.e E.next (d := inD1 xs) (ns := xs) (decide (y = 2)) rfl (fun T z => by
    rw [begX_get, if_pos rfl] at z
    cases z
    show 0 + xs.length ≤ _
    omega)
  obtain ⟨S5, ad5, p5, h5⟩ := h4.go sy e5
  have i1 := h.isi "begin" rfl
  have i2 := h2.isi "say" rfl
  refine ⟨S5, R4, E5, ad5, ?_, h5, q5⟩
  unfold bA21 sl21
  rw [seq_nx (S' := S2) (l' := [some (.scr ns), some (.ref 0), some (.int side), some (.ref 1), some (.ref 8), some (.int i), none, none, none, none, none, none, none]) (by simp only [mir, g8, isLC_ls, i1, p1, g81, ap, hS2])]
  simp only [mir, i2, g82, ix, t3, fr, t4, p5]
theorem turnB21 {i : Nat} {o6 o7 o8 o9 o10 o11 o12 : Option D} (h : JF 1 S R E ad (f21 L)) (q : Q2 E side L) (hi : i < 2) (hs : 0 ≤ side ∧ side < 2) (hl : L.length ≤ 9) (ht : E.theirs < 2 - side + 2 * i) :
    ∃ S' E' ad', bB21 (sl21 ns side (some (.int i)) o6 o7 o8 o9 o10 o11 o12) S = some (.nx (sl21 ns side (some (.int i)) o6 o7 o8 o9 o10 o11 o12), S') ∧ JF 1 S' R E' ad' (f21 (L ++ [2 - side + 2 * i])) ∧ Q2 E' side (L ++ [2 - side + 2 * (i : Int)]) ∧ E'.theirs < 2 - side + 2 * ((i + 1 : Nat) : Int) := by
  obtain ⟨E1, ev, e1, q1, t1⟩ := q.new (t := 2 - side + 2 * i) (by omega) (by omega) (by omega) ht hl
  obtain ⟨ds, S1, ad1, p1, h1, v1⟩ := h.hear q.br q.held (G := ⟨1, 0, 2 - side + 2 * i, []⟩) ⟨⟨by show (0 : Int) ≤ 1; decide, by show (1 : Int) < 256; decide⟩, ⟨Int.le_refl 0, by show (0 : Int) < 256; decide⟩, ⟨by show 0 ≤ 2 - side + 2 * (i : Int); omega, by show 2 - side + 2 * (i : Int) < 256; omega⟩, (fun x hx => nomatch hx), by show 0 < 256; decide⟩
  rw [e1] at h1
  have h1 : JF 1 S1 R E1 ad1 (f21 L) := h1
  have h2 := h1.put (c' := lsD ((L ++ [2 - side + 2 * (i : Int)]).map D.int)) (fun p hp => nomatch hp)
  have g81 := h1.at (n := 8) List.mem_cons_self
  have ap : apC (.int (2 - side + 2 * (i : Int))) (some (lsD (L.map D.int))) = some (lsD ((L ++ [2 - side + 2 * (i : Int)]).map D.int)) := by
    have := apC_fl (ds := L.map D.int) (d := .int (2 - side + 2 * (i : Int))) (by rw [List.length_map]; omega)
    rw [this, List.map_append]
    rfl
  have lf : ∀ S, m__law_frame [.int 1, .int 0, .int (2 - side + 2 * (i : Int)), .fl []] S = some (.ok (inD1 (frL ⟨1, 0, 2 - side + 2 * (i : Int), []⟩)), S) := fun S => frame_law 1 0 (2 - side + 2 * (i : Int)) (ns := []) (by decide) S
  have i1 := h.isi "hear" rfl
  have f2 : ∀ S, fMul (.int 2) (.int i) S = some (.ok (.int (2 * i)), S) := fun S => fMul_l (by decide) (by decide) S
  refine ⟨_, E1, ad1, ?_, h2, q1, by rw [t1]; omega⟩
  unfold bB21 sl21
  rw [seq_nx (S' := S1) (l' := [some (.scr ns), some (.ref 0), some (.int side), some (.ref 1), some (.ref 8), some (.int i), o6, o7, o8, o9, o10, o11, o12]) (by simp only [mir, i1, f2, lf, p1])]
  simp only [mir, g81, isLC_ls, f2, ap]
theorem badD_ix (way x : Int) (hw : 0 ≤ way ∧ way < 4) (S : Store) : fIx (.fl [.fl [.int (7 + x), .int 0, .int 0, .fl []], .fl [.int 2, .int 0, .int 0, .fl [.int 1]], .fl [.int 3, .int 0, .int 0, .fl [.int 0, .int 0]], .fl [.int 5, .int 0, .int 0, .fl [.int 8]]]) (.int way) S
    = some (.ok (.fl [.int (badF way x).k, .int (badF way x).f, .int (badF way x).t, inD1 (badF way x).b]), S) := by
  rcases (by omega : way = 0 ∨ way = 1 ∨ way = 2 ∨ way = 3) with rfl | rfl | rfl | rfl <;> rfl
theorem badW_ix (way : Int) (hw : 0 ≤ way ∧ way < 4) (S : Store) : fIx (.fl [.str "kind", .str "number", .str "many", .str "number"]) (.int way) S = some (.ok (.str (badW way)), S) := by
  rcases (by omega : way = 0 ∨ way = 1 ∨ way = 2 ∨ way = 3) with rfl | rfl | rfl | rfl <;> rfl
theorem whys21 {o5 o6 o7 o9 o10 : Option D} {num w : Int} (e : EndAt S 1 E ad) (h : E.broken ≠ "") (o8 o12 : Option D) :
    ∃ o8' o12', sFor (iR1 (eC (.int 7))) (.one 8) bD21 (sl21 ns side o5 o6 o7 o8 o9 o10 (some (.int num)) o12) S = some (.nx (sl21 ns side o5 o6 o7 o8' o9 o10 (some (.int num)) o12'), S) := by
  have q1 := strOk_c.2.1
  have fb := fun S => fNe_s q1 q1 S
  simp only [decide_true, Bool.not_true] at fb
  obtain ⟨l', S', lp, rfl, a, b, rfl⟩ := sFor_thru (items := iR1 (eC (.int 7))) (tg := .one 8) (body := bD21) (ds := rangeD 0 7)
    (fun i l S1 => S1 = S ∧ ∃ a b, l = sl21 ns side o5 o6 o7 a o9 o10 (some (.int num)) b)
    (l := sl21 ns side o5 o6 o7 o8 o9 o10 (some (.int num)) o12) (S := S) (S1 := S)
    (iR1_ok (n := 7) (by simp only [mir]) (by decide) (by decide)) ⟨rfl, _, _, rfl⟩ (fun _ _ _ _ => rfl) (by
      rintro i d l S1 ⟨rfl, a, b, rfl⟩ hd
      obtain ⟨rfl, hi⟩ := rangeD_get hd
      refine ⟨_, rfl, ?_⟩
      obtain ⟨l', S', lp, rfl, b', rfl⟩ := sFor_thru (items := iR1 (eC (.int 2))) (tg := .one 12) (body := (sIf (tOr (tOf (e2 fNe (eA m__law_why (aCons (eVar 3) (aCons (eVar 8) (aCons (eVar 11) (aCons (eVar 12) (aNil)))))) (eC (.str "broken")))) (tOf (e2 fNe (eA m__law_why (aCons (eVar 3) (aCons (eVar 8) (aCons (eC (.int 0)) (aCons (eVar 12) (aNil)))))) (eC (.str "broken"))))) (sRet (eC (.bl false))) (sNext))) (ds := rangeD 0 2)
        (fun j l S2 => S2 = S1 ∧ ∃ b, l = sl21 ns side o5 o6 o7 (some (.int (0 + (i : Nat)))) o9 o10 (some (.int num)) b)
        (l := sl21 ns side o5 o6 o7 (some (.int (0 + (i : Nat)))) o9 o10 (some (.int num)) b) (S := S1) (S1 := S1)
        (iR1_ok (n := 2) (by simp only [mir]) (by decide) (by decide)) ⟨rfl, _, rfl⟩ (fun _ _ _ _ => rfl) (by
          rintro j d l S2 ⟨rfl, b, rfl⟩ hd
          obtain ⟨rfl, hj⟩ := rangeD_get hd
          refine ⟨_, rfl, sl21 ns side o5 o6 o7 (some (.int (0 + (i : Nat)))) o9 o10 (some (.int num)) (some (.int (0 + (j : Nat)))), S2, ?_, rfl, _, rfl⟩
          have w1 := why_br e h (way := 0 + (i : Nat)) (num := num) (odd := 0 + (j : Nat)) (by omega) (by omega)
          have w2 := why_br e h (way := 0 + (i : Nat)) (num := 0) (odd := 0 + (j : Nat)) (by omega) (by omega)
          generalize (0 + ((i : Nat) : Int)) = way at *
          generalize (0 + ((j : Nat) : Int)) = odd at *
          unfold sl21
          simp only [List.set_cons_succ, List.set_cons_zero]
          simp only [mir, w1, w2, fb])
      refine ⟨_, _, lp, rfl, _, _, rfl⟩)
  exact ⟨a, b, lp⟩
theorem fNe_br {w : Str} (hw : PyData.strOk w = true) (S : Store) : fNe (.fl [.tup [.str "broken", .str w]]) (.fl [.tup [.str "broken", .str w]]) S = some (.ok (.bl false), S) := by
  have h1 := strOk_c.2.1
  unfold fNe
  rw [eqD_ev S (x := .tup [.str "broken", .str w]) (p := .tuple [.str "broken", .str w]) rfl (show 3 ≤ 8 by decide) (by
    unfold SeqAt.shaped
    simp [PyData.canLay0, PyData.canLayAll0, PyData.depth, PyData.depthAll, h1, hw]) (by simp [PyData.eqv, PyData.eqvAll])]
  rfl
theorem fAdd_ref {n : Nat} {ds es : List D} {S : Store} (h : S[n]? = some (lsD ds)) (hl : ds.length + es.length ≤ 16777216) : fAdd (.ref n) (.fl es) S = some (.ok (.fl (ds ++ es)), S) := by
  unfold fAdd
  have c1 : catOf (.ref n) S = some ds := cat_ref h
  have c2 : catOf (.fl es) S = some es := rfl
  simp only [c1, c2]
  rw [if_pos (show _ ≤ lineN from hl)]
end
theorem law_true : LawTrue m_law := fun ns hn => by
  have gr := row_eq ns []
  have o1 := row0_ok ns
  obtain ⟨side, R1, t1, o2, s0, s1⟩ := draw0 2 o1 (by decide) (by decide)
  have hs : 0 ≤ side ∧ side < 2 := ⟨s0, s1⟩
  have em := end_make side [rowD R1]
  have h0 : JF 1 ([rowD R1] ++ newE 1 side) R1 (EA.new side) [] [] := ⟨⟨rfl, o2, end_new [rowD R1] side, by decide⟩, fun p hp => nomatch hp⟩
  have h1 := h0.new (lsD [])
  have hl8 : ([rowD R1] ++ newE 1 side).length = 8 := rfl
  rw [hl8] at h1
  have h1 : JF 1 ([rowD R1] ++ newE 1 side ++ [lsD []]) R1 (EA.new side) [] (f21 []) := h1
  generalize hA : [rowD R1] ++ newE 1 side = SA at *
  generalize hB : SA ++ [lsD []] = S1 at *
  -- talks begun
  obtain ⟨n1, R2, t2, h2, n10, n11⟩ := h1.dr 4 (by decide) (by decide)
  generalize S1.set 0 (rowD R2) = S2 at *
  obtain ⟨l3, S3, lpA, R3, E3, ad3, L3, o3, rfl, h3, q3⟩ := sFor_thru (items := iR1 (eA m__law_taken (aCons (eVar 1) (aCons (eC (.int 4)) (aNil))))) (tg := .one 5) (body := bA21) (ds := rangeD 0 n1.toNat)
    (fun i l S => ∃ R E ad L o5, l = sl21 ns side o5 none none none none none none none ∧ JF 1 S R E ad (f21 L) ∧ Q1 E side i L)
    (l := sl21 ns side none none none none none none none none) (S := S1) (S1 := S2)
    (iR1_ok (n := n1) (by unfold sl21; simp only [mir, t2]) (by omega) (by omega))
    ⟨R2, EA.new side, [], [], none, rfl, h2, q1_new side⟩ (fun _ _ _ _ => rfl) (by
      rintro i d l S ⟨R, E, ad, L, o5, rfl, h, q⟩ hd
      obtain ⟨rfl, hi⟩ := rangeD_get hd
      rw [Int.zero_add]
      obtain ⟨S', R', E', ad', e, h', q'⟩ := turnA21 (ns := ns) h q (by omega) hs
      exact ⟨_, rfl, _, _, e, R', E', ad', _, _, rfl, h', q'⟩)
  rw [rangeD_len] at q3
  have l3 := q3.ln
  have q3th := q3.th
  have q3 := q3.q2 (by omega) hs
  -- heads heard
  obtain ⟨n2, R4, t4, h4, n20, n21⟩ := h3.dr 3 (by decide) (by decide)
  generalize S3.set 0 (rowD R4) = S4 at *
  have th3 : E3.theirs < 2 - side + 2 * ((0 : Nat) : Int) := by rw [q3th]; omega
  obtain ⟨l5, S5, lpB, E5, ad5, L5, o5, rfl, h5, q5, l5, _⟩ := sFor_thru (items := iR1 (eA m__law_taken (aCons (eVar 1) (aCons (eC (.int 3)) (aNil))))) (tg := .one 5) (body := bB21) (ds := rangeD 0 n2.toNat)
    (fun i l S => ∃ E ad L o5, l = sl21 ns side o5 none none none none none none none ∧ JF 1 S R4 E ad (f21 L) ∧ Q2 E side L ∧ L.length ≤ 3 + i ∧ E.theirs < 2 - side + 2 * (i : Int))
    (l := sl21 ns side o3 none none none none none none none) (S := S3) (S1 := S4)
    (iR1_ok (n := n2) (by unfold sl21; simp only [mir, t4]) (by omega) (by omega))
    ⟨E3, ad3, L3, o3, rfl, h4, q3, by omega, th3⟩ (fun _ _ _ _ => rfl) (by
      rintro i d l S ⟨E, ad, L, o5, rfl, h, q, hl, ht⟩ hd
      obtain ⟨rfl, hi⟩ := rangeD_get hd
      rw [Int.zero_add]
      obtain ⟨S', E', ad', e, h', q', t'⟩ := turnB21 (ns := ns) (o6 := none) (o7 := none) (o8 := none) (o9 := none) (o10 := none) (o11 := none) (o12 := none) h q (by omega) hs (by omega) ht
      exact ⟨_, rfl, _, _, e, E', ad', _, _, rfl, h', q', by rw [List.length_append]; show L.length + 1 ≤ _; omega, t'⟩)
  -- frames asked for
  obtain ⟨n3, R6, t6, h6, n30, n31⟩ := h5.dr 6 (by decide) (by decide)
  generalize S5.set 0 (rowD R6) = S6 at *
  obtain ⟨l7, S7, lpC, E7, o7, rfl, h7, q7⟩ := sFor_thru (items := iR1 (eA m__law_taken (aCons (eVar 1) (aCons (eC (.int 6)) (aNil))))) (tg := .one 5) (body := bC21) (ds := rangeD 0 n3.toNat)
    (fun i l S => ∃ E o5, l = sl21 ns side o5 none none none none none none none ∧ JF 1 S R6 E ad5 (f21 L5) ∧ Q2 E side L5)
    (l := sl21 ns side o5 none none none none none none none) (S := S5) (S1 := S6)
    (iR1_ok (n := n3) (by unfold sl21; simp only [mir, t6]) (by omega) (by omega))
    ⟨E5, o5, rfl, h6, q5⟩ (fun _ _ _ _ => rfl) (by
      rintro i d l S ⟨E, o5, rfl, h, q⟩ hd
      obtain ⟨rfl, hi⟩ := rangeD_get hd
      obtain ⟨S', p, h'⟩ := h.next (by have := q.out; omega)
      have i1 := h.isi "next_frame" rfl
      refine ⟨_, rfl, sl21 ns side (some (.int (0 + (i : Nat)))) none none none none none none none, S', ?_, E.nextFrame.2, _, rfl, h', q.next⟩
      generalize E.nextFrame.1 = f at *
      generalize (0 + ((i : Nat) : Int)) = z at *
      unfold bC21 sl21
      simp only [List.set_cons_succ, List.set_cons_zero]
      simp only [mir, i1, p])
  -- what is seen
  have hk7 : ∀ t ∈ L5, ∃ T, aget E7.talks t = some T := fun t ht => some_of q7.ky ht
  have hz7 : ∀ t ∈ L5, t ≠ 0 := fun t ht => by have := (q7.inn t ht).1; omega
  have hl7 := q7.ln
  have sn7 := seen_eq h7.j.e (h7.at List.mem_cons_self) hk7 hz7 (by omega)
  have c07 := h7.j.e.c0
  have c37 := h7.j.e.c3
  have fl7 : ∀ S, fList (psD E7.told) S = some (.ok (psD E7.told), S) := fun _ => rfl
  obtain ⟨way, R8, t8, h8, w0, w1⟩ := h7.dr 4 (by decide) (by decide)
  generalize S7.set 0 (rowD R8) = S8 at *
  have hw : 0 ≤ way ∧ way < 4 := ⟨w0, w1⟩
  obtain ⟨x, R9, t9, h9, x0, x1⟩ := h8.dr 249 (by decide) (by decide)
  generalize S8.set 0 (rowD R9) = S9 at *
  have bix := fun S => badD_ix way x hw S
  have bwx := fun S => badW_ix way hw S
  have bin := badF_in (way := way) (x := x) ⟨x0, x1⟩
  obtain ⟨ds, S10, ad10, p10, h10, v10⟩ := h9.hear q7.br q7.held bin
  rw [q7.bad way x hw x0] at h10 v10
  have v10 : EvsAt S10 1 ad10 _ ds [.broken (badW way)] := v10
  obtain ⟨d, rfl, v11⟩ := v10.one
  have v11 : d = .tup [.str "broken", .str (badW way)] := v11
  subst v11
  have h10 : JF 1 S10 R9 { E7 with broken := badW way } ad10 (f21 L5) := h10
  have lf := fun S => frame_law (badF way x).k (badF way x).f (badF way x).t (ns := (badF way x).b) (by have := bin.l; omega) S
  have lf : ∀ S, m__law_frame [.int (badF way x).k, .int (badF way x).f, .int (badF way x).t, inD1 (badF way x).b] S = some (.ok (inD1 (frL (badF way x))), S) := lf
  generalize badF way x = G at *
  have wne := badW_ne way
  have wok := badW_ok way
  generalize badW way = w at *
  have i9 := h9.isi "hear" rfl
  have fbr := fun S => fNe_br wok S
  have fww := fun S => fNe_s wok wok S
  simp only [decide_true, Bool.not_true] at fww
  have c010 := h10.j.e.c0
  have g810 := h10.at (n := 8) List.mem_cons_self
  -- a talk's number
  have fa : ∀ S : Store, S[8]? = some (lsD (L5.map D.int)) → fAdd (.ref 8) (.fl [.int 99]) S = some (.ok (inD1 (L5 ++ [99])), S) := fun S h => by
    rw [fAdd_ref h (by rw [List.length_map]; show _ + 1 ≤ _; omega)]
    unfold inD1
    rw [List.map_append]
    rfl
  have fa10 := fa S10 g810
  have ll : lenC (some (lsD (L5.map D.int))) = some (L5.length : Int) := by
    show some (((L5.map D.int).length : Nat) : Int) = _
    rw [List.length_map]
  obtain ⟨z, R11, t11, h11, z0, z1⟩ := h10.dr ((L5.length : Int) + 1) (by omega) (by omega)
  generalize S10.set 0 (rowD R11) = S11 at *
  obtain ⟨num, hnum⟩ : ∃ num, (L5 ++ [99])[z.toNat]? = some num := by
    have : z.toNat < (L5 ++ [99]).length := by rw [List.length_append]; show _ < _ + 1; omega
    exact ⟨_, List.getElem?_eq_getElem this⟩
  have fz : ∀ S, fIx (inD1 (L5 ++ [99])) (.int z) S = some (.ok (.int num), S) := fun S => by
    unfold inD1
    refine fIx_fl z0 ?_ S
    rw [List.getElem?_map, hnum]
    rfl
  obtain ⟨o8', o12', lpD⟩ := whys21 (ns := ns) (side := side) (o5 := o7) (o6 := some (inD1 (seenL E7 L5))) (o7 := some (psD E7.told)) (o9 := some (.fl [.int G.k, .int G.f, .int G.t, inD1 G.b])) (o10 := some (.str w)) (num := num) (w := 0) h11.j.e wne (some (.int way)) none
  obtain ⟨S12, p12, h12⟩ := h11.next (by have := q7.out; show E7.out.length < _; omega)
  rw [next_br (E := { E7 with broken := w }) wne] at p12 h12
  obtain ⟨ds13, S13, ad13, p13, h13, v13⟩ := h12.hears (P := frL ⟨3, 0, 0, [0, 5]⟩) (by decide) (by decide)
  rw [hear_br (E := { E7 with broken := w }) wne] at h13 v13
  have v13 := EvsAt.none v13
  subst v13
  have h13 : JF 1 S13 R11 { E7 with broken := w } ad13 (f21 L5) := h13
  have c013 := h13.j.e.c0
  have c313 := h13.j.e.c3
  have i11 := h11.isi "next_frame" rfl
  have i12 := h12.isi "hear" rfl
  have lf13 : ∀ S, m__law_frame [.int 3, .int 0, .int 0, .fl [.int 0, .int 5]] S = some (.ok (inD1 (frL ⟨3, 0, 0, [0, 5]⟩)), S) := fun S => frame_law 3 0 0 (ns := [0, 5]) (by decide) S
  have sn13 := seen_eq h13.j.e (h13.at List.mem_cons_self) hk7 hz7 (by omega)
  have sn13 : m__law_seen [.ref 1, .ref 8] S13 = some (.ok (inD1 (seenL E7 L5)), S13) := sn13
  have lq := fun S => list_law (seenL E7 L5) (seenL E7 L5) S
  simp only [decide_true] at lq
  have fp := fun S => fEq_prs h7.j.e.ok.to h7.j.e.ok.to S
  simp only [decide_true] at fp
  have p12 : m_End_next_frame [.ref 1] S11 = some (.ok (inD1 []), S12) := p12
  have fn0 : ∀ S, fNe (inD1 []) (.fl []) S = some (.ok (.bl false), S) := fun _ => rfl
  have fn1 : ∀ S, fNe (.fl []) (.fl []) S = some (.ok (.bl false), S) := fun _ => rfl
  generalize seenL E7 L5 = sL at *
  generalize (L5.length : Int) = n5 at *
  refine ⟨S13, ?_⟩
  unfold bA21 sl21 at lpA
  unfold bB21 sl21 at lpB
  unfold bC21 sl21 at lpC
  unfold bD21 sl21 at lpD
  (unfold m_law b_law; refine Eq.trans (fnM_l (l := [_, none, none, none, none, none, none, none, none, none, none, none, none]) rfl rfl _) ?_)
  rw [seq_nx (S' := [rowD (row0 ns)]) (l' := [some (.scr ns), some (.ref 0), none, none, none, none, none, none, none, none, none, none, none]) (by simp only [mir, gr]; rfl)]
  rw [seq_nx (S' := [rowD R1]) (l' := [some (.scr ns), some (.ref 0), some (.int side), none, none, none, none, none, none, none, none, none, none]) (by simp only [mir, t1])]
  rw [seq_nx (S' := SA) (l' := [some (.scr ns), some (.ref 0), some (.int side), some (.ref 1), none, none, none, none, none, none, none, none, none]) (by simp only [mir, em]; rw [← hA]; rfl)]
  rw [seq_nx (S' := S1) (l' := [some (.scr ns), some (.ref 0), some (.int side), some (.ref 1), some (.ref 8), none, none, none, none, none, none, none, none]) (by simp only [mir, hl8]; rw [← hB]; rfl)]
  rw [seq_nx lpA, seq_nx lpB, seq_nx lpC]
  rw [seq_nx (S' := S7) (l' := [some (.scr ns), some (.ref 0), some (.int side), some (.ref 1), some (.ref 8), o7, some (inD1 sL), none, none, none, none, none, none]) (by simp only [mir, sn7])]
  rw [seq_nx (S' := S7) (l' := [some (.scr ns), some (.ref 0), some (.int side), some (.ref 1), some (.ref 8), o7, some (inD1 sL), some (psD E7.told), none, none, none, none, none]) (by simp only [mer, c07, c37, fl7])]
  rw [seq_nx (S' := S8) (l' := [some (.scr ns), some (.ref 0), some (.int side), some (.ref 1), some (.ref 8), o7, some (inD1 sL), some (psD E7.told), some (.int way), none, none, none, none]) (by simp only [mir, t8])]
  rw [seq_nx (S' := S9) (l' := [some (.scr ns), some (.ref 0), some (.int side), some (.ref 1), some (.ref 8), o7, some (inD1 sL), some (psD E7.told), some (.int way), some (.fl [.int G.k, .int G.f, .int G.t, inD1 G.b]), none, none, none]) (by simp only [mir, t9, bix])]
  rw [seq_nx (S' := S9) (l' := [some (.scr ns), some (.ref 0), some (.int side), some (.ref 1), some (.ref 8), o7, some (inD1 sL), some (psD E7.told), some (.int way), some (.fl [.int G.k, .int G.f, .int G.t, inD1 G.b]), some (.str w), none, none]) (by simp only [mir, bwx])]
  rw [seq_nx (S' := S10) (l' := [some (.scr ns), some (.ref 0), some (.int side), some (.ref 1), some (.ref 8), o7, some (inD1 sL), some (psD E7.told), some (.int way), some (.fl [.int G.k, .int G.f, .int G.t, inD1 G.b]), some (.str w), none, none]) (by simp only [mer, lf, i9, p10, fbr, c010, fww])]
  rw [seq_nx (S' := S11) (l' := [some (.scr ns), some (.ref 0), some (.int side), some (.ref 1), some (.ref 8), o7, some (inD1 sL), some (psD E7.told), some (.int way), some (.fl [.int G.k, .int G.f, .int G.t, inD1 G.b]), some (.str w), some (.int num), none]) (by simp only [mir, fa10, g810, ll, t11, fz])]
  rw [seq_nx lpD]
  rw [seq_nx (S' := S13) (l' := [some (.scr ns), some (.ref 0), some (.int side), some (.ref 1), some (.ref 8), o7, some (inD1 sL), some (psD E7.told), o8', some (.fl [.int G.k, .int G.f, .int G.t, inD1 G.b]), some (.str w), some (.int num), o12']) (by simp only [mer, i11, p12, fn0, lf13, i12, p13, fn1, c013, fww])]
  simp only [mer, sn13, lq, c013, c313, fp]
end Law

namespace Law
open PySem PySem.Spec L2 Sim
def topS (i : Nat) : Stmt := PySem.Challenge.pw_oneline_k21_a_broken_end.main.body.getD i (.Pass ⟨0, 0, 0, 0⟩)
abbrev s_NoDeed_init : Stmt := inClass (topS 2) 0
abbrev N_NoDeed_init : List Str := ["self", "why"]
abbrev s_Frame_init : Stmt := inClass (topS 13) 0
abbrev N_Frame_init : List Str := ["self", "kind", "flag", "talk", "numbers"]
abbrev s_framed : Stmt := topS 14
abbrev N_framed : List Str := ["kind", "flag", "talk", "numbers"]
abbrev s_Cutter_init : Stmt := inClass (topS 15) 0
abbrev N_Cutter_init : List Str := ["self"]
abbrev s_Cutter_fed : Stmt := inClass (topS 15) 1
abbrev N_Cutter_fed : List Str := ["self", "numbers", "found", "at", "behind"]
abbrev s_text_numbers : Stmt := topS 19
abbrev N_text_numbers : List Str := ["text", "sign"]
abbrev s_text_at : Stmt := topS 20
abbrev N_text_at : List Str := ["numbers", "at", "behind", "found", "number"]
abbrev s_is_head : Stmt := topS 27
abbrev N_is_head : List Str := ["head", "pair", "sign"]
abbrev s_Shelf_place_of : Stmt := inClass (topS 57) 2
abbrev N_Shelf_place_of : List Str := ["self", "pair", "place", "one"]
abbrev s_Shelf_place_named : Stmt := inClass (topS 57) 3
abbrev N_Shelf_place_named : List Str := ["self", "name", "place", "one"]
abbrev s_weight_of : Stmt := topS 56
abbrev N_weight_of : List Str := ["pair"]
abbrev s_Shelf_put : Stmt := inClass (topS 57) 1
abbrev N_Shelf_put : List Str := ["self", "pair", "one"]
abbrev s_told_head : Stmt := topS 28
abbrev N_told_head : List Str := ["shelf", "head", "found", "pair", "place", "named"]
abbrev s_pair_at : Stmt := topS 29
abbrev N_pair_at : List Str := ["shelf", "numbers", "at", "way", "name", "value", "pair"]
abbrev s_read_head : Stmt := topS 30
abbrev N_read_head : List Str := ["shelf", "numbers", "found", "at", "told"]
abbrev s_Talk_init : Stmt := inClass (topS 37) 0
abbrev N_Talk_init : List Str := ["self", "number", "credit"]
abbrev s_Talk_is_shut : Stmt := inClass (topS 37) 1
abbrev N_Talk_is_shut : List Str := ["self"]
abbrev s_Talk_drop : Stmt := inClass (topS 37) 2
abbrev N_Talk_drop : List Str := ["self"]
abbrev s_Talk_can_send : Stmt := inClass (topS 37) 3
abbrev N_Talk_can_send : List Str := ["self", "line"]
abbrev s_why_form : Stmt := topS 42
abbrev N_why_form : List Str := ["frame", "size"]
abbrev s_amount_of : Stmt := topS 43
abbrev N_amount_of : List Str := ["frame"]
abbrev s_is_new : Stmt := topS 44
abbrev N_is_new : List Str := ["end", "frame"]
abbrev s_why_number : Stmt := topS 45
abbrev N_why_number : List Str := ["end", "frame", "last"]
abbrev s_why_body : Stmt := topS 46
abbrev N_why_body : List Str := ["end", "talk", "frame", "size"]
abbrev s_why_talk : Stmt := topS 47
abbrev N_why_talk : List Str := ["end", "frame", "talk"]
abbrev s_why_not : Stmt := topS 48
abbrev N_why_not : List Str := ["end", "frame", "why"]
abbrev s_took_head : Stmt := topS 49
abbrev N_took_head : List Str := ["end", "frame", "head", "word", "talk", "found"]
abbrev s_took_body : Stmt := topS 50
abbrev N_took_body : List Str := ["end", "frame", "talk", "size", "found"]
abbrev s_took_away : Stmt := topS 51
abbrev N_took_away : List Str := ["end", "frame", "number", "talk"]
abbrev s_took_other : Stmt := topS 52
abbrev N_took_other : List Str := ["end", "frame", "talk", "was_shut"]
abbrev s_took : Stmt := topS 53
abbrev N_took : List Str := ["end", "frame", "why"]
abbrev s_Shelf_init : Stmt := inClass (topS 57) 0
abbrev N_Shelf_init : List Str := ["self"]
abbrev s_End_init : Stmt := inClass (topS 59) 0
abbrev N_End_init : List Str := ["self", "side"]
abbrev s_End_known : Stmt := inClass (topS 59) 1
abbrev N_End_known : List Str := ["self", "number"]
abbrev s_End_unshut : Stmt := inClass (topS 59) 2
abbrev N_End_unshut : List Str := ["self", "number", "talk"]
abbrev s_End_put_head : Stmt := inClass (topS 59) 3
abbrev N_End_put_head : List Str := ["self", "talk", "head", "last", "numbers"]
abbrev s_End_begin : Stmt := inClass (topS 59) 4
abbrev N_End_begin : List Str := ["self", "head", "last", "number"]
abbrev s_End_answer : Stmt := inClass (topS 59) 5
abbrev N_End_answer : List Str := ["self", "number", "head", "last", "talk"]
abbrev s_End_say : Stmt := inClass (topS 59) 6
abbrev N_End_say : List Str := ["self", "number", "numbers", "last", "talk"]
abbrev s_End_grant : Stmt := inClass (topS 59) 7
abbrev N_End_grant : List Str := ["self", "number", "many", "talk"]
abbrev s_End_reset : Stmt := inClass (topS 59) 8
abbrev N_End_reset : List Str := ["self", "number", "why", "talk"]
abbrev s_End_ask_rank : Stmt := inClass (topS 59) 9
abbrev N_End_ask_rank : List Str := ["self", "number", "rank", "talk"]
abbrev s_End_leave : Stmt := inClass (topS 59) 10
abbrev N_End_leave : List Str := ["self"]
abbrev s_End_body_of : Stmt := inClass (topS 59) 12
abbrev N_End_body_of : List Str := ["self", "talk", "many", "numbers"]
abbrev s_End_next_frame : Stmt := inClass (topS 59) 11
abbrev N_End_next_frame : List Str := ["self", "best", "number", "talk"]
abbrev s_End_hear : Stmt := inClass (topS 59) 13
abbrev N_End_hear : List Str := ["self", "numbers", "found", "frame"]
abbrev s_End_left : Stmt := inClass (topS 59) 14
abbrev N_End_left : List Str := ["self", "number"]
abbrev s_End_waiting : Stmt := inClass (topS 59) 15
abbrev N_End_waiting : List Str := ["self", "number"]
abbrev s__law_row : Stmt := topS 61
abbrev N__law_row : List Str := ["_law_script", "_law_mixed", "_law_cell"]
abbrev s__law_taken : Stmt := topS 62
abbrev N__law_taken : List Str := ["_law_row_here", "_law_many", "_law_found", "_law_cell"]
abbrev s__law_whole : Stmt := topS 63
abbrev N__law_whole : List Str := ["_law_found"]
abbrev s__law_list : Stmt := topS 64
abbrev N__law_list : List Str := ["_law_found", "_law_due", "_law_number"]
abbrev s__law_frame : Stmt := topS 65
abbrev N__law_frame : List Str := ["_law_kind", "_law_flag", "_law_talk", "_law_numbers"]
abbrev s__law_deed : Stmt := topS 66
abbrev N__law_deed : List Str := ["_law_end", "_law_way", "_law_number", "_law_odd"]
abbrev s__law_why : Stmt := topS 67
abbrev N__law_why : List Str := ["_law_end", "_law_way", "_law_number", "_law_odd", "e"]
abbrev s__law_seen : Stmt := topS 68
abbrev N__law_seen : List Str := ["_law_end", "_law_talks", "_law_found", "_law_talk"]
abbrev s_law : Stmt := topS 69
abbrev N_law : List Str := ["_law_script", "_law_row_here", "_law_side", "_law_end", "_law_talks", "_law_k", "_law_before", "_law_pairs", "_law_way", "_law_bad", "_law_word", "_law_number", "_law_odd"]
structure Txt (K : PySem.W.Frag) (mg : Str → Option Value) (ca : Nat → Addr) : Prop where
  std : Std mg
  cl_Frame : Cls K (ca 3)
  n_Frame_flag : NoAttr K (ca 3) "flag"
  n_Frame_kind : NoAttr K (ca 3) "kind"
  n_Frame_numbers : NoAttr K (ca 3) "numbers"
  n_Frame_talk : NoAttr K (ca 3) "talk"
  cl_Cutter : Cls K (ca 4)
  n_Cutter_held : NoAttr K (ca 4) "held"
  cl_Talk : Cls K (ca 6)
  n_Talk_ends_behind : NoAttr K (ca 6) "ends_behind"
  n_Talk_gives : NoAttr K (ca 6) "gives"
  n_Talk_heard_end : NoAttr K (ca 6) "heard_end"
  n_Talk_heard_head : NoAttr K (ca 6) "heard_head"
  n_Talk_may : NoAttr K (ca 6) "may"
  n_Talk_number : NoAttr K (ca 6) "number"
  n_Talk_rank : NoAttr K (ca 6) "rank"
  n_Talk_said_end : NoAttr K (ca 6) "said_end"
  n_Talk_said_head : NoAttr K (ca 6) "said_head"
  n_Talk_served : NoAttr K (ca 6) "served"
  n_Talk_shut_here : NoAttr K (ca 6) "shut_here"
  n_Talk_shut_there : NoAttr K (ca 6) "shut_there"
  n_Talk_waits : NoAttr K (ca 6) "waits"
  cl_Shelf : Cls K (ca 5)
  n_Shelf_pairs : NoAttr K (ca 5) "pairs"
  cl_End : Cls K (ca 7)
  n_End_away_at : NoAttr K (ca 7) "away_at"
  n_End_broken : NoAttr K (ca 7) "broken"
  n_End_cutter : NoAttr K (ca 7) "cutter"
  n_End_heard : NoAttr K (ca 7) "heard"
  n_End_left_at : NoAttr K (ca 7) "left_at"
  n_End_line : NoAttr K (ca 7) "line"
  n_End_mine : NoAttr K (ca 7) "mine"
  n_End_out : NoAttr K (ca 7) "out"
  n_End_side : NoAttr K (ca 7) "side"
  n_End_talks : NoAttr K (ca 7) "talks"
  n_End_theirs : NoAttr K (ca 7) "theirs"
  n_End_told : NoAttr K (ca 7) "told"
  n_End_turns : NoAttr K (ca 7) "turns"
  d_Frame_init : MakF K mg (ca 3) "Frame" "Frame.__init__" s_Frame_init ["self", "kind", "flag", "talk", "numbers"]
  d_framed : DefF K mg "framed" s_framed ["kind", "flag", "talk", "numbers"]
  d_Cutter_init : MakF K mg (ca 4) "Cutter" "Cutter.__init__" s_Cutter_init ["self"]
  d_Cutter_fed : MetF K (ca 4) "fed" "Cutter.fed" s_Cutter_fed ["self", "numbers"]
  d_text_numbers : DefF K mg "text_numbers" s_text_numbers ["text"]
  d_text_at : DefF K mg "text_at" s_text_at ["numbers", "at"]
  d_is_head : DefF K mg "is_head" s_is_head ["head"]
  d_Shelf_place_of : MetF K (ca 5) "place_of" "Shelf.place_of" s_Shelf_place_of ["self", "pair"]
  d_Shelf_place_named : MetF K (ca 5) "place_named" "Shelf.place_named" s_Shelf_place_named ["self", "name"]
  d_weight_of : DefF K mg "weight_of" s_weight_of ["pair"]
  d_Shelf_put : MetF K (ca 5) "put" "Shelf.put" s_Shelf_put ["self", "pair"]
  d_told_head : DefF K mg "told_head" s_told_head ["shelf", "head"]
  d_pair_at : DefF K mg "pair_at" s_pair_at ["shelf", "numbers", "at"]
  d_read_head : DefF K mg "read_head" s_read_head ["shelf", "numbers"]
  d_Talk_init : MakF K mg (ca 6) "Talk" "Talk.__init__" s_Talk_init ["self", "number", "credit"]
  d_Talk_is_shut : MetF K (ca 6) "is_shut" "Talk.is_shut" s_Talk_is_shut ["self"]
  d_Talk_drop : MetF K (ca 6) "drop" "Talk.drop" s_Talk_drop ["self"]
  d_Talk_can_send : MetF K (ca 6) "can_send" "Talk.can_send" s_Talk_can_send ["self", "line"]
  d_why_form : DefF K mg "why_form" s_why_form ["frame"]
  d_amount_of : DefF K mg "amount_of" s_amount_of ["frame"]
  d_is_new : DefF K mg "is_new" s_is_new ["end", "frame"]
  d_why_number : DefF K mg "why_number" s_why_number ["end", "frame"]
  d_why_body : DefF K mg "why_body" s_why_body ["end", "talk", "frame"]
  d_why_talk : DefF K mg "why_talk" s_why_talk ["end", "frame"]
  d_why_not : DefF K mg "why_not" s_why_not ["end", "frame"]
  d_took_head : DefF K mg "took_head" s_took_head ["end", "frame"]
  d_took_body : DefF K mg "took_body" s_took_body ["end", "frame"]
  d_took_away : DefF K mg "took_away" s_took_away ["end", "frame"]
  d_took_other : DefF K mg "took_other" s_took_other ["end", "frame"]
  d_took : DefF K mg "took" s_took ["end", "frame"]
  d_Shelf_init : MakF K mg (ca 5) "Shelf" "Shelf.__init__" s_Shelf_init ["self"]
  d_End_init : MakF K mg (ca 7) "End" "End.__init__" s_End_init ["self", "side"]
  d_End_known : MetF K (ca 7) "known" "End.known" s_End_known ["self", "number"]
  d_End_unshut : MetF K (ca 7) "unshut" "End.unshut" s_End_unshut ["self", "number"]
  d_End_put_head : MetF K (ca 7) "put_head" "End.put_head" s_End_put_head ["self", "talk", "head", "last"]
  d_End_begin : MetF K (ca 7) "begin" "End.begin" s_End_begin ["self", "head", "last"]
  d_End_answer : MetF K (ca 7) "answer" "End.answer" s_End_answer ["self", "number", "head", "last"]
  d_End_say : MetF K (ca 7) "say" "End.say" s_End_say ["self", "number", "numbers", "last"]
  d_End_grant : MetF K (ca 7) "grant" "End.grant" s_End_grant ["self", "number", "many"]
  d_End_reset : MetF K (ca 7) "reset" "End.reset" s_End_reset ["self", "number", "why"]
  d_End_ask_rank : MetF K (ca 7) "ask_rank" "End.ask_rank" s_End_ask_rank ["self", "number", "rank"]
  d_End_leave : MetF K (ca 7) "leave" "End.leave" s_End_leave ["self"]
  d_End_body_of : MetF K (ca 7) "body_of" "End.body_of" s_End_body_of ["self", "talk"]
  d_End_next_frame : MetF K (ca 7) "next_frame" "End.next_frame" s_End_next_frame ["self"]
  d_End_hear : MetF K (ca 7) "hear" "End.hear" s_End_hear ["self", "numbers"]
  d_End_left : MetF K (ca 7) "left" "End.left" s_End_left ["self", "number"]
  d_End_waiting : MetF K (ca 7) "waiting" "End.waiting" s_End_waiting ["self", "number"]
  d__law_row : DefF K mg "_law_row" s__law_row ["_law_script"]
  d__law_taken : DefF K mg "_law_taken" s__law_taken ["_law_row_here", "_law_many"]
  d__law_whole : DefF K mg "_law_whole" s__law_whole ["_law_found"]
  d__law_list : DefF K mg "_law_list" s__law_list ["_law_found", "_law_due"]
  d__law_frame : DefF K mg "_law_frame" s__law_frame ["_law_kind", "_law_flag", "_law_talk", "_law_numbers"]
  d__law_deed : DefF K mg "_law_deed" s__law_deed ["_law_end", "_law_way", "_law_number", "_law_odd"]
  d__law_why : DefF K mg "_law_why" s__law_why ["_law_end", "_law_way", "_law_number", "_law_odd"]
  d__law_seen : DefF K mg "_law_seen" s__law_seen ["_law_end", "_law_talks"]
  d_law : DefF K mg "law" s_law ["_law_script"]
  eb_BadHead : ExB K mg ca 2 "BadHead"
  ei_NoDeed : ExI K mg ca 1 "NoDeed" "NoDeed.__init__" s_NoDeed_init
  xf_NoDeed : XfC K (ca 1)
  te_BadHead : ∀ (c : Nat) (b : Bool), tab_BadHead c = some b → ExcC K (ca c) ∧ PySem.W.kitOne K (.ref (ca c)) (.ref (ca 2)) = some b
  te_NoDeed : ∀ (c : Nat) (b : Bool), tab_NoDeed c = some b → ExcC K (ca c) ∧ PySem.W.kitOne K (.ref (ca c)) (.ref (ca 1)) = some b
  gx_BadHead : mg "BadHead" = some (.ref (ca 2))
  ck_BadHead : ∀ (c : Nat) (b : Bool), catch_BadHead c = some b → PySem.W.exmOne K (.ref (ca c)) (.ref (ca 2)) = some b
  gx_LineError : mg "LineError" = some (.ref (ca 0))
  ck_LineError : ∀ (c : Nat) (b : Bool), catch_LineError c = some b → PySem.W.exmOne K (.ref (ca c)) (.ref (ca 0)) = some b
  gx_NoDeed : mg "NoDeed" = some (.ref (ca 1))
  g_HEAD : ∃ t : Tok, mg "HEAD" = some (.int 1 t)
  g_BODY : ∃ t : Tok, mg "BODY" = some (.int 2 t)
  g_CREDIT : ∃ t : Tok, mg "CREDIT" = some (.int 3 t)
  g_RESET : ∃ t : Tok, mg "RESET" = some (.int 4 t)
  g_RANK : ∃ t : Tok, mg "RANK" = some (.int 5 t)
  g_AWAY : ∃ t : Tok, mg "AWAY" = some (.int 6 t)
  g_AHEAD : ∃ t : Tok, mg "AHEAD" = some (.int 4 t)
  g_MOST_SIZE : ∃ t : Tok, mg "MOST_SIZE" = some (.int 250 t)
  g_SIGNS : ∃ t : Tok, mg "SIGNS" = some (.str c_SIGNS t)
  g_LONGEST : ∃ t : Tok, mg "LONGEST" = some (.int 20 t)
  g_MOST_PAIRS : ∃ t : Tok, mg "MOST_PAIRS" = some (.int 6 t)
  g_LONGEST_NAME : ∃ t : Tok, mg "LONGEST_NAME" = some (.int 8 t)
  g_WHOLE : ∃ t : Tok, mg "WHOLE" = some (.int 0 t)
  g_NAMED : ∃ t : Tok, mg "NAMED" = some (.int 1 t)
  g_FRESH : ∃ t : Tok, mg "FRESH" = some (.int 2 t)
  g_FIRST_CREDIT : ∃ t : Tok, mg "FIRST_CREDIT" = some (.int 20 t)
  g_LINE_CREDIT : ∃ t : Tok, mg "LINE_CREDIT" = some (.int 60 t)
  g_MOST_CREDIT : ∃ t : Tok, mg "MOST_CREDIT" = some (.int 10000 t)
  g_MOST_BODY : ∃ t : Tok, mg "MOST_BODY" = some (.int 10 t)
  g_MIDDLE_RANK : ∃ t : Tok, mg "MIDDLE_RANK" = some (.int 4 t)
  g_MOST_TALK : ∃ t : Tok, mg "MOST_TALK" = some (.int 250 t)
  g_MOST_RANK : ∃ t : Tok, mg "MOST_RANK" = some (.int 7 t)
  g_MOST_WEIGHT : ∃ t : Tok, mg "MOST_WEIGHT" = some (.int 96 t)
  k_SIZES : KTab K mg "SIZES" t_SIZES
section
variable {P : Program} {w : World} {K : PySem.W.Frag} {mg : Str → Option Value} {base : Heap} {ca : Nat → Addr}
theorem en_NoDeed (T : Txt K mg ca) : ExN P w K mg base ca 1 1 "NoDeed" "why" := exN_of T.ei_NoDeed ⟨rfl, rfl, rfl, by decide +kernel, rfl, by decide +kernel, by decide +kernel⟩ rfl rfl rfl
theorem sc_Frame_init : FnScope N_Frame_init ["self", "kind", "flag", "talk", "numbers"] (defScope s_Frame_init) := ⟨rfl, rfl, rfl, by decide +kernel, rfl, by decide +kernel, by decide +kernel⟩
theorem body_Frame_init (T : Txt K mg ca) : BodyOk P w K mg base ca N_Frame_init "Frame.__init__" s_Frame_init 0 b_Frame_init := fun f cdv A outer s H E hr tk =>
  ss_cons (ss_fld ⟨T.cl_Frame, T.n_Frame_kind⟩ (sv 0) (sv 1) rfl)
  (ss_cons (ss_fld ⟨T.cl_Frame, T.n_Frame_flag⟩ (sv 0) (sv 2) rfl)
  (ss_cons (ss_fld ⟨T.cl_Frame, T.n_Frame_talk⟩ (sv 0) (sv 3) rfl)
  (ss_one (ss_fld ⟨T.cl_Frame, T.n_Frame_numbers⟩ (sv 0) (se_list T.std rfl (sa_cons (sv 4) (sa_nil) rfl) ⟨rfl, rfl⟩) rfl))))
theorem ok_Frame_init (T : Txt K mg ca) : MkS P w K mg base ca 1 3 "Frame" m_Frame_init := fn_mak T.d_Frame_init sc_Frame_init rfl (by decide) (body_Frame_init T)
theorem sc_framed : FnScope N_framed ["kind", "flag", "talk", "numbers"] (defScope s_framed) := ⟨rfl, rfl, rfl, by decide +kernel, rfl, by decide +kernel, by decide +kernel⟩
theorem body_framed (T : Txt K mg ca) : BodyOk P w K mg base ca N_framed "framed" s_framed 0 b_framed := fun f cdv A outer s H E hr tk =>
  ss_one (ss_ret (se_add (se_lst (sa_cons (se_len T.std rfl (sa_cons (sv 3) (sa_nil) rfl) ⟨rfl, rfl⟩) (sa_cons (sv 0) (sa_cons (sv 1) (sa_cons (sv 2) (sa_nil) rfl) rfl) rfl) rfl)) (se_list T.std rfl (sa_cons (sv 3) (sa_nil) rfl) ⟨rfl, rfl⟩)))
theorem ok_framed (T : Txt K mg ca) : FnS P w K mg base ca 1 "framed" m_framed := fn_def T.d_framed sc_framed rfl (by decide) (body_framed T)
theorem sc_Cutter_init : FnScope N_Cutter_init ["self"] (defScope s_Cutter_init) := ⟨rfl, rfl, rfl, by decide +kernel, rfl, by decide +kernel, by decide +kernel⟩
theorem body_Cutter_init (T : Txt K mg ca) : BodyOk P w K mg base ca N_Cutter_init "Cutter.__init__" s_Cutter_init 0 b_Cutter_init := fun f cdv A outer s H E hr tk =>
  ss_one (ss_fld ⟨T.cl_Cutter, T.n_Cutter_held⟩ (sv 0) (se_lst (sa_nil)) rfl)
theorem ok_Cutter_init (T : Txt K mg ca) : MkS P w K mg base ca 1 4 "Cutter" m_Cutter_init := fn_mak T.d_Cutter_init sc_Cutter_init rfl (by decide) (body_Cutter_init T)
theorem sc_Cutter_fed : FnScope N_Cutter_fed ["self", "numbers"] (defScope s_Cutter_fed) := ⟨rfl, rfl, rfl, by decide +kernel, rfl, by decide +kernel, by decide +kernel⟩
theorem body_Cutter_fed (T : Txt K mg ca) : BodyOk P w K mg base ca N_Cutter_fed "Cutter.fed" s_Cutter_fed 2 b_Cutter_fed := fun f cdv A outer s H E hr tk =>
  ss_cons (ss_fld ⟨T.cl_Cutter, T.n_Cutter_held⟩ (sv 0) (se_add (se_fld ⟨T.cl_Cutter, T.n_Cutter_held⟩ (sv 0) rfl) (se_list T.std rfl (sa_cons (sv 1) (sa_nil) rfl) ⟨rfl, rfl⟩)) rfl)
  (ss_cons (ss_set (i := 2) sc_Cutter_fed.nd rfl (.inl rfl) freeS.none (se_lstR (sa_nil)) rfl (by first | exact .inl rfl | exact .inr rfl))
  (ss_cons (ss_set (i := 3) sc_Cutter_fed.nd rfl (.inl rfl) freeS.none (se_int) rfl (by first | exact .inl rfl | exact .inr rfl))
  (ss_cons (ss_while (passes_of rfl) (st_w (sw_and (st_le  (se_add (sv 3) (se_globI T.g_AHEAD rfl (by decide))) (se_len T.std rfl (sa_cons (se_fld ⟨T.cl_Cutter, T.n_Cutter_held⟩ (sv 0) rfl) (sa_nil) rfl) ⟨rfl, rfl⟩)) (sw_and1 (st_le  (se_add (se_add (sv 3) (se_globI T.g_AHEAD rfl (by decide))) (se_ix (hu1 hr) (se_fld ⟨T.cl_Cutter, T.n_Cutter_held⟩ (sv 0) rfl) (sv 3) (fun _ _ => rfl))) (se_len T.std rfl (sa_cons (se_fld ⟨T.cl_Cutter, T.n_Cutter_held⟩ (sv 0) rfl) (sa_nil) rfl) ⟨rfl, rfl⟩))))) (ss_cons (ss_set (i := 4) sc_Cutter_fed.nd rfl (.inl rfl) freeS.none (se_add (se_add (sv 3) (se_globI T.g_AHEAD rfl (by decide))) (se_ix (hu1 hr) (se_fld ⟨T.cl_Cutter, T.n_Cutter_held⟩ (sv 0) rfl) (sv 3) (fun _ _ => rfl))) rfl (by first | exact .inl rfl | exact .inr rfl))
  (ss_cons (ss_drop (se_append (sv 2) (sa_cons (se_make (ok_Frame_init T) (hr.mono (by decide)) rfl (by decide) (sa_cons (se_ix (hu1 hr) (se_fld ⟨T.cl_Cutter, T.n_Cutter_held⟩ (sv 0) rfl) (se_add (sv 3) (se_int)) (fun _ _ => rfl)) (sa_cons (se_ix (hu1 hr) (se_fld ⟨T.cl_Cutter, T.n_Cutter_held⟩ (sv 0) rfl) (se_add (sv 3) (se_int)) (fun _ _ => rfl)) (sa_cons (se_ix (hu1 hr) (se_fld ⟨T.cl_Cutter, T.n_Cutter_held⟩ (sv 0) rfl) (se_add (sv 3) (se_int)) (fun _ _ => rfl)) (sa_cons (se_sl (se_fld ⟨T.cl_Cutter, T.n_Cutter_held⟩ (sv 0) rfl) (so_so (se_add (sv 3) (se_globI T.g_AHEAD rfl (by decide)))) (so_so (sv 4))) (sa_nil) rfl) rfl) rfl) rfl) ⟨rfl, rfl⟩) (sa_nil) rfl) ⟨rfl, rfl, rfl⟩ ⟨rfl, rfl⟩) rfl)
  (ss_one (ss_set (i := 3) sc_Cutter_fed.nd rfl (.inl rfl) freeS.none (sv 4) rfl (by first | exact .inl rfl | exact .inr rfl))))))
  (ss_cons (ss_fld ⟨T.cl_Cutter, T.n_Cutter_held⟩ (sv 0) (se_sl (se_fld ⟨T.cl_Cutter, T.n_Cutter_held⟩ (sv 0) rfl) (so_so (sv 3)) so_no) rfl)
  (ss_one (ss_ret (sv 2)))))))
theorem ok_Cutter_fed (T : Txt K mg ca) : MeS P w K mg base ca 3 4 "fed" m_Cutter_fed := fn_met T.cl_Cutter T.d_Cutter_fed sc_Cutter_fed rfl (by decide) (body_Cutter_fed T)
theorem sc_text_numbers : FnScope N_text_numbers ["text"] (defScope s_text_numbers) := ⟨rfl, rfl, rfl, by decide +kernel, rfl, by decide +kernel, by decide +kernel⟩
theorem body_text_numbers (T : Txt K mg ca) : BodyOk P w K mg base ca N_text_numbers "text_numbers" s_text_numbers 0 b_text_numbers := fun f cdv A outer s H E hr tk =>
  ss_one (ss_ret (se_add (se_lst (sa_cons (se_len T.std rfl (sa_cons (sv 0) (sa_nil) rfl) ⟨rfl, rfl⟩) (sa_nil) rfl)) (se_comp (own := [("sign", 1)]) (tgd := .one 1) ⟨rfl, sc_text_numbers.nd, blkOk_by (own := [("sign", 1)]) (N := N_text_numbers) (sc := defScope s_text_numbers) (by decide +kernel), tg_one freeS.none, by decide, fun _ _ _ _ _ => pg_name (i := 1) sc_text_numbers.nd rfl (.inl rfl), fun _ _ _ _ _ => ts_nil, fun _ _ _ _ _ => se_index (hu65 hr) (se_globS T.g_SIGNS rfl (by decide)) (sa_cons (sv 1) (sa_nil) rfl) ⟨rfl, rfl, rfl⟩ ⟨rfl, rfl⟩, fun _ => rfl⟩ (si_str (sv 0)))))
theorem ok_text_numbers (T : Txt K mg ca) : FnS P w K mg base ca 1 "text_numbers" m_text_numbers := fn_def T.d_text_numbers sc_text_numbers rfl (by decide) (body_text_numbers T)
theorem sc_text_at : FnScope N_text_at ["numbers", "at"] (defScope s_text_at) := ⟨rfl, rfl, rfl, by decide +kernel, rfl, by decide +kernel, by decide +kernel⟩
theorem body_text_at (T : Txt K mg ca) : BodyOk P w K mg base ca N_text_at "text_at" s_text_at 0 b_text_at := fun f cdv A outer s H E hr tk =>
  ss_cons (ss_if (st_w (sw_or (st_ge  (sv 1) (se_len T.std rfl (sa_cons (sv 0) (sa_nil) rfl) ⟨rfl, rfl⟩)) (sw_or (st_gt  (se_ix (hu1 hr) (sv 0) (sv 1) (fun _ _ => rfl)) (se_globI T.g_LONGEST rfl (by decide))) (sw_or1 (st_gt  (se_add (se_add (sv 1) (se_int)) (se_ix (hu1 hr) (sv 0) (sv 1) (fun _ _ => rfl))) (se_len T.std rfl (sa_cons (sv 0) (sa_nil) rfl) ⟨rfl, rfl⟩)))))) (ss_one (ss_raiseB T.eb_BadHead rfl tk rfl (by decide))) (ss_nil))
  (ss_cons (ss_set (i := 2) sc_text_at.nd rfl (.inl rfl) freeS.none (se_add (se_add (sv 1) (se_int)) (se_ix (hu1 hr) (sv 0) (sv 1) (fun _ _ => rfl))) rfl (by first | exact .inl rfl | exact .inr rfl))
  (ss_cons (ss_set (i := 3) sc_text_at.nd rfl (.inl rfl) freeS.none (se_str) rfl (by first | exact .inl rfl | exact .inr rfl))
  (ss_cons (ss_for (tgd := .one 4) (passes_of rfl) rfl (tg_one freeS.none) (pg_name (i := 4) sc_text_at.nd rfl (.inl rfl)) (si_list (se_sl (sv 0) (so_so (se_add (sv 1) (se_int))) (so_so (sv 2)))) (ss_cons (ss_if (st_ge  (sv 4) (se_len T.std rfl (sa_cons (se_globS T.g_SIGNS rfl (by decide)) (sa_nil) rfl) ⟨rfl, rfl⟩)) (ss_one (ss_raiseB T.eb_BadHead rfl tk rfl (by decide))) (ss_nil))
  (ss_one (ss_set (i := 3) sc_text_at.nd rfl (.inl rfl) freeS.none (se_add (sv 3) (se_ix (hu1 hr) (se_globS T.g_SIGNS rfl (by decide)) (sv 4) (fun _ _ => rfl))) rfl (by first | exact .inl rfl | exact .inr rfl)))) (fun _ => rfl))
  (ss_one (ss_ret (se_tup (sa_cons (sv 3) (sa_cons (sv 2) (sa_nil) rfl) rfl)))))))
theorem ok_text_at (T : Txt K mg ca) : FnS P w K mg base ca 1 "text_at" m_text_at := fn_def T.d_text_at sc_text_at rfl (by decide) (body_text_at T)
theorem sc_is_head : FnScope N_is_head ["head"] (defScope s_is_head) := ⟨rfl, rfl, rfl, by decide +kernel, rfl, by decide +kernel, by decide +kernel⟩
theorem body_is_head (T : Txt K mg ca) : BodyOk P w K mg base ca N_is_head "is_head" s_is_head 0 b_is_head := fun f cdv A outer s H E hr tk =>
  ss_cons (ss_if (st_gt  (se_len T.std rfl (sa_cons (sv 0) (sa_nil) rfl) ⟨rfl, rfl⟩) (se_globI T.g_MOST_PAIRS rfl (by decide))) (ss_one (ss_ret (se_bl))) (ss_nil))
  (ss_cons (ss_for (tgd := .one 1) (passes_of rfl) rfl (tg_one freeS.none) (pg_name (i := 1) sc_is_head.nd rfl (.inl rfl)) (si_list (sv 0)) (ss_cons (ss_if (st_w (sw_or (st_not (st_lele  (se_int) (se_len T.std rfl (sa_cons (se_ix (hu1 hr) (sv 1) (se_int) (fun _ _ => rfl)) (sa_nil) rfl) ⟨rfl, rfl⟩) (se_globI T.g_LONGEST_NAME rfl (by decide)) rfl)) (sw_or1 (st_gt  (se_len T.std rfl (sa_cons (se_ix (hu1 hr) (sv 1) (se_int) (fun _ _ => rfl)) (sa_nil) rfl) ⟨rfl, rfl⟩) (se_globI T.g_LONGEST rfl (by decide)))))) (ss_one (ss_ret (se_bl))) (ss_nil))
  (ss_one (ss_for (tgd := .one 2) (passes_of rfl) rfl (tg_one freeS.none) (pg_name (i := 2) sc_is_head.nd rfl (.inl rfl)) (si_str (se_add (se_ix (hu1 hr) (sv 1) (se_int) (fun _ _ => rfl)) (se_ix (hu1 hr) (sv 1) (se_int) (fun _ _ => rfl)))) (ss_one (ss_if (st_notIn (hu65 hr) (sv 2) (se_globS T.g_SIGNS rfl (by decide)) rfl) (ss_one (ss_ret (se_bl))) (ss_nil))) (fun _ => rfl)))) (fun _ => rfl))
  (ss_one (ss_ret (se_bl))))
theorem ok_is_head (T : Txt K mg ca) : FnS P w K mg base ca 1 "is_head" m_is_head := fn_def T.d_is_head sc_is_head rfl (by decide) (body_is_head T)
theorem sc_Shelf_place_of : FnScope N_Shelf_place_of ["self", "pair"] (defScope s_Shelf_place_of) := ⟨rfl, rfl, rfl, by decide +kernel, rfl, by decide +kernel, by decide +kernel⟩
theorem body_Shelf_place_of (T : Txt K mg ca) : BodyOk P w K mg base ca N_Shelf_place_of "Shelf.place_of" s_Shelf_place_of 0 b_Shelf_place_of := fun f cdv A outer s H E hr tk =>
  ss_cons (ss_for (tgd := .many [2, 3]) (passes_of rfl) rfl (tg_many (is := [2, 3]) (by intro i _; exact freeS.none)) (pg_tup rfl (pgs_cons (pg_name (i := 2) sc_Shelf_place_of.nd rfl (.inl rfl)) (pgs_cons (pg_name (i := 3) sc_Shelf_place_of.nd rfl (.inl rfl)) (pgs_nil)))) (si_enum T.std.enumerate rfl (se_fld ⟨T.cl_Shelf, T.n_Shelf_pairs⟩ (sv 0) rfl) rfl rfl) (ss_one (ss_if (st_eq (hu64 hr) (sv 3) (sv 1)) (ss_one (ss_ret (sv 2))) (ss_nil))) (fun _ => rfl))
  (ss_one (ss_ret (se_neg (se_int))))
theorem ok_Shelf_place_of (T : Txt K mg ca) : MeS P w K mg base ca 1 5 "place_of" m_Shelf_place_of := fn_met T.cl_Shelf T.d_Shelf_place_of sc_Shelf_place_of rfl (by decide) (body_Shelf_place_of T)
theorem sc_Shelf_place_named : FnScope N_Shelf_place_named ["self", "name"] (defScope s_Shelf_place_named) := ⟨rfl, rfl, rfl, by decide +kernel, rfl, by decide +kernel, by decide +kernel⟩
theorem body_Shelf_place_named (T : Txt K mg ca) : BodyOk P w K mg base ca N_Shelf_place_named "Shelf.place_named" s_Shelf_place_named 0 b_Shelf_place_named := fun f cdv A outer s H E hr tk =>
  ss_cons (ss_for (tgd := .many [2, 3]) (passes_of rfl) rfl (tg_many (is := [2, 3]) (by intro i _; exact freeS.none)) (pg_tup rfl (pgs_cons (pg_name (i := 2) sc_Shelf_place_named.nd rfl (.inl rfl)) (pgs_cons (pg_name (i := 3) sc_Shelf_place_named.nd rfl (.inl rfl)) (pgs_nil)))) (si_enum T.std.enumerate rfl (se_fld ⟨T.cl_Shelf, T.n_Shelf_pairs⟩ (sv 0) rfl) rfl rfl) (ss_one (ss_if (st_eq (hu64 hr) (se_ix (hu1 hr) (sv 3) (se_int) (fun _ _ => rfl)) (sv 1)) (ss_one (ss_ret (sv 2))) (ss_nil))) (fun _ => rfl))
  (ss_one (ss_ret (se_neg (se_int))))
theorem ok_Shelf_place_named (T : Txt K mg ca) : MeS P w K mg base ca 1 5 "place_named" m_Shelf_place_named := fn_met T.cl_Shelf T.d_Shelf_place_named sc_Shelf_place_named rfl (by decide) (body_Shelf_place_named T)
theorem sc_weight_of : FnScope N_weight_of ["pair"] (defScope s_weight_of) := ⟨rfl, rfl, rfl, by decide +kernel, rfl, by decide +kernel, by decide +kernel⟩
theorem body_weight_of (T : Txt K mg ca) : BodyOk P w K mg base ca N_weight_of "weight_of" s_weight_of 0 b_weight_of := fun f cdv A outer s H E hr tk =>
  ss_one (ss_ret (se_add (se_add (se_len T.std rfl (sa_cons (se_ix (hu1 hr) (sv 0) (se_int) (fun _ _ => rfl)) (sa_nil) rfl) ⟨rfl, rfl⟩) (se_len T.std rfl (sa_cons (se_ix (hu1 hr) (sv 0) (se_int) (fun _ _ => rfl)) (sa_nil) rfl) ⟨rfl, rfl⟩)) (se_int)))
theorem ok_weight_of (T : Txt K mg ca) : FnS P w K mg base ca 1 "weight_of" m_weight_of := fn_def T.d_weight_of sc_weight_of rfl (by decide) (body_weight_of T)
theorem sc_Shelf_put : FnScope N_Shelf_put ["self", "pair"] (defScope s_Shelf_put) := ⟨rfl, rfl, rfl, by decide +kernel, rfl, by decide +kernel, by decide +kernel⟩
theorem body_Shelf_put (T : Txt K mg ca) : BodyOk P w K mg base ca N_Shelf_put "Shelf.put" s_Shelf_put 1 b_Shelf_put := fun f cdv A outer s H E hr tk =>
  ss_cons (ss_fld ⟨T.cl_Shelf, T.n_Shelf_pairs⟩ (sv 0) (se_add (se_lst (sa_cons (sv 1) (sa_nil) rfl)) (se_fld ⟨T.cl_Shelf, T.n_Shelf_pairs⟩ (sv 0) rfl)) rfl)
  (ss_one (ss_while (passes_of rfl) (st_gt  (se_sum rfl T.std rfl (sa_cons (se_comp (own := [("one", 2)]) (tgd := .one 2) ⟨rfl, sc_Shelf_put.nd, blkOk_by (own := [("one", 2)]) (N := N_Shelf_put) (sc := defScope s_Shelf_put) (by decide +kernel), tg_one freeS.none, by decide, fun _ _ _ _ _ => pg_name (i := 2) sc_Shelf_put.nd rfl (.inl rfl), fun _ _ _ _ _ => ts_nil, fun _ _ _ _ _ => se_call (ok_weight_of T) (hr.mono (by decide)) takes0 rfl (by decide) (sa_cons (sv 2) (sa_nil) rfl) ⟨rfl, rfl⟩, fun _ => rfl⟩ (si_list (se_fld ⟨T.cl_Shelf, T.n_Shelf_pairs⟩ (sv 0) rfl))) (sa_nil) rfl) ⟨rfl, rfl⟩) (se_globI T.g_MOST_WEIGHT rfl (by decide))) (ss_one (ss_fld ⟨T.cl_Shelf, T.n_Shelf_pairs⟩ (sv 0) (se_sl (se_fld ⟨T.cl_Shelf, T.n_Shelf_pairs⟩ (sv 0) rfl) so_no (so_so (se_neg (se_int)))) rfl))))
theorem ok_Shelf_put (T : Txt K mg ca) : MeS P w K mg base ca 2 5 "put" m_Shelf_put := fn_met T.cl_Shelf T.d_Shelf_put sc_Shelf_put rfl (by decide) (body_Shelf_put T)
theorem sc_told_head : FnScope N_told_head ["shelf", "head"] (defScope s_told_head) := ⟨rfl, rfl, rfl, by decide +kernel, rfl, by decide +kernel, by decide +kernel⟩
theorem body_told_head (T : Txt K mg ca) : BodyOk P w K mg base ca N_told_head "told_head" s_told_head 2 b_told_head := fun f cdv A outer s H E hr tk =>
  ss_cons (ss_set (i := 2) sc_told_head.nd rfl (.inl rfl) freeS.none (se_lst (sa_nil)) rfl (by first | exact .inl rfl | exact .inr rfl))
  (ss_cons (ss_for (tgd := .one 3) (passes_of rfl) rfl (tg_one freeS.none) (pg_name (i := 3) sc_told_head.nd rfl (.inl rfl)) (si_list (sv 1)) (ss_cons (ss_set (i := 4) sc_told_head.nd rfl (.inl rfl) freeS.none (se_meth (ok_Shelf_place_of T) (hr.mono (by decide)) tk (sv 0) (sa_cons (sv 3) (sa_nil) rfl) ⟨rfl, rfl⟩ ⟨⟨_, rfl⟩⟩) rfl (by first | exact .inl rfl | exact .inr rfl))
  (ss_cons (ss_set (i := 5) sc_told_head.nd rfl (.inl rfl) freeS.none (se_meth (ok_Shelf_place_named T) (hr.mono (by decide)) tk (sv 0) (sa_cons (se_ix (hu1 hr) (sv 3) (se_int) (fun _ _ => rfl)) (sa_nil) rfl) ⟨rfl, rfl⟩ ⟨⟨_, rfl⟩⟩) rfl (by first | exact .inl rfl | exact .inr rfl))
  (ss_cons (ss_if (st_ge  (sv 4) (se_int)) (ss_one (ss_set (i := 2) sc_told_head.nd rfl (.inl rfl) freeS.none (se_add (sv 2) (se_lst (sa_cons (se_globI T.g_WHOLE rfl (by decide)) (sa_cons (sv 4) (sa_nil) rfl) rfl))) rfl (by first | exact .inl rfl | exact .inr rfl))) (ss_one (ss_if (st_ge  (sv 5) (se_int)) (ss_one (ss_set (i := 2) sc_told_head.nd rfl (.inl rfl) freeS.none (se_add (se_add (sv 2) (se_lst (sa_cons (se_globI T.g_NAMED rfl (by decide)) (sa_cons (sv 5) (sa_nil) rfl) rfl))) (se_call (ok_text_numbers T) (hr.mono (by decide)) tk rfl (by decide) (sa_cons (se_ix (hu1 hr) (sv 3) (se_int) (fun _ _ => rfl)) (sa_nil) rfl) ⟨rfl, rfl⟩)) rfl (by first | exact .inl rfl | exact .inr rfl))) (ss_one (ss_set (i := 2) sc_told_head.nd rfl (.inl rfl) freeS.none (se_add (se_add (se_add (sv 2) (se_lst (sa_cons (se_globI T.g_FRESH rfl (by decide)) (sa_nil) rfl))) (se_call (ok_text_numbers T) (hr.mono (by decide)) tk rfl (by decide) (sa_cons (se_ix (hu1 hr) (sv 3) (se_int) (fun _ _ => rfl)) (sa_nil) rfl) ⟨rfl, rfl⟩)) (se_call (ok_text_numbers T) (hr.mono (by decide)) tk rfl (by decide) (sa_cons (se_ix (hu1 hr) (sv 3) (se_int) (fun _ _ => rfl)) (sa_nil) rfl) ⟨rfl, rfl⟩)) rfl (by first | exact .inl rfl | exact .inr rfl))))))
  (ss_one (ss_if (st_lt (hu0 hr) (sv 4) (se_int)) (ss_one (ss_drop (se_meth (ok_Shelf_put T) (hr.mono (by decide)) tk (sv 0) (sa_cons (sv 3) (sa_nil) rfl) ⟨rfl, rfl⟩ ⟨⟨_, rfl⟩⟩) rfl)) (ss_nil)))))) (fun _ => rfl))
  (ss_one (ss_ret (sv 2))))
theorem ok_told_head (T : Txt K mg ca) : FnS P w K mg base ca 3 "told_head" m_told_head := fn_def T.d_told_head sc_told_head rfl (by decide) (body_told_head T)
theorem sc_pair_at : FnScope N_pair_at ["shelf", "numbers", "at"] (defScope s_pair_at) := ⟨rfl, rfl, rfl, by decide +kernel, rfl, by decide +kernel, by decide +kernel⟩
theorem body_pair_at (T : Txt K mg ca) : BodyOk P w K mg base ca N_pair_at "pair_at" s_pair_at 1 b_pair_at := fun f cdv A outer s H E hr tk =>
  ss_cons (ss_set (i := 3) sc_pair_at.nd rfl (.inl rfl) freeS.none (se_ix (hu1 hr) (sv 1) (sv 2) (fun _ _ => rfl)) rfl (by first | exact .inl rfl | exact .inr rfl))
  (ss_cons (ss_if (st_eq (hu64 hr) (sv 3) (se_globI T.g_FRESH rfl (by decide))) (ss_cons (ss_set (i := 4) sc_pair_at.nd rfl (.inl rfl) freeS.none (se_call (ok_text_at T) (hr.mono (by decide)) tk rfl (by decide) (sa_cons (sv 1) (sa_cons (se_add (sv 2) (se_int)) (sa_nil) rfl) rfl) ⟨rfl, rfl⟩) rfl (by first | exact .inl rfl | exact .inr rfl))
  (ss_cons (ss_set (i := 5) sc_pair_at.nd rfl (.inl rfl) freeS.none (se_call (ok_text_at T) (hr.mono (by decide)) tk rfl (by decide) (sa_cons (sv 1) (sa_cons (se_ix (hu1 hr) (sv 4) (se_int) (fun _ _ => rfl)) (sa_nil) rfl) rfl) ⟨rfl, rfl⟩) rfl (by first | exact .inl rfl | exact .inr rfl))
  (ss_cons (ss_if (st_not (st_lele  (se_int) (se_len T.std rfl (sa_cons (se_ix (hu1 hr) (sv 4) (se_int) (fun _ _ => rfl)) (sa_nil) rfl) ⟨rfl, rfl⟩) (se_globI T.g_LONGEST_NAME rfl (by decide)) rfl)) (ss_one (ss_raiseB T.eb_BadHead rfl tk rfl (by decide))) (ss_nil))
  (ss_one (ss_ret (se_tup (sa_cons (se_tup (sa_cons (se_ix (hu1 hr) (sv 4) (se_int) (fun _ _ => rfl)) (sa_cons (se_ix (hu1 hr) (sv 5) (se_int) (fun _ _ => rfl)) (sa_nil) rfl) rfl)) (sa_cons (se_ix (hu1 hr) (sv 5) (se_int) (fun _ _ => rfl)) (sa_nil) rfl) rfl))))))) (ss_nil))
  (ss_cons (ss_if (st_w (sw_or (st_gt  (sv 3) (se_globI T.g_FRESH rfl (by decide))) (sw_or (st_ge  (se_add (sv 2) (se_int)) (se_len T.std rfl (sa_cons (sv 1) (sa_nil) rfl) ⟨rfl, rfl⟩)) (sw_or1 (st_ge  (se_ix (hu1 hr) (sv 1) (se_add (sv 2) (se_int)) (fun _ _ => rfl)) (se_len T.std rfl (sa_cons (se_fld ⟨T.cl_Shelf, T.n_Shelf_pairs⟩ (sv 0) rfl) (sa_nil) rfl) ⟨rfl, rfl⟩)))))) (ss_one (ss_raiseB T.eb_BadHead rfl tk rfl (by decide))) (ss_nil))
  (ss_cons (ss_set (i := 6) sc_pair_at.nd rfl (.inl rfl) freeS.none (se_ix (hu1 hr) (se_fld ⟨T.cl_Shelf, T.n_Shelf_pairs⟩ (sv 0) rfl) (se_ix (hu1 hr) (sv 1) (se_add (sv 2) (se_int)) (fun _ _ => rfl)) (fun _ _ => rfl)) rfl (by first | exact .inl rfl | exact .inr rfl))
  (ss_cons (ss_if (st_eq (hu64 hr) (sv 3) (se_globI T.g_WHOLE rfl (by decide))) (ss_one (ss_ret (se_tup (sa_cons (sv 6) (sa_cons (se_add (sv 2) (se_int)) (sa_nil) rfl) rfl)))) (ss_nil))
  (ss_cons (ss_set (i := 5) sc_pair_at.nd rfl (.inl rfl) freeS.none (se_call (ok_text_at T) (hr.mono (by decide)) tk rfl (by decide) (sa_cons (sv 1) (sa_cons (se_add (sv 2) (se_int)) (sa_nil) rfl) rfl) ⟨rfl, rfl⟩) rfl (by first | exact .inl rfl | exact .inr rfl))
  (ss_one (ss_ret (se_tup (sa_cons (se_tup (sa_cons (se_ix (hu1 hr) (sv 6) (se_int) (fun _ _ => rfl)) (sa_cons (se_ix (hu1 hr) (sv 5) (se_int) (fun _ _ => rfl)) (sa_nil) rfl) rfl)) (sa_cons (se_ix (hu1 hr) (sv 5) (se_int) (fun _ _ => rfl)) (sa_nil) rfl) rfl)))))))))
theorem ok_pair_at (T : Txt K mg ca) : FnS P w K mg base ca 2 "pair_at" m_pair_at := fn_def T.d_pair_at sc_pair_at rfl (by decide) (body_pair_at T)
theorem sc_read_head : FnScope N_read_head ["shelf", "numbers"] (defScope s_read_head) := ⟨rfl, rfl, rfl, by decide +kernel, rfl, by decide +kernel, by decide +kernel⟩
theorem body_read_head (T : Txt K mg ca) : BodyOk P w K mg base ca N_read_head "read_head" s_read_head 2 b_read_head := fun f cdv A outer s H E hr tk =>
  ss_cons (ss_set (i := 2) sc_read_head.nd rfl (.inl rfl) freeS.none (se_lstR (sa_nil)) rfl (by first | exact .inl rfl | exact .inr rfl))
  (ss_cons (ss_set (i := 3) sc_read_head.nd rfl (.inl rfl) freeS.none (se_int) rfl (by first | exact .inl rfl | exact .inr rfl))
  (ss_cons (ss_while (passes_of rfl) (st_lt (hu0 hr) (sv 3) (se_len T.std rfl (sa_cons (sv 1) (sa_nil) rfl) ⟨rfl, rfl⟩)) (ss_cons (ss_set (i := 4) sc_read_head.nd rfl (.inl rfl) freeS.none (se_call (ok_pair_at T) (hr.mono (by decide)) tk rfl (by decide) (sa_cons (sv 0) (sa_cons (sv 1) (sa_cons (sv 3) (sa_nil) rfl) rfl) rfl) ⟨rfl, rfl⟩) rfl (by first | exact .inl rfl | exact .inr rfl))
  (ss_cons (ss_if (st_ne (hu64 hr) (se_ix (hu1 hr) (sv 1) (sv 3) (fun _ _ => rfl)) (se_globI T.g_WHOLE rfl (by decide))) (ss_one (ss_drop (se_meth (ok_Shelf_put T) (hr.mono (by decide)) tk (sv 0) (sa_cons (se_ix (hu1 hr) (sv 4) (se_int) (fun _ _ => rfl)) (sa_nil) rfl) ⟨rfl, rfl⟩ ⟨⟨_, rfl⟩⟩) rfl)) (ss_nil))
  (ss_cons (ss_drop (se_append (sv 2) (sa_cons (se_ix (hu1 hr) (sv 4) (se_int) (fun _ _ => rfl)) (sa_nil) rfl) ⟨rfl, rfl, rfl⟩ ⟨rfl, rfl⟩) rfl)
  (ss_one (ss_set (i := 3) sc_read_head.nd rfl (.inl rfl) freeS.none (se_ix (hu1 hr) (sv 4) (se_int) (fun _ _ => rfl)) rfl (by first | exact .inl rfl | exact .inr rfl)))))))
  (ss_cons (ss_if (st_gt  (se_len T.std rfl (sa_cons (sv 2) (sa_nil) rfl) ⟨rfl, rfl⟩) (se_globI T.g_MOST_PAIRS rfl (by decide))) (ss_one (ss_raiseB T.eb_BadHead rfl tk rfl (by decide))) (ss_nil))
  (ss_one (ss_ret (sv 2))))))
theorem ok_read_head (T : Txt K mg ca) : FnS P w K mg base ca 3 "read_head" m_read_head := fn_def T.d_read_head sc_read_head rfl (by decide) (body_read_head T)
theorem sc_Talk_init : FnScope N_Talk_init ["self", "number", "credit"] (defScope s_Talk_init) := ⟨rfl, rfl, rfl, by decide +kernel, rfl, by decide +kernel, by decide +kernel⟩
theorem body_Talk_init (T : Txt K mg ca) : BodyOk P w K mg base ca N_Talk_init "Talk.__init__" s_Talk_init 0 b_Talk_init := fun f cdv A outer s H E hr tk =>
  ss_cons (ss_fld ⟨T.cl_Talk, T.n_Talk_number⟩ (sv 0) (sv 1) rfl)
  (ss_cons (ss_fld ⟨T.cl_Talk, T.n_Talk_may⟩ (sv 0) (sv 2) rfl)
  (ss_cons (ss_fld ⟨T.cl_Talk, T.n_Talk_gives⟩ (sv 0) (sv 2) rfl)
  (ss_cons (ss_fld ⟨T.cl_Talk, T.n_Talk_said_head⟩ (sv 0) (se_bl) rfl)
  (ss_cons (ss_fld ⟨T.cl_Talk, T.n_Talk_heard_head⟩ (sv 0) (se_bl) rfl)
  (ss_cons (ss_fld ⟨T.cl_Talk, T.n_Talk_said_end⟩ (sv 0) (se_bl) rfl)
  (ss_cons (ss_fld ⟨T.cl_Talk, T.n_Talk_heard_end⟩ (sv 0) (se_bl) rfl)
  (ss_cons (ss_fld ⟨T.cl_Talk, T.n_Talk_shut_here⟩ (sv 0) (se_bl) rfl)
  (ss_cons (ss_fld ⟨T.cl_Talk, T.n_Talk_shut_there⟩ (sv 0) (se_bl) rfl)
  (ss_cons (ss_fld ⟨T.cl_Talk, T.n_Talk_rank⟩ (sv 0) (se_globI T.g_MIDDLE_RANK rfl (by decide)) rfl)
  (ss_cons (ss_fld ⟨T.cl_Talk, T.n_Talk_served⟩ (sv 0) (se_int) rfl)
  (ss_cons (ss_fld ⟨T.cl_Talk, T.n_Talk_waits⟩ (sv 0) (se_lst (sa_nil)) rfl)
  (ss_one (ss_fld ⟨T.cl_Talk, T.n_Talk_ends_behind⟩ (sv 0) (se_bl) rfl)))))))))))))
theorem ok_Talk_init (T : Txt K mg ca) : MkS P w K mg base ca 1 6 "Talk" m_Talk_init := fn_mak T.d_Talk_init sc_Talk_init rfl (by decide) (body_Talk_init T)
theorem sc_Talk_is_shut : FnScope N_Talk_is_shut ["self"] (defScope s_Talk_is_shut) := ⟨rfl, rfl, rfl, by decide +kernel, rfl, by decide +kernel, by decide +kernel⟩
theorem body_Talk_is_shut (T : Txt K mg ca) : BodyOk P w K mg base ca N_Talk_is_shut "Talk.is_shut" s_Talk_is_shut 0 b_Talk_is_shut := fun f cdv A outer s H E hr tk =>
  ss_one (ss_ret (se_or (se_fld ⟨T.cl_Talk, T.n_Talk_shut_here⟩ (sv 0) rfl) (se_one (se_fld ⟨T.cl_Talk, T.n_Talk_shut_there⟩ (sv 0) rfl))))
theorem ok_Talk_is_shut (T : Txt K mg ca) : MeS P w K mg base ca 1 6 "is_shut" m_Talk_is_shut := fn_met T.cl_Talk T.d_Talk_is_shut sc_Talk_is_shut rfl (by decide) (body_Talk_is_shut T)
theorem sc_Talk_drop : FnScope N_Talk_drop ["self"] (defScope s_Talk_drop) := ⟨rfl, rfl, rfl, by decide +kernel, rfl, by decide +kernel, by decide +kernel⟩
theorem body_Talk_drop (T : Txt K mg ca) : BodyOk P w K mg base ca N_Talk_drop "Talk.drop" s_Talk_drop 0 b_Talk_drop := fun f cdv A outer s H E hr tk =>
  ss_cons (ss_fld ⟨T.cl_Talk, T.n_Talk_waits⟩ (sv 0) (se_lst (sa_nil)) rfl)
  (ss_one (ss_fld ⟨T.cl_Talk, T.n_Talk_ends_behind⟩ (sv 0) (se_bl) rfl))
theorem ok_Talk_drop (T : Txt K mg ca) : MeS P w K mg base ca 1 6 "drop" m_Talk_drop := fn_met T.cl_Talk T.d_Talk_drop sc_Talk_drop rfl (by decide) (body_Talk_drop T)
theorem sc_Talk_can_send : FnScope N_Talk_can_send ["self", "line"] (defScope s_Talk_can_send) := ⟨rfl, rfl, rfl, by decide +kernel, rfl, by decide +kernel, by decide +kernel⟩
theorem body_Talk_can_send (T : Txt K mg ca) : BodyOk P w K mg base ca N_Talk_can_send "Talk.can_send" s_Talk_can_send 1 b_Talk_can_send := fun f cdv A outer s H E hr tk =>
  ss_cons (ss_if (st_w (sw_or (st_val (se_meth0 (ok_Talk_is_shut T) (hr.mono (by decide)) tk (sv 0) ⟨⟨_, rfl⟩⟩) (by intro _; rfl)) (sw_or1 (st_val (se_fld ⟨T.cl_Talk, T.n_Talk_said_end⟩ (sv 0) rfl) (by intro _; rfl))))) (ss_one (ss_ret (se_bl))) (ss_nil))
  (ss_cons (ss_if (st_eq (hu64 hr) (se_fld ⟨T.cl_Talk, T.n_Talk_waits⟩ (sv 0) rfl) (se_lst (sa_nil))) (ss_one (ss_ret (se_fld ⟨T.cl_Talk, T.n_Talk_ends_behind⟩ (sv 0) rfl))) (ss_nil))
  (ss_one (ss_ret (se_and (se_gt  (se_fld ⟨T.cl_Talk, T.n_Talk_may⟩ (sv 0) rfl) (se_int)) (se_one (se_gt  (se_fld ⟨T.cl_Talk, T.n_Talk_may⟩ (sv 1) rfl) (se_int)))))))
theorem ok_Talk_can_send (T : Txt K mg ca) : MeS P w K mg base ca 2 6 "can_send" m_Talk_can_send := fn_met T.cl_Talk T.d_Talk_can_send sc_Talk_can_send rfl (by decide) (body_Talk_can_send T)
theorem sc_why_form : FnScope N_why_form ["frame"] (defScope s_why_form) := ⟨rfl, rfl, rfl, by decide +kernel, rfl, by decide +kernel, by decide +kernel⟩
theorem body_why_form (T : Txt K mg ca) : BodyOk P w K mg base ca N_why_form "why_form" s_why_form 0 b_why_form := fun f cdv A outer s H E hr tk =>
  ss_cons (ss_if (st_not (st_lele  (se_globI T.g_HEAD rfl (by decide)) (se_fld ⟨T.cl_Frame, T.n_Frame_kind⟩ (sv 0) rfl) (se_globI T.g_AWAY rfl (by decide)) rfl)) (ss_one (ss_ret (se_str))) (ss_nil))
  (ss_cons (ss_set (i := 1) sc_why_form.nd rfl (.inl rfl) freeS.none (se_len T.std rfl (sa_cons (se_fld ⟨T.cl_Frame, T.n_Frame_numbers⟩ (sv 0) rfl) (sa_nil) rfl) ⟨rfl, rfl⟩) rfl (by first | exact .inl rfl | exact .inr rfl))
  (ss_cons (ss_if (st_w (sw_or (st_gt  (sv 1) (se_globI T.g_MOST_SIZE rfl (by decide))) (sw_or1 (st_ne (hu64 hr) (sv 1) (se_getK T.k_SIZES rfl (by decide) (se_fld ⟨T.cl_Frame, T.n_Frame_kind⟩ (sv 0) rfl) (sv 1) ⟨rfl, rfl, rfl, rfl⟩))))) (ss_one (ss_ret (se_str))) (ss_nil))
  (ss_cons (ss_if (st_w (sw_or (st_gt  (se_fld ⟨T.cl_Frame, T.n_Frame_flag⟩ (sv 0) rfl) (se_int)) (sw_or1 (st_w (sw_and (st_eq (hu64 hr) (se_fld ⟨T.cl_Frame, T.n_Frame_flag⟩ (sv 0) rfl) (se_int)) (sw_and1 (st_inK T.k_SIZES rfl (by decide) (se_fld ⟨T.cl_Frame, T.n_Frame_kind⟩ (sv 0) rfl)))))))) (ss_one (ss_ret (se_str))) (ss_nil))
  (ss_one (ss_ret (se_str))))))
theorem ok_why_form (T : Txt K mg ca) : FnS P w K mg base ca 1 "why_form" m_why_form := fn_def T.d_why_form sc_why_form rfl (by decide) (body_why_form T)
theorem sc_amount_of : FnScope N_amount_of ["frame"] (defScope s_amount_of) := ⟨rfl, rfl, rfl, by decide +kernel, rfl, by decide +kernel, by decide +kernel⟩
theorem body_amount_of (T : Txt K mg ca) : BodyOk P w K mg base ca N_amount_of "amount_of" s_amount_of 0 b_amount_of := fun f cdv A outer s H E hr tk =>
  ss_one (ss_ret (se_add (se_mul (se_int) (se_ix (hu1 hr) (se_fld ⟨T.cl_Frame, T.n_Frame_numbers⟩ (sv 0) rfl) (se_int) (fun _ _ => rfl))) (se_ix (hu1 hr) (se_fld ⟨T.cl_Frame, T.n_Frame_numbers⟩ (sv 0) rfl) (se_int) (fun _ _ => rfl))))
theorem ok_amount_of (T : Txt K mg ca) : FnS P w K mg base ca 1 "amount_of" m_amount_of := fn_def T.d_amount_of sc_amount_of rfl (by decide) (body_amount_of T)
theorem sc_is_new : FnScope N_is_new ["end", "frame"] (defScope s_is_new) := ⟨rfl, rfl, rfl, by decide +kernel, rfl, by decide +kernel, by decide +kernel⟩
theorem body_is_new (T : Txt K mg ca) : BodyOk P w K mg base ca N_is_new "is_new" s_is_new 0 b_is_new := fun f cdv A outer s H E hr tk =>
  ss_cons (ss_if (st_w (sw_or (st_ne (hu64 hr) (se_fld ⟨T.cl_Frame, T.n_Frame_kind⟩ (sv 1) rfl) (se_globI T.g_HEAD rfl (by decide))) (sw_or (st_in (hu65 hr) (se_fld ⟨T.cl_Frame, T.n_Frame_talk⟩ (sv 1) rfl) (se_fld ⟨T.cl_End, T.n_End_talks⟩ (sv 0) rfl) rfl) (sw_or1 (st_not (st_lele  (se_int) (se_fld ⟨T.cl_Frame, T.n_Frame_talk⟩ (sv 1) rfl) (se_globI T.g_MOST_TALK rfl (by decide)) rfl)))))) (ss_one (ss_ret (se_bl))) (ss_nil))
  (ss_one (ss_ret (se_and (se_eq (hu64 hr) (se_mod (se_add (se_fld ⟨T.cl_Frame, T.n_Frame_talk⟩ (sv 1) rfl) (se_fld ⟨T.cl_End, T.n_End_side⟩ (sv 0) rfl)) (se_int)) (se_int)) (se_one (se_gt  (se_fld ⟨T.cl_Frame, T.n_Frame_talk⟩ (sv 1) rfl) (se_fld ⟨T.cl_End, T.n_End_theirs⟩ (sv 0) rfl))))))
theorem ok_is_new (T : Txt K mg ca) : FnS P w K mg base ca 1 "is_new" m_is_new := fn_def T.d_is_new sc_is_new rfl (by decide) (body_is_new T)
theorem sc_why_number : FnScope N_why_number ["end", "frame"] (defScope s_why_number) := ⟨rfl, rfl, rfl, by decide +kernel, rfl, by decide +kernel, by decide +kernel⟩
theorem body_why_number (T : Txt K mg ca) : BodyOk P w K mg base ca N_why_number "why_number" s_why_number 1 b_why_number := fun f cdv A outer s H E hr tk =>
  ss_cons (ss_if (st_eq (hu64 hr) (se_fld ⟨T.cl_Frame, T.n_Frame_kind⟩ (sv 1) rfl) (se_globI T.g_AWAY rfl (by decide))) (ss_cons (ss_set (i := 2) sc_why_number.nd rfl (.inl rfl) freeS.none (se_ix (hu1 hr) (se_fld ⟨T.cl_Frame, T.n_Frame_numbers⟩ (sv 1) rfl) (se_int) (fun _ _ => rfl)) rfl (by first | exact .inl rfl | exact .inr rfl))
  (ss_cons (ss_if (st_w (sw_or (st_ne (hu64 hr) (se_fld ⟨T.cl_Frame, T.n_Frame_talk⟩ (sv 1) rfl) (se_int)) (sw_or (st_gt  (sv 2) (se_fld ⟨T.cl_End, T.n_End_mine⟩ (sv 0) rfl)) (sw_or1 (st_w (sw_and (st_gt  (sv 2) (se_int)) (sw_and1 (st_eq (hu64 hr) (se_mod (se_add (sv 2) (se_fld ⟨T.cl_End, T.n_End_side⟩ (sv 0) rfl)) (se_int)) (se_int))))))))) (ss_one (ss_ret (se_str))) (ss_nil))
  (ss_one (ss_ret (se_str))))) (ss_nil))
  (ss_cons (ss_if (st_w (sw_or (st_w (sw_and (st_eq (hu64 hr) (se_fld ⟨T.cl_Frame, T.n_Frame_talk⟩ (sv 1) rfl) (se_int)) (sw_and1 (st_eq (hu64 hr) (se_fld ⟨T.cl_Frame, T.n_Frame_kind⟩ (sv 1) rfl) (se_globI T.g_CREDIT rfl (by decide)))))) (sw_or (st_in (hu65 hr) (se_fld ⟨T.cl_Frame, T.n_Frame_talk⟩ (sv 1) rfl) (se_fld ⟨T.cl_End, T.n_End_talks⟩ (sv 0) rfl) rfl) (sw_or1 (st_val (se_call (ok_is_new T) (hr.mono (by decide)) tk rfl (by decide) (sa_cons (sv 0) (sa_cons (sv 1) (sa_nil) rfl) rfl) ⟨rfl, rfl⟩) (by intro _; rfl)))))) (ss_one (ss_ret (se_str))) (ss_nil))
  (ss_one (ss_ret (se_str))))
theorem ok_why_number (T : Txt K mg ca) : FnS P w K mg base ca 2 "why_number" m_why_number := fn_def T.d_why_number sc_why_number rfl (by decide) (body_why_number T)
theorem sc_why_body : FnScope N_why_body ["end", "talk", "frame"] (defScope s_why_body) := ⟨rfl, rfl, rfl, by decide +kernel, rfl, by decide +kernel, by decide +kernel⟩
theorem body_why_body (T : Txt K mg ca) : BodyOk P w K mg base ca N_why_body "why_body" s_why_body 0 b_why_body := fun f cdv A outer s H E hr tk =>
  ss_cons (ss_set (i := 3) sc_why_body.nd rfl (.inl rfl) freeS.none (se_len T.std rfl (sa_cons (se_fld ⟨T.cl_Frame, T.n_Frame_numbers⟩ (sv 2) rfl) (sa_nil) rfl) ⟨rfl, rfl⟩) rfl (by first | exact .inl rfl | exact .inr rfl))
  (ss_cons (ss_if (st_not (st_val (se_fld ⟨T.cl_Talk, T.n_Talk_shut_here⟩ (sv 1) rfl) (by intro _; rfl))) (ss_cons (ss_if (st_not (st_val (se_fld ⟨T.cl_Talk, T.n_Talk_heard_head⟩ (sv 1) rfl) (by intro _; rfl))) (ss_one (ss_ret (se_str))) (ss_nil))
  (ss_cons (ss_if (st_val (se_fld ⟨T.cl_Talk, T.n_Talk_heard_end⟩ (sv 1) rfl) (by intro _; rfl)) (ss_one (ss_ret (se_str))) (ss_nil))
  (ss_one (ss_if (st_gt  (sv 3) (se_fld ⟨T.cl_Talk, T.n_Talk_gives⟩ (sv 1) rfl)) (ss_one (ss_ret (se_str))) (ss_nil))))) (ss_nil))
  (ss_cons (ss_if (st_gt  (sv 3) (se_fld ⟨T.cl_Talk, T.n_Talk_gives⟩ (se_fld ⟨T.cl_End, T.n_End_line⟩ (sv 0) rfl) rfl)) (ss_one (ss_ret (se_str))) (ss_nil))
  (ss_one (ss_ret (se_str)))))
theorem ok_why_body (T : Txt K mg ca) : FnS P w K mg base ca 1 "why_body" m_why_body := fn_def T.d_why_body sc_why_body rfl (by decide) (body_why_body T)
theorem sc_why_talk : FnScope N_why_talk ["end", "frame"] (defScope s_why_talk) := ⟨rfl, rfl, rfl, by decide +kernel, rfl, by decide +kernel, by decide +kernel⟩
theorem body_why_talk (T : Txt K mg ca) : BodyOk P w K mg base ca N_why_talk "why_talk" s_why_talk 1 b_why_talk := fun f cdv A outer s H E hr tk =>
  ss_cons (ss_if (st_eq (hu64 hr) (se_fld ⟨T.cl_Frame, T.n_Frame_kind⟩ (sv 1) rfl) (se_globI T.g_AWAY rfl (by decide))) (ss_cons (ss_if (st_isNot  (se_fld ⟨T.cl_End, T.n_End_away_at⟩ (sv 0) rfl) (se_non)) (ss_one (ss_ret (se_str))) (ss_nil))
  (ss_one (ss_ret (se_str)))) (ss_nil))
  (ss_cons (ss_set (i := 2) sc_why_talk.nd rfl (.inl rfl) freeS.none (se_fld ⟨T.cl_End, T.n_End_line⟩ (sv 0) rfl) rfl (by first | exact .inl rfl | exact .inr rfl))
  (ss_cons (ss_if (st_gt  (se_fld ⟨T.cl_Frame, T.n_Frame_talk⟩ (sv 1) rfl) (se_int)) (ss_one (ss_set (i := 2) sc_why_talk.nd rfl (.inl rfl) freeS.none (se_get1 (hu1 hr) (se_fld ⟨T.cl_End, T.n_End_talks⟩ (sv 0) rfl) (se_fld ⟨T.cl_Frame, T.n_Frame_talk⟩ (sv 1) rfl) ⟨rfl, rfl, rfl, rfl⟩) rfl (by first | exact .inl rfl | exact .inr rfl))) (ss_nil))
  (ss_cons (ss_if (st_is  (sv 2) (se_non)) (ss_one (ss_ret (se_str))) (ss_nil))
  (ss_cons (ss_if (st_val (se_fld ⟨T.cl_Talk, T.n_Talk_shut_there⟩ (sv 2) rfl) (by intro _; rfl)) (ss_one (ss_ret (se_str))) (ss_nil))
  (ss_cons (ss_if (st_eq (hu64 hr) (se_fld ⟨T.cl_Frame, T.n_Frame_kind⟩ (sv 1) rfl) (se_globI T.g_BODY rfl (by decide))) (ss_one (ss_ret (se_call (ok_why_body T) (hr.mono (by decide)) tk rfl (by decide) (sa_cons (sv 0) (sa_cons (sv 2) (sa_cons (sv 1) (sa_nil) rfl) rfl) rfl) ⟨rfl, rfl⟩))) (ss_nil))
  (ss_cons (ss_if (st_val (se_fld ⟨T.cl_Talk, T.n_Talk_shut_here⟩ (sv 2) rfl) (by intro _; rfl)) (ss_one (ss_ret (se_str))) (ss_nil))
  (ss_cons (ss_if (st_w (sw_and (st_eq (hu64 hr) (se_fld ⟨T.cl_Frame, T.n_Frame_kind⟩ (sv 1) rfl) (se_globI T.g_HEAD rfl (by decide))) (sw_and1 (st_val (se_fld ⟨T.cl_Talk, T.n_Talk_heard_head⟩ (sv 2) rfl) (by intro _; rfl))))) (ss_one (ss_ret (se_str))) (ss_nil))
  (ss_cons (ss_if (st_w (sw_and (st_eq (hu64 hr) (se_fld ⟨T.cl_Frame, T.n_Frame_kind⟩ (sv 1) rfl) (se_globI T.g_CREDIT rfl (by decide))) (sw_and1 (st_w (sw_or (st_eq (hu64 hr) (se_call (ok_amount_of T) (hr.mono (by decide)) tk rfl (by decide) (sa_cons (sv 1) (sa_nil) rfl) ⟨rfl, rfl⟩) (se_int)) (sw_or1 (st_gt  (se_add (se_fld ⟨T.cl_Talk, T.n_Talk_may⟩ (sv 2) rfl) (se_call (ok_amount_of T) (hr.mono (by decide)) tk rfl (by decide) (sa_cons (sv 1) (sa_nil) rfl) ⟨rfl, rfl⟩)) (se_globI T.g_MOST_CREDIT rfl (by decide))))))))) (ss_one (ss_ret (se_str))) (ss_nil))
  (ss_cons (ss_if (st_w (sw_and (st_eq (hu64 hr) (se_fld ⟨T.cl_Frame, T.n_Frame_kind⟩ (sv 1) rfl) (se_globI T.g_RANK rfl (by decide))) (sw_and1 (st_gt  (se_ix (hu1 hr) (se_fld ⟨T.cl_Frame, T.n_Frame_numbers⟩ (sv 1) rfl) (se_int) (fun _ _ => rfl)) (se_globI T.g_MOST_RANK rfl (by decide)))))) (ss_one (ss_ret (se_str))) (ss_nil))
  (ss_one (ss_ret (se_str))))))))))))
theorem ok_why_talk (T : Txt K mg ca) : FnS P w K mg base ca 2 "why_talk" m_why_talk := fn_def T.d_why_talk sc_why_talk rfl (by decide) (body_why_talk T)
theorem sc_why_not : FnScope N_why_not ["end", "frame"] (defScope s_why_not) := ⟨rfl, rfl, rfl, by decide +kernel, rfl, by decide +kernel, by decide +kernel⟩
theorem body_why_not (T : Txt K mg ca) : BodyOk P w K mg base ca N_why_not "why_not" s_why_not 2 b_why_not := fun f cdv A outer s H E hr tk =>
  ss_cons (ss_set (i := 2) sc_why_not.nd rfl (.inl rfl) freeS.none (se_call (ok_why_form T) (hr.mono (by decide)) tk rfl (by decide) (sa_cons (sv 1) (sa_nil) rfl) ⟨rfl, rfl⟩) rfl (by first | exact .inl rfl | exact .inr rfl))
  (ss_cons (ss_if (st_eq (hu64 hr) (sv 2) (se_str)) (ss_one (ss_set (i := 2) sc_why_not.nd rfl (.inl rfl) freeS.none (se_call (ok_why_number T) (hr.mono (by decide)) tk rfl (by decide) (sa_cons (sv 0) (sa_cons (sv 1) (sa_nil) rfl) rfl) ⟨rfl, rfl⟩) rfl (by first | exact .inl rfl | exact .inr rfl))) (ss_nil))
  (ss_cons (ss_if (st_eq (hu64 hr) (sv 2) (se_str)) (ss_one (ss_set (i := 2) sc_why_not.nd rfl (.inl rfl) freeS.none (se_call (ok_why_talk T) (hr.mono (by decide)) tk rfl (by decide) (sa_cons (sv 0) (sa_cons (sv 1) (sa_nil) rfl) rfl) ⟨rfl, rfl⟩) rfl (by first | exact .inl rfl | exact .inr rfl))) (ss_nil))
  (ss_one (ss_ret (sv 2)))))
theorem ok_why_not (T : Txt K mg ca) : FnS P w K mg base ca 3 "why_not" m_why_not := fn_def T.d_why_not sc_why_not rfl (by decide) (body_why_not T)
theorem sc_took_head : FnScope N_took_head ["end", "frame"] (defScope s_took_head) := ⟨rfl, rfl, rfl, by decide +kernel, rfl, by decide +kernel, by decide +kernel⟩
theorem body_took_head (T : Txt K mg ca) : BodyOk P w K mg base ca N_took_head "took_head" s_took_head 3 b_took_head := fun f cdv A outer s H E hr tk =>
  ss_cons (ss_try0 rfl rfl rfl ⟨rfl, by decide, .inl T.gx_BadHead⟩ tk (T.ck_BadHead) (fun _ _ _ t1 t2 => ss_one (ss_set (i := 2) sc_took_head.nd rfl (.inl rfl) freeS.none (se_call (ok_read_head T) (hr.mono (by decide)) t1 rfl (by decide) (sa_cons (se_fld ⟨T.cl_End, T.n_End_heard⟩ (sv 0) rfl) (sa_cons (se_fld ⟨T.cl_Frame, T.n_Frame_numbers⟩ (sv 1) rfl) (sa_nil) rfl) rfl) ⟨rfl, rfl⟩) rfl (by first | exact .inl rfl | exact .inr rfl))) (fun a oe cls d pn hz hf xn => ss_cons (ss_fld ⟨T.cl_End, T.n_End_broken⟩ (sv 0) (se_str) rfl)
  (ss_one (ss_ret (se_lst (sa_cons (se_tup (sa_cons (se_str) (sa_cons (se_str) (sa_nil) rfl) rfl)) (sa_nil) rfl))))))
  (ss_cons (ss_set (i := 3) sc_took_head.nd rfl (.inl rfl) freeS.none (se_str) rfl (by first | exact .inl rfl | exact .inr rfl))
  (ss_cons (ss_set (i := 4) sc_took_head.nd rfl (.inl rfl) freeS.none (se_get1 (hu1 hr) (se_fld ⟨T.cl_End, T.n_End_talks⟩ (sv 0) rfl) (se_fld ⟨T.cl_Frame, T.n_Frame_talk⟩ (sv 1) rfl) ⟨rfl, rfl, rfl, rfl⟩) rfl (by first | exact .inl rfl | exact .inr rfl))
  (ss_cons (ss_if (st_is  (sv 4) (se_non)) (ss_cons (ss_set (i := 3) sc_took_head.nd rfl (.inl rfl) freeS.none (se_str) rfl (by first | exact .inl rfl | exact .inr rfl))
  (ss_cons (ss_set (i := 4) sc_took_head.nd rfl (.inl rfl) freeS.none (se_make (ok_Talk_init T) (hr.mono (by decide)) rfl (by decide) (sa_cons (se_fld ⟨T.cl_Frame, T.n_Frame_talk⟩ (sv 1) rfl) (sa_cons (se_globI T.g_FIRST_CREDIT rfl (by decide)) (sa_nil) rfl) rfl) ⟨rfl, rfl⟩) rfl (by first | exact .inl rfl | exact .inr rfl))
  (ss_cons (ss_fld ⟨T.cl_Talk, T.n_Talk_shut_here⟩ (sv 4) (se_isNot  (se_fld ⟨T.cl_End, T.n_End_left_at⟩ (sv 0) rfl) (se_non)) rfl)
  (ss_cons (ss_put (hu1 hr) (se_fld ⟨T.cl_End, T.n_End_talks⟩ (sv 0) rfl) (se_fld ⟨T.cl_Frame, T.n_Frame_talk⟩ (sv 1) rfl) (sv 4) rfl rfl rfl rfl (fun _ => rfl))
  (ss_one (ss_fld ⟨T.cl_End, T.n_End_theirs⟩ (sv 0) (se_fld ⟨T.cl_Frame, T.n_Frame_talk⟩ (sv 1) rfl) rfl)))))) (ss_nil))
  (ss_cons (ss_if (st_val (se_fld ⟨T.cl_Talk, T.n_Talk_shut_here⟩ (sv 4) rfl) (by intro _; rfl)) (ss_one (ss_ret (se_lst (sa_nil)))) (ss_nil))
  (ss_cons (ss_fld ⟨T.cl_Talk, T.n_Talk_heard_head⟩ (sv 4) (se_bl) rfl)
  (ss_cons (ss_fld ⟨T.cl_Talk, T.n_Talk_heard_end⟩ (sv 4) (se_eq (hu64 hr) (se_fld ⟨T.cl_Frame, T.n_Frame_flag⟩ (sv 1) rfl) (se_int)) rfl)
  (ss_cons (ss_set (i := 5) sc_took_head.nd rfl (.inl rfl) freeS.none (se_lstR (sa_cons (se_tup (sa_cons (sv 3) (sa_cons (se_fld ⟨T.cl_Frame, T.n_Frame_talk⟩ (sv 1) rfl) (sa_cons (sv 2) (sa_nil) rfl) rfl) rfl)) (sa_nil) rfl)) rfl (by first | exact .inl rfl | exact .inr rfl))
  (ss_cons (ss_if (st_val (se_fld ⟨T.cl_Talk, T.n_Talk_heard_end⟩ (sv 4) rfl) (by intro _; rfl)) (ss_one (ss_drop (se_append (sv 5) (sa_cons (se_tup (sa_cons (se_str) (sa_cons (se_fld ⟨T.cl_Frame, T.n_Frame_talk⟩ (sv 1) rfl) (sa_nil) rfl) rfl)) (sa_nil) rfl) ⟨rfl, rfl, rfl⟩ ⟨rfl, rfl⟩) rfl)) (ss_nil))
  (ss_one (ss_ret (sv 5)))))))))))
theorem ok_took_head (T : Txt K mg ca) : FnS P w K mg base ca 4 "took_head" m_took_head := fn_def T.d_took_head sc_took_head rfl (by decide) (body_took_head T)
theorem sc_took_body : FnScope N_took_body ["end", "frame"] (defScope s_took_body) := ⟨rfl, rfl, rfl, by decide +kernel, rfl, by decide +kernel, by decide +kernel⟩
theorem body_took_body (T : Txt K mg ca) : BodyOk P w K mg base ca N_took_body "took_body" s_took_body 0 b_took_body := fun f cdv A outer s H E hr tk =>
  ss_cons (ss_set (i := 2) sc_took_body.nd rfl (.inl rfl) freeS.none (se_ix (hu1 hr) (se_fld ⟨T.cl_End, T.n_End_talks⟩ (sv 0) rfl) (se_fld ⟨T.cl_Frame, T.n_Frame_talk⟩ (sv 1) rfl) (fun _ _ => rfl)) rfl (by first | exact .inl rfl | exact .inr rfl))
  (ss_cons (ss_set (i := 3) sc_took_body.nd rfl (.inl rfl) freeS.none (se_len T.std rfl (sa_cons (se_fld ⟨T.cl_Frame, T.n_Frame_numbers⟩ (sv 1) rfl) (sa_nil) rfl) ⟨rfl, rfl⟩) rfl (by first | exact .inl rfl | exact .inr rfl))
  (ss_cons (ss_fld ⟨T.cl_Talk, T.n_Talk_gives⟩ (se_fld ⟨T.cl_End, T.n_End_line⟩ (sv 0) rfl) (se_sub (se_fld ⟨T.cl_Talk, T.n_Talk_gives⟩ (se_fld ⟨T.cl_End, T.n_End_line⟩ (sv 0) rfl) rfl) (sv 3)) rfl)
  (ss_cons (ss_if (st_val (se_fld ⟨T.cl_Talk, T.n_Talk_shut_here⟩ (sv 2) rfl) (by intro _; rfl)) (ss_one (ss_ret (se_lst (sa_nil)))) (ss_nil))
  (ss_cons (ss_fld ⟨T.cl_Talk, T.n_Talk_gives⟩ (sv 2) (se_sub (se_fld ⟨T.cl_Talk, T.n_Talk_gives⟩ (sv 2) rfl) (sv 3)) rfl)
  (ss_cons (ss_fld ⟨T.cl_Talk, T.n_Talk_heard_end⟩ (sv 2) (se_eq (hu64 hr) (se_fld ⟨T.cl_Frame, T.n_Frame_flag⟩ (sv 1) rfl) (se_int)) rfl)
  (ss_cons (ss_set (i := 4) sc_took_body.nd rfl (.inl rfl) freeS.none (se_lstR (sa_nil)) rfl (by first | exact .inl rfl | exact .inr rfl))
  (ss_cons (ss_if (st_gt  (sv 3) (se_int)) (ss_one (ss_drop (se_append (sv 4) (sa_cons (se_tup (sa_cons (se_str) (sa_cons (se_fld ⟨T.cl_Frame, T.n_Frame_talk⟩ (sv 1) rfl) (sa_cons (se_list T.std rfl (sa_cons (se_fld ⟨T.cl_Frame, T.n_Frame_numbers⟩ (sv 1) rfl) (sa_nil) rfl) ⟨rfl, rfl⟩) (sa_nil) rfl) rfl) rfl)) (sa_nil) rfl) ⟨rfl, rfl, rfl⟩ ⟨rfl, rfl⟩) rfl)) (ss_nil))
  (ss_cons (ss_if (st_val (se_fld ⟨T.cl_Talk, T.n_Talk_heard_end⟩ (sv 2) rfl) (by intro _; rfl)) (ss_one (ss_drop (se_append (sv 4) (sa_cons (se_tup (sa_cons (se_str) (sa_cons (se_fld ⟨T.cl_Frame, T.n_Frame_talk⟩ (sv 1) rfl) (sa_nil) rfl) rfl)) (sa_nil) rfl) ⟨rfl, rfl, rfl⟩ ⟨rfl, rfl⟩) rfl)) (ss_nil))
  (ss_one (ss_ret (sv 4)))))))))))
theorem ok_took_body (T : Txt K mg ca) : FnS P w K mg base ca 1 "took_body" m_took_body := fn_def T.d_took_body sc_took_body rfl (by decide) (body_took_body T)
theorem sc_took_away : FnScope N_took_away ["end", "frame"] (defScope s_took_away) := ⟨rfl, rfl, rfl, by decide +kernel, rfl, by decide +kernel, by decide +kernel⟩
theorem body_took_away (T : Txt K mg ca) : BodyOk P w K mg base ca N_took_away "took_away" s_took_away 1 b_took_away := fun f cdv A outer s H E hr tk =>
  ss_cons (ss_fld ⟨T.cl_End, T.n_End_away_at⟩ (sv 0) (se_ix (hu1 hr) (se_fld ⟨T.cl_Frame, T.n_Frame_numbers⟩ (sv 1) rfl) (se_int) (fun _ _ => rfl)) rfl)
  (ss_cons (ss_for (tgd := .one 2) (passes_of rfl) rfl (tg_one freeS.none) (pg_name (i := 2) sc_took_away.nd rfl (.inl rfl)) (si_r2 T.std.range rfl (se_add (se_fld ⟨T.cl_End, T.n_End_away_at⟩ (sv 0) rfl) (se_int)) (se_add (se_fld ⟨T.cl_End, T.n_End_mine⟩ (sv 0) rfl) (se_int)) rfl rfl rfl rfl) (ss_cons (ss_set (i := 3) sc_took_away.nd rfl (.inl rfl) freeS.none (se_get1 (hu1 hr) (se_fld ⟨T.cl_End, T.n_End_talks⟩ (sv 0) rfl) (sv 2) ⟨rfl, rfl, rfl, rfl⟩) rfl (by first | exact .inl rfl | exact .inr rfl))
  (ss_one (ss_if (st_w (sw_and (st_isNot  (sv 3) (se_non)) (sw_and1 (st_eq (hu64 hr) (se_mod (se_add (sv 2) (se_fld ⟨T.cl_End, T.n_End_side⟩ (sv 0) rfl)) (se_int)) (se_int))))) (ss_cons (ss_fld ⟨T.cl_Talk, T.n_Talk_shut_there⟩ (sv 3) (se_bl) rfl)
  (ss_one (ss_drop (se_meth0 (ok_Talk_drop T) (hr.mono (by decide)) tk (sv 3) ⟨⟨_, rfl⟩⟩) rfl))) (ss_nil)))) (fun _ => rfl))
  (ss_one (ss_ret (se_lst (sa_cons (se_tup (sa_cons (se_str) (sa_cons (se_fld ⟨T.cl_End, T.n_End_away_at⟩ (sv 0) rfl) (sa_nil) rfl) rfl)) (sa_nil) rfl)))))
theorem ok_took_away (T : Txt K mg ca) : FnS P w K mg base ca 2 "took_away" m_took_away := fn_def T.d_took_away sc_took_away rfl (by decide) (body_took_away T)
theorem sc_took_other : FnScope N_took_other ["end", "frame"] (defScope s_took_other) := ⟨rfl, rfl, rfl, by decide +kernel, rfl, by decide +kernel, by decide +kernel⟩
theorem body_took_other (T : Txt K mg ca) : BodyOk P w K mg base ca N_took_other "took_other" s_took_other 1 b_took_other := fun f cdv A outer s H E hr tk =>
  ss_cons (ss_set (i := 2) sc_took_other.nd rfl (.inl rfl) freeS.none (se_fld ⟨T.cl_End, T.n_End_line⟩ (sv 0) rfl) rfl (by first | exact .inl rfl | exact .inr rfl))
  (ss_cons (ss_if (st_gt  (se_fld ⟨T.cl_Frame, T.n_Frame_talk⟩ (sv 1) rfl) (se_int)) (ss_one (ss_set (i := 2) sc_took_other.nd rfl (.inl rfl) freeS.none (se_ix (hu1 hr) (se_fld ⟨T.cl_End, T.n_End_talks⟩ (sv 0) rfl) (se_fld ⟨T.cl_Frame, T.n_Frame_talk⟩ (sv 1) rfl) (fun _ _ => rfl)) rfl (by first | exact .inl rfl | exact .inr rfl))) (ss_nil))
  (ss_cons (ss_set (i := 3) sc_took_other.nd rfl (.inl rfl) freeS.none (se_fld ⟨T.cl_Talk, T.n_Talk_shut_here⟩ (sv 2) rfl) rfl (by first | exact .inl rfl | exact .inr rfl))
  (ss_cons (ss_if (st_eq (hu64 hr) (se_fld ⟨T.cl_Frame, T.n_Frame_kind⟩ (sv 1) rfl) (se_globI T.g_RESET rfl (by decide))) (ss_cons (ss_fld ⟨T.cl_Talk, T.n_Talk_shut_there⟩ (sv 2) (se_bl) rfl)
  (ss_one (ss_drop (se_meth0 (ok_Talk_drop T) (hr.mono (by decide)) tk (sv 2) ⟨⟨_, rfl⟩⟩) rfl))) (ss_nil))
  (ss_cons (ss_if (st_val (sv 3) (by intro _; rfl)) (ss_one (ss_ret (se_lst (sa_nil)))) (ss_nil))
  (ss_cons (ss_if (st_eq (hu64 hr) (se_fld ⟨T.cl_Frame, T.n_Frame_kind⟩ (sv 1) rfl) (se_globI T.g_RESET rfl (by decide))) (ss_one (ss_ret (se_lst (sa_cons (se_tup (sa_cons (se_str) (sa_cons (se_fld ⟨T.cl_Frame, T.n_Frame_talk⟩ (sv 1) rfl) (sa_cons (se_ix (hu1 hr) (se_fld ⟨T.cl_Frame, T.n_Frame_numbers⟩ (sv 1) rfl) (se_int) (fun _ _ => rfl)) (sa_nil) rfl) rfl) rfl)) (sa_nil) rfl)))) (ss_nil))
  (ss_cons (ss_if (st_eq (hu64 hr) (se_fld ⟨T.cl_Frame, T.n_Frame_kind⟩ (sv 1) rfl) (se_globI T.g_RANK rfl (by decide))) (ss_cons (ss_fld ⟨T.cl_Talk, T.n_Talk_rank⟩ (sv 2) (se_ix (hu1 hr) (se_fld ⟨T.cl_Frame, T.n_Frame_numbers⟩ (sv 1) rfl) (se_int) (fun _ _ => rfl)) rfl)
  (ss_one (ss_ret (se_lst (sa_cons (se_tup (sa_cons (se_str) (sa_cons (se_fld ⟨T.cl_Frame, T.n_Frame_talk⟩ (sv 1) rfl) (sa_cons (se_fld ⟨T.cl_Talk, T.n_Talk_rank⟩ (sv 2) rfl) (sa_nil) rfl) rfl) rfl)) (sa_nil) rfl))))) (ss_nil))
  (ss_cons (ss_fld ⟨T.cl_Talk, T.n_Talk_may⟩ (sv 2) (se_add (se_fld ⟨T.cl_Talk, T.n_Talk_may⟩ (sv 2) rfl) (se_call (ok_amount_of T) (hr.mono (by decide)) tk rfl (by decide) (sa_cons (sv 1) (sa_nil) rfl) ⟨rfl, rfl⟩)) rfl)
  (ss_one (ss_ret (se_lst (sa_cons (se_tup (sa_cons (se_str) (sa_cons (se_fld ⟨T.cl_Frame, T.n_Frame_talk⟩ (sv 1) rfl) (sa_cons (se_call (ok_amount_of T) (hr.mono (by decide)) tk rfl (by decide) (sa_cons (sv 1) (sa_nil) rfl) ⟨rfl, rfl⟩) (sa_nil) rfl) rfl) rfl)) (sa_nil) rfl)))))))))))
theorem ok_took_other (T : Txt K mg ca) : FnS P w K mg base ca 2 "took_other" m_took_other := fn_def T.d_took_other sc_took_other rfl (by decide) (body_took_other T)
theorem sc_took : FnScope N_took ["end", "frame"] (defScope s_took) := ⟨rfl, rfl, rfl, by decide +kernel, rfl, by decide +kernel, by decide +kernel⟩
theorem body_took (T : Txt K mg ca) : BodyOk P w K mg base ca N_took "took" s_took 4 b_took := fun f cdv A outer s H E hr tk =>
  ss_cons (ss_set (i := 2) sc_took.nd rfl (.inl rfl) freeS.none (se_call (ok_why_not T) (hr.mono (by decide)) tk rfl (by decide) (sa_cons (sv 0) (sa_cons (sv 1) (sa_nil) rfl) rfl) ⟨rfl, rfl⟩) rfl (by first | exact .inl rfl | exact .inr rfl))
  (ss_cons (ss_if (st_ne (hu64 hr) (sv 2) (se_str)) (ss_cons (ss_fld ⟨T.cl_End, T.n_End_broken⟩ (sv 0) (sv 2) rfl)
  (ss_one (ss_ret (se_lst (sa_cons (se_tup (sa_cons (se_str) (sa_cons (sv 2) (sa_nil) rfl) rfl)) (sa_nil) rfl))))) (ss_nil))
  (ss_cons (ss_if (st_eq (hu64 hr) (se_fld ⟨T.cl_Frame, T.n_Frame_kind⟩ (sv 1) rfl) (se_globI T.g_HEAD rfl (by decide))) (ss_one (ss_ret (se_call (ok_took_head T) (hr.mono (by decide)) tk rfl (by decide) (sa_cons (sv 0) (sa_cons (sv 1) (sa_nil) rfl) rfl) ⟨rfl, rfl⟩))) (ss_nil))
  (ss_cons (ss_if (st_eq (hu64 hr) (se_fld ⟨T.cl_Frame, T.n_Frame_kind⟩ (sv 1) rfl) (se_globI T.g_BODY rfl (by decide))) (ss_one (ss_ret (se_call (ok_took_body T) (hr.mono (by decide)) tk rfl (by decide) (sa_cons (sv 0) (sa_cons (sv 1) (sa_nil) rfl) rfl) ⟨rfl, rfl⟩))) (ss_nil))
  (ss_cons (ss_if (st_eq (hu64 hr) (se_fld ⟨T.cl_Frame, T.n_Frame_kind⟩ (sv 1) rfl) (se_globI T.g_AWAY rfl (by decide))) (ss_one (ss_ret (se_call (ok_took_away T) (hr.mono (by decide)) tk rfl (by decide) (sa_cons (sv 0) (sa_cons (sv 1) (sa_nil) rfl) rfl) ⟨rfl, rfl⟩))) (ss_nil))
  (ss_one (ss_ret (se_call (ok_took_other T) (hr.mono (by decide)) tk rfl (by decide) (sa_cons (sv 0) (sa_cons (sv 1) (sa_nil) rfl) rfl) ⟨rfl, rfl⟩)))))))
theorem ok_took (T : Txt K mg ca) : FnS P w K mg base ca 5 "took" m_took := fn_def T.d_took sc_took rfl (by decide) (body_took T)
theorem sc_Shelf_init : FnScope N_Shelf_init ["self"] (defScope s_Shelf_init) := ⟨rfl, rfl, rfl, by decide +kernel, rfl, by decide +kernel, by decide +kernel⟩
theorem body_Shelf_init (T : Txt K mg ca) : BodyOk P w K mg base ca N_Shelf_init "Shelf.__init__" s_Shelf_init 0 b_Shelf_init := fun f cdv A outer s H E hr tk =>
  ss_one (ss_fld ⟨T.cl_Shelf, T.n_Shelf_pairs⟩ (sv 0) (se_lst (sa_nil)) rfl)
theorem ok_Shelf_init (T : Txt K mg ca) : MkS P w K mg base ca 1 5 "Shelf" m_Shelf_init := fn_mak T.d_Shelf_init sc_Shelf_init rfl (by decide) (body_Shelf_init T)
theorem sc_End_init : FnScope N_End_init ["self", "side"] (defScope s_End_init) := ⟨rfl, rfl, rfl, by decide +kernel, rfl, by decide +kernel, by decide +kernel⟩
theorem body_End_init (T : Txt K mg ca) : BodyOk P w K mg base ca N_End_init "End.__init__" s_End_init 2 b_End_init := fun f cdv A outer s H E hr tk =>
  ss_cons (ss_fld ⟨T.cl_End, T.n_End_side⟩ (sv 0) (sv 1) rfl)
  (ss_cons (ss_fld ⟨T.cl_End, T.n_End_line⟩ (sv 0) (se_make (ok_Talk_init T) (hr.mono (by decide)) rfl (by decide) (sa_cons (se_int) (sa_cons (se_globI T.g_LINE_CREDIT rfl (by decide)) (sa_nil) rfl) rfl) ⟨rfl, rfl⟩) rfl)
  (ss_cons (ss_fld ⟨T.cl_End, T.n_End_talks⟩ (sv 0) (se_dct0) rfl)
  (ss_cons (ss_fld ⟨T.cl_End, T.n_End_told⟩ (sv 0) (se_make0 (ok_Shelf_init T) (hr.mono (by decide)) rfl (by decide)) rfl)
  (ss_cons (ss_fld ⟨T.cl_End, T.n_End_heard⟩ (sv 0) (se_make0 (ok_Shelf_init T) (hr.mono (by decide)) rfl (by decide)) rfl)
  (ss_cons (ss_fld ⟨T.cl_End, T.n_End_cutter⟩ (sv 0) (se_make0 (ok_Cutter_init T) (hr.mono (by decide)) rfl (by decide)) rfl)
  (ss_cons (ss_fld ⟨T.cl_End, T.n_End_out⟩ (sv 0) (se_lstR (sa_nil)) rfl)
  (ss_cons (ss_fld ⟨T.cl_End, T.n_End_broken⟩ (sv 0) (se_str) rfl)
  (ss_cons (ss_fld ⟨T.cl_End, T.n_End_turns⟩ (sv 0) (se_int) rfl)
  (ss_cons (ss_fld ⟨T.cl_End, T.n_End_mine⟩ (sv 0) (se_int) rfl)
  (ss_cons (ss_fld ⟨T.cl_End, T.n_End_theirs⟩ (sv 0) (se_int) rfl)
  (ss_cons (ss_fld ⟨T.cl_End, T.n_End_left_at⟩ (sv 0) (se_non) rfl)
  (ss_one (ss_fld ⟨T.cl_End, T.n_End_away_at⟩ (sv 0) (se_non) rfl)))))))))))))
theorem ok_End_init (T : Txt K mg ca) : MkS P w K mg base ca 3 7 "End" m_End_init := fn_mak T.d_End_init sc_End_init rfl (by decide) (body_End_init T)
theorem sc_End_known : FnScope N_End_known ["self", "number"] (defScope s_End_known) := ⟨rfl, rfl, rfl, by decide +kernel, rfl, by decide +kernel, by decide +kernel⟩
theorem body_End_known (T : Txt K mg ca) : BodyOk P w K mg base ca N_End_known "End.known" s_End_known 2 b_End_known := fun f cdv A outer s H E hr tk =>
  ss_cons (ss_if (st_ne (hu64 hr) (se_fld ⟨T.cl_End, T.n_End_broken⟩ (sv 0) rfl) (se_str)) (ss_one (ss_raiseN (en_NoDeed T) (hr.mono (by decide)) rfl tk rfl (by decide) (sa_cons (se_str) (sa_nil) rfl) ⟨rfl, rfl⟩)) (ss_nil))
  (ss_cons (ss_if (st_notIn (hu65 hr) (sv 1) (se_fld ⟨T.cl_End, T.n_End_talks⟩ (sv 0) rfl) rfl) (ss_one (ss_raiseN (en_NoDeed T) (hr.mono (by decide)) rfl tk rfl (by decide) (sa_cons (se_str) (sa_nil) rfl) ⟨rfl, rfl⟩)) (ss_nil))
  (ss_one (ss_ret (se_ix (hu1 hr) (se_fld ⟨T.cl_End, T.n_End_talks⟩ (sv 0) rfl) (sv 1) (fun _ _ => rfl)))))
theorem ok_End_known (T : Txt K mg ca) : MeS P w K mg base ca 3 7 "known" m_End_known := fn_met T.cl_End T.d_End_known sc_End_known rfl (by decide) (body_End_known T)
theorem sc_End_unshut : FnScope N_End_unshut ["self", "number"] (defScope s_End_unshut) := ⟨rfl, rfl, rfl, by decide +kernel, rfl, by decide +kernel, by decide +kernel⟩
theorem body_End_unshut (T : Txt K mg ca) : BodyOk P w K mg base ca N_End_unshut "End.unshut" s_End_unshut 3 b_End_unshut := fun f cdv A outer s H E hr tk =>
  ss_cons (ss_set (i := 2) sc_End_unshut.nd rfl (.inl rfl) freeS.none (se_meth (ok_End_known T) (hr.mono (by decide)) tk (sv 0) (sa_cons (sv 1) (sa_nil) rfl) ⟨rfl, rfl⟩ ⟨⟨_, rfl⟩⟩) rfl (by first | exact .inl rfl | exact .inr rfl))
  (ss_cons (ss_if (st_val (se_meth0 (ok_Talk_is_shut T) (hr.mono (by decide)) tk (sv 2) ⟨⟨_, rfl⟩⟩) (by intro _; rfl)) (ss_one (ss_raiseN (en_NoDeed T) (hr.mono (by decide)) rfl tk rfl (by decide) (sa_cons (se_str) (sa_nil) rfl) ⟨rfl, rfl⟩)) (ss_nil))
  (ss_one (ss_ret (sv 2))))
theorem ok_End_unshut (T : Txt K mg ca) : MeS P w K mg base ca 4 7 "unshut" m_End_unshut := fn_met T.cl_End T.d_End_unshut sc_End_unshut rfl (by decide) (body_End_unshut T)
theorem sc_End_put_head : FnScope N_End_put_head ["self", "talk", "head", "last"] (defScope s_End_put_head) := ⟨rfl, rfl, rfl, by decide +kernel, rfl, by decide +kernel, by decide +kernel⟩
theorem body_End_put_head (T : Txt K mg ca) : BodyOk P w K mg base ca N_End_put_head "End.put_head" s_End_put_head 3 b_End_put_head := fun f cdv A outer s H E hr tk =>
  ss_cons (ss_set (i := 4) sc_End_put_head.nd rfl (.inl rfl) freeS.none (se_call (ok_told_head T) (hr.mono (by decide)) tk rfl (by decide) (sa_cons (se_fld ⟨T.cl_End, T.n_End_told⟩ (sv 0) rfl) (sa_cons (sv 2) (sa_nil) rfl) rfl) ⟨rfl, rfl⟩) rfl (by first | exact .inl rfl | exact .inr rfl))
  (ss_cons (ss_drop (se_append (se_fld ⟨T.cl_End, T.n_End_out⟩ (sv 0) rfl) (sa_cons (se_call (ok_framed T) (hr.mono (by decide)) tk rfl (by decide) (sa_cons (se_globI T.g_HEAD rfl (by decide)) (sa_cons (se_intC T.std rfl (sa_cons (sv 3) (sa_nil) rfl) ⟨rfl, rfl⟩) (sa_cons (se_fld ⟨T.cl_Talk, T.n_Talk_number⟩ (sv 1) rfl) (sa_cons (sv 4) (sa_nil) rfl) rfl) rfl) rfl) ⟨rfl, rfl⟩) (sa_nil) rfl) ⟨rfl, rfl, rfl⟩ ⟨rfl, rfl⟩) rfl)
  (ss_cons (ss_fld ⟨T.cl_Talk, T.n_Talk_said_head⟩ (sv 1) (se_bl) rfl)
  (ss_one (ss_fld ⟨T.cl_Talk, T.n_Talk_said_end⟩ (sv 1) (sv 3) rfl))))
theorem ok_End_put_head (T : Txt K mg ca) : MeS P w K mg base ca 4 7 "put_head" m_End_put_head := fn_met T.cl_End T.d_End_put_head sc_End_put_head rfl (by decide) (body_End_put_head T)
theorem sc_End_begin : FnScope N_End_begin ["self", "head", "last"] (defScope s_End_begin) := ⟨rfl, rfl, rfl, by decide +kernel, rfl, by decide +kernel, by decide +kernel⟩
theorem body_End_begin (T : Txt K mg ca) : BodyOk P w K mg base ca N_End_begin "End.begin" s_End_begin 4 b_End_begin := fun f cdv A outer s H E hr tk =>
  ss_cons (ss_if (st_ne (hu64 hr) (se_fld ⟨T.cl_End, T.n_End_broken⟩ (sv 0) rfl) (se_str)) (ss_one (ss_raiseN (en_NoDeed T) (hr.mono (by decide)) rfl tk rfl (by decide) (sa_cons (se_str) (sa_nil) rfl) ⟨rfl, rfl⟩)) (ss_nil))
  (ss_cons (ss_if (st_isNot  (se_fld ⟨T.cl_End, T.n_End_away_at⟩ (sv 0) rfl) (se_non)) (ss_one (ss_raiseN (en_NoDeed T) (hr.mono (by decide)) rfl tk rfl (by decide) (sa_cons (se_str) (sa_nil) rfl) ⟨rfl, rfl⟩)) (ss_nil))
  (ss_cons (ss_set (i := 3) sc_End_begin.nd rfl (.inl rfl) freeS.none (se_add (se_fld ⟨T.cl_End, T.n_End_mine⟩ (sv 0) rfl) (se_int)) rfl (by first | exact .inl rfl | exact .inr rfl))
  (ss_cons (ss_if (st_eq (hu64 hr) (se_fld ⟨T.cl_End, T.n_End_mine⟩ (sv 0) rfl) (se_int)) (ss_one (ss_set (i := 3) sc_End_begin.nd rfl (.inl rfl) freeS.none (se_add (se_int) (se_fld ⟨T.cl_End, T.n_End_side⟩ (sv 0) rfl)) rfl (by first | exact .inl rfl | exact .inr rfl))) (ss_nil))
  (ss_cons (ss_if (st_gt  (sv 3) (se_globI T.g_MOST_TALK rfl (by decide))) (ss_one (ss_raiseN (en_NoDeed T) (hr.mono (by decide)) rfl tk rfl (by decide) (sa_cons (se_str) (sa_nil) rfl) ⟨rfl, rfl⟩)) (ss_nil))
  (ss_cons (ss_if (st_not (st_val (se_call (ok_is_head T) (hr.mono (by decide)) tk rfl (by decide) (sa_cons (sv 1) (sa_nil) rfl) ⟨rfl, rfl⟩) (by intro _; rfl))) (ss_one (ss_raiseN (en_NoDeed T) (hr.mono (by decide)) rfl tk rfl (by decide) (sa_cons (se_str) (sa_nil) rfl) ⟨rfl, rfl⟩)) (ss_nil))
  (ss_cons (ss_fld ⟨T.cl_End, T.n_End_mine⟩ (sv 0) (sv 3) rfl)
  (ss_cons (ss_put (hu1 hr) (se_fld ⟨T.cl_End, T.n_End_talks⟩ (sv 0) rfl) (sv 3) (se_make (ok_Talk_init T) (hr.mono (by decide)) rfl (by decide) (sa_cons (sv 3) (sa_cons (se_globI T.g_FIRST_CREDIT rfl (by decide)) (sa_nil) rfl) rfl) ⟨rfl, rfl⟩) rfl rfl rfl rfl (fun _ => rfl))
  (ss_cons (ss_drop (se_meth (ok_End_put_head T) (hr.mono (by decide)) tk (sv 0) (sa_cons (se_ix (hu1 hr) (se_fld ⟨T.cl_End, T.n_End_talks⟩ (sv 0) rfl) (sv 3) (fun _ _ => rfl)) (sa_cons (sv 1) (sa_cons (sv 2) (sa_nil) rfl) rfl) rfl) ⟨rfl, rfl⟩ ⟨⟨_, rfl⟩⟩) rfl)
  (ss_one (ss_ret (sv 3)))))))))))
theorem ok_End_begin (T : Txt K mg ca) : MeS P w K mg base ca 5 7 "begin" m_End_begin := fn_met T.cl_End T.d_End_begin sc_End_begin rfl (by decide) (body_End_begin T)
theorem sc_End_answer : FnScope N_End_answer ["self", "number", "head", "last"] (defScope s_End_answer) := ⟨rfl, rfl, rfl, by decide +kernel, rfl, by decide +kernel, by decide +kernel⟩
theorem body_End_answer (T : Txt K mg ca) : BodyOk P w K mg base ca N_End_answer "End.answer" s_End_answer 4 b_End_answer := fun f cdv A outer s H E hr tk =>
  ss_cons (ss_set (i := 4) sc_End_answer.nd rfl (.inl rfl) freeS.none (se_meth (ok_End_unshut T) (hr.mono (by decide)) tk (sv 0) (sa_cons (sv 1) (sa_nil) rfl) ⟨rfl, rfl⟩ ⟨⟨_, rfl⟩⟩) rfl (by first | exact .inl rfl | exact .inr rfl))
  (ss_cons (ss_if (st_val (se_fld ⟨T.cl_Talk, T.n_Talk_said_head⟩ (sv 4) rfl) (by intro _; rfl)) (ss_one (ss_raiseN (en_NoDeed T) (hr.mono (by decide)) rfl tk rfl (by decide) (sa_cons (se_str) (sa_nil) rfl) ⟨rfl, rfl⟩)) (ss_nil))
  (ss_cons (ss_if (st_not (st_val (se_call (ok_is_head T) (hr.mono (by decide)) tk rfl (by decide) (sa_cons (sv 2) (sa_nil) rfl) ⟨rfl, rfl⟩) (by intro _; rfl))) (ss_one (ss_raiseN (en_NoDeed T) (hr.mono (by decide)) rfl tk rfl (by decide) (sa_cons (se_str) (sa_nil) rfl) ⟨rfl, rfl⟩)) (ss_nil))
  (ss_one (ss_drop (se_meth (ok_End_put_head T) (hr.mono (by decide)) tk (sv 0) (sa_cons (sv 4) (sa_cons (sv 2) (sa_cons (sv 3) (sa_nil) rfl) rfl) rfl) ⟨rfl, rfl⟩ ⟨⟨_, rfl⟩⟩) rfl))))
theorem ok_End_answer (T : Txt K mg ca) : MeS P w K mg base ca 5 7 "answer" m_End_answer := fn_met T.cl_End T.d_End_answer sc_End_answer rfl (by decide) (body_End_answer T)
theorem sc_End_say : FnScope N_End_say ["self", "number", "numbers", "last"] (defScope s_End_say) := ⟨rfl, rfl, rfl, by decide +kernel, rfl, by decide +kernel, by decide +kernel⟩
theorem body_End_say (T : Txt K mg ca) : BodyOk P w K mg base ca N_End_say "End.say" s_End_say 4 b_End_say := fun f cdv A outer s H E hr tk =>
  ss_cons (ss_set (i := 4) sc_End_say.nd rfl (.inl rfl) freeS.none (se_meth (ok_End_unshut T) (hr.mono (by decide)) tk (sv 0) (sa_cons (sv 1) (sa_nil) rfl) ⟨rfl, rfl⟩ ⟨⟨_, rfl⟩⟩) rfl (by first | exact .inl rfl | exact .inr rfl))
  (ss_cons (ss_if (st_not (st_val (se_fld ⟨T.cl_Talk, T.n_Talk_said_head⟩ (sv 4) rfl) (by intro _; rfl))) (ss_one (ss_raiseN (en_NoDeed T) (hr.mono (by decide)) rfl tk rfl (by decide) (sa_cons (se_str) (sa_nil) rfl) ⟨rfl, rfl⟩)) (ss_nil))
  (ss_cons (ss_if (st_w (sw_or (st_val (se_fld ⟨T.cl_Talk, T.n_Talk_said_end⟩ (sv 4) rfl) (by intro _; rfl)) (sw_or1 (st_val (se_fld ⟨T.cl_Talk, T.n_Talk_ends_behind⟩ (sv 4) rfl) (by intro _; rfl))))) (ss_one (ss_raiseN (en_NoDeed T) (hr.mono (by decide)) rfl tk rfl (by decide) (sa_cons (se_str) (sa_nil) rfl) ⟨rfl, rfl⟩)) (ss_nil))
  (ss_cons (ss_fld ⟨T.cl_Talk, T.n_Talk_waits⟩ (sv 4) (se_add (se_fld ⟨T.cl_Talk, T.n_Talk_waits⟩ (sv 4) rfl) (se_list T.std rfl (sa_cons (sv 2) (sa_nil) rfl) ⟨rfl, rfl⟩)) rfl)
  (ss_one (ss_fld ⟨T.cl_Talk, T.n_Talk_ends_behind⟩ (sv 4) (sv 3) rfl)))))
theorem ok_End_say (T : Txt K mg ca) : MeS P w K mg base ca 5 7 "say" m_End_say := fn_met T.cl_End T.d_End_say sc_End_say rfl (by decide) (body_End_say T)
theorem sc_End_grant : FnScope N_End_grant ["self", "number", "many"] (defScope s_End_grant) := ⟨rfl, rfl, rfl, by decide +kernel, rfl, by decide +kernel, by decide +kernel⟩
theorem body_End_grant (T : Txt K mg ca) : BodyOk P w K mg base ca N_End_grant "End.grant" s_End_grant 4 b_End_grant := fun f cdv A outer s H E hr tk =>
  ss_cons (ss_if (st_ne (hu64 hr) (se_fld ⟨T.cl_End, T.n_End_broken⟩ (sv 0) rfl) (se_str)) (ss_one (ss_raiseN (en_NoDeed T) (hr.mono (by decide)) rfl tk rfl (by decide) (sa_cons (se_str) (sa_nil) rfl) ⟨rfl, rfl⟩)) (ss_nil))
  (ss_cons (ss_set (i := 3) sc_End_grant.nd rfl (.inl rfl) freeS.none (se_fld ⟨T.cl_End, T.n_End_line⟩ (sv 0) rfl) rfl (by first | exact .inl rfl | exact .inr rfl))
  (ss_cons (ss_if (st_ne (hu64 hr) (sv 1) (se_int)) (ss_one (ss_set (i := 3) sc_End_grant.nd rfl (.inl rfl) freeS.none (se_meth (ok_End_unshut T) (hr.mono (by decide)) tk (sv 0) (sa_cons (sv 1) (sa_nil) rfl) ⟨rfl, rfl⟩ ⟨⟨_, rfl⟩⟩) rfl (by first | exact .inl rfl | exact .inr rfl))) (ss_nil))
  (ss_cons (ss_if (st_val (se_fld ⟨T.cl_Talk, T.n_Talk_heard_end⟩ (sv 3) rfl) (by intro _; rfl)) (ss_one (ss_raiseN (en_NoDeed T) (hr.mono (by decide)) rfl tk rfl (by decide) (sa_cons (se_str) (sa_nil) rfl) ⟨rfl, rfl⟩)) (ss_nil))
  (ss_cons (ss_if (st_w (sw_or (st_lt (hu0 hr) (sv 2) (se_int)) (sw_or1 (st_gt  (se_add (se_fld ⟨T.cl_Talk, T.n_Talk_gives⟩ (sv 3) rfl) (sv 2)) (se_globI T.g_MOST_CREDIT rfl (by decide)))))) (ss_one (ss_raiseN (en_NoDeed T) (hr.mono (by decide)) rfl tk rfl (by decide) (sa_cons (se_str) (sa_nil) rfl) ⟨rfl, rfl⟩)) (ss_nil))
  (ss_cons (ss_fld ⟨T.cl_Talk, T.n_Talk_gives⟩ (sv 3) (se_add (se_fld ⟨T.cl_Talk, T.n_Talk_gives⟩ (sv 3) rfl) (sv 2)) rfl)
  (ss_one (ss_drop (se_append (se_fld ⟨T.cl_End, T.n_End_out⟩ (sv 0) rfl) (sa_cons (se_call (ok_framed T) (hr.mono (by decide)) tk rfl (by decide) (sa_cons (se_globI T.g_CREDIT rfl (by decide)) (sa_cons (se_int) (sa_cons (sv 1) (sa_cons (se_lst (sa_cons (se_div (sv 2) (se_int)) (sa_cons (se_mod (sv 2) (se_int)) (sa_nil) rfl) rfl)) (sa_nil) rfl) rfl) rfl) rfl) ⟨rfl, rfl⟩) (sa_nil) rfl) ⟨rfl, rfl, rfl⟩ ⟨rfl, rfl⟩) rfl)))))))
theorem ok_End_grant (T : Txt K mg ca) : MeS P w K mg base ca 5 7 "grant" m_End_grant := fn_met T.cl_End T.d_End_grant sc_End_grant rfl (by decide) (body_End_grant T)
theorem sc_End_reset : FnScope N_End_reset ["self", "number", "why"] (defScope s_End_reset) := ⟨rfl, rfl, rfl, by decide +kernel, rfl, by decide +kernel, by decide +kernel⟩
theorem body_End_reset (T : Txt K mg ca) : BodyOk P w K mg base ca N_End_reset "End.reset" s_End_reset 4 b_End_reset := fun f cdv A outer s H E hr tk =>
  ss_cons (ss_set (i := 3) sc_End_reset.nd rfl (.inl rfl) freeS.none (se_meth (ok_End_unshut T) (hr.mono (by decide)) tk (sv 0) (sa_cons (sv 1) (sa_nil) rfl) ⟨rfl, rfl⟩ ⟨⟨_, rfl⟩⟩) rfl (by first | exact .inl rfl | exact .inr rfl))
  (ss_cons (ss_if (st_w (sw_and (st_w (sw_or (st_val (se_fld ⟨T.cl_Talk, T.n_Talk_said_end⟩ (sv 3) rfl) (by intro _; rfl)) (sw_or1 (st_val (se_fld ⟨T.cl_Talk, T.n_Talk_ends_behind⟩ (sv 3) rfl) (by intro _; rfl))))) (sw_and1 (st_val (se_fld ⟨T.cl_Talk, T.n_Talk_heard_end⟩ (sv 3) rfl) (by intro _; rfl))))) (ss_one (ss_raiseN (en_NoDeed T) (hr.mono (by decide)) rfl tk rfl (by decide) (sa_cons (se_str) (sa_nil) rfl) ⟨rfl, rfl⟩)) (ss_nil))
  (ss_cons (ss_fld ⟨T.cl_Talk, T.n_Talk_shut_here⟩ (sv 3) (se_bl) rfl)
  (ss_cons (ss_drop (se_meth0 (ok_Talk_drop T) (hr.mono (by decide)) tk (sv 3) ⟨⟨_, rfl⟩⟩) rfl)
  (ss_one (ss_drop (se_append (se_fld ⟨T.cl_End, T.n_End_out⟩ (sv 0) rfl) (sa_cons (se_call (ok_framed T) (hr.mono (by decide)) tk rfl (by decide) (sa_cons (se_globI T.g_RESET rfl (by decide)) (sa_cons (se_int) (sa_cons (sv 1) (sa_cons (se_lst (sa_cons (sv 2) (sa_nil) rfl)) (sa_nil) rfl) rfl) rfl) rfl) ⟨rfl, rfl⟩) (sa_nil) rfl) ⟨rfl, rfl, rfl⟩ ⟨rfl, rfl⟩) rfl)))))
theorem ok_End_reset (T : Txt K mg ca) : MeS P w K mg base ca 5 7 "reset" m_End_reset := fn_met T.cl_End T.d_End_reset sc_End_reset rfl (by decide) (body_End_reset T)
theorem sc_End_ask_rank : FnScope N_End_ask_rank ["self", "number", "rank"] (defScope s_End_ask_rank) := ⟨rfl, rfl, rfl, by decide +kernel, rfl, by decide +kernel, by decide +kernel⟩
theorem body_End_ask_rank (T : Txt K mg ca) : BodyOk P w K mg base ca N_End_ask_rank "End.ask_rank" s_End_ask_rank 4 b_End_ask_rank := fun f cdv A outer s H E hr tk =>
  ss_cons (ss_set (i := 3) sc_End_ask_rank.nd rfl (.inl rfl) freeS.none (se_meth (ok_End_unshut T) (hr.mono (by decide)) tk (sv 0) (sa_cons (sv 1) (sa_nil) rfl) ⟨rfl, rfl⟩ ⟨⟨_, rfl⟩⟩) rfl (by first | exact .inl rfl | exact .inr rfl))
  (ss_cons (ss_if (st_val (se_fld ⟨T.cl_Talk, T.n_Talk_heard_end⟩ (sv 3) rfl) (by intro _; rfl)) (ss_one (ss_raiseN (en_NoDeed T) (hr.mono (by decide)) rfl tk rfl (by decide) (sa_cons (se_str) (sa_nil) rfl) ⟨rfl, rfl⟩)) (ss_nil))
  (ss_cons (ss_if (st_not (st_lele  (se_int) (sv 2) (se_globI T.g_MOST_RANK rfl (by decide)) rfl)) (ss_one (ss_raiseN (en_NoDeed T) (hr.mono (by decide)) rfl tk rfl (by decide) (sa_cons (se_str) (sa_nil) rfl) ⟨rfl, rfl⟩)) (ss_nil))
  (ss_one (ss_drop (se_append (se_fld ⟨T.cl_End, T.n_End_out⟩ (sv 0) rfl) (sa_cons (se_call (ok_framed T) (hr.mono (by decide)) tk rfl (by decide) (sa_cons (se_globI T.g_RANK rfl (by decide)) (sa_cons (se_int) (sa_cons (sv 1) (sa_cons (se_lst (sa_cons (sv 2) (sa_nil) rfl)) (sa_nil) rfl) rfl) rfl) rfl) ⟨rfl, rfl⟩) (sa_nil) rfl) ⟨rfl, rfl, rfl⟩ ⟨rfl, rfl⟩) rfl))))
theorem ok_End_ask_rank (T : Txt K mg ca) : MeS P w K mg base ca 5 7 "ask_rank" m_End_ask_rank := fn_met T.cl_End T.d_End_ask_rank sc_End_ask_rank rfl (by decide) (body_End_ask_rank T)
theorem sc_End_leave : FnScope N_End_leave ["self"] (defScope s_End_leave) := ⟨rfl, rfl, rfl, by decide +kernel, rfl, by decide +kernel, by decide +kernel⟩
theorem body_End_leave (T : Txt K mg ca) : BodyOk P w K mg base ca N_End_leave "End.leave" s_End_leave 2 b_End_leave := fun f cdv A outer s H E hr tk =>
  ss_cons (ss_if (st_ne (hu64 hr) (se_fld ⟨T.cl_End, T.n_End_broken⟩ (sv 0) rfl) (se_str)) (ss_one (ss_raiseN (en_NoDeed T) (hr.mono (by decide)) rfl tk rfl (by decide) (sa_cons (se_str) (sa_nil) rfl) ⟨rfl, rfl⟩)) (ss_nil))
  (ss_cons (ss_if (st_isNot  (se_fld ⟨T.cl_End, T.n_End_left_at⟩ (sv 0) rfl) (se_non)) (ss_one (ss_raiseN (en_NoDeed T) (hr.mono (by decide)) rfl tk rfl (by decide) (sa_cons (se_str) (sa_nil) rfl) ⟨rfl, rfl⟩)) (ss_nil))
  (ss_cons (ss_fld ⟨T.cl_End, T.n_End_left_at⟩ (sv 0) (se_fld ⟨T.cl_End, T.n_End_theirs⟩ (sv 0) rfl) rfl)
  (ss_one (ss_drop (se_append (se_fld ⟨T.cl_End, T.n_End_out⟩ (sv 0) rfl) (sa_cons (se_call (ok_framed T) (hr.mono (by decide)) tk rfl (by decide) (sa_cons (se_globI T.g_AWAY rfl (by decide)) (sa_cons (se_int) (sa_cons (se_int) (sa_cons (se_lst (sa_cons (se_fld ⟨T.cl_End, T.n_End_theirs⟩ (sv 0) rfl) (sa_nil) rfl)) (sa_nil) rfl) rfl) rfl) rfl) ⟨rfl, rfl⟩) (sa_nil) rfl) ⟨rfl, rfl, rfl⟩ ⟨rfl, rfl⟩) rfl))))
theorem ok_End_leave (T : Txt K mg ca) : MeS P w K mg base ca 3 7 "leave" m_End_leave := fn_met T.cl_End T.d_End_leave sc_End_leave rfl (by decide) (body_End_leave T)
theorem sc_End_body_of : FnScope N_End_body_of ["self", "talk"] (defScope s_End_body_of) := ⟨rfl, rfl, rfl, by decide +kernel, rfl, by decide +kernel, by decide +kernel⟩
theorem body_End_body_of (T : Txt K mg ca) : BodyOk P w K mg base ca N_End_body_of "End.body_of" s_End_body_of 1 b_End_body_of := fun f cdv A outer s H E hr tk =>
  ss_cons (ss_set (i := 2) sc_End_body_of.nd rfl (.inl rfl) freeS.none (se_min4 rfl T.std rfl (sa_cons (se_len T.std rfl (sa_cons (se_fld ⟨T.cl_Talk, T.n_Talk_waits⟩ (sv 1) rfl) (sa_nil) rfl) ⟨rfl, rfl⟩) (sa_cons (se_fld ⟨T.cl_Talk, T.n_Talk_may⟩ (sv 1) rfl) (sa_cons (se_fld ⟨T.cl_Talk, T.n_Talk_may⟩ (se_fld ⟨T.cl_End, T.n_End_line⟩ (sv 0) rfl) rfl) (sa_cons (se_globI T.g_MOST_BODY rfl (by decide)) (sa_nil) rfl) rfl) rfl) rfl) ⟨rfl, rfl⟩) rfl (by first | exact .inl rfl | exact .inr rfl))
  (ss_cons (ss_set (i := 3) sc_End_body_of.nd rfl (.inl rfl) freeS.none (se_sl (se_fld ⟨T.cl_Talk, T.n_Talk_waits⟩ (sv 1) rfl) so_no (so_so (sv 2))) rfl (by first | exact .inl rfl | exact .inr rfl))
  (ss_cons (ss_fld ⟨T.cl_Talk, T.n_Talk_waits⟩ (sv 1) (se_sl (se_fld ⟨T.cl_Talk, T.n_Talk_waits⟩ (sv 1) rfl) (so_so (sv 2)) so_no) rfl)
  (ss_cons (ss_fld ⟨T.cl_Talk, T.n_Talk_may⟩ (sv 1) (se_sub (se_fld ⟨T.cl_Talk, T.n_Talk_may⟩ (sv 1) rfl) (sv 2)) rfl)
  (ss_cons (ss_fld ⟨T.cl_Talk, T.n_Talk_may⟩ (se_fld ⟨T.cl_End, T.n_End_line⟩ (sv 0) rfl) (se_sub (se_fld ⟨T.cl_Talk, T.n_Talk_may⟩ (se_fld ⟨T.cl_End, T.n_End_line⟩ (sv 0) rfl) rfl) (sv 2)) rfl)
  (ss_cons (ss_fld ⟨T.cl_Talk, T.n_Talk_said_end⟩ (sv 1) (se_and (se_eq (hu64 hr) (se_fld ⟨T.cl_Talk, T.n_Talk_waits⟩ (sv 1) rfl) (se_lst (sa_nil))) (se_one (se_fld ⟨T.cl_Talk, T.n_Talk_ends_behind⟩ (sv 1) rfl))) rfl)
  (ss_cons (ss_fld ⟨T.cl_End, T.n_End_turns⟩ (sv 0) (se_add (se_fld ⟨T.cl_End, T.n_End_turns⟩ (sv 0) rfl) (se_int)) rfl)
  (ss_cons (ss_fld ⟨T.cl_Talk, T.n_Talk_served⟩ (sv 1) (se_fld ⟨T.cl_End, T.n_End_turns⟩ (sv 0) rfl) rfl)
  (ss_one (ss_ret (se_call (ok_framed T) (hr.mono (by decide)) tk rfl (by decide) (sa_cons (se_globI T.g_BODY rfl (by decide)) (sa_cons (se_intC T.std rfl (sa_cons (se_fld ⟨T.cl_Talk, T.n_Talk_said_end⟩ (sv 1) rfl) (sa_nil) rfl) ⟨rfl, rfl⟩) (sa_cons (se_fld ⟨T.cl_Talk, T.n_Talk_number⟩ (sv 1) rfl) (sa_cons (sv 3) (sa_nil) rfl) rfl) rfl) rfl) ⟨rfl, rfl⟩))))))))))
theorem ok_End_body_of (T : Txt K mg ca) : MeS P w K mg base ca 2 7 "body_of" m_End_body_of := fn_met T.cl_End T.d_End_body_of sc_End_body_of rfl (by decide) (body_End_body_of T)
theorem sc_End_next_frame : FnScope N_End_next_frame ["self"] (defScope s_End_next_frame) := ⟨rfl, rfl, rfl, by decide +kernel, rfl, by decide +kernel, by decide +kernel⟩
theorem body_End_next_frame (T : Txt K mg ca) : BodyOk P w K mg base ca N_End_next_frame "End.next_frame" s_End_next_frame 2 b_End_next_frame := fun f cdv A outer s H E hr tk =>
  ss_cons (ss_if (st_ne (hu64 hr) (se_fld ⟨T.cl_End, T.n_End_broken⟩ (sv 0) rfl) (se_str)) (ss_one (ss_ret (se_lst (sa_nil)))) (ss_nil))
  (ss_cons (ss_if (st_ne (hu64 hr) (se_fld ⟨T.cl_End, T.n_End_out⟩ (sv 0) rfl) (se_lst (sa_nil))) (ss_one (ss_ret (se_pop (se_fld ⟨T.cl_End, T.n_End_out⟩ (sv 0) rfl) (sa_cons (se_int) (sa_nil) rfl) ⟨rfl, rfl, rfl⟩ ⟨rfl, rfl⟩))) (ss_nil))
  (ss_cons (ss_set (i := 1) sc_End_next_frame.nd rfl (.inl rfl) freeS.none (se_non) rfl (by first | exact .inl rfl | exact .inr rfl))
  (ss_cons (ss_for (tgd := .one 2) (passes_of rfl) rfl (tg_one freeS.none) (pg_name (i := 2) sc_End_next_frame.nd rfl (.inl rfl)) (si_list (se_sortedD rfl T.std rfl (sa_cons (se_fld ⟨T.cl_End, T.n_End_talks⟩ (sv 0) rfl) (sa_nil) rfl) ⟨rfl, rfl⟩)) (ss_cons (ss_set (i := 3) sc_End_next_frame.nd rfl (.inl rfl) freeS.none (se_ix (hu1 hr) (se_fld ⟨T.cl_End, T.n_End_talks⟩ (sv 0) rfl) (sv 2) (fun _ _ => rfl)) rfl (by first | exact .inl rfl | exact .inr rfl))
  (ss_one (ss_if (st_val (se_meth (ok_Talk_can_send T) (hr.mono (by decide)) tk (sv 3) (sa_cons (se_fld ⟨T.cl_End, T.n_End_line⟩ (sv 0) rfl) (sa_nil) rfl) ⟨rfl, rfl⟩ ⟨⟨_, rfl⟩⟩) (by intro _; rfl)) (ss_one (ss_if (st_w (sw_or (st_is  (sv 1) (se_non)) (sw_or1 (st_lt (hu0 hr) (se_tup (sa_cons (se_fld ⟨T.cl_Talk, T.n_Talk_rank⟩ (sv 3) rfl) (sa_cons (se_fld ⟨T.cl_Talk, T.n_Talk_served⟩ (sv 3) rfl) (sa_nil) rfl) rfl)) (se_tup (sa_cons (se_fld ⟨T.cl_Talk, T.n_Talk_rank⟩ (sv 1) rfl) (sa_cons (se_fld ⟨T.cl_Talk, T.n_Talk_served⟩ (sv 1) rfl) (sa_nil) rfl) rfl)))))) (ss_one (ss_set (i := 1) sc_End_next_frame.nd rfl (.inl rfl) freeS.none (sv 3) rfl (by first | exact .inl rfl | exact .inr rfl))) (ss_nil))) (ss_nil)))) (fun _ => rfl))
  (ss_cons (ss_if (st_is  (sv 1) (se_non)) (ss_one (ss_ret (se_lst (sa_nil)))) (ss_nil))
  (ss_one (ss_ret (se_meth (ok_End_body_of T) (hr.mono (by decide)) tk (sv 0) (sa_cons (sv 1) (sa_nil) rfl) ⟨rfl, rfl⟩ ⟨⟨_, rfl⟩⟩)))))))
theorem ok_End_next_frame (T : Txt K mg ca) : MeS P w K mg base ca 3 7 "next_frame" m_End_next_frame := fn_met T.cl_End T.d_End_next_frame sc_End_next_frame rfl (by decide) (body_End_next_frame T)
theorem sc_End_hear : FnScope N_End_hear ["self", "numbers"] (defScope s_End_hear) := ⟨rfl, rfl, rfl, by decide +kernel, rfl, by decide +kernel, by decide +kernel⟩
theorem body_End_hear (T : Txt K mg ca) : BodyOk P w K mg base ca N_End_hear "End.hear" s_End_hear 5 b_End_hear := fun f cdv A outer s H E hr tk =>
  ss_cons (ss_set (i := 2) sc_End_hear.nd rfl (.inl rfl) freeS.none (se_lst (sa_nil)) rfl (by first | exact .inl rfl | exact .inr rfl))
  (ss_cons (ss_if (st_ne (hu64 hr) (se_fld ⟨T.cl_End, T.n_End_broken⟩ (sv 0) rfl) (se_str)) (ss_one (ss_ret (sv 2))) (ss_nil))
  (ss_cons (ss_for (tgd := .one 3) (passes_of rfl) rfl (tg_one freeS.none) (pg_name (i := 3) sc_End_hear.nd rfl (.inl rfl)) (si_list (se_meth (ok_Cutter_fed T) (hr.mono (by decide)) tk (se_fld ⟨T.cl_End, T.n_End_cutter⟩ (sv 0) rfl) (sa_cons (sv 1) (sa_nil) rfl) ⟨rfl, rfl⟩ ⟨⟨_, rfl⟩⟩)) (ss_cons (ss_set (i := 2) sc_End_hear.nd rfl (.inl rfl) freeS.none (se_add (sv 2) (se_call (ok_took T) (hr.mono (by decide)) tk rfl (by decide) (sa_cons (sv 0) (sa_cons (sv 3) (sa_nil) rfl) rfl) ⟨rfl, rfl⟩)) rfl (by first | exact .inl rfl | exact .inr rfl))
  (ss_one (ss_if (st_ne (hu64 hr) (se_fld ⟨T.cl_End, T.n_End_broken⟩ (sv 0) rfl) (se_str)) (ss_one (ss_ret (sv 2))) (ss_nil)))) (fun _ => rfl))
  (ss_one (ss_ret (sv 2)))))
theorem ok_End_hear (T : Txt K mg ca) : MeS P w K mg base ca 6 7 "hear" m_End_hear := fn_met T.cl_End T.d_End_hear sc_End_hear rfl (by decide) (body_End_hear T)
theorem sc_End_left : FnScope N_End_left ["self", "number"] (defScope s_End_left) := ⟨rfl, rfl, rfl, by decide +kernel, rfl, by decide +kernel, by decide +kernel⟩
theorem body_End_left (T : Txt K mg ca) : BodyOk P w K mg base ca N_End_left "End.left" s_End_left 2 b_End_left := fun f cdv A outer s H E hr tk =>
  ss_cons (ss_if (st_eq (hu64 hr) (sv 1) (se_int)) (ss_one (ss_ret (se_fld ⟨T.cl_Talk, T.n_Talk_may⟩ (se_fld ⟨T.cl_End, T.n_End_line⟩ (sv 0) rfl) rfl))) (ss_nil))
  (ss_cons (ss_if (st_notIn (hu65 hr) (sv 1) (se_fld ⟨T.cl_End, T.n_End_talks⟩ (sv 0) rfl) rfl) (ss_one (ss_raiseN (en_NoDeed T) (hr.mono (by decide)) rfl tk rfl (by decide) (sa_cons (se_str) (sa_nil) rfl) ⟨rfl, rfl⟩)) (ss_nil))
  (ss_one (ss_ret (se_fld ⟨T.cl_Talk, T.n_Talk_may⟩ (se_ix (hu1 hr) (se_fld ⟨T.cl_End, T.n_End_talks⟩ (sv 0) rfl) (sv 1) (fun _ _ => rfl)) rfl))))
theorem ok_End_left (T : Txt K mg ca) : MeS P w K mg base ca 3 7 "left" m_End_left := fn_met T.cl_End T.d_End_left sc_End_left rfl (by decide) (body_End_left T)
theorem sc_End_waiting : FnScope N_End_waiting ["self", "number"] (defScope s_End_waiting) := ⟨rfl, rfl, rfl, by decide +kernel, rfl, by decide +kernel, by decide +kernel⟩
theorem body_End_waiting (T : Txt K mg ca) : BodyOk P w K mg base ca N_End_waiting "End.waiting" s_End_waiting 2 b_End_waiting := fun f cdv A outer s H E hr tk =>
  ss_cons (ss_if (st_notIn (hu65 hr) (sv 1) (se_fld ⟨T.cl_End, T.n_End_talks⟩ (sv 0) rfl) rfl) (ss_one (ss_raiseN (en_NoDeed T) (hr.mono (by decide)) rfl tk rfl (by decide) (sa_cons (se_str) (sa_nil) rfl) ⟨rfl, rfl⟩)) (ss_nil))
  (ss_one (ss_ret (se_len T.std rfl (sa_cons (se_fld ⟨T.cl_Talk, T.n_Talk_waits⟩ (se_ix (hu1 hr) (se_fld ⟨T.cl_End, T.n_End_talks⟩ (sv 0) rfl) (sv 1) (fun _ _ => rfl)) rfl) (sa_nil) rfl) ⟨rfl, rfl⟩)))
theorem ok_End_waiting (T : Txt K mg ca) : MeS P w K mg base ca 3 7 "waiting" m_End_waiting := fn_met T.cl_End T.d_End_waiting sc_End_waiting rfl (by decide) (body_End_waiting T)
theorem sc__law_row : FnScope N__law_row ["_law_script"] (defScope s__law_row) := ⟨rfl, rfl, rfl, by decide +kernel, rfl, by decide +kernel, by decide +kernel⟩
theorem body__law_row (T : Txt K mg ca) : BodyOk P w K mg base ca N__law_row "_law_row" s__law_row 0 b__law_row := fun f cdv A outer s H E hr tk =>
  ss_cons (ss_set (i := 1) sc__law_row.nd rfl (.inl rfl) freeS.none (se_int) rfl (by first | exact .inl rfl | exact .inr rfl))
  (ss_cons (ss_for (tgd := .one 2) (passes_of rfl) rfl (tg_one freeS.none) (pg_name (i := 2) sc__law_row.nd rfl (.inl rfl)) (si_list (sv 0)) (ss_one (ss_set (i := 1) sc__law_row.nd rfl (.inl rfl) freeS.none (se_mod (se_add (se_add (se_mul (sv 1) (se_int)) (sv 2)) (se_int)) (se_int)) rfl (by first | exact .inl rfl | exact .inr rfl))) (fun _ => rfl))
  (ss_one (ss_ret (se_lstR (sa_cons (sv 0) (sa_cons (se_int) (sa_cons (se_int) (sa_cons (sv 1) (sa_nil) rfl) rfl) rfl) rfl)))))
theorem ok__law_row (T : Txt K mg ca) : FnS P w K mg base ca 1 "_law_row" m__law_row := fn_def T.d__law_row sc__law_row rfl (by decide) (body__law_row T)
theorem sc__law_taken : FnScope N__law_taken ["_law_row_here", "_law_many"] (defScope s__law_taken) := ⟨rfl, rfl, rfl, by decide +kernel, rfl, by decide +kernel, by decide +kernel⟩
theorem body__law_taken (T : Txt K mg ca) : BodyOk P w K mg base ca N__law_taken "_law_taken" s__law_taken 0 b__law_taken := fun f cdv A outer s H E hr tk =>
  ss_cons (ss_if (st_gt  (se_ix (hu1 hr) (sv 0) (se_int) (fun _ _ => rfl)) (se_int)) (ss_cons (ss_set (i := 2) sc__law_taken.nd rfl (.inl rfl) freeS.none (se_mod (se_ix (hu1 hr) (sv 0) (se_int) (fun _ _ => rfl)) (sv 1)) rfl (by first | exact .inl rfl | exact .inr rfl))
  (ss_cons (ss_put (hu1 hr) (sv 0) (se_int) (se_div (se_ix (hu1 hr) (sv 0) (se_int) (fun _ _ => rfl)) (sv 1)) rfl rfl rfl rfl (fun _ => rfl))
  (ss_one (ss_ret (sv 2))))) (ss_nil))
  (ss_cons (ss_if (st_lt (hu0 hr) (se_ix (hu1 hr) (sv 0) (se_int) (fun _ _ => rfl)) (se_len T.std rfl (sa_cons (se_ix (hu1 hr) (sv 0) (se_int) (fun _ _ => rfl)) (sa_nil) rfl) ⟨rfl, rfl⟩)) (ss_cons (ss_set (i := 3) sc__law_taken.nd rfl (.inl rfl) freeS.none (se_ix (hu1 hr) (se_ix (hu1 hr) (sv 0) (se_int) (fun _ _ => rfl)) (se_ix (hu1 hr) (sv 0) (se_int) (fun _ _ => rfl)) (fun _ _ => rfl)) rfl (by first | exact .inl rfl | exact .inr rfl))
  (ss_cons (ss_put (hu1 hr) (sv 0) (se_int) (se_add (se_ix (hu1 hr) (sv 0) (se_int) (fun _ _ => rfl)) (se_int)) rfl rfl rfl rfl (fun _ => rfl))
  (ss_cons (ss_if (st_ge  (sv 3) (se_pow (se_int) (se_int))) (ss_one (ss_put (hu1 hr) (sv 0) (se_int) (se_div (sv 3) (sv 1)) rfl rfl rfl rfl (fun _ => rfl))) (ss_nil))
  (ss_one (ss_ret (se_mod (sv 3) (sv 1))))))) (ss_nil))
  (ss_cons (ss_put (hu1 hr) (sv 0) (se_int) (se_mod (se_add (se_mul (se_ix (hu1 hr) (sv 0) (se_int) (fun _ _ => rfl)) (se_int)) (se_int)) (se_int)) rfl rfl rfl rfl (fun _ => rfl))
  (ss_one (ss_ret (se_mod (se_div (se_ix (hu1 hr) (sv 0) (se_int) (fun _ _ => rfl)) (se_int)) (sv 1))))))
theorem ok__law_taken (T : Txt K mg ca) : FnS P w K mg base ca 1 "_law_taken" m__law_taken := fn_def T.d__law_taken sc__law_taken rfl (by decide) (body__law_taken T)
theorem sc__law_whole : FnScope N__law_whole ["_law_found"] (defScope s__law_whole) := ⟨rfl, rfl, rfl, by decide +kernel, rfl, by decide +kernel, by decide +kernel⟩
theorem body__law_whole (T : Txt K mg ca) : BodyOk P w K mg base ca N__law_whole "_law_whole" s__law_whole 0 b__law_whole := fun f cdv A outer s H E hr tk =>
  ss_one (ss_ret (se_and (se_isI T.std rfl rfl (sv 0) ⟨rfl, rfl⟩ ⟨rfl, rfl⟩) (se_one (se_not (se_isB T.std rfl rfl (sv 0) ⟨rfl, rfl⟩ ⟨rfl, rfl⟩)))))
theorem ok__law_whole (T : Txt K mg ca) : FnS P w K mg base ca 1 "_law_whole" m__law_whole := fn_def T.d__law_whole sc__law_whole rfl (by decide) (body__law_whole T)
theorem sc__law_list : FnScope N__law_list ["_law_found", "_law_due"] (defScope s__law_list) := ⟨rfl, rfl, rfl, by decide +kernel, rfl, by decide +kernel, by decide +kernel⟩
theorem body__law_list (T : Txt K mg ca) : BodyOk P w K mg base ca N__law_list "_law_list" s__law_list 1 b__law_list := fun f cdv A outer s H E hr tk =>
  ss_cons (ss_if (st_w (sw_or (st_not (st_val (se_isL T.std rfl rfl (sv 0) ⟨rfl, rfl⟩ ⟨rfl, rfl⟩) (by intro _; rfl))) (sw_or1 (st_ne (hu64 hr) (se_len T.std rfl (sa_cons (sv 0) (sa_nil) rfl) ⟨rfl, rfl⟩) (se_len T.std rfl (sa_cons (sv 1) (sa_nil) rfl) ⟨rfl, rfl⟩))))) (ss_one (ss_ret (se_bl))) (ss_nil))
  (ss_cons (ss_for (tgd := .one 2) (passes_of rfl) rfl (tg_one freeS.none) (pg_name (i := 2) sc__law_list.nd rfl (.inl rfl)) (si_list (sv 0)) (ss_one (ss_if (st_not (st_val (se_call (ok__law_whole T) (hr.mono (by decide)) tk rfl (by decide) (sa_cons (sv 2) (sa_nil) rfl) ⟨rfl, rfl⟩) (by intro _; rfl))) (ss_one (ss_ret (se_bl))) (ss_nil))) (fun _ => rfl))
  (ss_one (ss_ret (se_eq (hu64 hr) (sv 0) (sv 1)))))
theorem ok__law_list (T : Txt K mg ca) : FnS P w K mg base ca 2 "_law_list" m__law_list := fn_def T.d__law_list sc__law_list rfl (by decide) (body__law_list T)
theorem sc__law_frame : FnScope N__law_frame ["_law_kind", "_law_flag", "_law_talk", "_law_numbers"] (defScope s__law_frame) := ⟨rfl, rfl, rfl, by decide +kernel, rfl, by decide +kernel, by decide +kernel⟩
theorem body__law_frame (T : Txt K mg ca) : BodyOk P w K mg base ca N__law_frame "_law_frame" s__law_frame 0 b__law_frame := fun f cdv A outer s H E hr tk =>
  ss_one (ss_ret (se_add (se_lst (sa_cons (se_len T.std rfl (sa_cons (sv 3) (sa_nil) rfl) ⟨rfl, rfl⟩) (sa_cons (sv 0) (sa_cons (sv 1) (sa_cons (sv 2) (sa_nil) rfl) rfl) rfl) rfl)) (sv 3)))
theorem ok__law_frame (T : Txt K mg ca) : FnS P w K mg base ca 1 "_law_frame" m__law_frame := fn_def T.d__law_frame sc__law_frame rfl (by decide) (body__law_frame T)
theorem sc__law_deed : FnScope N__law_deed ["_law_end", "_law_way", "_law_number", "_law_odd"] (defScope s__law_deed) := ⟨rfl, rfl, rfl, by decide +kernel, rfl, by decide +kernel, by decide +kernel⟩
theorem body__law_deed (T : Txt K mg ca) : BodyOk P w K mg base ca N__law_deed "_law_deed" s__law_deed 5 b__law_deed := fun f cdv A outer s H E hr tk =>
  ss_cons (ss_if (st_eq (hu64 hr) (sv 1) (se_int)) (ss_one (ss_drop (se_meth (ok_End_begin T) (hr.mono (by decide)) tk (sv 0) (sa_cons (se_lst (sa_cons (se_tup (sa_cons (se_str) (sa_cons (se_mulS (se_str) (se_add (se_int) (sv 3))) (sa_nil) rfl) rfl)) (sa_nil) rfl)) (sa_cons (se_bl) (sa_nil) rfl) rfl) ⟨rfl, rfl⟩ ⟨⟨_, rfl⟩⟩) rfl)) (ss_nil))
  (ss_cons (ss_if (st_eq (hu64 hr) (sv 1) (se_int)) (ss_one (ss_drop (se_meth (ok_End_answer T) (hr.mono (by decide)) tk (sv 0) (sa_cons (sv 2) (sa_cons (se_lst (sa_nil)) (sa_cons (se_bl) (sa_nil) rfl) rfl) rfl) ⟨rfl, rfl⟩ ⟨⟨_, rfl⟩⟩) rfl)) (ss_nil))
  (ss_cons (ss_if (st_eq (hu64 hr) (sv 1) (se_int)) (ss_one (ss_drop (se_meth (ok_End_say T) (hr.mono (by decide)) tk (sv 0) (sa_cons (sv 2) (sa_cons (se_lst (sa_cons (se_int) (sa_cons (se_int) (sa_nil) rfl) rfl)) (sa_cons (se_eq (hu64 hr) (sv 3) (se_int)) (sa_nil) rfl) rfl) rfl) ⟨rfl, rfl⟩ ⟨⟨_, rfl⟩⟩) rfl)) (ss_nil))
  (ss_cons (ss_if (st_eq (hu64 hr) (sv 1) (se_int)) (ss_one (ss_drop (se_meth (ok_End_grant T) (hr.mono (by decide)) tk (sv 0) (sa_cons (sv 2) (sa_cons (se_sub (se_int) (se_mul (se_int) (sv 3))) (sa_nil) rfl) rfl) ⟨rfl, rfl⟩ ⟨⟨_, rfl⟩⟩) rfl)) (ss_nil))
  (ss_cons (ss_if (st_eq (hu64 hr) (sv 1) (se_int)) (ss_one (ss_drop (se_meth (ok_End_reset T) (hr.mono (by decide)) tk (sv 0) (sa_cons (sv 2) (sa_cons (se_int) (sa_nil) rfl) rfl) ⟨rfl, rfl⟩ ⟨⟨_, rfl⟩⟩) rfl)) (ss_nil))
  (ss_cons (ss_if (st_eq (hu64 hr) (sv 1) (se_int)) (ss_one (ss_drop (se_meth (ok_End_ask_rank T) (hr.mono (by decide)) tk (sv 0) (sa_cons (sv 2) (sa_cons (se_add (se_int) (se_mul (se_int) (sv 3))) (sa_nil) rfl) rfl) ⟨rfl, rfl⟩ ⟨⟨_, rfl⟩⟩) rfl)) (ss_nil))
  (ss_one (ss_if (st_eq (hu64 hr) (sv 1) (se_int)) (ss_one (ss_drop (se_meth0 (ok_End_leave T) (hr.mono (by decide)) tk (sv 0) ⟨⟨_, rfl⟩⟩) rfl)) (ss_nil))))))))
theorem ok__law_deed (T : Txt K mg ca) : FnS P w K mg base ca 6 "_law_deed" m__law_deed := fn_def T.d__law_deed sc__law_deed rfl (by decide) (body__law_deed T)
theorem sc__law_why : FnScope N__law_why ["_law_end", "_law_way", "_law_number", "_law_odd"] (defScope s__law_why) := ⟨rfl, rfl, rfl, by decide +kernel, rfl, by decide +kernel, by decide +kernel⟩
theorem body__law_why (T : Txt K mg ca) : BodyOk P w K mg base ca N__law_why "_law_why" s__law_why 6 b__law_why := fun f cdv A outer s H E hr tk =>
  ss_cons (ss_tryN rfl rfl rfl sc__law_why.nd rfl rfl ⟨rfl, by decide, .inl T.gx_LineError⟩ tk (T.ck_LineError) (fun _ _ _ t1 t2 => ss_one (ss_drop (se_call (ok__law_deed T) (hr.mono (by decide)) t1 rfl (by decide) (sa_cons (sv 0) (sa_cons (sv 1) (sa_cons (sv 2) (sa_cons (sv 3) (sa_nil) rfl) rfl) rfl) rfl) ⟨rfl, rfl⟩) rfl)) (fun a oe cls d pn hz hf xn hcls => ss_cons (ss_if (st_w (sw_or (st_val (se_isE2 (v := .ref (ca 2)) hz hf hcls T.te_BadHead (pe_glob rfl T.gx_BadHead (show Value.ref _ = Value.ref _ from rfl) (by decide)) (fun _ h => h) rfl (by first | exact Or.inl rfl | exact Or.inr (Or.inl rfl)) (by decide) (by decide) T.std.isinstance rfl ⟨rfl, rfl⟩ ⟨rfl, rfl⟩) (by intro _; rfl)) (sw_or1 (st_not (st_val (se_isE2 (v := .ref (ca 1)) hz hf hcls T.te_NoDeed (pe_glob rfl T.gx_NoDeed (show Value.ref _ = Value.ref _ from rfl) (by decide)) (fun _ h => h) rfl (by first | exact Or.inl rfl | exact Or.inr (Or.inl rfl)) (by decide) (by decide) T.std.isinstance rfl ⟨rfl, rfl⟩ ⟨rfl, rfl⟩) (by intro _; rfl)))))) (ss_one (ss_ret (se_str))) (ss_nil))
  (ss_one (ss_ret (se_xf T.xf_NoDeed T.ei_NoDeed.no hz hf hcls rfl (by first | exact Or.inl rfl | exact Or.inr (Or.inl rfl)) (by decide) (by decide) rfl)))))
  (ss_one (ss_ret (se_str)))
theorem ok__law_why (T : Txt K mg ca) : FnS P w K mg base ca 7 "_law_why" m__law_why := fn_def T.d__law_why sc__law_why rfl (by decide) (body__law_why T)
theorem sc__law_seen : FnScope N__law_seen ["_law_end", "_law_talks"] (defScope s__law_seen) := ⟨rfl, rfl, rfl, by decide +kernel, rfl, by decide +kernel, by decide +kernel⟩
theorem body__law_seen (T : Txt K mg ca) : BodyOk P w K mg base ca N__law_seen "_law_seen" s__law_seen 3 b__law_seen := fun f cdv A outer s H E hr tk =>
  ss_cons (ss_set (i := 2) sc__law_seen.nd rfl (.inl rfl) freeS.none (se_lst (sa_cons (se_meth (ok_End_left T) (hr.mono (by decide)) tk (sv 0) (sa_cons (se_int) (sa_nil) rfl) ⟨rfl, rfl⟩ ⟨⟨_, rfl⟩⟩) (sa_nil) rfl)) rfl (by first | exact .inl rfl | exact .inr rfl))
  (ss_cons (ss_for (tgd := .one 3) (passes_of rfl) rfl (tg_one freeS.none) (pg_name (i := 3) sc__law_seen.nd rfl (.inl rfl)) (si_list (sv 1)) (ss_one (ss_set (i := 2) sc__law_seen.nd rfl (.inl rfl) freeS.none (se_add (sv 2) (se_lst (sa_cons (se_meth (ok_End_left T) (hr.mono (by decide)) tk (sv 0) (sa_cons (sv 3) (sa_nil) rfl) ⟨rfl, rfl⟩ ⟨⟨_, rfl⟩⟩) (sa_cons (se_meth (ok_End_waiting T) (hr.mono (by decide)) tk (sv 0) (sa_cons (sv 3) (sa_nil) rfl) ⟨rfl, rfl⟩ ⟨⟨_, rfl⟩⟩) (sa_nil) rfl) rfl))) rfl (by first | exact .inl rfl | exact .inr rfl))) (fun _ => rfl))
  (ss_one (ss_ret (sv 2))))
theorem ok__law_seen (T : Txt K mg ca) : FnS P w K mg base ca 4 "_law_seen" m__law_seen := fn_def T.d__law_seen sc__law_seen rfl (by decide) (body__law_seen T)
theorem sc_law : FnScope N_law ["_law_script"] (defScope s_law) := ⟨rfl, rfl, rfl, by decide +kernel, rfl, by decide +kernel, by decide +kernel⟩
theorem body_law (T : Txt K mg ca) : BodyOk P w K mg base ca N_law "law" s_law 7 b_law := fun f cdv A outer s H E hr tk =>
  ss_cons (ss_set (i := 1) sc_law.nd rfl (.inl rfl) freeS.none (se_call (ok__law_row T) (hr.mono (by decide)) tk rfl (by decide) (sa_cons (sv 0) (sa_nil) rfl) ⟨rfl, rfl⟩) rfl (by first | exact .inl rfl | exact .inr rfl))
  (ss_cons (ss_set (i := 2) sc_law.nd rfl (.inl rfl) freeS.none (se_call (ok__law_taken T) (hr.mono (by decide)) tk rfl (by decide) (sa_cons (sv 1) (sa_cons (se_int) (sa_nil) rfl) rfl) ⟨rfl, rfl⟩) rfl (by first | exact .inl rfl | exact .inr rfl))
  (ss_cons (ss_set (i := 3) sc_law.nd rfl (.inl rfl) freeS.none (se_make (ok_End_init T) (hr.mono (by decide)) rfl (by decide) (sa_cons (sv 2) (sa_nil) rfl) ⟨rfl, rfl⟩) rfl (by first | exact .inl rfl | exact .inr rfl))
  (ss_cons (ss_set (i := 4) sc_law.nd rfl (.inl rfl) freeS.none (se_lstR (sa_nil)) rfl (by first | exact .inl rfl | exact .inr rfl))
  (ss_cons (ss_for (tgd := .one 5) (passes_of rfl) rfl (tg_one freeS.none) (pg_name (i := 5) sc_law.nd rfl (.inl rfl)) (si_r1 T.std.range rfl (se_call (ok__law_taken T) (hr.mono (by decide)) tk rfl (by decide) (sa_cons (sv 1) (sa_cons (se_int) (sa_nil) rfl) rfl) ⟨rfl, rfl⟩) rfl rfl) (ss_cons (ss_drop (se_append (sv 4) (sa_cons (se_meth (ok_End_begin T) (hr.mono (by decide)) tk (sv 3) (sa_cons (se_lst (sa_cons (se_tup (sa_cons (se_str) (sa_cons (se_str) (sa_nil) rfl) rfl)) (sa_nil) rfl)) (sa_cons (se_bl) (sa_nil) rfl) rfl) ⟨rfl, rfl⟩ ⟨⟨_, rfl⟩⟩) (sa_nil) rfl) ⟨rfl, rfl, rfl⟩ ⟨rfl, rfl⟩) rfl)
  (ss_one (ss_drop (se_meth (ok_End_say T) (hr.mono (by decide)) tk (sv 3) (sa_cons (se_ix (hu1 hr) (sv 4) (sv 5) (fun _ _ => rfl)) (sa_cons (se_mul (se_lst (sa_cons (sv 5) (sa_nil) rfl)) (se_call (ok__law_taken T) (hr.mono (by decide)) tk rfl (by decide) (sa_cons (sv 1) (sa_cons (se_int) (sa_nil) rfl) rfl) ⟨rfl, rfl⟩)) (sa_cons (se_eq (hu64 hr) (se_call (ok__law_taken T) (hr.mono (by decide)) tk rfl (by decide) (sa_cons (sv 1) (sa_cons (se_int) (sa_nil) rfl) rfl) ⟨rfl, rfl⟩) (se_int)) (sa_nil) rfl) rfl) rfl) ⟨rfl, rfl⟩ ⟨⟨_, rfl⟩⟩) rfl))) (fun _ => rfl))
  (ss_cons (ss_for (tgd := .one 5) (passes_of rfl) rfl (tg_one freeS.none) (pg_name (i := 5) sc_law.nd rfl (.inl rfl)) (si_r1 T.std.range rfl (se_call (ok__law_taken T) (hr.mono (by decide)) tk rfl (by decide) (sa_cons (sv 1) (sa_cons (se_int) (sa_nil) rfl) rfl) ⟨rfl, rfl⟩) rfl rfl) (ss_cons (ss_drop (se_meth (ok_End_hear T) (hr.mono (by decide)) tk (sv 3) (sa_cons (se_call (ok__law_frame T) (hr.mono (by decide)) tk rfl (by decide) (sa_cons (se_int) (sa_cons (se_int) (sa_cons (se_add (se_sub (se_int) (sv 2)) (se_mul (se_int) (sv 5))) (sa_cons (se_lst (sa_nil)) (sa_nil) rfl) rfl) rfl) rfl) ⟨rfl, rfl⟩) (sa_nil) rfl) ⟨rfl, rfl⟩ ⟨⟨_, rfl⟩⟩) rfl)
  (ss_one (ss_drop (se_append (sv 4) (sa_cons (se_add (se_sub (se_int) (sv 2)) (se_mul (se_int) (sv 5))) (sa_nil) rfl) ⟨rfl, rfl, rfl⟩ ⟨rfl, rfl⟩) rfl))) (fun _ => rfl))
  (ss_cons (ss_for (tgd := .one 5) (passes_of rfl) rfl (tg_one freeS.none) (pg_name (i := 5) sc_law.nd rfl (.inl rfl)) (si_r1 T.std.range rfl (se_call (ok__law_taken T) (hr.mono (by decide)) tk rfl (by decide) (sa_cons (sv 1) (sa_cons (se_int) (sa_nil) rfl) rfl) ⟨rfl, rfl⟩) rfl rfl) (ss_one (ss_drop (se_meth0 (ok_End_next_frame T) (hr.mono (by decide)) tk (sv 3) ⟨⟨_, rfl⟩⟩) rfl)) (fun _ => rfl))
  (ss_cons (ss_set (i := 6) sc_law.nd rfl (.inl rfl) freeS.none (se_call (ok__law_seen T) (hr.mono (by decide)) tk rfl (by decide) (sa_cons (sv 3) (sa_cons (sv 4) (sa_nil) rfl) rfl) ⟨rfl, rfl⟩) rfl (by first | exact .inl rfl | exact .inr rfl))
  (ss_cons (ss_set (i := 7) sc_law.nd rfl (.inl rfl) freeS.none (se_list T.std rfl (sa_cons (se_fld ⟨T.cl_Shelf, T.n_Shelf_pairs⟩ (se_fld ⟨T.cl_End, T.n_End_told⟩ (sv 3) rfl) rfl) (sa_nil) rfl) ⟨rfl, rfl⟩) rfl (by first | exact .inl rfl | exact .inr rfl))
  (ss_cons (ss_set (i := 8) sc_law.nd rfl (.inl rfl) freeS.none (se_call (ok__law_taken T) (hr.mono (by decide)) tk rfl (by decide) (sa_cons (sv 1) (sa_cons (se_int) (sa_nil) rfl) rfl) ⟨rfl, rfl⟩) rfl (by first | exact .inl rfl | exact .inr rfl))
  (ss_cons (ss_set (i := 9) sc_law.nd rfl (.inl rfl) freeS.none (se_ix (hu1 hr) (se_lst (sa_cons (se_lst (sa_cons (se_add (se_int) (se_call (ok__law_taken T) (hr.mono (by decide)) tk rfl (by decide) (sa_cons (sv 1) (sa_cons (se_int) (sa_nil) rfl) rfl) ⟨rfl, rfl⟩)) (sa_cons (se_int) (sa_cons (se_int) (sa_cons (se_lst (sa_nil)) (sa_nil) rfl) rfl) rfl) rfl)) (sa_cons (se_lst (sa_cons (se_int) (sa_cons (se_int) (sa_cons (se_int) (sa_cons (se_lst (sa_cons (se_int) (sa_nil) rfl)) (sa_nil) rfl) rfl) rfl) rfl)) (sa_cons (se_lst (sa_cons (se_int) (sa_cons (se_int) (sa_cons (se_int) (sa_cons (se_lst (sa_cons (se_int) (sa_cons (se_int) (sa_nil) rfl) rfl)) (sa_nil) rfl) rfl) rfl) rfl)) (sa_cons (se_lst (sa_cons (se_int) (sa_cons (se_int) (sa_cons (se_int) (sa_cons (se_lst (sa_cons (se_int) (sa_nil) rfl)) (sa_nil) rfl) rfl) rfl) rfl)) (sa_nil) rfl) rfl) rfl) rfl)) (sv 8) (fun _ _ => rfl)) rfl (by first | exact .inl rfl | exact .inr rfl))
  (ss_cons (ss_set (i := 10) sc_law.nd rfl (.inl rfl) freeS.none (se_ix (hu1 hr) (se_lst (sa_cons (se_str) (sa_cons (se_str) (sa_cons (se_str) (sa_cons (se_str) (sa_nil) rfl) rfl) rfl) rfl)) (sv 8) (fun _ _ => rfl)) rfl (by first | exact .inl rfl | exact .inr rfl))
  (ss_cons (ss_if (st_w (sw_or (st_ne (hu64 hr) (se_meth (ok_End_hear T) (hr.mono (by decide)) tk (sv 3) (sa_cons (se_call (ok__law_frame T) (hr.mono (by decide)) tk rfl (by decide) (sa_cons (se_ix (hu1 hr) (sv 9) (se_int) (fun _ _ => rfl)) (sa_cons (se_ix (hu1 hr) (sv 9) (se_int) (fun _ _ => rfl)) (sa_cons (se_ix (hu1 hr) (sv 9) (se_int) (fun _ _ => rfl)) (sa_cons (se_ix (hu1 hr) (sv 9) (se_int) (fun _ _ => rfl)) (sa_nil) rfl) rfl) rfl) rfl) ⟨rfl, rfl⟩) (sa_nil) rfl) ⟨rfl, rfl⟩ ⟨⟨_, rfl⟩⟩) (se_lst (sa_cons (se_tup (sa_cons (se_str) (sa_cons (sv 10) (sa_nil) rfl) rfl)) (sa_nil) rfl))) (sw_or1 (st_ne (hu64 hr) (se_fld ⟨T.cl_End, T.n_End_broken⟩ (sv 3) rfl) (sv 10))))) (ss_one (ss_ret (se_bl))) (ss_nil))
  (ss_cons (ss_set (i := 11) sc_law.nd rfl (.inl rfl) freeS.none (se_ix (hu1 hr) (se_add (sv 4) (se_lst (sa_cons (se_int) (sa_nil) rfl))) (se_call (ok__law_taken T) (hr.mono (by decide)) tk rfl (by decide) (sa_cons (sv 1) (sa_cons (se_add (se_len T.std rfl (sa_cons (sv 4) (sa_nil) rfl) ⟨rfl, rfl⟩) (se_int)) (sa_nil) rfl) rfl) ⟨rfl, rfl⟩) (fun _ _ => rfl)) rfl (by first | exact .inl rfl | exact .inr rfl))
  (ss_cons (ss_for (tgd := .one 8) (passes_of rfl) rfl (tg_one freeS.none) (pg_name (i := 8) sc_law.nd rfl (.inl rfl)) (si_r1 T.std.range rfl (se_int) rfl rfl) (ss_one (ss_for (tgd := .one 12) (passes_of rfl) rfl (tg_one freeS.none) (pg_name (i := 12) sc_law.nd rfl (.inl rfl)) (si_r1 T.std.range rfl (se_int) rfl rfl) (ss_one (ss_if (st_w (sw_or (st_ne (hu64 hr) (se_call (ok__law_why T) (hr.mono (by decide)) tk rfl (by decide) (sa_cons (sv 3) (sa_cons (sv 8) (sa_cons (sv 11) (sa_cons (sv 12) (sa_nil) rfl) rfl) rfl) rfl) ⟨rfl, rfl⟩) (se_str)) (sw_or1 (st_ne (hu64 hr) (se_call (ok__law_why T) (hr.mono (by decide)) tk rfl (by decide) (sa_cons (sv 3) (sa_cons (sv 8) (sa_cons (se_int) (sa_cons (sv 12) (sa_nil) rfl) rfl) rfl) rfl) ⟨rfl, rfl⟩) (se_str))))) (ss_one (ss_ret (se_bl))) (ss_nil))) (fun _ => rfl))) (fun _ => rfl))
  (ss_cons (ss_if (st_w (sw_or (st_ne (hu64 hr) (se_meth0 (ok_End_next_frame T) (hr.mono (by decide)) tk (sv 3) ⟨⟨_, rfl⟩⟩) (se_lst (sa_nil))) (sw_or (st_ne (hu64 hr) (se_meth (ok_End_hear T) (hr.mono (by decide)) tk (sv 3) (sa_cons (se_call (ok__law_frame T) (hr.mono (by decide)) tk rfl (by decide) (sa_cons (se_int) (sa_cons (se_int) (sa_cons (se_int) (sa_cons (se_lst (sa_cons (se_int) (sa_cons (se_int) (sa_nil) rfl) rfl)) (sa_nil) rfl) rfl) rfl) rfl) ⟨rfl, rfl⟩) (sa_nil) rfl) ⟨rfl, rfl⟩ ⟨⟨_, rfl⟩⟩) (se_lst (sa_nil))) (sw_or1 (st_ne (hu64 hr) (se_fld ⟨T.cl_End, T.n_End_broken⟩ (sv 3) rfl) (sv 10)))))) (ss_one (ss_ret (se_bl))) (ss_nil))
  (ss_one (ss_ret (se_and (se_call (ok__law_list T) (hr.mono (by decide)) tk rfl (by decide) (sa_cons (se_call (ok__law_seen T) (hr.mono (by decide)) tk rfl (by decide) (sa_cons (sv 3) (sa_cons (sv 4) (sa_nil) rfl) rfl) ⟨rfl, rfl⟩) (sa_cons (sv 6) (sa_nil) rfl) rfl) ⟨rfl, rfl⟩) (se_one (se_eq (hu64 hr) (se_fld ⟨T.cl_Shelf, T.n_Shelf_pairs⟩ (se_fld ⟨T.cl_End, T.n_End_told⟩ (sv 3) rfl) rfl) (sv 7)))))))))))))))))))))
theorem ok_law (T : Txt K mg ca) : FnS P w K mg base ca 8 "law" m_law := fn_def T.d_law sc_law rfl (by decide) (body_law T)
end
theorem all_mk {K : PySem.W.Frag} {h : Heap} {mg : Str → Option Value} (X : K.In h) (G : h.Ns mainGlobals mg)
  {C_Frame : Addr}
  {C_Cutter : Addr}
  {C_Talk : Addr}
  {C_Shelf : Addr}
  {C_End : Addr}
  {C_BadHead : Addr}
  {C_LineError : Addr}
  {C_NoDeed : Addr}
  {f_Frame_init : Addr} {od_Frame_init an_Frame_init : Option Addr} {sl_Frame_init : Array (Option Value)} {oc_Frame_init kV_Frame_init dc_Frame_init pm_Frame_init cd_Frame_init ct_Frame_init : Value}
  {f_framed : Addr} {od_framed an_framed : Option Addr} {sl_framed : Array (Option Value)} {oc_framed kV_framed dc_framed pm_framed cd_framed ct_framed : Value}
  {f_Cutter_init : Addr} {od_Cutter_init an_Cutter_init : Option Addr} {sl_Cutter_init : Array (Option Value)} {oc_Cutter_init kV_Cutter_init dc_Cutter_init pm_Cutter_init cd_Cutter_init ct_Cutter_init : Value}
  {f_Cutter_fed : Addr} {od_Cutter_fed an_Cutter_fed : Option Addr} {sl_Cutter_fed : Array (Option Value)} {oc_Cutter_fed kV_Cutter_fed dc_Cutter_fed pm_Cutter_fed cd_Cutter_fed ct_Cutter_fed : Value}
  {f_text_numbers : Addr} {od_text_numbers an_text_numbers : Option Addr} {sl_text_numbers : Array (Option Value)} {oc_text_numbers kV_text_numbers dc_text_numbers pm_text_numbers cd_text_numbers ct_text_numbers : Value}
  {f_text_at : Addr} {od_text_at an_text_at : Option Addr} {sl_text_at : Array (Option Value)} {oc_text_at kV_text_at dc_text_at pm_text_at cd_text_at ct_text_at : Value}
  {f_is_head : Addr} {od_is_head an_is_head : Option Addr} {sl_is_head : Array (Option Value)} {oc_is_head kV_is_head dc_is_head pm_is_head cd_is_head ct_is_head : Value}
  {f_Shelf_place_of : Addr} {od_Shelf_place_of an_Shelf_place_of : Option Addr} {sl_Shelf_place_of : Array (Option Value)} {oc_Shelf_place_of kV_Shelf_place_of dc_Shelf_place_of pm_Shelf_place_of cd_Shelf_place_of ct_Shelf_place_of : Value}
  {f_Shelf_place_named : Addr} {od_Shelf_place_named an_Shelf_place_named : Option Addr} {sl_Shelf_place_named : Array (Option Value)} {oc_Shelf_place_named kV_Shelf_place_named dc_Shelf_place_named pm_Shelf_place_named cd_Shelf_place_named ct_Shelf_place_named : Value}
  {f_weight_of : Addr} {od_weight_of an_weight_of : Option Addr} {sl_weight_of : Array (Option Value)} {oc_weight_of kV_weight_of dc_weight_of pm_weight_of cd_weight_of ct_weight_of : Value}
  {f_Shelf_put : Addr} {od_Shelf_put an_Shelf_put : Option Addr} {sl_Shelf_put : Array (Option Value)} {oc_Shelf_put kV_Shelf_put dc_Shelf_put pm_Shelf_put cd_Shelf_put ct_Shelf_put : Value}
  {f_told_head : Addr} {od_told_head an_told_head : Option Addr} {sl_told_head : Array (Option Value)} {oc_told_head kV_told_head dc_told_head pm_told_head cd_told_head ct_told_head : Value}
  {f_pair_at : Addr} {od_pair_at an_pair_at : Option Addr} {sl_pair_at : Array (Option Value)} {oc_pair_at kV_pair_at dc_pair_at pm_pair_at cd_pair_at ct_pair_at : Value}
  {f_read_head : Addr} {od_read_head an_read_head : Option Addr} {sl_read_head : Array (Option Value)} {oc_read_head kV_read_head dc_read_head pm_read_head cd_read_head ct_read_head : Value}
  {f_Talk_init : Addr} {od_Talk_init an_Talk_init : Option Addr} {sl_Talk_init : Array (Option Value)} {oc_Talk_init kV_Talk_init dc_Talk_init pm_Talk_init cd_Talk_init ct_Talk_init : Value}
  {f_Talk_is_shut : Addr} {od_Talk_is_shut an_Talk_is_shut : Option Addr} {sl_Talk_is_shut : Array (Option Value)} {oc_Talk_is_shut kV_Talk_is_shut dc_Talk_is_shut pm_Talk_is_shut cd_Talk_is_shut ct_Talk_is_shut : Value}
  {f_Talk_drop : Addr} {od_Talk_drop an_Talk_drop : Option Addr} {sl_Talk_drop : Array (Option Value)} {oc_Talk_drop kV_Talk_drop dc_Talk_drop pm_Talk_drop cd_Talk_drop ct_Talk_drop : Value}
  {f_Talk_can_send : Addr} {od_Talk_can_send an_Talk_can_send : Option Addr} {sl_Talk_can_send : Array (Option Value)} {oc_Talk_can_send kV_Talk_can_send dc_Talk_can_send pm_Talk_can_send cd_Talk_can_send ct_Talk_can_send : Value}
  {f_why_form : Addr} {od_why_form an_why_form : Option Addr} {sl_why_form : Array (Option Value)} {oc_why_form kV_why_form dc_why_form pm_why_form cd_why_form ct_why_form : Value}
  {f_amount_of : Addr} {od_amount_of an_amount_of : Option Addr} {sl_amount_of : Array (Option Value)} {oc_amount_of kV_amount_of dc_amount_of pm_amount_of cd_amount_of ct_amount_of : Value}
  {f_is_new : Addr} {od_is_new an_is_new : Option Addr} {sl_is_new : Array (Option Value)} {oc_is_new kV_is_new dc_is_new pm_is_new cd_is_new ct_is_new : Value}
  {f_why_number : Addr} {od_why_number an_why_number : Option Addr} {sl_why_number : Array (Option Value)} {oc_why_number kV_why_number dc_why_number pm_why_number cd_why_number ct_why_number : Value}
  {f_why_body : Addr} {od_why_body an_why_body : Option Addr} {sl_why_body : Array (Option Value)} {oc_why_body kV_why_body dc_why_body pm_why_body cd_why_body ct_why_body : Value}
  {f_why_talk : Addr} {od_why_talk an_why_talk : Option Addr} {sl_why_talk : Array (Option Value)} {oc_why_talk kV_why_talk dc_why_talk pm_why_talk cd_why_talk ct_why_talk : Value}
  {f_why_not : Addr} {od_why_not an_why_not : Option Addr} {sl_why_not : Array (Option Value)} {oc_why_not kV_why_not dc_why_not pm_why_not cd_why_not ct_why_not : Value}
  {f_took_head : Addr} {od_took_head an_took_head : Option Addr} {sl_took_head : Array (Option Value)} {oc_took_head kV_took_head dc_took_head pm_took_head cd_took_head ct_took_head : Value}
  {f_took_body : Addr} {od_took_body an_took_body : Option Addr} {sl_took_body : Array (Option Value)} {oc_took_body kV_took_body dc_took_body pm_took_body cd_took_body ct_took_body : Value}
  {f_took_away : Addr} {od_took_away an_took_away : Option Addr} {sl_took_away : Array (Option Value)} {oc_took_away kV_took_away dc_took_away pm_took_away cd_took_away ct_took_away : Value}
  {f_took_other : Addr} {od_took_other an_took_other : Option Addr} {sl_took_other : Array (Option Value)} {oc_took_other kV_took_other dc_took_other pm_took_other cd_took_other ct_took_other : Value}
  {f_took : Addr} {od_took an_took : Option Addr} {sl_took : Array (Option Value)} {oc_took kV_took dc_took pm_took cd_took ct_took : Value}
  {f_Shelf_init : Addr} {od_Shelf_init an_Shelf_init : Option Addr} {sl_Shelf_init : Array (Option Value)} {oc_Shelf_init kV_Shelf_init dc_Shelf_init pm_Shelf_init cd_Shelf_init ct_Shelf_init : Value}
  {f_End_init : Addr} {od_End_init an_End_init : Option Addr} {sl_End_init : Array (Option Value)} {oc_End_init kV_End_init dc_End_init pm_End_init cd_End_init ct_End_init : Value}
  {f_End_known : Addr} {od_End_known an_End_known : Option Addr} {sl_End_known : Array (Option Value)} {oc_End_known kV_End_known dc_End_known pm_End_known cd_End_known ct_End_known : Value}
  {f_End_unshut : Addr} {od_End_unshut an_End_unshut : Option Addr} {sl_End_unshut : Array (Option Value)} {oc_End_unshut kV_End_unshut dc_End_unshut pm_End_unshut cd_End_unshut ct_End_unshut : Value}
  {f_End_put_head : Addr} {od_End_put_head an_End_put_head : Option Addr} {sl_End_put_head : Array (Option Value)} {oc_End_put_head kV_End_put_head dc_End_put_head pm_End_put_head cd_End_put_head ct_End_put_head : Value}
  {f_End_begin : Addr} {od_End_begin an_End_begin : Option Addr} {sl_End_begin : Array (Option Value)} {oc_End_begin kV_End_begin dc_End_begin pm_End_begin cd_End_begin ct_End_begin : Value}
  {f_End_answer : Addr} {od_End_answer an_End_answer : Option Addr} {sl_End_answer : Array (Option Value)} {oc_End_answer kV_End_answer dc_End_answer pm_End_answer cd_End_answer ct_End_answer : Value}
  {f_End_say : Addr} {od_End_say an_End_say : Option Addr} {sl_End_say : Array (Option Value)} {oc_End_say kV_End_say dc_End_say pm_End_say cd_End_say ct_End_say : Value}
  {f_End_grant : Addr} {od_End_grant an_End_grant : Option Addr} {sl_End_grant : Array (Option Value)} {oc_End_grant kV_End_grant dc_End_grant pm_End_grant cd_End_grant ct_End_grant : Value}
  {f_End_reset : Addr} {od_End_reset an_End_reset : Option Addr} {sl_End_reset : Array (Option Value)} {oc_End_reset kV_End_reset dc_End_reset pm_End_reset cd_End_reset ct_End_reset : Value}
  {f_End_ask_rank : Addr} {od_End_ask_rank an_End_ask_rank : Option Addr} {sl_End_ask_rank : Array (Option Value)} {oc_End_ask_rank kV_End_ask_rank dc_End_ask_rank pm_End_ask_rank cd_End_ask_rank ct_End_ask_rank : Value}
  {f_End_leave : Addr} {od_End_leave an_End_leave : Option Addr} {sl_End_leave : Array (Option Value)} {oc_End_leave kV_End_leave dc_End_leave pm_End_leave cd_End_leave ct_End_leave : Value}
  {f_End_body_of : Addr} {od_End_body_of an_End_body_of : Option Addr} {sl_End_body_of : Array (Option Value)} {oc_End_body_of kV_End_body_of dc_End_body_of pm_End_body_of cd_End_body_of ct_End_body_of : Value}
  {f_End_next_frame : Addr} {od_End_next_frame an_End_next_frame : Option Addr} {sl_End_next_frame : Array (Option Value)} {oc_End_next_frame kV_End_next_frame dc_End_next_frame pm_End_next_frame cd_End_next_frame ct_End_next_frame : Value}
  {f_End_hear : Addr} {od_End_hear an_End_hear : Option Addr} {sl_End_hear : Array (Option Value)} {oc_End_hear kV_End_hear dc_End_hear pm_End_hear cd_End_hear ct_End_hear : Value}
  {f_End_left : Addr} {od_End_left an_End_left : Option Addr} {sl_End_left : Array (Option Value)} {oc_End_left kV_End_left dc_End_left pm_End_left cd_End_left ct_End_left : Value}
  {f_End_waiting : Addr} {od_End_waiting an_End_waiting : Option Addr} {sl_End_waiting : Array (Option Value)} {oc_End_waiting kV_End_waiting dc_End_waiting pm_End_waiting cd_End_waiting ct_End_waiting : Value}
  {f__law_row : Addr} {od__law_row an__law_row : Option Addr} {sl__law_row : Array (Option Value)} {oc__law_row kV__law_row dc__law_row pm__law_row cd__law_row ct__law_row : Value}
  {f__law_taken : Addr} {od__law_taken an__law_taken : Option Addr} {sl__law_taken : Array (Option Value)} {oc__law_taken kV__law_taken dc__law_taken pm__law_taken cd__law_taken ct__law_taken : Value}
  {f__law_whole : Addr} {od__law_whole an__law_whole : Option Addr} {sl__law_whole : Array (Option Value)} {oc__law_whole kV__law_whole dc__law_whole pm__law_whole cd__law_whole ct__law_whole : Value}
  {f__law_list : Addr} {od__law_list an__law_list : Option Addr} {sl__law_list : Array (Option Value)} {oc__law_list kV__law_list dc__law_list pm__law_list cd__law_list ct__law_list : Value}
  {f__law_frame : Addr} {od__law_frame an__law_frame : Option Addr} {sl__law_frame : Array (Option Value)} {oc__law_frame kV__law_frame dc__law_frame pm__law_frame cd__law_frame ct__law_frame : Value}
  {f__law_deed : Addr} {od__law_deed an__law_deed : Option Addr} {sl__law_deed : Array (Option Value)} {oc__law_deed kV__law_deed dc__law_deed pm__law_deed cd__law_deed ct__law_deed : Value}
  {f__law_why : Addr} {od__law_why an__law_why : Option Addr} {sl__law_why : Array (Option Value)} {oc__law_why kV__law_why dc__law_why pm__law_why cd__law_why ct__law_why : Value}
  {f__law_seen : Addr} {od__law_seen an__law_seen : Option Addr} {sl__law_seen : Array (Option Value)} {oc__law_seen kV__law_seen dc__law_seen pm__law_seen cd__law_seen ct__law_seen : Value}
  {f_law : Addr} {od_law an_law : Option Addr} {sl_law : Array (Option Value)} {oc_law kV_law dc_law pm_law cd_law ct_law : Value}
  {f_NoDeed_init : Addr} {od_NoDeed_init an_NoDeed_init : Option Addr} {sl_NoDeed_init : Array (Option Value)} {oc_NoDeed_init kV_NoDeed_init dc_NoDeed_init pm_NoDeed_init cd_NoDeed_init ct_NoDeed_init : Value}
  {nm_NoDeed q_NoDeed : Str} {N_NoDeed CL_NoDeed : Addr} {bs_NoDeed : List Value} {sn_NoDeed : List Str} {sub_NoDeed : List Value} {ab_NoDeed : Bool} {col_NoDeed : Option Bool} {dd_NoDeed : Option Addr} {m0_NoDeed m1_NoDeed m2_NoDeed m3_NoDeed m5_NoDeed : Option Value}
  {t_HEAD : Tok}
  {t_BODY : Tok}
  {t_CREDIT : Tok}
  {t_RESET : Tok}
  {t_RANK : Tok}
  {t_AWAY : Tok}
  {t_AHEAD : Tok}
  {t_MOST_SIZE : Tok}
  {t_SIGNS : Tok}
  {t_LONGEST : Tok}
  {t_MOST_PAIRS : Tok}
  {t_LONGEST_NAME : Tok}
  {t_WHOLE : Tok}
  {t_NAMED : Tok}
  {t_FRESH : Tok}
  {t_FIRST_CREDIT : Tok}
  {t_LINE_CREDIT : Tok}
  {t_MOST_CREDIT : Tok}
  {t_MOST_BODY : Tok}
  {t_MIDDLE_RANK : Tok}
  {t_MOST_TALK : Tok}
  {t_MOST_RANK : Tok}
  {t_MOST_WEIGHT : Tok}
  {D_SIZES n_SIZES : Nat} {t0_SIZES u0_SIZES t1_SIZES u1_SIZES t2_SIZES u2_SIZES t3_SIZES u3_SIZES : Tok}
  (g_Frame : PySem.W.nsIn K mainGlobals "Frame" = some (some (.ref C_Frame)))
  (g_Cutter : PySem.W.nsIn K mainGlobals "Cutter" = some (some (.ref C_Cutter)))
  (g_Talk : PySem.W.nsIn K mainGlobals "Talk" = some (some (.ref C_Talk)))
  (g_Shelf : PySem.W.nsIn K mainGlobals "Shelf" = some (some (.ref C_Shelf)))
  (g_End : PySem.W.nsIn K mainGlobals "End" = some (some (.ref C_End)))
  (g_BadHead : PySem.W.nsIn K mainGlobals "BadHead" = some (some (.ref C_BadHead)))
  (g_LineError : PySem.W.nsIn K mainGlobals "LineError" = some (some (.ref C_LineError)))
  (g_NoDeed : PySem.W.nsIn K mainGlobals "NoDeed" = some (some (.ref C_NoDeed)))
  (std_len : PySem.W.nsIn K mainGlobals "len" = some none)
  (std_list : PySem.W.nsIn K mainGlobals "list" = some none)
  (std_int : PySem.W.nsIn K mainGlobals "int" = some none)
  (std_bool : PySem.W.nsIn K mainGlobals "bool" = some none)
  (std_str : PySem.W.nsIn K mainGlobals "str" = some none)
  (std_tuple : PySem.W.nsIn K mainGlobals "tuple" = some none)
  (std_sum : PySem.W.nsIn K mainGlobals "sum" = some none)
  (std_max : PySem.W.nsIn K mainGlobals "max" = some none)
  (std_min : PySem.W.nsIn K mainGlobals "min" = some none)
  (std_isinstance : PySem.W.nsIn K mainGlobals "isinstance" = some none)
  (std_range : PySem.W.nsIn K mainGlobals "range" = some none)
  (std_enumerate : PySem.W.nsIn K mainGlobals "enumerate" = some none)
  (std_zip : PySem.W.nsIn K mainGlobals "zip" = some none)
  (std_sorted : PySem.W.nsIn K mainGlobals "sorted" = some none)
  (std_ValueError : PySem.W.nsIn K mainGlobals "ValueError" = some none)
  (pg_Frame : PySem.W.plainGet K C_Frame Str.empty = true)
  (hd_Frame : PySem.W.hasDictIn K C_Frame = true)
  (po_Frame : PySem.W.plainOver K C_Frame = true)
  (sa_Frame : PySem.W.findIn K (.ref C_Frame) "__setattr__" = some (some (.builtin "object.__setattr__")))
  (n_Frame_flag : PySem.W.findIn K (.ref C_Frame) "flag" = some none)
  (n_Frame_kind : PySem.W.findIn K (.ref C_Frame) "kind" = some none)
  (n_Frame_numbers : PySem.W.findIn K (.ref C_Frame) "numbers" = some none)
  (n_Frame_talk : PySem.W.findIn K (.ref C_Frame) "talk" = some none)
  (pg_Cutter : PySem.W.plainGet K C_Cutter Str.empty = true)
  (hd_Cutter : PySem.W.hasDictIn K C_Cutter = true)
  (po_Cutter : PySem.W.plainOver K C_Cutter = true)
  (sa_Cutter : PySem.W.findIn K (.ref C_Cutter) "__setattr__" = some (some (.builtin "object.__setattr__")))
  (n_Cutter_held : PySem.W.findIn K (.ref C_Cutter) "held" = some none)
  (pg_Talk : PySem.W.plainGet K C_Talk Str.empty = true)
  (hd_Talk : PySem.W.hasDictIn K C_Talk = true)
  (po_Talk : PySem.W.plainOver K C_Talk = true)
  (sa_Talk : PySem.W.findIn K (.ref C_Talk) "__setattr__" = some (some (.builtin "object.__setattr__")))
  (n_Talk_ends_behind : PySem.W.findIn K (.ref C_Talk) "ends_behind" = some none)
  (n_Talk_gives : PySem.W.findIn K (.ref C_Talk) "gives" = some none)
  (n_Talk_heard_end : PySem.W.findIn K (.ref C_Talk) "heard_end" = some none)
  (n_Talk_heard_head : PySem.W.findIn K (.ref C_Talk) "heard_head" = some none)
  (n_Talk_may : PySem.W.findIn K (.ref C_Talk) "may" = some none)
  (n_Talk_number : PySem.W.findIn K (.ref C_Talk) "number" = some none)
  (n_Talk_rank : PySem.W.findIn K (.ref C_Talk) "rank" = some none)
  (n_Talk_said_end : PySem.W.findIn K (.ref C_Talk) "said_end" = some none)
  (n_Talk_said_head : PySem.W.findIn K (.ref C_Talk) "said_head" = some none)
  (n_Talk_served : PySem.W.findIn K (.ref C_Talk) "served" = some none)
  (n_Talk_shut_here : PySem.W.findIn K (.ref C_Talk) "shut_here" = some none)
  (n_Talk_shut_there : PySem.W.findIn K (.ref C_Talk) "shut_there" = some none)
  (n_Talk_waits : PySem.W.findIn K (.ref C_Talk) "waits" = some none)
  (pg_Shelf : PySem.W.plainGet K C_Shelf Str.empty = true)
  (hd_Shelf : PySem.W.hasDictIn K C_Shelf = true)
  (po_Shelf : PySem.W.plainOver K C_Shelf = true)
  (sa_Shelf : PySem.W.findIn K (.ref C_Shelf) "__setattr__" = some (some (.builtin "object.__setattr__")))
  (n_Shelf_pairs : PySem.W.findIn K (.ref C_Shelf) "pairs" = some none)
  (pg_End : PySem.W.plainGet K C_End Str.empty = true)
  (hd_End : PySem.W.hasDictIn K C_End = true)
  (po_End : PySem.W.plainOver K C_End = true)
  (sa_End : PySem.W.findIn K (.ref C_End) "__setattr__" = some (some (.builtin "object.__setattr__")))
  (n_End_away_at : PySem.W.findIn K (.ref C_End) "away_at" = some none)
  (n_End_broken : PySem.W.findIn K (.ref C_End) "broken" = some none)
  (n_End_cutter : PySem.W.findIn K (.ref C_End) "cutter" = some none)
  (n_End_heard : PySem.W.findIn K (.ref C_End) "heard" = some none)
  (n_End_left_at : PySem.W.findIn K (.ref C_End) "left_at" = some none)
  (n_End_line : PySem.W.findIn K (.ref C_End) "line" = some none)
  (n_End_mine : PySem.W.findIn K (.ref C_End) "mine" = some none)
  (n_End_out : PySem.W.findIn K (.ref C_End) "out" = some none)
  (n_End_side : PySem.W.findIn K (.ref C_End) "side" = some none)
  (n_End_talks : PySem.W.findIn K (.ref C_End) "talks" = some none)
  (n_End_theirs : PySem.W.findIn K (.ref C_End) "theirs" = some none)
  (n_End_told : PySem.W.findIn K (.ref C_End) "told" = some none)
  (n_End_turns : PySem.W.findIn K (.ref C_End) "turns" = some none)
  (mk_Frame_init : PySem.W.makesIn K C_Frame = true)
  (kc_Frame_init : PySem.W.keepIn K (.ref C_Frame) = true)
  (a_Frame_init : PySem.W.findIn K (.ref C_Frame) "__init__" = some (some (.ref f_Frame_init)))
  (i_Frame_init : PySem.W.isFn K (.ref f_Frame_init) = true)
  (l_Frame_init : K.lookup f_Frame_init = some ⟨oc_Frame_init, od_Frame_init, .func (PySem.W.fnOf "__init__" "Frame.__init__" (defArgs s_Frame_init) (defBody s_Frame_init) (defScope s_Frame_init) .none kV_Frame_init dc_Frame_init pm_Frame_init an_Frame_init cd_Frame_init ct_Frame_init), sl_Frame_init⟩)
  (c_Frame_init : PySem.W.codeIn K cd_Frame_init "Frame.__init__" = true)
  (k_Frame_init : PySem.W.keepIn K (.ref f_Frame_init) = true)
  (a_framed : PySem.W.nsIn K mainGlobals "framed" = some (some (.ref f_framed)))
  (l_framed : K.lookup f_framed = some ⟨oc_framed, od_framed, .func (PySem.W.fnOf "framed" "framed" (defArgs s_framed) (defBody s_framed) (defScope s_framed) .none kV_framed dc_framed pm_framed an_framed cd_framed ct_framed), sl_framed⟩)
  (c_framed : PySem.W.codeIn K cd_framed "framed" = true)
  (k_framed : PySem.W.keepIn K (.ref f_framed) = true)
  (mk_Cutter_init : PySem.W.makesIn K C_Cutter = true)
  (kc_Cutter_init : PySem.W.keepIn K (.ref C_Cutter) = true)
  (a_Cutter_init : PySem.W.findIn K (.ref C_Cutter) "__init__" = some (some (.ref f_Cutter_init)))
  (i_Cutter_init : PySem.W.isFn K (.ref f_Cutter_init) = true)
  (l_Cutter_init : K.lookup f_Cutter_init = some ⟨oc_Cutter_init, od_Cutter_init, .func (PySem.W.fnOf "__init__" "Cutter.__init__" (defArgs s_Cutter_init) (defBody s_Cutter_init) (defScope s_Cutter_init) .none kV_Cutter_init dc_Cutter_init pm_Cutter_init an_Cutter_init cd_Cutter_init ct_Cutter_init), sl_Cutter_init⟩)
  (c_Cutter_init : PySem.W.codeIn K cd_Cutter_init "Cutter.__init__" = true)
  (k_Cutter_init : PySem.W.keepIn K (.ref f_Cutter_init) = true)
  (a_Cutter_fed : PySem.W.findIn K (.ref C_Cutter) "fed" = some (some (.ref f_Cutter_fed)))
  (i_Cutter_fed : PySem.W.isFn K (.ref f_Cutter_fed) = true)
  (l_Cutter_fed : K.lookup f_Cutter_fed = some ⟨oc_Cutter_fed, od_Cutter_fed, .func (PySem.W.fnOf "fed" "Cutter.fed" (defArgs s_Cutter_fed) (defBody s_Cutter_fed) (defScope s_Cutter_fed) .none kV_Cutter_fed dc_Cutter_fed pm_Cutter_fed an_Cutter_fed cd_Cutter_fed ct_Cutter_fed), sl_Cutter_fed⟩)
  (c_Cutter_fed : PySem.W.codeIn K cd_Cutter_fed "Cutter.fed" = true)
  (k_Cutter_fed : PySem.W.keepIn K (.ref f_Cutter_fed) = true)
  (a_text_numbers : PySem.W.nsIn K mainGlobals "text_numbers" = some (some (.ref f_text_numbers)))
  (l_text_numbers : K.lookup f_text_numbers = some ⟨oc_text_numbers, od_text_numbers, .func (PySem.W.fnOf "text_numbers" "text_numbers" (defArgs s_text_numbers) (defBody s_text_numbers) (defScope s_text_numbers) .none kV_text_numbers dc_text_numbers pm_text_numbers an_text_numbers cd_text_numbers ct_text_numbers), sl_text_numbers⟩)
  (c_text_numbers : PySem.W.codeIn K cd_text_numbers "text_numbers" = true)
  (k_text_numbers : PySem.W.keepIn K (.ref f_text_numbers) = true)
  (a_text_at : PySem.W.nsIn K mainGlobals "text_at" = some (some (.ref f_text_at)))
  (l_text_at : K.lookup f_text_at = some ⟨oc_text_at, od_text_at, .func (PySem.W.fnOf "text_at" "text_at" (defArgs s_text_at) (defBody s_text_at) (defScope s_text_at) .none kV_text_at dc_text_at pm_text_at an_text_at cd_text_at ct_text_at), sl_text_at⟩)
  (c_text_at : PySem.W.codeIn K cd_text_at "text_at" = true)
  (k_text_at : PySem.W.keepIn K (.ref f_text_at) = true)
  (a_is_head : PySem.W.nsIn K mainGlobals "is_head" = some (some (.ref f_is_head)))
  (l_is_head : K.lookup f_is_head = some ⟨oc_is_head, od_is_head, .func (PySem.W.fnOf "is_head" "is_head" (defArgs s_is_head) (defBody s_is_head) (defScope s_is_head) .none kV_is_head dc_is_head pm_is_head an_is_head cd_is_head ct_is_head), sl_is_head⟩)
  (c_is_head : PySem.W.codeIn K cd_is_head "is_head" = true)
  (k_is_head : PySem.W.keepIn K (.ref f_is_head) = true)
  (a_Shelf_place_of : PySem.W.findIn K (.ref C_Shelf) "place_of" = some (some (.ref f_Shelf_place_of)))
  (i_Shelf_place_of : PySem.W.isFn K (.ref f_Shelf_place_of) = true)
  (l_Shelf_place_of : K.lookup f_Shelf_place_of = some ⟨oc_Shelf_place_of, od_Shelf_place_of, .func (PySem.W.fnOf "place_of" "Shelf.place_of" (defArgs s_Shelf_place_of) (defBody s_Shelf_place_of) (defScope s_Shelf_place_of) .none kV_Shelf_place_of dc_Shelf_place_of pm_Shelf_place_of an_Shelf_place_of cd_Shelf_place_of ct_Shelf_place_of), sl_Shelf_place_of⟩)
  (c_Shelf_place_of : PySem.W.codeIn K cd_Shelf_place_of "Shelf.place_of" = true)
  (k_Shelf_place_of : PySem.W.keepIn K (.ref f_Shelf_place_of) = true)
  (a_Shelf_place_named : PySem.W.findIn K (.ref C_Shelf) "place_named" = some (some (.ref f_Shelf_place_named)))
  (i_Shelf_place_named : PySem.W.isFn K (.ref f_Shelf_place_named) = true)
  (l_Shelf_place_named : K.lookup f_Shelf_place_named = some ⟨oc_Shelf_place_named, od_Shelf_place_named, .func (PySem.W.fnOf "place_named" "Shelf.place_named" (defArgs s_Shelf_place_named) (defBody s_Shelf_place_named) (defScope s_Shelf_place_named) .none kV_Shelf_place_named dc_Shelf_place_named pm_Shelf_place_named an_Shelf_place_named cd_Shelf_place_named ct_Shelf_place_named), sl_Shelf_place_named⟩)
  (c_Shelf_place_named : PySem.W.codeIn K cd_Shelf_place_named "Shelf.place_named" = true)
  (k_Shelf_place_named : PySem.W.keepIn K (.ref f_Shelf_place_named) = true)
  (a_weight_of : PySem.W.nsIn K mainGlobals "weight_of" = some (some (.ref f_weight_of)))
  (l_weight_of : K.lookup f_weight_of = some ⟨oc_weight_of, od_weight_of, .func (PySem.W.fnOf "weight_of" "weight_of" (defArgs s_weight_of) (defBody s_weight_of) (defScope s_weight_of) .none kV_weight_of dc_weight_of pm_weight_of an_weight_of cd_weight_of ct_weight_of), sl_weight_of⟩)
  (c_weight_of : PySem.W.codeIn K cd_weight_of "weight_of" = true)
  (k_weight_of : PySem.W.keepIn K (.ref f_weight_of) = true)
  (a_Shelf_put : PySem.W.findIn K (.ref C_Shelf) "put" = some (some (.ref f_Shelf_put)))
  (i_Shelf_put : PySem.W.isFn K (.ref f_Shelf_put) = true)
  (l_Shelf_put : K.lookup f_Shelf_put = some ⟨oc_Shelf_put, od_Shelf_put, .func (PySem.W.fnOf "put" "Shelf.put" (defArgs s_Shelf_put) (defBody s_Shelf_put) (defScope s_Shelf_put) .none kV_Shelf_put dc_Shelf_put pm_Shelf_put an_Shelf_put cd_Shelf_put ct_Shelf_put), sl_Shelf_put⟩)
  (c_Shelf_put : PySem.W.codeIn K cd_Shelf_put "Shelf.put" = true)
  (k_Shelf_put : PySem.W.keepIn K (.ref f_Shelf_put) = true)
  (a_told_head : PySem.W.nsIn K mainGlobals "told_head" = some (some (.ref f_told_head)))
  (l_told_head : K.lookup f_told_head = some ⟨oc_told_head, od_told_head, .func (PySem.W.fnOf "told_head" "told_head" (defArgs s_told_head) (defBody s_told_head) (defScope s_told_head) .none kV_told_head dc_told_head pm_told_head an_told_head cd_told_head ct_told_head), sl_told_head⟩)
  (c_told_head : PySem.W.codeIn K cd_told_head "told_head" = true)
  (k_told_head : PySem.W.keepIn K (.ref f_told_head) = true)
  (a_pair_at : PySem.W.nsIn K mainGlobals "pair_at" = some (some (.ref f_pair_at)))
  (l_pair_at : K.lookup f_pair_at = some ⟨oc_pair_at, od_pair_at, .func (PySem.W.fnOf "pair_at" "pair_at" (defArgs s_pair_at) (defBody s_pair_at) (defScope s_pair_at) .none kV_pair_at dc_pair_at pm_pair_at an_pair_at cd_pair_at ct_pair_at), sl_pair_at⟩)
  (c_pair_at : PySem.W.codeIn K cd_pair_at "pair_at" = true)
  (k_pair_at : PySem.W.keepIn K (.ref f_pair_at) = true)
  (a_read_head : PySem.W.nsIn K mainGlobals "read_head" = some (some (.ref f_read_head)))
  (l_read_head : K.lookup f_read_head = some ⟨oc_read_head, od_read_head, .func (PySem.W.fnOf "read_head" "read_head" (defArgs s_read_head) (defBody s_read_head) (defScope s_read_head) .none kV_read_head dc_read_head pm_read_head an_read_head cd_read_head ct_read_head), sl_read_head⟩)
  (c_read_head : PySem.W.codeIn K cd_read_head "read_head" = true)
  (k_read_head : PySem.W.keepIn K (.ref f_read_head) = true)
  (mk_Talk_init : PySem.W.makesIn K C_Talk = true)
  (kc_Talk_init : PySem.W.keepIn K (.ref C_Talk) = true)
  (a_Talk_init : PySem.W.findIn K (.ref C_Talk) "__init__" = some (some (.ref f_Talk_init)))
  (i_Talk_init : PySem.W.isFn K (.ref f_Talk_init) = true)
  (l_Talk_init : K.lookup f_Talk_init = some ⟨oc_Talk_init, od_Talk_init, .func (PySem.W.fnOf "__init__" "Talk.__init__" (defArgs s_Talk_init) (defBody s_Talk_init) (defScope s_Talk_init) .none kV_Talk_init dc_Talk_init pm_Talk_init an_Talk_init cd_Talk_init ct_Talk_init), sl_Talk_init⟩)
  (c_Talk_init : PySem.W.codeIn K cd_Talk_init "Talk.__init__" = true)
  (k_Talk_init : PySem.W.keepIn K (.ref f_Talk_init) = true)
  (a_Talk_is_shut : PySem.W.findIn K (.ref C_Talk) "is_shut" = some (some (.ref f_Talk_is_shut)))
  (i_Talk_is_shut : PySem.W.isFn K (.ref f_Talk_is_shut) = true)
  (l_Talk_is_shut : K.lookup f_Talk_is_shut = some ⟨oc_Talk_is_shut, od_Talk_is_shut, .func (PySem.W.fnOf "is_shut" "Talk.is_shut" (defArgs s_Talk_is_shut) (defBody s_Talk_is_shut) (defScope s_Talk_is_shut) .none kV_Talk_is_shut dc_Talk_is_shut pm_Talk_is_shut an_Talk_is_shut cd_Talk_is_shut ct_Talk_is_shut), sl_Talk_is_shut⟩)
  (c_Talk_is_shut : PySem.W.codeIn K cd_Talk_is_shut "Talk.is_shut" = true)
  (k_Talk_is_shut : PySem.W.keepIn K (.ref f_Talk_is_shut) = true)
  (a_Talk_drop : PySem.W.findIn K (.ref C_Talk) "drop" = some (some (.ref f_Talk_drop)))
  (i_Talk_drop : PySem.W.isFn K (.ref f_Talk_drop) = true)
  (l_Talk_drop : K.lookup f_Talk_drop = some ⟨oc_Talk_drop, od_Talk_drop, .func (PySem.W.fnOf "drop" "Talk.drop" (defArgs s_Talk_drop) (defBody s_Talk_drop) (defScope s_Talk_drop) .none kV_Talk_drop dc_Talk_drop pm_Talk_drop an_Talk_drop cd_Talk_drop ct_Talk_drop), sl_Talk_drop⟩)
  (c_Talk_drop : PySem.W.codeIn K cd_Talk_drop "Talk.drop" = true)
  (k_Talk_drop : PySem.W.keepIn K (.ref f_Talk_drop) = true)
  (a_Talk_can_send : PySem.W.findIn K (.ref C_Talk) "can_send" = some (some (.ref f_Talk_can_send)))
  (i_Talk_can_send : PySem.W.isFn K (.ref f_Talk_can_send) = true)
  (l_Talk_can_send : K.lookup f_Talk_can_send = some ⟨oc_Talk_can_send, od_Talk_can_send, .func (PySem.W.fnOf "can_send" "Talk.can_send" (defArgs s_Talk_can_send) (defBody s_Talk_can_send) (defScope s_Talk_can_send) .none kV_Talk_can_send dc_Talk_can_send pm_Talk_can_send an_Talk_can_send cd_Talk_can_send ct_Talk_can_send), sl_Talk_can_send⟩)
  (c_Talk_can_send : PySem.W.codeIn K cd_Talk_can_send "Talk.can_send" = true)
  (k_Talk_can_send : PySem.W.keepIn K (.ref f_Talk_can_send) = true)
  (a_why_form : PySem.W.nsIn K mainGlobals "why_form" = some (some (.ref f_why_form)))
  (l_why_form : K.lookup f_why_form = some ⟨oc_why_form, od_why_form, .func (PySem.W.fnOf "why_form" "why_form" (defArgs s_why_form) (defBody s_why_form) (defScope s_why_form) .none kV_why_form dc_why_form pm_why_form an_why_form cd_why_form ct_why_form), sl_why_form⟩)
  (c_why_form : PySem.W.codeIn K cd_why_form "why_form" = true)
  (k_why_form : PySem.W.keepIn K (.ref f_why_form) = true)
  (a_amount_of : PySem.W.nsIn K mainGlobals "amount_of" = some (some (.ref f_amount_of)))
  (l_amount_of : K.lookup f_amount_of = some ⟨oc_amount_of, od_amount_of, .func (PySem.W.fnOf "amount_of" "amount_of" (defArgs s_amount_of) (defBody s_amount_of) (defScope s_amount_of) .none kV_amount_of dc_amount_of pm_amount_of an_amount_of cd_amount_of ct_amount_of), sl_amount_of⟩)
  (c_amount_of : PySem.W.codeIn K cd_amount_of "amount_of" = true)
  (k_amount_of : PySem.W.keepIn K (.ref f_amount_of) = true)
  (a_is_new : PySem.W.nsIn K mainGlobals "is_new" = some (some (.ref f_is_new)))
  (l_is_new : K.lookup f_is_new = some ⟨oc_is_new, od_is_new, .func (PySem.W.fnOf "is_new" "is_new" (defArgs s_is_new) (defBody s_is_new) (defScope s_is_new) .none kV_is_new dc_is_new pm_is_new an_is_new cd_is_new ct_is_new), sl_is_new⟩)
  (c_is_new : PySem.W.codeIn K cd_is_new "is_new" = true)
  (k_is_new : PySem.W.keepIn K (.ref f_is_new) = true)
  (a_why_number : PySem.W.nsIn K mainGlobals "why_number" = some (some (.ref f_why_number)))
  (l_why_number : K.lookup f_why_number = some ⟨oc_why_number, od_why_number, .func (PySem.W.fnOf "why_number" "why_number" (defArgs s_why_number) (defBody s_why_number) (defScope s_why_number) .none kV_why_number dc_why_number pm_why_number an_why_number cd_why_number ct_why_number), sl_why_number⟩)
  (c_why_number : PySem.W.codeIn K cd_why_number "why_number" = true)
  (k_why_number : PySem.W.keepIn K (.ref f_why_number) = true)
  (a_why_body : PySem.W.nsIn K mainGlobals "why_body" = some (some (.ref f_why_body)))
  (l_why_body : K.lookup f_why_body = some ⟨oc_why_body, od_why_body, .func (PySem.W.fnOf "why_body" "why_body" (defArgs s_why_body) (defBody s_why_body) (defScope s_why_body) .none kV_why_body dc_why_body pm_why_body an_why_body cd_why_body ct_why_body), sl_why_body⟩)
  (c_why_body : PySem.W.codeIn K cd_why_body "why_body" = true)
  (k_why_body : PySem.W.keepIn K (.ref f_why_body) = true)
  (a_why_talk : PySem.W.nsIn K mainGlobals "why_talk" = some (some (.ref f_why_talk)))
  (l_why_talk : K.lookup f_why_talk = some ⟨oc_why_talk, od_why_talk, .func (PySem.W.fnOf "why_talk" "why_talk" (defArgs s_why_talk) (defBody s_why_talk) (defScope s_why_talk) .none kV_why_talk dc_why_talk pm_why_talk an_why_talk cd_why_talk ct_why_talk), sl_why_talk⟩)
  (c_why_talk : PySem.W.codeIn K cd_why_talk "why_talk" = true)
  (k_why_talk : PySem.W.keepIn K (.ref f_why_talk) = true)
  (a_why_not : PySem.W.nsIn K mainGlobals "why_not" = some (some (.ref f_why_not)))
  (l_why_not : K.lookup f_why_not = some ⟨oc_why_not, od_why_not, .func (PySem.W.fnOf "why_not" "why_not" (defArgs s_why_not) (defBody s_why_not) (defScope s_why_not) .none kV_why_not dc_why_not pm_why_not an_why_not cd_why_not ct_why_not), sl_why_not⟩)
  (c_why_not : PySem.W.codeIn K cd_why_not "why_not" = true)
  (k_why_not : PySem.W.keepIn K (.ref f_why_not) = true)
  (a_took_head : PySem.W.nsIn K mainGlobals "took_head" = some (some (.ref f_took_head)))
  (l_took_head : K.lookup f_took_head = some ⟨oc_took_head, od_took_head, .func (PySem.W.fnOf "took_head" "took_head" (defArgs s_took_head) (defBody s_took_head) (defScope s_took_head) .none kV_took_head dc_took_head pm_took_head an_took_head cd_took_head ct_took_head), sl_took_head⟩)
  (c_took_head : PySem.W.codeIn K cd_took_head "took_head" = true)
  (k_took_head : PySem.W.keepIn K (.ref f_took_head) = true)
  (a_took_body : PySem.W.nsIn K mainGlobals "took_body" = some (some (.ref f_took_body)))
  (l_took_body : K.lookup f_took_body = some ⟨oc_took_body, od_took_body, .func (PySem.W.fnOf "took_body" "took_body" (defArgs s_took_body) (defBody s_took_body) (defScope s_took_body) .none kV_took_body dc_took_body pm_took_body an_took_body cd_took_body ct_took_body), sl_took_body⟩)
  (c_took_body : PySem.W.codeIn K cd_took_body "took_body" = true)
  (k_took_body : PySem.W.keepIn K (.ref f_took_body) = true)
  (a_took_away : PySem.W.nsIn K mainGlobals "took_away" = some (some (.ref f_took_away)))
  (l_took_away : K.lookup f_took_away = some ⟨oc_took_away, od_took_away, .func (PySem.W.fnOf "took_away" "took_away" (defArgs s_took_away) (defBody s_took_away) (defScope s_took_away) .none kV_took_away dc_took_away pm_took_away an_took_away cd_took_away ct_took_away), sl_took_away⟩)
  (c_took_away : PySem.W.codeIn K cd_took_away "took_away" = true)
  (k_took_away : PySem.W.keepIn K (.ref f_took_away) = true)
  (a_took_other : PySem.W.nsIn K mainGlobals "took_other" = some (some (.ref f_took_other)))
  (l_took_other : K.lookup f_took_other = some ⟨oc_took_other, od_took_other, .func (PySem.W.fnOf "took_other" "took_other" (defArgs s_took_other) (defBody s_took_other) (defScope s_took_other) .none kV_took_other dc_took_other pm_took_other an_took_other cd_took_other ct_took_other), sl_took_other⟩)
  (c_took_other : PySem.W.codeIn K cd_took_other "took_other" = true)
  (k_took_other : PySem.W.keepIn K (.ref f_took_other) = true)
  (a_took : PySem.W.nsIn K mainGlobals "took" = some (some (.ref f_took)))
  (l_took : K.lookup f_took = some ⟨oc_took, od_took, .func (PySem.W.fnOf "took" "took" (defArgs s_took) (defBody s_took) (defScope s_took) .none kV_took dc_took pm_took an_took cd_took ct_took), sl_took⟩)
  (c_took : PySem.W.codeIn K cd_took "took" = true)
  (k_took : PySem.W.keepIn K (.ref f_took) = true)
  (mk_Shelf_init : PySem.W.makesIn K C_Shelf = true)
  (kc_Shelf_init : PySem.W.keepIn K (.ref C_Shelf) = true)
  (a_Shelf_init : PySem.W.findIn K (.ref C_Shelf) "__init__" = some (some (.ref f_Shelf_init)))
  (i_Shelf_init : PySem.W.isFn K (.ref f_Shelf_init) = true)
  (l_Shelf_init : K.lookup f_Shelf_init = some ⟨oc_Shelf_init, od_Shelf_init, .func (PySem.W.fnOf "__init__" "Shelf.__init__" (defArgs s_Shelf_init) (defBody s_Shelf_init) (defScope s_Shelf_init) .none kV_Shelf_init dc_Shelf_init pm_Shelf_init an_Shelf_init cd_Shelf_init ct_Shelf_init), sl_Shelf_init⟩)
  (c_Shelf_init : PySem.W.codeIn K cd_Shelf_init "Shelf.__init__" = true)
  (k_Shelf_init : PySem.W.keepIn K (.ref f_Shelf_init) = true)
  (mk_End_init : PySem.W.makesIn K C_End = true)
  (kc_End_init : PySem.W.keepIn K (.ref C_End) = true)
  (a_End_init : PySem.W.findIn K (.ref C_End) "__init__" = some (some (.ref f_End_init)))
  (i_End_init : PySem.W.isFn K (.ref f_End_init) = true)
  (l_End_init : K.lookup f_End_init = some ⟨oc_End_init, od_End_init, .func (PySem.W.fnOf "__init__" "End.__init__" (defArgs s_End_init) (defBody s_End_init) (defScope s_End_init) .none kV_End_init dc_End_init pm_End_init an_End_init cd_End_init ct_End_init), sl_End_init⟩)
  (c_End_init : PySem.W.codeIn K cd_End_init "End.__init__" = true)
  (k_End_init : PySem.W.keepIn K (.ref f_End_init) = true)
  (a_End_known : PySem.W.findIn K (.ref C_End) "known" = some (some (.ref f_End_known)))
  (i_End_known : PySem.W.isFn K (.ref f_End_known) = true)
  (l_End_known : K.lookup f_End_known = some ⟨oc_End_known, od_End_known, .func (PySem.W.fnOf "known" "End.known" (defArgs s_End_known) (defBody s_End_known) (defScope s_End_known) .none kV_End_known dc_End_known pm_End_known an_End_known cd_End_known ct_End_known), sl_End_known⟩)
  (c_End_known : PySem.W.codeIn K cd_End_known "End.known" = true)
  (k_End_known : PySem.W.keepIn K (.ref f_End_known) = true)
  (a_End_unshut : PySem.W.findIn K (.ref C_End) "unshut" = some (some (.ref f_End_unshut)))
  (i_End_unshut : PySem.W.isFn K (.ref f_End_unshut) = true)
  (l_End_unshut : K.lookup f_End_unshut = some ⟨oc_End_unshut, od_End_unshut, .func (PySem.W.fnOf "unshut" "End.unshut" (defArgs s_End_unshut) (defBody s_End_unshut) (defScope s_End_unshut) .none kV_End_unshut dc_End_unshut pm_End_unshut an_End_unshut cd_End_unshut ct_End_unshut), sl_End_unshut⟩)
  (c_End_unshut : PySem.W.codeIn K cd_End_unshut "End.unshut" = true)
  (k_End_unshut : PySem.W.keepIn K (.ref f_End_unshut) = true)
  (a_End_put_head : PySem.W.findIn K (.ref C_End) "put_head" = some (some (.ref f_End_put_head)))
  (i_End_put_head : PySem.W.isFn K (.ref f_End_put_head) = true)
  (l_End_put_head : K.lookup f_End_put_head = some ⟨oc_End_put_head, od_End_put_head, .func (PySem.W.fnOf "put_head" "End.put_head" (defArgs s_End_put_head) (defBody s_End_put_head) (defScope s_End_put_head) .none kV_End_put_head dc_End_put_head pm_End_put_head an_End_put_head cd_End_put_head ct_End_put_head), sl_End_put_head⟩)
  (c_End_put_head : PySem.W.codeIn K cd_End_put_head "End.put_head" = true)
  (k_End_put_head : PySem.W.keepIn K (.ref f_End_put_head) = true)
  (a_End_begin : PySem.W.findIn K (.ref C_End) "begin" = some (some (.ref f_End_begin)))
  (i_End_begin : PySem.W.isFn K (.ref f_End_begin) = true)
  (l_End_begin : K.lookup f_End_begin = some ⟨oc_End_begin, od_End_begin, .func (PySem.W.fnOf "begin" "End.begin" (defArgs s_End_begin) (defBody s_End_begin) (defScope s_End_begin) .none kV_End_begin dc_End_begin pm_End_begin an_End_begin cd_End_begin ct_End_begin), sl_End_begin⟩)
  (c_End_begin : PySem.W.codeIn K cd_End_begin "End.begin" = true)
  (k_End_begin : PySem.W.keepIn K (.ref f_End_begin) = true)
  (a_End_answer : PySem.W.findIn K (.ref C_End) "answer" = some (some (.ref f_End_answer)))
  (i_End_answer : PySem.W.isFn K (.ref f_End_answer) = true)
  (l_End_answer : K.lookup f_End_answer = some ⟨oc_End_answer, od_End_answer, .func (PySem.W.fnOf "answer" "End.answer" (defArgs s_End_answer) (defBody s_End_answer) (defScope s_End_answer) .none kV_End_answer dc_End_answer pm_End_answer an_End_answer cd_End_answer ct_End_answer), sl_End_answer⟩)
  (c_End_answer : PySem.W.codeIn K cd_End_answer "End.answer" = true)
  (k_End_answer : PySem.W.keepIn K (.ref f_End_answer) = true)
  (a_End_say : PySem.W.findIn K (.ref C_End) "say" = some (some (.ref f_End_say)))
  (i_End_say : PySem.W.isFn K (.ref f_End_say) = true)
  (l_End_say : K.lookup f_End_say = some ⟨oc_End_say, od_End_say, .func (PySem.W.fnOf "say" "End.say" (defArgs s_End_say) (defBody s_End_say) (defScope s_End_say) .none kV_End_say dc_End_say pm_End_say an_End_say cd_End_say ct_End_say), sl_End_say⟩)
  (c_End_say : PySem.W.codeIn K cd_End_say "End.say" = true)
  (k_End_say : PySem.W.keepIn K (.ref f_End_say) = true)
  (a_End_grant : PySem.W.findIn K (.ref C_End) "grant" = some (some (.ref f_End_grant)))
  (i_End_grant : PySem.W.isFn K (.ref f_End_grant) = true)
  (l_End_grant : K.lookup f_End_grant = some ⟨oc_End_grant, od_End_grant, .func (PySem.W.fnOf "grant" "End.grant" (defArgs s_End_grant) (defBody s_End_grant) (defScope s_End_grant) .none kV_End_grant dc_End_grant pm_End_grant an_End_grant cd_End_grant ct_End_grant), sl_End_grant⟩)
  (c_End_grant : PySem.W.codeIn K cd_End_grant "End.grant" = true)
  (k_End_grant : PySem.W.keepIn K (.ref f_End_grant) = true)
  (a_End_reset : PySem.W.findIn K (.ref C_End) "reset" = some (some (.ref f_End_reset)))
  (i_End_reset : PySem.W.isFn K (.ref f_End_reset) = true)
  (l_End_reset : K.lookup f_End_reset = some ⟨oc_End_reset, od_End_reset, .func (PySem.W.fnOf "reset" "End.reset" (defArgs s_End_reset) (defBody s_End_reset) (defScope s_End_reset) .none kV_End_reset dc_End_reset pm_End_reset an_End_reset cd_End_reset ct_End_reset), sl_End_reset⟩)
  (c_End_reset : PySem.W.codeIn K cd_End_reset "End.reset" = true)
  (k_End_reset : PySem.W.keepIn K (.ref f_End_reset) = true)
  (a_End_ask_rank : PySem.W.findIn K (.ref C_End) "ask_rank" = some (some (.ref f_End_ask_rank)))
  (i_End_ask_rank : PySem.W.isFn K (.ref f_End_ask_rank) = true)
  (l_End_ask_rank : K.lookup f_End_ask_rank = some ⟨oc_End_ask_rank, od_End_ask_rank, .func (PySem.W.fnOf "ask_rank" "End.ask_rank" (defArgs s_End_ask_rank) (defBody s_End_ask_rank) (defScope s_End_ask_rank) .none kV_End_ask_rank dc_End_ask_rank pm_End_ask_rank an_End_ask_rank cd_End_ask_rank ct_End_ask_rank), sl_End_ask_rank⟩)
  (c_End_ask_rank : PySem.W.codeIn K cd_End_ask_rank "End.ask_rank" = true)
  (k_End_ask_rank : PySem.W.keepIn K (.ref f_End_ask_rank) = true)
  (a_End_leave : PySem.W.findIn K (.ref C_End) "leave" = some (some (.ref f_End_leave)))
  (i_End_leave : PySem.W.isFn K (.ref f_End_leave) = true)
  (l_End_leave : K.lookup f_End_leave = some ⟨oc_End_leave, od_End_leave, .func (PySem.W.fnOf "leave" "End.leave" (defArgs s_End_leave) (defBody s_End_leave) (defScope s_End_leave) .none kV_End_leave dc_End_leave pm_End_leave an_End_leave cd_End_leave ct_End_leave), sl_End_leave⟩)
  (c_End_leave : PySem.W.codeIn K cd_End_leave "End.leave" = true)
  (k_End_leave : PySem.W.keepIn K (.ref f_End_leave) = true)
  (a_End_body_of : PySem.W.findIn K (.ref C_End) "body_of" = some (some (.ref f_End_body_of)))
  (i_End_body_of : PySem.W.isFn K (.ref f_End_body_of) = true)
  (l_End_body_of : K.lookup f_End_body_of = some ⟨oc_End_body_of, od_End_body_of, .func (PySem.W.fnOf "body_of" "End.body_of" (defArgs s_End_body_of) (defBody s_End_body_of) (defScope s_End_body_of) .none kV_End_body_of dc_End_body_of pm_End_body_of an_End_body_of cd_End_body_of ct_End_body_of), sl_End_body_of⟩)
  (c_End_body_of : PySem.W.codeIn K cd_End_body_of "End.body_of" = true)
  (k_End_body_of : PySem.W.keepIn K (.ref f_End_body_of) = true)
  (a_End_next_frame : PySem.W.findIn K (.ref C_End) "next_frame" = some (some (.ref f_End_next_frame)))
  (i_End_next_frame : PySem.W.isFn K (.ref f_End_next_frame) = true)
  (l_End_next_frame : K.lookup f_End_next_frame = some ⟨oc_End_next_frame, od_End_next_frame, .func (PySem.W.fnOf "next_frame" "End.next_frame" (defArgs s_End_next_frame) (defBody s_End_next_frame) (defScope s_End_next_frame) .none kV_End_next_frame dc_End_next_frame pm_End_next_frame an_End_next_frame cd_End_next_frame ct_End_next_frame), sl_End_next_frame⟩)
  (c_End_next_frame : PySem.W.codeIn K cd_End_next_frame "End.next_frame" = true)
  (k_End_next_frame : PySem.W.keepIn K (.ref f_End_next_frame) = true)
  (a_End_hear : PySem.W.findIn K (.ref C_End) "hear" = some (some (.ref f_End_hear)))
  (i_End_hear : PySem.W.isFn K (.ref f_End_hear) = true)
  (l_End_hear : K.lookup f_End_hear = some ⟨oc_End_hear, od_End_hear, .func (PySem.W.fnOf "hear" "End.hear" (defArgs s_End_hear) (defBody s_End_hear) (defScope s_End_hear) .none kV_End_hear dc_End_hear pm_End_hear an_End_hear cd_End_hear ct_End_hear), sl_End_hear⟩)
  (c_End_hear : PySem.W.codeIn K cd_End_hear "End.hear" = true)
  (k_End_hear : PySem.W.keepIn K (.ref f_End_hear) = true)
  (a_End_left : PySem.W.findIn K (.ref C_End) "left" = some (some (.ref f_End_left)))
  (i_End_left : PySem.W.isFn K (.ref f_End_left) = true)
  (l_End_left : K.lookup f_End_left = some ⟨oc_End_left, od_End_left, .func (PySem.W.fnOf "left" "End.left" (defArgs s_End_left) (defBody s_End_left) (defScope s_End_left) .none kV_End_left dc_End_left pm_End_left an_End_left cd_End_left ct_End_left), sl_End_left⟩)
  (c_End_left : PySem.W.codeIn K cd_End_left "End.left" = true)
  (k_End_left : PySem.W.keepIn K (.ref f_End_left) = true)
  (a_End_waiting : PySem.W.findIn K (.ref C_End) "waiting" = some (some (.ref f_End_waiting)))
  (i_End_waiting : PySem.W.isFn K (.ref f_End_waiting) = true)
  (l_End_waiting : K.lookup f_End_waiting = some ⟨oc_End_waiting, od_End_waiting, .func (PySem.W.fnOf "waiting" "End.waiting" (defArgs s_End_waiting) (defBody s_End_waiting) (defScope s_End_waiting) .none kV_End_waiting dc_End_waiting pm_End_waiting an_End_waiting cd_End_waiting ct_End_waiting), sl_End_waiting⟩)
  (c_End_waiting : PySem.W.codeIn K cd_End_waiting "End.waiting" = true)
  (k_End_waiting : PySem.W.keepIn K (.ref f_End_waiting) = true)
  (a__law_row : PySem.W.nsIn K mainGlobals "_law_row" = some (some (.ref f__law_row)))
  (l__law_row : K.lookup f__law_row = some ⟨oc__law_row, od__law_row, .func (PySem.W.fnOf "_law_row" "_law_row" (defArgs s__law_row) (defBody s__law_row) (defScope s__law_row) .none kV__law_row dc__law_row pm__law_row an__law_row cd__law_row ct__law_row), sl__law_row⟩)
  (c__law_row : PySem.W.codeIn K cd__law_row "_law_row" = true)
  (k__law_row : PySem.W.keepIn K (.ref f__law_row) = true)
  (a__law_taken : PySem.W.nsIn K mainGlobals "_law_taken" = some (some (.ref f__law_taken)))
  (l__law_taken : K.lookup f__law_taken = some ⟨oc__law_taken, od__law_taken, .func (PySem.W.fnOf "_law_taken" "_law_taken" (defArgs s__law_taken) (defBody s__law_taken) (defScope s__law_taken) .none kV__law_taken dc__law_taken pm__law_taken an__law_taken cd__law_taken ct__law_taken), sl__law_taken⟩)
  (c__law_taken : PySem.W.codeIn K cd__law_taken "_law_taken" = true)
  (k__law_taken : PySem.W.keepIn K (.ref f__law_taken) = true)
  (a__law_whole : PySem.W.nsIn K mainGlobals "_law_whole" = some (some (.ref f__law_whole)))
  (l__law_whole : K.lookup f__law_whole = some ⟨oc__law_whole, od__law_whole, .func (PySem.W.fnOf "_law_whole" "_law_whole" (defArgs s__law_whole) (defBody s__law_whole) (defScope s__law_whole) .none kV__law_whole dc__law_whole pm__law_whole an__law_whole cd__law_whole ct__law_whole), sl__law_whole⟩)
  (c__law_whole : PySem.W.codeIn K cd__law_whole "_law_whole" = true)
  (k__law_whole : PySem.W.keepIn K (.ref f__law_whole) = true)
  (a__law_list : PySem.W.nsIn K mainGlobals "_law_list" = some (some (.ref f__law_list)))
  (l__law_list : K.lookup f__law_list = some ⟨oc__law_list, od__law_list, .func (PySem.W.fnOf "_law_list" "_law_list" (defArgs s__law_list) (defBody s__law_list) (defScope s__law_list) .none kV__law_list dc__law_list pm__law_list an__law_list cd__law_list ct__law_list), sl__law_list⟩)
  (c__law_list : PySem.W.codeIn K cd__law_list "_law_list" = true)
  (k__law_list : PySem.W.keepIn K (.ref f__law_list) = true)
  (a__law_frame : PySem.W.nsIn K mainGlobals "_law_frame" = some (some (.ref f__law_frame)))
  (l__law_frame : K.lookup f__law_frame = some ⟨oc__law_frame, od__law_frame, .func (PySem.W.fnOf "_law_frame" "_law_frame" (defArgs s__law_frame) (defBody s__law_frame) (defScope s__law_frame) .none kV__law_frame dc__law_frame pm__law_frame an__law_frame cd__law_frame ct__law_frame), sl__law_frame⟩)
  (c__law_frame : PySem.W.codeIn K cd__law_frame "_law_frame" = true)
  (k__law_frame : PySem.W.keepIn K (.ref f__law_frame) = true)
  (a__law_deed : PySem.W.nsIn K mainGlobals "_law_deed" = some (some (.ref f__law_deed)))
  (l__law_deed : K.lookup f__law_deed = some ⟨oc__law_deed, od__law_deed, .func (PySem.W.fnOf "_law_deed" "_law_deed" (defArgs s__law_deed) (defBody s__law_deed) (defScope s__law_deed) .none kV__law_deed dc__law_deed pm__law_deed an__law_deed cd__law_deed ct__law_deed), sl__law_deed⟩)
  (c__law_deed : PySem.W.codeIn K cd__law_deed "_law_deed" = true)
  (k__law_deed : PySem.W.keepIn K (.ref f__law_deed) = true)
  (a__law_why : PySem.W.nsIn K mainGlobals "_law_why" = some (some (.ref f__law_why)))
  (l__law_why : K.lookup f__law_why = some ⟨oc__law_why, od__law_why, .func (PySem.W.fnOf "_law_why" "_law_why" (defArgs s__law_why) (defBody s__law_why) (defScope s__law_why) .none kV__law_why dc__law_why pm__law_why an__law_why cd__law_why ct__law_why), sl__law_why⟩)
  (c__law_why : PySem.W.codeIn K cd__law_why "_law_why" = true)
  (k__law_why : PySem.W.keepIn K (.ref f__law_why) = true)
  (a__law_seen : PySem.W.nsIn K mainGlobals "_law_seen" = some (some (.ref f__law_seen)))
  (l__law_seen : K.lookup f__law_seen = some ⟨oc__law_seen, od__law_seen, .func (PySem.W.fnOf "_law_seen" "_law_seen" (defArgs s__law_seen) (defBody s__law_seen) (defScope s__law_seen) .none kV__law_seen dc__law_seen pm__law_seen an__law_seen cd__law_seen ct__law_seen), sl__law_seen⟩)
  (c__law_seen : PySem.W.codeIn K cd__law_seen "_law_seen" = true)
  (k__law_seen : PySem.W.keepIn K (.ref f__law_seen) = true)
  (a_law : PySem.W.nsIn K mainGlobals "law" = some (some (.ref f_law)))
  (l_law : K.lookup f_law = some ⟨oc_law, od_law, .func (PySem.W.fnOf "law" "law" (defArgs s_law) (defBody s_law) (defScope s_law) .none kV_law dc_law pm_law an_law cd_law ct_law), sl_law⟩)
  (c_law : PySem.W.codeIn K cd_law "law" = true)
  (k_law : PySem.W.keepIn K (.ref f_law) = true)
  (xb_BadHead : PySem.W.excIn K C_BadHead [.type "ValueError", .type "Exception", .type "BaseException", .type "object"] "ValueError.__new__" = true)
  (xk_BadHead : PySem.W.keepIn K (.ref C_BadHead) = true)
  (xs_BadHead : PySem.W.subIn K (.ref C_BadHead) (.type "BaseException") = some true)
  (xt_BadHead : PySem.W.typeIn K (.ref C_BadHead) = some (.type "type"))
  (xL_NoDeed : K.lookup C_NoDeed = some (excClassObj nm_NoDeed q_NoDeed C_NoDeed N_NoDeed bs_NoDeed [.ref CL_NoDeed, .type "ValueError", .type "Exception", .type "BaseException", .type "object"] true sn_NoDeed sub_NoDeed ab_NoDeed col_NoDeed dd_NoDeed m0_NoDeed m1_NoDeed m2_NoDeed m3_NoDeed m5_NoDeed "ValueError.__new__"))
  (sa_NoDeed : PySem.W.findIn K (.ref C_NoDeed) "__setattr__" = some (some (.builtin "object.__setattr__")))
  (xs_NoDeed : PySem.W.subIn K (.ref C_NoDeed) (.type "BaseException") = some true)
  (xt_NoDeed : PySem.W.typeIn K (.ref C_NoDeed) = some (.type "type"))
  (xk_NoDeed : PySem.W.keepIn K (.ref C_NoDeed) = true)
  (xn_NoDeed : PySem.W.findIn K (.ref C_NoDeed) "why" = some none)
  (xi_NoDeed : PySem.W.findIn K (.ref C_NoDeed) "__init__" = some (some (.ref f_NoDeed_init)))
  (xj_NoDeed : PySem.W.typeIn K (.ref f_NoDeed_init) = some (.type "function"))
  (l_NoDeed_init : K.lookup f_NoDeed_init = some ⟨oc_NoDeed_init, od_NoDeed_init, .func (PySem.W.fnOf "__init__" "NoDeed.__init__" (defArgs s_NoDeed_init) (defBody s_NoDeed_init) (defScope s_NoDeed_init) .none kV_NoDeed_init dc_NoDeed_init pm_NoDeed_init an_NoDeed_init cd_NoDeed_init ct_NoDeed_init), sl_NoDeed_init⟩)
  (c_NoDeed_init : PySem.W.codeIn K cd_NoDeed_init "NoDeed.__init__" = true)
  (k_NoDeed_init : PySem.W.keepIn K (.ref f_NoDeed_init) = true)
  (xe1_NoDeed : PySem.W.findIn K (.ref C_NoDeed) "__getattribute__" = some (some (.builtin "BaseException.__getattribute__")))
  (xe2_NoDeed : PySem.W.findIn K (.ref C_NoDeed) "__getattr__" = some none)
  (xe4_NoDeed : PySem.W.hasDictIn K C_NoDeed = true)
  (xe3_NoDeed : PySem.W.subIn K (.ref C_NoDeed) (.type "BaseException") = some true)
  (xe5_NoDeed : PySem.W.findIn K (.ref C_NoDeed) "__class__" = some (some (.builtin "object.__class__")))
  (xe6_NoDeed : PySem.W.specialIn K (.builtin "object.__class__") "__get__" = some (some (.builtin "getset_descriptor.__get__")))
  (xe7_NoDeed : PySem.W.takesIn K (.builtin "object.__class__") = some true)
  (xe8_NoDeed : PySem.W.mroIn K C_NoDeed (.type "object") = some true)
  (xe1_BadHead : PySem.W.findIn K (.ref C_BadHead) "__getattribute__" = some (some (.builtin "BaseException.__getattribute__")))
  (xe2_BadHead : PySem.W.findIn K (.ref C_BadHead) "__getattr__" = some none)
  (xe3_BadHead : PySem.W.subIn K (.ref C_BadHead) (.type "BaseException") = some true)
  (xe4_BadHead : PySem.W.hasDictIn K C_BadHead = true)
  (xe5_BadHead : PySem.W.findIn K (.ref C_BadHead) "__class__" = some (some (.builtin "object.__class__")))
  (xe6_BadHead : PySem.W.specialIn K (.builtin "object.__class__") "__get__" = some (some (.builtin "getset_descriptor.__get__")))
  (xe7_BadHead : PySem.W.takesIn K (.builtin "object.__class__") = some true)
  (xe8_BadHead : PySem.W.mroIn K C_BadHead (.type "object") = some true)
  (ed_BadHead : PySem.W.hasDictIn K C_BadHead = true)
  (et_BadHead : PySem.W.typeIn K (.ref C_BadHead) = some (.type "type"))
  (es_NoDeed_BadHead : PySem.W.subIn K (.ref C_NoDeed) (.ref C_BadHead) = some false)
  (en_NoDeed_BadHead : C_NoDeed ≠ C_BadHead)
  (ed_NoDeed : PySem.W.hasDictIn K C_NoDeed = true)
  (et_NoDeed : PySem.W.typeIn K (.ref C_NoDeed) = some (.type "type"))
  (es_BadHead_NoDeed : PySem.W.subIn K (.ref C_BadHead) (.ref C_NoDeed) = some false)
  (en_BadHead_NoDeed : C_BadHead ≠ C_NoDeed)
  (eb_BadHead : PySem.W.subIn K (.ref C_BadHead) (.type "BaseException") = some true)
  (es_BadHead_BadHead : PySem.W.subIn K (.ref C_BadHead) (.ref C_BadHead) = some true)
  (eb_LineError : PySem.W.subIn K (.ref C_LineError) (.type "BaseException") = some true)
  (ed_LineError : PySem.W.hasDictIn K C_LineError = true)
  (et_LineError : PySem.W.typeIn K (.ref C_LineError) = some (.type "type"))
  (es_NoDeed_LineError : PySem.W.subIn K (.ref C_NoDeed) (.ref C_LineError) = some true)
  (es_BadHead_LineError : PySem.W.subIn K (.ref C_BadHead) (.ref C_LineError) = some true)
  (g_HEAD : PySem.W.nsIn K mainGlobals "HEAD" = some (some (.int 1 t_HEAD)))
  (g_BODY : PySem.W.nsIn K mainGlobals "BODY" = some (some (.int 2 t_BODY)))
  (g_CREDIT : PySem.W.nsIn K mainGlobals "CREDIT" = some (some (.int 3 t_CREDIT)))
  (g_RESET : PySem.W.nsIn K mainGlobals "RESET" = some (some (.int 4 t_RESET)))
  (g_RANK : PySem.W.nsIn K mainGlobals "RANK" = some (some (.int 5 t_RANK)))
  (g_AWAY : PySem.W.nsIn K mainGlobals "AWAY" = some (some (.int 6 t_AWAY)))
  (g_AHEAD : PySem.W.nsIn K mainGlobals "AHEAD" = some (some (.int 4 t_AHEAD)))
  (g_MOST_SIZE : PySem.W.nsIn K mainGlobals "MOST_SIZE" = some (some (.int 250 t_MOST_SIZE)))
  (g_SIGNS : PySem.W.nsIn K mainGlobals "SIGNS" = some (some (.str c_SIGNS t_SIGNS)))
  (g_LONGEST : PySem.W.nsIn K mainGlobals "LONGEST" = some (some (.int 20 t_LONGEST)))
  (g_MOST_PAIRS : PySem.W.nsIn K mainGlobals "MOST_PAIRS" = some (some (.int 6 t_MOST_PAIRS)))
  (g_LONGEST_NAME : PySem.W.nsIn K mainGlobals "LONGEST_NAME" = some (some (.int 8 t_LONGEST_NAME)))
  (g_WHOLE : PySem.W.nsIn K mainGlobals "WHOLE" = some (some (.int 0 t_WHOLE)))
  (g_NAMED : PySem.W.nsIn K mainGlobals "NAMED" = some (some (.int 1 t_NAMED)))
  (g_FRESH : PySem.W.nsIn K mainGlobals "FRESH" = some (some (.int 2 t_FRESH)))
  (g_FIRST_CREDIT : PySem.W.nsIn K mainGlobals "FIRST_CREDIT" = some (some (.int 20 t_FIRST_CREDIT)))
  (g_LINE_CREDIT : PySem.W.nsIn K mainGlobals "LINE_CREDIT" = some (some (.int 60 t_LINE_CREDIT)))
  (g_MOST_CREDIT : PySem.W.nsIn K mainGlobals "MOST_CREDIT" = some (some (.int 10000 t_MOST_CREDIT)))
  (g_MOST_BODY : PySem.W.nsIn K mainGlobals "MOST_BODY" = some (some (.int 10 t_MOST_BODY)))
  (g_MIDDLE_RANK : PySem.W.nsIn K mainGlobals "MIDDLE_RANK" = some (some (.int 4 t_MIDDLE_RANK)))
  (g_MOST_TALK : PySem.W.nsIn K mainGlobals "MOST_TALK" = some (some (.int 250 t_MOST_TALK)))
  (g_MOST_RANK : PySem.W.nsIn K mainGlobals "MOST_RANK" = some (some (.int 7 t_MOST_RANK)))
  (g_MOST_WEIGHT : PySem.W.nsIn K mainGlobals "MOST_WEIGHT" = some (some (.int 96 t_MOST_WEIGHT)))
  (g_SIZES : PySem.W.nsIn K mainGlobals "SIZES" = some (some (.ref D_SIZES)))
  (l_SIZES : K.lookup D_SIZES = some ⟨.type "dict", none, .dict #[⟨3, .int 3 t0_SIZES, .int 2 u0_SIZES⟩, ⟨4, .int 4 t1_SIZES, .int 1 u1_SIZES⟩, ⟨5, .int 5 t2_SIZES, .int 1 u2_SIZES⟩, ⟨6, .int 6 t3_SIZES, .int 1 u3_SIZES⟩] n_SIZES, #[]⟩)
  (o_SIZES : (D_SIZES == sysModules) = false) : Txt K mg (caL [(3, C_Frame), (4, C_Cutter), (6, C_Talk), (5, C_Shelf), (7, C_End), (2, C_BadHead), (0, C_LineError), (1, C_NoDeed)]) :=
  ⟨⟨PySem.W.mg_none_of X G std_len, PySem.W.mg_none_of X G std_list, PySem.W.mg_none_of X G std_int, PySem.W.mg_none_of X G std_bool, PySem.W.mg_none_of X G std_str, PySem.W.mg_none_of X G std_tuple, PySem.W.mg_none_of X G std_sum, PySem.W.mg_none_of X G std_max, PySem.W.mg_none_of X G std_min, PySem.W.mg_none_of X G std_isinstance, PySem.W.mg_none_of X G std_range, PySem.W.mg_none_of X G std_enumerate, PySem.W.mg_none_of X G std_zip, PySem.W.mg_none_of X G std_sorted, PySem.W.mg_none_of X G std_ValueError⟩,
   ⟨pg_Frame, hd_Frame, po_Frame, sa_Frame⟩,
   n_Frame_flag,
   n_Frame_kind,
   n_Frame_numbers,
   n_Frame_talk,
   ⟨pg_Cutter, hd_Cutter, po_Cutter, sa_Cutter⟩,
   n_Cutter_held,
   ⟨pg_Talk, hd_Talk, po_Talk, sa_Talk⟩,
   n_Talk_ends_behind,
   n_Talk_gives,
   n_Talk_heard_end,
   n_Talk_heard_head,
   n_Talk_may,
   n_Talk_number,
   n_Talk_rank,
   n_Talk_said_end,
   n_Talk_said_head,
   n_Talk_served,
   n_Talk_shut_here,
   n_Talk_shut_there,
   n_Talk_waits,
   ⟨pg_Shelf, hd_Shelf, po_Shelf, sa_Shelf⟩,
   n_Shelf_pairs,
   ⟨pg_End, hd_End, po_End, sa_End⟩,
   n_End_away_at,
   n_End_broken,
   n_End_cutter,
   n_End_heard,
   n_End_left_at,
   n_End_line,
   n_End_mine,
   n_End_out,
   n_End_side,
   n_End_talks,
   n_End_theirs,
   n_End_told,
   n_End_turns,
   makF_of X G g_Frame mk_Frame_init kc_Frame_init a_Frame_init i_Frame_init l_Frame_init c_Frame_init k_Frame_init (fun _ _ _ _ _ _ us hl => match us, hl with | [_, _, _, _, _], _ => rfl),
   defF_of X G a_framed l_framed c_framed k_framed (fun _ _ _ _ _ _ us hl => match us, hl with | [_, _, _, _], _ => rfl),
   makF_of X G g_Cutter mk_Cutter_init kc_Cutter_init a_Cutter_init i_Cutter_init l_Cutter_init c_Cutter_init k_Cutter_init (fun _ _ _ _ _ _ us hl => match us, hl with | [_], _ => rfl),
   metF_of a_Cutter_fed i_Cutter_fed l_Cutter_fed c_Cutter_fed k_Cutter_fed (fun _ _ _ _ _ _ us hl => match us, hl with | [_, _], _ => rfl),
   defF_of X G a_text_numbers l_text_numbers c_text_numbers k_text_numbers (fun _ _ _ _ _ _ us hl => match us, hl with | [_], _ => rfl),
   defF_of X G a_text_at l_text_at c_text_at k_text_at (fun _ _ _ _ _ _ us hl => match us, hl with | [_, _], _ => rfl),
   defF_of X G a_is_head l_is_head c_is_head k_is_head (fun _ _ _ _ _ _ us hl => match us, hl with | [_], _ => rfl),
   metF_of a_Shelf_place_of i_Shelf_place_of l_Shelf_place_of c_Shelf_place_of k_Shelf_place_of (fun _ _ _ _ _ _ us hl => match us, hl with | [_, _], _ => rfl),
   metF_of a_Shelf_place_named i_Shelf_place_named l_Shelf_place_named c_Shelf_place_named k_Shelf_place_named (fun _ _ _ _ _ _ us hl => match us, hl with | [_, _], _ => rfl),
   defF_of X G a_weight_of l_weight_of c_weight_of k_weight_of (fun _ _ _ _ _ _ us hl => match us, hl with | [_], _ => rfl),
   metF_of a_Shelf_put i_Shelf_put l_Shelf_put c_Shelf_put k_Shelf_put (fun _ _ _ _ _ _ us hl => match us, hl with | [_, _], _ => rfl),
   defF_of X G a_told_head l_told_head c_told_head k_told_head (fun _ _ _ _ _ _ us hl => match us, hl with | [_, _], _ => rfl),
   defF_of X G a_pair_at l_pair_at c_pair_at k_pair_at (fun _ _ _ _ _ _ us hl => match us, hl with | [_, _, _], _ => rfl),
   defF_of X G a_read_head l_read_head c_read_head k_read_head (fun _ _ _ _ _ _ us hl => match us, hl with | [_, _], _ => rfl),
   makF_of X G g_Talk mk_Talk_init kc_Talk_init a_Talk_init i_Talk_init l_Talk_init c_Talk_init k_Talk_init (fun _ _ _ _ _ _ us hl => match us, hl with | [_, _, _], _ => rfl),
   metF_of a_Talk_is_shut i_Talk_is_shut l_Talk_is_shut c_Talk_is_shut k_Talk_is_shut (fun _ _ _ _ _ _ us hl => match us, hl with | [_], _ => rfl),
   metF_of a_Talk_drop i_Talk_drop l_Talk_drop c_Talk_drop k_Talk_drop (fun _ _ _ _ _ _ us hl => match us, hl with | [_], _ => rfl),
   metF_of a_Talk_can_send i_Talk_can_send l_Talk_can_send c_Talk_can_send k_Talk_can_send (fun _ _ _ _ _ _ us hl => match us, hl with | [_, _], _ => rfl),
   defF_of X G a_why_form l_why_form c_why_form k_why_form (fun _ _ _ _ _ _ us hl => match us, hl with | [_], _ => rfl),
   defF_of X G a_amount_of l_amount_of c_amount_of k_amount_of (fun _ _ _ _ _ _ us hl => match us, hl with | [_], _ => rfl),
   defF_of X G a_is_new l_is_new c_is_new k_is_new (fun _ _ _ _ _ _ us hl => match us, hl with | [_, _], _ => rfl),
   defF_of X G a_why_number l_why_number c_why_number k_why_number (fun _ _ _ _ _ _ us hl => match us, hl with | [_, _], _ => rfl),
   defF_of X G a_why_body l_why_body c_why_body k_why_body (fun _ _ _ _ _ _ us hl => match us, hl with | [_, _, _], _ => rfl),
   defF_of X G a_why_talk l_why_talk c_why_talk k_why_talk (fun _ _ _ _ _ _ us hl => match us, hl with | [_, _], _ => rfl),
   defF_of X G a_why_not l_why_not c_why_not k_why_not (fun _ _ _ _ _ _ us hl => match us, hl with | [_, _], _ => rfl),
   defF_of X G a_took_head l_took_head c_took_head k_took_head (fun _ _ _ _ _ _ us hl => match us, hl with | [_, _], _ => rfl),
   defF_of X G a_took_body l_took_body c_took_body k_took_body (fun _ _ _ _ _ _ us hl => match us, hl with | [_, _], _ => rfl),
   defF_of X G a_took_away l_took_away c_took_away k_took_away (fun _ _ _ _ _ _ us hl => match us, hl with | [_, _], _ => rfl),
   defF_of X G a_took_other l_took_other c_took_other k_took_other (fun _ _ _ _ _ _ us hl => match us, hl with | [_, _], _ => rfl),
   defF_of X G a_took l_took c_took k_took (fun _ _ _ _ _ _ us hl => match us, hl with | [_, _], _ => rfl),
   makF_of X G g_Shelf mk_Shelf_init kc_Shelf_init a_Shelf_init i_Shelf_init l_Shelf_init c_Shelf_init k_Shelf_init (fun _ _ _ _ _ _ us hl => match us, hl with | [_], _ => rfl),
   makF_of X G g_End mk_End_init kc_End_init a_End_init i_End_init l_End_init c_End_init k_End_init (fun _ _ _ _ _ _ us hl => match us, hl with | [_, _], _ => rfl),
   metF_of a_End_known i_End_known l_End_known c_End_known k_End_known (fun _ _ _ _ _ _ us hl => match us, hl with | [_, _], _ => rfl),
   metF_of a_End_unshut i_End_unshut l_End_unshut c_End_unshut k_End_unshut (fun _ _ _ _ _ _ us hl => match us, hl with | [_, _], _ => rfl),
   metF_of a_End_put_head i_End_put_head l_End_put_head c_End_put_head k_End_put_head (fun _ _ _ _ _ _ us hl => match us, hl with | [_, _, _, _], _ => rfl),
   metF_of a_End_begin i_End_begin l_End_begin c_End_begin k_End_begin (fun _ _ _ _ _ _ us hl => match us, hl with | [_, _, _], _ => rfl),
   metF_of a_End_answer i_End_answer l_End_answer c_End_answer k_End_answer (fun _ _ _ _ _ _ us hl => match us, hl with | [_, _, _, _], _ => rfl),
   metF_of a_End_say i_End_say l_End_say c_End_say k_End_say (fun _ _ _ _ _ _ us hl => match us, hl with | [_, _, _, _], _ => rfl),
   metF_of a_End_grant i_End_grant l_End_grant c_End_grant k_End_grant (fun _ _ _ _ _ _ us hl => match us, hl with | [_, _, _], _ => rfl),
   metF_of a_End_reset i_End_reset l_End_reset c_End_reset k_End_reset (fun _ _ _ _ _ _ us hl => match us, hl with | [_, _, _], _ => rfl),
   metF_of a_End_ask_rank i_End_ask_rank l_End_ask_rank c_End_ask_rank k_End_ask_rank (fun _ _ _ _ _ _ us hl => match us, hl with | [_, _, _], _ => rfl),
   metF_of a_End_leave i_End_leave l_End_leave c_End_leave k_End_leave (fun _ _ _ _ _ _ us hl => match us, hl with | [_], _ => rfl),
   metF_of a_End_body_of i_End_body_of l_End_body_of c_End_body_of k_End_body_of (fun _ _ _ _ _ _ us hl => match us, hl with | [_, _], _ => rfl),
   metF_of a_End_next_frame i_End_next_frame l_End_next_frame c_End_next_frame k_End_next_frame (fun _ _ _ _ _ _ us hl => match us, hl with | [_], _ => rfl),
   metF_of a_End_hear i_End_hear l_End_hear c_End_hear k_End_hear (fun _ _ _ _ _ _ us hl => match us, hl with | [_, _], _ => rfl),
   metF_of a_End_left i_End_left l_End_left c_End_left k_End_left (fun _ _ _ _ _ _ us hl => match us, hl with | [_, _], _ => rfl),
   metF_of a_End_waiting i_End_waiting l_End_waiting c_End_waiting k_End_waiting (fun _ _ _ _ _ _ us hl => match us, hl with | [_, _], _ => rfl),
   defF_of X G a__law_row l__law_row c__law_row k__law_row (fun _ _ _ _ _ _ us hl => match us, hl with | [_], _ => rfl),
   defF_of X G a__law_taken l__law_taken c__law_taken k__law_taken (fun _ _ _ _ _ _ us hl => match us, hl with | [_, _], _ => rfl),
   defF_of X G a__law_whole l__law_whole c__law_whole k__law_whole (fun _ _ _ _ _ _ us hl => match us, hl with | [_], _ => rfl),
   defF_of X G a__law_list l__law_list c__law_list k__law_list (fun _ _ _ _ _ _ us hl => match us, hl with | [_, _], _ => rfl),
   defF_of X G a__law_frame l__law_frame c__law_frame k__law_frame (fun _ _ _ _ _ _ us hl => match us, hl with | [_, _, _, _], _ => rfl),
   defF_of X G a__law_deed l__law_deed c__law_deed k__law_deed (fun _ _ _ _ _ _ us hl => match us, hl with | [_, _, _, _], _ => rfl),
   defF_of X G a__law_why l__law_why c__law_why k__law_why (fun _ _ _ _ _ _ us hl => match us, hl with | [_, _, _, _], _ => rfl),
   defF_of X G a__law_seen l__law_seen c__law_seen k__law_seen (fun _ _ _ _ _ _ us hl => match us, hl with | [_, _], _ => rfl),
   defF_of X G a_law l_law c_law k_law (fun _ _ _ _ _ _ us hl => match us, hl with | [_], _ => rfl),
   ⟨xb_BadHead, PySem.W.mg_of X G g_BadHead, xk_BadHead, xs_BadHead, xt_BadHead⟩,
   ⟨⟨⟨_, _, _, _, _, _, _, _, _, _, _, _, _, _, _, xL_NoDeed, (show PySem.HandSPX.refsVE [.type "ValueError", .type "Exception", .type "BaseException", .type "object"] = true by decide +kernel)⟩, sa_NoDeed, xs_NoDeed, xt_NoDeed, xk_NoDeed⟩, PySem.W.mg_of X G g_NoDeed, xn_NoDeed, ⟨_, _, fun_mk l_NoDeed_init c_NoDeed_init k_NoDeed_init, xi_NoDeed, xj_NoDeed, (fun_mk l_NoDeed_init c_NoDeed_init k_NoDeed_init).binds (fun _ _ _ _ _ _ us hl => match us, hl with | [_, _], _ => rfl)⟩⟩,
   ⟨xe1_NoDeed, xe2_NoDeed, xs_NoDeed, xe4_NoDeed⟩,
   (by intro c b h; unfold tab_BadHead at h; repeat (first | (split at h; (rename_i z; subst z; cases h; first | exact ⟨⟨xe1_NoDeed, xe2_NoDeed, xe3_NoDeed, xe4_NoDeed, xe5_NoDeed, xe6_NoDeed, xe7_NoDeed, xe8_NoDeed⟩, (kit_ref ed_BadHead et_BadHead es_NoDeed_BadHead (.inr en_NoDeed_BadHead))⟩ | exact ⟨⟨xe1_BadHead, xe2_BadHead, xe3_BadHead, xe4_BadHead, xe5_BadHead, xe6_BadHead, xe7_BadHead, xe8_BadHead⟩, (kit_self _)⟩)) | (cases h; done))),
   (by intro c b h; unfold tab_NoDeed at h; repeat (first | (split at h; (rename_i z; subst z; cases h; first | exact ⟨⟨xe1_NoDeed, xe2_NoDeed, xe3_NoDeed, xe4_NoDeed, xe5_NoDeed, xe6_NoDeed, xe7_NoDeed, xe8_NoDeed⟩, (kit_self _)⟩ | exact ⟨⟨xe1_BadHead, xe2_BadHead, xe3_BadHead, xe4_BadHead, xe5_BadHead, xe6_BadHead, xe7_BadHead, xe8_BadHead⟩, (kit_ref ed_NoDeed et_NoDeed es_BadHead_NoDeed (.inr en_BadHead_NoDeed))⟩)) | (cases h; done))),
   PySem.W.mg_of X G g_BadHead,
   (by intro c b h; unfold catch_BadHead at h; repeat (first | (split at h; (rename_i z; subst z; cases h; first | exact PySem.W.exm_ref eb_BadHead ed_BadHead et_BadHead es_NoDeed_BadHead | exact PySem.W.exm_ref eb_BadHead ed_BadHead et_BadHead es_BadHead_BadHead)) | (cases h; done))),
   PySem.W.mg_of X G g_LineError,
   (by intro c b h; unfold catch_LineError at h; repeat (first | (split at h; (rename_i z; subst z; cases h; first | exact PySem.W.exm_ref eb_LineError ed_LineError et_LineError es_NoDeed_LineError | exact PySem.W.exm_ref eb_LineError ed_LineError et_LineError es_BadHead_LineError)) | (cases h; done))),
   PySem.W.mg_of X G g_NoDeed,
   ⟨t_HEAD, PySem.W.mg_of X G g_HEAD⟩,
   ⟨t_BODY, PySem.W.mg_of X G g_BODY⟩,
   ⟨t_CREDIT, PySem.W.mg_of X G g_CREDIT⟩,
   ⟨t_RESET, PySem.W.mg_of X G g_RESET⟩,
   ⟨t_RANK, PySem.W.mg_of X G g_RANK⟩,
   ⟨t_AWAY, PySem.W.mg_of X G g_AWAY⟩,
   ⟨t_AHEAD, PySem.W.mg_of X G g_AHEAD⟩,
   ⟨t_MOST_SIZE, PySem.W.mg_of X G g_MOST_SIZE⟩,
   ⟨t_SIGNS, PySem.W.mg_of X G g_SIGNS⟩,
   ⟨t_LONGEST, PySem.W.mg_of X G g_LONGEST⟩,
   ⟨t_MOST_PAIRS, PySem.W.mg_of X G g_MOST_PAIRS⟩,
   ⟨t_LONGEST_NAME, PySem.W.mg_of X G g_LONGEST_NAME⟩,
   ⟨t_WHOLE, PySem.W.mg_of X G g_WHOLE⟩,
   ⟨t_NAMED, PySem.W.mg_of X G g_NAMED⟩,
   ⟨t_FRESH, PySem.W.mg_of X G g_FRESH⟩,
   ⟨t_FIRST_CREDIT, PySem.W.mg_of X G g_FIRST_CREDIT⟩,
   ⟨t_LINE_CREDIT, PySem.W.mg_of X G g_LINE_CREDIT⟩,
   ⟨t_MOST_CREDIT, PySem.W.mg_of X G g_MOST_CREDIT⟩,
   ⟨t_MOST_BODY, PySem.W.mg_of X G g_MOST_BODY⟩,
   ⟨t_MIDDLE_RANK, PySem.W.mg_of X G g_MIDDLE_RANK⟩,
   ⟨t_MOST_TALK, PySem.W.mg_of X G g_MOST_TALK⟩,
   ⟨t_MOST_RANK, PySem.W.mg_of X G g_MOST_RANK⟩,
   ⟨t_MOST_WEIGHT, PySem.W.mg_of X G g_MOST_WEIGHT⟩,
   ktab4 (h := h) (PySem.W.mg_of X G g_SIZES) l_SIZES o_SIZES (by decide) (by decide) (by decide) (by decide)⟩
theorem law_at {P : Program} {w : World} {K : PySem.W.Frag} {mg : Str → Option Value} {ca : Nat → Addr} (T : Txt K mg ca) {fa : Addr} (hm : mg "law" = some (.ref fa)) (hg : LawTrue m_law) :
    ∃ fd : FuncData, (∀ (s : Shared) (u : Value), BindsTo s fd ⟨[u], []⟩ [("_law_script", u)]) ∧ ∀ base : Heap, FnOk P w K mg base (L2.CX P w) 8 fa fd ["_law_script"] (spLaw K) := by
  obtain ⟨f, fd, F, h1, hb⟩ := T.d_law
  have e : fa = f := by
    have z := hm.symm.trans h1
    cases z
    rfl
  subst e
  obtain ⟨oc, od, kV, doc, pm, an, cdv, ct, osl, e, lk, hcd⟩ := id F.ex
  refine ⟨fd, fun s u => ?_, fun base => (fn_sound F sc_law rfl (by decide) (body_law T fa)).imp fun vs H Q E h => law_sp hg vs H Q E h⟩
  rw [e]
  exact .of_eq rfl
theorem walk {l : PySem.W.OpenLaw} {q : Program} {loose : List Str} {XP : (Str → Option Value) → Heap → Prop} {YP : World → Heap → Prop} {d : DefRec} {K : Params → PySem.W.Frag} (hg : LawTrue m_law) (hn : l.most = some 63) (hdf : d.params.defaults = []) (hd : d.name = "law")
    (hY : ∀ (w : World) (h : Heap), YP w h → (K w.params).In h)
    (F : ∀ (w : World) (mg : Str → Option Value) (h : Heap), (K w.params).In h → h.Ns mainGlobals mg → ∃ ca, Txt (K w.params) mg ca) :
    PySem.W.WalkO q loose XP YP l.row.toRowW d [] (fun f vs => PySem.call f vs) :=
  L2.walk_of (n := 63) (k := 8) (x := "_law_script") (CX := fun w => L2.CX l.prog w) (sp := fun w => spLaw (K w.params)) hn (by decide) hdf ⟨rfl, by decide, by decide⟩ hY
    (fun w mg fa h KX G hm => by
      obtain ⟨ca, T⟩ := F w mg h KX G
      rw [hd] at hm
      obtain ⟨fd, h1, h2⟩ := law_at (P := l.prog) (w := w) T hm hg
      exact ⟨fd, h1, fun base _ _ => h2 base⟩)
    (fun _ _ a ns hl _ hS => ⟨a, ns, rfl, hS, hl, fun _ => rfl⟩) fun _ _ _ _ _ z => cx_false z
end Law

open PySem PySem.W PyProof.Rows
set_option maxRecDepth 100000 in
set_option maxHeartbeats 0 in
theorem PySem.Challenge.cw_oneline_k21_a_broken_end_holds : PySem.Challenge.rw_oneline_k21_a_broken_end.Holds := by
  w_on; o_law; k_head; (case hw => w_witness2)
  k_fill
  refine Law.walk (l := PySem.Challenge.rw_oneline_k21_a_broken_end) Law.law_true rfl rfl rfl (fun w h Y => PySem.W.kIn_of Y) ?F
  case F =>
    intro w mg h KX G
    refine' ⟨_, Law.all_mk KX G ?h_g_Frame ?h_g_Cutter ?h_g_Talk ?h_g_Shelf ?h_g_End ?h_g_BadHead ?h_g_LineError ?h_g_NoDeed ?h_std_len ?h_std_list ?h_std_int ?h_std_bool ?h_std_str ?h_std_tuple ?h_std_sum ?h_std_max ?h_std_min ?h_std_isinstance ?h_std_range ?h_std_enumerate ?h_std_zip ?h_std_sorted ?h_std_ValueError ?h_pg_Frame ?h_hd_Frame ?h_po_Frame ?h_sa_Frame ?h_n_Frame_flag ?h_n_Frame_kind ?h_n_Frame_numbers ?h_n_Frame_talk ?h_pg_Cutter ?h_hd_Cutter ?h_po_Cutter ?h_sa_Cutter ?h_n_Cutter_held ?h_pg_Talk ?h_hd_Talk ?h_po_Talk ?h_sa_Talk ?h_n_Talk_ends_behind ?h_n_Talk_gives ?h_n_Talk_heard_end ?h_n_Talk_heard_head ?h_n_Talk_may ?h_n_Talk_number ?h_n_Talk_rank ?h_n_Talk_said_end ?h_n_Talk_said_head ?h_n_Talk_served ?h_n_Talk_shut_here ?h_n_Talk_shut_there ?h_n_Talk_waits ?h_pg_Shelf ?h_hd_Shelf ?h_po_Shelf ?h_sa_Shelf ?h_n_Shelf_pairs ?h_pg_End ?h_hd_End ?h_po_End ?h_sa_End ?h_n_End_away_at ?h_n_End_broken ?h_n_End_cutter ?h_n_End_heard ?h_n_End_left_at ?h_n_End_line ?h_n_End_mine ?h_n_End_out ?h_n_End_side ?h_n_End_talks ?h_n_End_theirs ?h_n_End_told ?h_n_End_turns ?h_mk_Frame_init ?h_kc_Frame_init ?h_a_Frame_init ?h_i_Frame_init ?h_l_Frame_init ?h_c_Frame_init ?h_k_Frame_init ?h_a_framed ?h_l_framed ?h_c_framed ?h_k_framed ?h_mk_Cutter_init ?h_kc_Cutter_init ?h_a_Cutter_init ?h_i_Cutter_init ?h_l_Cutter_init ?h_c_Cutter_init ?h_k_Cutter_init ?h_a_Cutter_fed ?h_i_Cutter_fed ?h_l_Cutter_fed ?h_c_Cutter_fed ?h_k_Cutter_fed ?h_a_text_numbers ?h_l_text_numbers ?h_c_text_numbers ?h_k_text_numbers ?h_a_text_at ?h_l_text_at ?h_c_text_at ?h_k_text_at ?h_a_is_head ?h_l_is_head ?h_c_is_head ?h_k_is_head ?h_a_Shelf_place_of ?h_i_Shelf_place_of ?h_l_Shelf_place_of ?h_c_Shelf_place_of ?h_k_Shelf_place_of ?h_a_Shelf_place_named ?h_i_Shelf_place_named ?h_l_Shelf_place_named ?h_c_Shelf_place_named ?h_k_Shelf_place_named ?h_a_weight_of ?h_l_weight_of ?h_c_weight_of ?h_k_weight_of ?h_a_Shelf_put ?h_i_Shelf_put ?h_l_Shelf_put ?h_c_Shelf_put ?h_k_Shelf_put ?h_a_told_head ?h_l_told_head ?h_c_told_head ?h_k_told_head ?h_a_pair_at ?h_l_pair_at ?h_c_pair_at ?h_k_pair_at ?h_a_read_head ?h_l_read_head ?h_c_read_head ?h_k_read_head ?h_mk_Talk_init ?h_kc_Talk_init ?h_a_Talk_init ?h_i_Talk_init ?h_l_Talk_init ?h_c_Talk_init ?h_k_Talk_init ?h_a_Talk_is_shut ?h_i_Talk_is_shut ?h_l_Talk_is_shut ?h_c_Talk_is_shut ?h_k_Talk_is_shut ?h_a_Talk_drop ?h_i_Talk_drop ?h_l_Talk_drop ?h_c_Talk_drop ?h_k_Talk_drop ?h_a_Talk_can_send ?h_i_Talk_can_send ?h_l_Talk_can_send ?h_c_Talk_can_send ?h_k_Talk_can_send ?h_a_why_form ?h_l_why_form ?h_c_why_form ?h_k_why_form ?h_a_amount_of ?h_l_amount_of ?h_c_amount_of ?h_k_amount_of ?h_a_is_new ?h_l_is_new ?h_c_is_new ?h_k_is_new ?h_a_why_number ?h_l_why_number ?h_c_why_number ?h_k_why_number ?h_a_why_body ?h_l_why_body ?h_c_why_body ?h_k_why_body ?h_a_why_talk ?h_l_why_talk ?h_c_why_talk ?h_k_why_talk ?h_a_why_not ?h_l_why_not ?h_c_why_not ?h_k_why_not ?h_a_took_head ?h_l_took_head ?h_c_took_head ?h_k_took_head ?h_a_took_body ?h_l_took_body ?h_c_took_body ?h_k_took_body ?h_a_took_away ?h_l_took_away ?h_c_took_away ?h_k_took_away ?h_a_took_other ?h_l_took_other ?h_c_took_other ?h_k_took_other ?h_a_took ?h_l_took ?h_c_took ?h_k_took ?h_mk_Shelf_init ?h_kc_Shelf_init ?h_a_Shelf_init ?h_i_Shelf_init ?h_l_Shelf_init ?h_c_Shelf_init ?h_k_Shelf_init ?h_mk_End_init ?h_kc_End_init ?h_a_End_init ?h_i_End_init ?h_l_End_init ?h_c_End_init ?h_k_End_init ?h_a_End_known ?h_i_End_known ?h_l_End_known ?h_c_End_known ?h_k_End_known ?h_a_End_unshut ?h_i_End_unshut ?h_l_End_unshut ?h_c_End_unshut ?h_k_End_unshut ?h_a_End_put_head ?h_i_End_put_head ?h_l_End_put_head ?h_c_End_put_head ?h_k_End_put_head ?h_a_End_begin ?h_i_End_begin ?h_l_End_begin ?h_c_End_begin ?h_k_End_begin ?h_a_End_answer ?h_i_End_answer ?h_l_End_answer ?h_c_End_answer ?h_k_End_answer ?h_a_End_say ?h_i_End_say ?h_l_End_say ?h_c_End_say ?h_k_End_say ?h_a_End_grant ?h_i_End_grant ?h_l_End_grant ?h_c_End_grant ?h_k_End_grant ?h_a_End_reset ?h_i_End_reset ?h_l_End_reset ?h_c_End_reset ?h_k_End_reset ?h_a_End_ask_rank ?h_i_End_ask_rank ?h_l_End_ask_rank ?h_c_End_ask_rank ?h_k_End_ask_rank ?h_a_End_leave ?h_i_End_leave ?h_l_End_leave ?h_c_End_leave ?h_k_End_leave ?h_a_End_body_of ?h_i_End_body_of ?h_l_End_body_of ?h_c_End_body_of ?h_k_End_body_of ?h_a_End_next_frame ?h_i_End_next_frame ?h_l_End_next_frame ?h_c_End_next_frame ?h_k_End_next_frame ?h_a_End_hear ?h_i_End_hear ?h_l_End_hear ?h_c_End_hear ?h_k_End_hear ?h_a_End_left ?h_i_End_left ?h_l_End_left ?h_c_End_left ?h_k_End_left ?h_a_End_waiting ?h_i_End_waiting ?h_l_End_waiting ?h_c_End_waiting ?h_k_End_waiting ?h_a__law_row ?h_l__law_row ?h_c__law_row ?h_k__law_row ?h_a__law_taken ?h_l__law_taken ?h_c__law_taken ?h_k__law_taken ?h_a__law_whole ?h_l__law_whole ?h_c__law_whole ?h_k__law_whole ?h_a__law_list ?h_l__law_list ?h_c__law_list ?h_k__law_list ?h_a__law_frame ?h_l__law_frame ?h_c__law_frame ?h_k__law_frame ?h_a__law_deed ?h_l__law_deed ?h_c__law_deed ?h_k__law_deed ?h_a__law_why ?h_l__law_why ?h_c__law_why ?h_k__law_why ?h_a__law_seen ?h_l__law_seen ?h_c__law_seen ?h_k__law_seen ?h_a_law ?h_l_law ?h_c_law ?h_k_law ?h_xb_BadHead ?h_xk_BadHead ?h_xs_BadHead ?h_xt_BadHead ?h_xL_NoDeed ?h_sa_NoDeed ?h_xs_NoDeed ?h_xt_NoDeed ?h_xk_NoDeed ?h_xn_NoDeed ?h_xi_NoDeed ?h_xj_NoDeed ?h_l_NoDeed_init ?h_c_NoDeed_init ?h_k_NoDeed_init ?h_xe1_NoDeed ?h_xe2_NoDeed ?h_xe4_NoDeed ?h_xe3_NoDeed ?h_xe5_NoDeed ?h_xe6_NoDeed ?h_xe7_NoDeed ?h_xe8_NoDeed ?h_xe1_BadHead ?h_xe2_BadHead ?h_xe3_BadHead ?h_xe4_BadHead ?h_xe5_BadHead ?h_xe6_BadHead ?h_xe7_BadHead ?h_xe8_BadHead ?h_ed_BadHead ?h_et_BadHead ?h_es_NoDeed_BadHead ?h_en_NoDeed_BadHead ?h_ed_NoDeed ?h_et_NoDeed ?h_es_BadHead_NoDeed ?h_en_BadHead_NoDeed ?h_eb_BadHead ?h_es_BadHead_BadHead ?h_eb_LineError ?h_ed_LineError ?h_et_LineError ?h_es_NoDeed_LineError ?h_es_BadHead_LineError ?h_g_HEAD ?h_g_BODY ?h_g_CREDIT ?h_g_RESET ?h_g_RANK ?h_g_AWAY ?h_g_AHEAD ?h_g_MOST_SIZE ?h_g_SIGNS ?h_g_LONGEST ?h_g_MOST_PAIRS ?h_g_LONGEST_NAME ?h_g_WHOLE ?h_g_NAMED ?h_g_FRESH ?h_g_FIRST_CREDIT ?h_g_LINE_CREDIT ?h_g_MOST_CREDIT ?h_g_MOST_BODY ?h_g_MIDDLE_RANK ?h_g_MOST_TALK ?h_g_MOST_RANK ?h_g_MOST_WEIGHT ?h_g_SIZES ?h_l_SIZES ?h_o_SIZES⟩
    (case h_g_Frame => k_is)
    (case h_g_Cutter => k_is)
    (case h_g_Talk => k_is)
    (case h_g_Shelf => k_is)
    (case h_g_End => k_is)
    (case h_g_BadHead => k_is)
    (case h_g_LineError => k_is)
    (case h_g_NoDeed => k_is)
    (case h_std_len => k_is)
    (case h_std_list => k_is)
    (case h_std_int => k_is)
    (case h_std_bool => k_is)
    (case h_std_str => k_is)
    (case h_std_tuple => k_is)
    (case h_std_sum => k_is)
    (case h_std_max => k_is)
    (case h_std_min => k_is)
    (case h_std_isinstance => k_is)
    (case h_std_range => k_is)
    (case h_std_enumerate => k_is)
    (case h_std_zip => k_is)
    (case h_std_sorted => k_is)
    (case h_std_ValueError => k_is)
    (case h_pg_Frame => k_is)
    (case h_hd_Frame => k_is)
    (case h_po_Frame => k_is)
    (case h_sa_Frame => k_is)
    (case h_n_Frame_flag => k_is)
    (case h_n_Frame_kind => k_is)
    (case h_n_Frame_numbers => k_is)
    (case h_n_Frame_talk => k_is)
    (case h_pg_Cutter => k_is)
    (case h_hd_Cutter => k_is)
    (case h_po_Cutter => k_is)
    (case h_sa_Cutter => k_is)
    (case h_n_Cutter_held => k_is)
    (case h_pg_Talk => k_is)
    (case h_hd_Talk => k_is)
    (case h_po_Talk => k_is)
    (case h_sa_Talk => k_is)
    (case h_n_Talk_ends_behind => k_is)
    (case h_n_Talk_gives => k_is)
    (case h_n_Talk_heard_end => k_is)
    (case h_n_Talk_heard_head => k_is)
    (case h_n_Talk_may => k_is)
    (case h_n_Talk_number => k_is)
    (case h_n_Talk_rank => k_is)
    (case h_n_Talk_said_end => k_is)
    (case h_n_Talk_said_head => k_is)
    (case h_n_Talk_served => k_is)
    (case h_n_Talk_shut_here => k_is)
    (case h_n_Talk_shut_there => k_is)
    (case h_n_Talk_waits => k_is)
    (case h_pg_Shelf => k_is)
    (case h_hd_Shelf => k_is)
    (case h_po_Shelf => k_is)
    (case h_sa_Shelf => k_is)
    (case h_n_Shelf_pairs => k_is)
    (case h_pg_End => k_is)
    (case h_hd_End => k_is)
    (case h_po_End => k_is)
    (case h_sa_End => k_is)
    (case h_n_End_away_at => k_is)
    (case h_n_End_broken => k_is)
    (case h_n_End_cutter => k_is)
    (case h_n_End_heard => k_is)
    (case h_n_End_left_at => k_is)
    (case h_n_End_line => k_is)
    (case h_n_End_mine => k_is)
    (case h_n_End_out => k_is)
    (case h_n_End_side => k_is)
    (case h_n_End_talks => k_is)
    (case h_n_End_theirs => k_is)
    (case h_n_End_told => k_is)
    (case h_n_End_turns => k_is)
    (case h_mk_Frame_init => k_is)
    (case h_kc_Frame_init => k_is)
    (case h_a_Frame_init => k_is)
    (case h_i_Frame_init => k_is)
    (case h_l_Frame_init => k_is)
    (case h_c_Frame_init => k_is)
    (case h_k_Frame_init => k_is)
    (case h_a_framed => k_is)
    (case h_l_framed => k_is)
    (case h_c_framed => k_is)
    (case h_k_framed => k_is)
    (case h_mk_Cutter_init => k_is)
    (case h_kc_Cutter_init => k_is)
    (case h_a_Cutter_init => k_is)
    (case h_i_Cutter_init => k_is)
    (case h_l_Cutter_init => k_is)
    (case h_c_Cutter_init => k_is)
    (case h_k_Cutter_init => k_is)
    (case h_a_Cutter_fed => k_is)
    (case h_i_Cutter_fed => k_is)
    (case h_l_Cutter_fed => k_is)
    (case h_c_Cutter_fed => k_is)
    (case h_k_Cutter_fed => k_is)
    (case h_a_text_numbers => k_is)
    (case h_l_text_numbers => k_is)
    (case h_c_text_numbers => k_is)
    (case h_k_text_numbers => k_is)
    (case h_a_text_at => k_is)
    (case h_l_text_at => k_is)
    (case h_c_text_at => k_is)
    (case h_k_text_at => k_is)
    (case h_a_is_head => k_is)
    (case h_l_is_head => k_is)
    (case h_c_is_head => k_is)
    (case h_k_is_head => k_is)
    (case h_a_Shelf_place_of => k_is)
    (case h_i_Shelf_place_of => k_is)
    (case h_l_Shelf_place_of => k_is)
    (case h_c_Shelf_place_of => k_is)
    (case h_k_Shelf_place_of => k_is)
    (case h_a_Shelf_place_named => k_is)
    (case h_i_Shelf_place_named => k_is)
    (case h_l_Shelf_place_named => k_is)
    (case h_c_Shelf_place_named => k_is)
    (case h_k_Shelf_place_named => k_is)
    (case h_a_weight_of => k_is)
    (case h_l_weight_of => k_is)
    (case h_c_weight_of => k_is)
    (case h_k_weight_of => k_is)
    (case h_a_Shelf_put => k_is)
    (case h_i_Shelf_put => k_is)
    (case h_l_Shelf_put => k_is)
    (case h_c_Shelf_put => k_is)
    (case h_k_Shelf_put => k_is)
    (case h_a_told_head => k_is)
    (case h_l_told_head => k_is)
    (case h_c_told_head => k_is)
    (case h_k_told_head => k_is)
    (case h_a_pair_at => k_is)
    (case h_l_pair_at => k_is)
    (case h_c_pair_at => k_is)
    (case h_k_pair_at => k_is)
    (case h_a_read_head => k_is)
    (case h_l_read_head => k_is)
    (case h_c_read_head => k_is)
    (case h_k_read_head => k_is)
    (case h_mk_Talk_init => k_is)
    (case h_kc_Talk_init => k_is)
    (case h_a_Talk_init => k_is)
    (case h_i_Talk_init => k_is)
    (case h_l_Talk_init => k_is)
    (case h_c_Talk_init => k_is)
    (case h_k_Talk_init => k_is)
    (case h_a_Talk_is_shut => k_is)
    (case h_i_Talk_is_shut => k_is)
    (case h_l_Talk_is_shut => k_is)
    (case h_c_Talk_is_shut => k_is)
    (case h_k_Talk_is_shut => k_is)
    (case h_a_Talk_drop => k_is)
    (case h_i_Talk_drop => k_is)
    (case h_l_Talk_drop => k_is)
    (case h_c_Talk_drop => k_is)
    (case h_k_Talk_drop => k_is)
    (case h_a_Talk_can_send => k_is)
    (case h_i_Talk_can_send => k_is)
    (case h_l_Talk_can_send => k_is)
    (case h_c_Talk_can_send => k_is)
    (case h_k_Talk_can_send => k_is)
    (case h_a_why_form => k_is)
    (case h_l_why_form => k_is)
    (case h_c_why_form => k_is)
    (case h_k_why_form => k_is)
    (case h_a_amount_of => k_is)
    (case h_l_amount_of => k_is)
    (case h_c_amount_of => k_is)
    (case h_k_amount_of => k_is)
    (case h_a_is_new => k_is)
    (case h_l_is_new => k_is)
    (case h_c_is_new => k_is)
    (case h_k_is_new => k_is)
    (case h_a_why_number => k_is)
    (case h_l_why_number => k_is)
    (case h_c_why_number => k_is)
    (case h_k_why_number => k_is)
    (case h_a_why_body => k_is)
    (case h_l_why_body => k_is)
    (case h_c_why_body => k_is)
    (case h_k_why_body => k_is)
    (case h_a_why_talk => k_is)
    (case h_l_why_talk => k_is)
    (case h_c_why_talk => k_is)
    (case h_k_why_talk => k_is)
    (case h_a_why_not => k_is)
    (case h_l_why_not => k_is)
    (case h_c_why_not => k_is)
    (case h_k_why_not => k_is)
    (case h_a_took_head => k_is)
    (case h_l_took_head => k_is)
    (case h_c_took_head => k_is)
    (case h_k_took_head => k_is)
    (case h_a_took_body => k_is)
    (case h_l_took_body => k_is)
    (case h_c_took_body => k_is)
    (case h_k_took_body => k_is)
    (case h_a_took_away => k_is)
    (case h_l_took_away => k_is)
    (case h_c_took_away => k_is)
    (case h_k_took_away => k_is)
    (case h_a_took_other => k_is)
    (case h_l_took_other => k_is)
    (case h_c_took_other => k_is)
    (case h_k_took_other => k_is)
    (case h_a_took => k_is)
    (case h_l_took => k_is)
    (case h_c_took => k_is)
    (case h_k_took => k_is)
    (case h_mk_Shelf_init => k_is)
    (case h_kc_Shelf_init => k_is)
    (case h_a_Shelf_init => k_is)
    (case h_i_Shelf_init => k_is)
    (case h_l_Shelf_init => k_is)
    (case h_c_Shelf_init => k_is)
    (case h_k_Shelf_init => k_is)
    (case h_mk_End_init => k_is)
    (case h_kc_End_init => k_is)
    (case h_a_End_init => k_is)
    (case h_i_End_init => k_is)
    (case h_l_End_init => k_is)
    (case h_c_End_init => k_is)
    (case h_k_End_init => k_is)
    (case h_a_End_known => k_is)
    (case h_i_End_known => k_is)
    (case h_l_End_known => k_is)
    (case h_c_End_known => k_is)
    (case h_k_End_known => k_is)
    (case h_a_End_unshut => k_is)
    (case h_i_End_unshut => k_is)
    (case h_l_End_unshut => k_is)
    (case h_c_End_unshut => k_is)
    (case h_k_End_unshut => k_is)
    (case h_a_End_put_head => k_is)
    (case h_i_End_put_head => k_is)
    (case h_l_End_put_head => k_is)
    (case h_c_End_put_head => k_is)
    (case h_k_End_put_head => k_is)
    (case h_a_End_begin => k_is)
    (case h_i_End_begin => k_is)
    (case h_l_End_begin => k_is)
    (case h_c_End_begin => k_is)
    (case h_k_End_begin => k_is)
    (case h_a_End_answer => k_is)
    (case h_i_End_answer => k_is)
    (case h_l_End_answer => k_is)
    (case h_c_End_answer => k_is)
    (case h_k_End_answer => k_is)
    (case h_a_End_say => k_is)
    (case h_i_End_say => k_is)
    (case h_l_End_say => k_is)
    (case h_c_End_say => k_is)
    (case h_k_End_say => k_is)
    (case h_a_End_grant => k_is)
    (case h_i_End_grant => k_is)
    (case h_l_End_grant => k_is)
    (case h_c_End_grant => k_is)
    (case h_k_End_grant => k_is)
    (case h_a_End_reset => k_is)
    (case h_i_End_reset => k_is)
    (case h_l_End_reset => k_is)
    (case h_c_End_reset => k_is)
    (case h_k_End_reset => k_is)
    (case h_a_End_ask_rank => k_is)
    (case h_i_End_ask_rank => k_is)
    (case h_l_End_ask_rank => k_is)
    (case h_c_End_ask_rank => k_is)
    (case h_k_End_ask_rank => k_is)
    (case h_a_End_leave => k_is)
    (case h_i_End_leave => k_is)
    (case h_l_End_leave => k_is)
    (case h_c_End_leave => k_is)
    (case h_k_End_leave => k_is)
    (case h_a_End_body_of => k_is)
    (case h_i_End_body_of => k_is)
    (case h_l_End_body_of => k_is)
    (case h_c_End_body_of => k_is)
    (case h_k_End_body_of => k_is)
    (case h_a_End_next_frame => k_is)
    (case h_i_End_next_frame => k_is)
    (case h_l_End_next_frame => k_is)
    (case h_c_End_next_frame => k_is)
    (case h_k_End_next_frame => k_is)
    (case h_a_End_hear => k_is)
    (case h_i_End_hear => k_is)
    (case h_l_End_hear => k_is)
    (case h_c_End_hear => k_is)
    (case h_k_End_hear => k_is)
    (case h_a_End_left => k_is)
    (case h_i_End_left => k_is)
    (case h_l_End_left => k_is)
    (case h_c_End_left => k_is)
    (case h_k_End_left => k_is)
    (case h_a_End_waiting => k_is)
    (case h_i_End_waiting => k_is)
    (case h_l_End_waiting => k_is)
    (case h_c_End_waiting => k_is)
    (case h_k_End_waiting => k_is)
    (case h_a__law_row => k_is)
    (case h_l__law_row => k_is)
    (case h_c__law_row => k_is)
    (case h_k__law_row => k_is)
    (case h_a__law_taken => k_is)
    (case h_l__law_taken => k_is)
    (case h_c__law_taken => k_is)
    (case h_k__law_taken => k_is)
    (case h_a__law_whole => k_is)
    (case h_l__law_whole => k_is)
    (case h_c__law_whole => k_is)
    (case h_k__law_whole => k_is)
    (case h_a__law_list => k_is)
    (case h_l__law_list => k_is)
    (case h_c__law_list => k_is)
    (case h_k__law_list => k_is)
    (case h_a__law_frame => k_is)
    (case h_l__law_frame => k_is)
    (case h_c__law_frame => k_is)
    (case h_k__law_frame => k_is)
    (case h_a__law_deed => k_is)
    (case h_l__law_deed => k_is)
    (case h_c__law_deed => k_is)
    (case h_k__law_deed => k_is)
    (case h_a__law_why => k_is)
    (case h_l__law_why => k_is)
    (case h_c__law_why => k_is)
    (case h_k__law_why => k_is)
    (case h_a__law_seen => k_is)
    (case h_l__law_seen => k_is)
    (case h_c__law_seen => k_is)
    (case h_k__law_seen => k_is)
    (case h_a_law => k_is)
    (case h_l_law => k_is)
    (case h_c_law => k_is)
    (case h_k_law => k_is)
    (case h_xb_BadHead => k_exc)
    (case h_xk_BadHead => k_is)
    (case h_xs_BadHead => k_is)
    (case h_xt_BadHead => k_is)
    (case h_xL_NoDeed => k_is)
    (case h_sa_NoDeed => k_is)
    (case h_xs_NoDeed => k_is)
    (case h_xt_NoDeed => k_is)
    (case h_xk_NoDeed => k_is)
    (case h_xn_NoDeed => k_is)
    (case h_xi_NoDeed => k_is)
    (case h_xj_NoDeed => k_is)
    (case h_l_NoDeed_init => k_is)
    (case h_c_NoDeed_init => k_is)
    (case h_k_NoDeed_init => k_is)
    (case h_xe1_NoDeed => k_is)
    (case h_xe2_NoDeed => k_is)
    (case h_xe4_NoDeed => k_is)
    (case h_xe3_NoDeed => k_is)
    (case h_xe5_NoDeed => k_is)
    (case h_xe6_NoDeed => k_is)
    (case h_xe7_NoDeed => k_is)
    (case h_xe8_NoDeed => k_is)
    (case h_xe1_BadHead => k_is)
    (case h_xe2_BadHead => k_is)
    (case h_xe3_BadHead => k_is)
    (case h_xe4_BadHead => k_is)
    (case h_xe5_BadHead => k_is)
    (case h_xe6_BadHead => k_is)
    (case h_xe7_BadHead => k_is)
    (case h_xe8_BadHead => k_is)
    (case h_ed_BadHead => k_is)
    (case h_et_BadHead => k_is)
    (case h_es_NoDeed_BadHead => k_is)
    (case h_en_NoDeed_BadHead => decide)
    (case h_ed_NoDeed => k_is)
    (case h_et_NoDeed => k_is)
    (case h_es_BadHead_NoDeed => k_is)
    (case h_en_BadHead_NoDeed => decide)
    (case h_eb_BadHead => k_is)
    (case h_es_BadHead_BadHead => k_is)
    (case h_eb_LineError => k_is)
    (case h_ed_LineError => k_is)
    (case h_et_LineError => k_is)
    (case h_es_NoDeed_LineError => k_is)
    (case h_es_BadHead_LineError => k_is)
    (case h_g_HEAD => k_is)
    (case h_g_BODY => k_is)
    (case h_g_CREDIT => k_is)
    (case h_g_RESET => k_is)
    (case h_g_RANK => k_is)
    (case h_g_AWAY => k_is)
    (case h_g_AHEAD => k_is)
    (case h_g_MOST_SIZE => k_is)
    (case h_g_SIGNS => k_is)
    (case h_g_LONGEST => k_is)
    (case h_g_MOST_PAIRS => k_is)
    (case h_g_LONGEST_NAME => k_is)
    (case h_g_WHOLE => k_is)
    (case h_g_NAMED => k_is)
    (case h_g_FRESH => k_is)
    (case h_g_FIRST_CREDIT => k_is)
    (case h_g_LINE_CREDIT => k_is)
    (case h_g_MOST_CREDIT => k_is)
    (case h_g_MOST_BODY => k_is)
    (case h_g_MIDDLE_RANK => k_is)
    (case h_g_MOST_TALK => k_is)
    (case h_g_MOST_RANK => k_is)
    (case h_g_MOST_WEIGHT => k_is)
    (case h_g_SIZES => k_is)
    (case h_l_SIZES => k_is)
    (case h_o_SIZES => decide)
