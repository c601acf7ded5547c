import PyProof.Rows.All
import Wide.All
import OpenK.AllK
import Wide.FinOn
import HandS.ForMost
import HandS.ForSpec
import HandS.Wide
import HandS.Deep
import HandS.IsInst
import HandS.Replace
import HandS.Style
import HandS.SortInts
import HandS.Conv
import HandS.Zip
import HandS.CallSlots
import HandS.ExcInit
import HandS.ExcField
import HandS.ExcIs
import HandS.TryOnly
import HandS.Text
import HandS.Flt
import HandS.More
import PySem.Challenge.RW_oneline_k03_frames_cut_anyhow
set_option Elab.async false
set_option linter.all false
set_option maxRecDepth 100000
set_option maxHeartbeats 4000000
/-! Sim: a deterministic reading of the fragment over plain data, and what it promises of the layer's readings. -/
namespace Sim
open PySem PySem.Spec L2

/-! ### data -/
inductive D where
  | non | bl (b : Bool) | int (i : Int) | str (s : Str) | tup (ds : List D) | fl (ds : List D) | scr (ns : List Int) | ref (n : Nat)
  deriving Inhabited
inductive SO where
  | lst (ds : List D) | dct (kvs : List (Key × D)) | ins (c : Nat) (fs : List (Str × D))
  deriving Inhabited
structure Cell where
  o : SO
  lk : Bool
  deriving Inhabited
abbrev Store := List Cell
/-- an error in the air: its class' code, its fields (none: it has no dict) -/
structure Exn where
  c : Nat
  fs : Option (List (Str × D))
abbrev Sl := List (Option D)
abbrev Out (α : Type) := Option (Except Exn α × Store)
abbrev M (α : Type) := Store → Out α
inductive Fl where
  | nx (l : Sl) | bk (l : Sl) | ct (l : Sl) | rt (d : D) | ex (x : Exn) (l : Sl)
abbrev OutS := Option (Fl × Store)
abbrev ME := Sl → M D
abbrev MT := Sl → M Bool
abbrev MA := Sl → M (List D)
abbrev MS := Sl → Store → OutS

/-! ### the relation -/
section
variable (K : PySem.W.Frag) (ca : Nat → Addr)
/-- the script: readable as these ints, untouched by stores -/
def Scr (ρ φ : List Addr) (H : Hp) (p : Addr) (ns : List Int) : Prop :=
  (Rd H p (.lst (ns.map V.int)) ∧ p ∉ ρ ∧ p ∉ φ) ∨ ∀ H' : Hp, SqL K H' p (ns.map V.int)
mutual
inductive Rel (ρ φ : List Addr) (H : Hp) : V → D → Prop
  | non : Rel ρ φ H .non .non
  | bl (b : Bool) : Rel ρ φ H (.bl b) (.bl b)
  | int (i : Int) : Rel ρ φ H (.int i) (.int i)
  | str (s : Str) : Rel ρ φ H (.str s) (.str s)
  | tup {p : Addr} {xs : List V} {ds : List D} (h : H p = some (.tup xs)) (n : p ∉ ρ) (m : p ∉ φ) (r : Rels ρ φ H xs ds) : Rel ρ φ H (.ref p) (.tup ds)
  | fl {p : Addr} {xs : List V} {ds : List D} (h : H p = some (.lst xs)) (n : p ∉ ρ) (m : p ∉ φ) (r : Rels ρ φ H xs ds) : Rel ρ φ H (.ref p) (.fl ds)
  | scr {p : Addr} {ns : List Int} (h : Scr K ρ φ H p ns) : Rel ρ φ H (.ref p) (.scr ns)
  | ref {a : Addr} {n : Nat} (h : ρ[n]? = some a) : Rel ρ φ H (.ref a) (.ref n)
inductive Rels (ρ φ : List Addr) (H : Hp) : List V → List D → Prop
  | nil : Rels ρ φ H [] []
  | cons {v : V} {d : D} {vs : List V} {ds : List D} (r : Rel ρ φ H v d) (rs : Rels ρ φ H vs ds) : Rels ρ φ H (v :: vs) (d :: ds)
end
/-- pairs of names and values -/
inductive RelK {κ : Type} (ρ φ : List Addr) (H : Hp) : List (κ × V) → List (κ × D) → Prop
  | nil : RelK ρ φ H [] []
  | cons {k : κ} {v : V} {d : D} {vs : List (κ × V)} {ds : List (κ × D)} (r : Rel K ρ φ H v d) (rs : RelK ρ φ H vs ds) : RelK ρ φ H ((k, v) :: vs) ((k, d) :: ds)
def RelO (ρ φ : List Addr) (H : Hp) : HO → SO → Prop
  | .lst xs, .lst ds => Rels K ρ φ H xs ds
  | .dK kvs, .dct ks => RelK K ρ φ H kvs ks
  | .ins C _ fs, .ins c gs => C = ca c ∧ RelK K ρ φ H fs gs
  | _, _ => False
def At (H : Hp) (a : Addr) (ho : HO) (lk : Bool) : Prop := if lk = true then ∃ o, H a = some (.frz o ho) else H a = some ho
structure SR (ρ φ : List Addr) (S : Store) (H : Hp) : Prop where
  nd : ρ.Nodup
  len : ρ.length = S.length
  dj : ∀ a ∈ φ, a ∉ ρ
  ph : ∀ a ∈ φ, H a ≠ none
  ob : ∀ (n : Nat) (a : Addr) (c : Cell), ρ[n]? = some a → S[n]? = some c → ∃ ho, At H a ho c.lk ∧ RelO K ca ρ φ H ho c.o
/-- later: more of the store, the frozen things stand -/
structure Ext (ρ : List Addr) (H : Hp) (ρ' : List Addr) (H' : Hp) : Prop where
  pre : ∃ t, ρ' = ρ ++ t ∧ ∀ q ∈ t, H q = none
  keep : ∀ b o, H b = some o → b ∉ ρ → H' b = some o
  trk : ∀ b, H b ≠ none → H' b ≠ none
  fz : ∀ b o u, H b = some (.frz o u) → H' b = some (.frz o u)
inductive SlR (ρ φ : List Addr) (H : Hp) : St → Sl → Prop
  | nil : SlR ρ φ H [] []
  | no {o : Option V} {σ : St} {l : Sl} (r : SlR ρ φ H σ l) : SlR ρ φ H (o :: σ) (Option.none :: l)
  | so {v : V} {d : D} {σ : St} {l : Sl} (h : Rel K ρ φ H v d) (r : SlR ρ φ H σ l) : SlR ρ φ H (Option.some v :: σ) (Option.some d :: l)
end

section
variable {K : PySem.W.Frag} {ca : Nat → Addr} {ρ ρ' ρ'' φ : List Addr} {S S' : Store} {H H' H'' : Hp}
theorem Ext.refl (ρ : List Addr) (H : Hp) : Ext ρ H ρ H := ⟨⟨[], by simp, by simp⟩, fun _ _ h _ => h, fun _ h => h, fun _ _ _ h => h⟩
theorem Ext.notin (e : Ext ρ H ρ' H') {b : Addr} (h : H b ≠ none) (n : b ∉ ρ) : b ∉ ρ' := by
  obtain ⟨t, rfl, ht⟩ := e.pre
  intro hm
  rcases List.mem_append.mp hm with q | q
  · exact n q
  · exact h (ht b q)
theorem Ext.trans (a : Ext ρ H ρ' H') (b : Ext ρ' H' ρ'' H'') : Ext ρ H ρ'' H'' := by
  refine ⟨?_, fun c o h n => b.keep c o (a.keep c o h n) (a.notin (by rw [h]; simp) n), fun c h => b.trk c (a.trk c h), fun c o u h => b.fz c o u (a.fz c o u h)⟩
  obtain ⟨t, rfl, ht⟩ := a.pre
  obtain ⟨u, rfl, hu⟩ := b.pre
  refine ⟨t ++ u, by simp, fun q hq => ?_⟩
  rcases List.mem_append.mp hq with h | h
  · exact ht q h
  · cases e : H q with
    | none => rfl
    | some o => exact absurd (hu q h) (a.trk q (by rw [e]; simp))
theorem Ext.at (e : Ext ρ H ρ' H') {n : Nat} {a : Addr} (h : ρ[n]? = some a) : ρ'[n]? = some a := by
  obtain ⟨t, rfl, _⟩ := e.pre
  rw [List.getElem?_append_left (List.getElem?_eq_some_iff.mp h).1]
  exact h
theorem Scr.mono (e : Ext ρ H ρ' H') {p : Addr} {ns : List Int} (h : Scr K ρ φ H p ns) : Scr K ρ' φ H' p ns := by
  rcases h with ⟨h, n, m⟩ | h
  · refine .inl ⟨?_, ?_, m⟩
    · rcases h with h | ⟨o, h⟩
      · exact .inl (e.keep _ _ h n)
      · exact .inr ⟨o, e.keep _ _ h n⟩
    · refine e.notin ?_ n
      rcases h with h | ⟨o, h⟩ <;> (rw [h]; simp)
  · exact .inr h
mutual
theorem Rel.mono (e : Ext ρ H ρ' H') : ∀ {v : V} {d : D}, Rel K ρ φ H v d → Rel K ρ' φ H' v d
  | _, _, .non => .non
  | _, _, .bl b => .bl b
  | _, _, .int i => .int i
  | _, _, .str s => .str s
  | _, _, .tup h n m r => .tup (e.keep _ _ h n) (e.notin (by rw [h]; simp) n) m (Rels.mono e r)
  | _, _, .fl h n m r => .fl (e.keep _ _ h n) (e.notin (by rw [h]; simp) n) m (Rels.mono e r)
  | _, _, .scr h => .scr (h.mono e)
  | _, _, .ref h => .ref (e.at h)
theorem Rels.mono (e : Ext ρ H ρ' H') : ∀ {vs : List V} {ds : List D}, Rels K ρ φ H vs ds → Rels K ρ' φ H' vs ds
  | _, _, .nil => .nil
  | _, _, .cons r rs => .cons (Rel.mono e r) (Rels.mono e rs)
end
theorem RelK.mono {κ : Type} (e : Ext ρ H ρ' H') : ∀ {vs : List (κ × V)} {ds : List (κ × D)}, RelK K ρ φ H vs ds → RelK K ρ' φ H' vs ds
  | _, _, .nil => .nil
  | _, _, .cons r rs => .cons (r.mono e) (RelK.mono e rs)
theorem RelO.mono (e : Ext ρ H ρ' H') {ho : HO} {so : SO} (h : RelO K ca ρ φ H ho so) : RelO K ca ρ' φ H' ho so := by
  unfold RelO at h ⊢
  split at h
  · exact h.mono e
  · exact h.mono e
  · exact ⟨h.1, h.2.mono e⟩
  · exact h.elim
theorem SlR.mono (e : Ext ρ H ρ' H') : ∀ {σ : St} {l : Sl}, SlR K ρ φ H σ l → SlR K ρ' φ H' σ l
  | _, _, .nil => .nil
  | _, _, .no r => .no (SlR.mono e r)
  | _, _, .so h r => .so (h.mono e) (SlR.mono e r)
theorem Rels.length : ∀ {vs : List V} {ds : List D}, Rels K ρ φ H vs ds → vs.length = ds.length
  | _, _, .nil => rfl
  | _, _, .cons _ rs => by rw [List.length_cons, List.length_cons, Rels.length rs]
theorem Rels.get : ∀ {vs : List V} {ds : List D} {i : Nat} {d : D}, Rels K ρ φ H vs ds → ds[i]? = some d → ∃ v, vs[i]? = some v ∧ Rel K ρ φ H v d
  | _, _, _, _, .nil, h => by simp at h
  | _, _, 0, _, .cons r _, h => by
    have e := Option.some.inj h
    subst e
    exact ⟨_, rfl, r⟩
  | _, _, i + 1, _, .cons _ rs, h => Rels.get (i := i) rs h
theorem Rels.getV : ∀ {vs : List V} {ds : List D} {i : Nat} {v : V}, Rels K ρ φ H vs ds → vs[i]? = some v → ∃ d, ds[i]? = some d ∧ Rel K ρ φ H v d
  | _, _, _, _, .nil, h => by simp at h
  | _, _, 0, _, .cons r _, h => by
    have e := Option.some.inj h
    subst e
    exact ⟨_, rfl, r⟩
  | _, _, i + 1, _, .cons _ rs, h => Rels.getV (i := i) rs h
theorem Rels.append : ∀ {vs ws : List V} {ds es : List D}, Rels K ρ φ H vs ds → Rels K ρ φ H ws es → Rels K ρ φ H (vs ++ ws) (ds ++ es)
  | _, _, _, _, .nil, s => s
  | _, _, _, _, .cons r rs, s => .cons r (Rels.append rs s)
theorem Rels.take : ∀ {vs : List V} {ds : List D} (n : Nat), Rels K ρ φ H vs ds → Rels K ρ φ H (vs.take n) (ds.take n)
  | _, _, 0, _ => .nil
  | _, _, _ + 1, .nil => .nil
  | _, _, n + 1, .cons r rs => .cons r (Rels.take n rs)
theorem Rels.drop : ∀ {vs : List V} {ds : List D} (n : Nat), Rels K ρ φ H vs ds → Rels K ρ φ H (vs.drop n) (ds.drop n)
  | _, _, 0, r => r
  | _, _, _ + 1, .nil => .nil
  | _, _, n + 1, .cons _ rs => Rels.drop n rs
theorem Rels.set {v : V} {d : D} (q : Rel K ρ φ H v d) : ∀ {vs : List V} {ds : List D} (n : Nat), Rels K ρ φ H vs ds → Rels K ρ φ H (vs.set n v) (ds.set n d)
  | _, _, _, .nil => .nil
  | _, _, 0, .cons _ rs => .cons q rs
  | _, _, n + 1, .cons r rs => .cons r (Rels.set q n rs)
theorem Rels.eraseIdx : ∀ {vs : List V} {ds : List D} (n : Nat), Rels K ρ φ H vs ds → Rels K ρ φ H (vs.eraseIdx n) (ds.eraseIdx n)
  | _, _, _, .nil => .nil
  | _, _, 0, .cons _ rs => rs
  | _, _, n + 1, .cons r rs => .cons r (Rels.eraseIdx n rs)
theorem Rels.ints : ∀ {vs : List V} {ns : List Int}, Rels K ρ φ H vs (ns.map D.int) → vs = ns.map V.int
  | _, [], h => by cases h; rfl
  | _, n :: ns, h => by
    cases h with
    | cons r rs => cases r; rw [Rels.ints rs]; rfl
theorem Rels.ofInts : ∀ (ns : List Int), Rels K ρ φ H (ns.map V.int) (ns.map D.int)
  | [] => .nil
  | n :: ns => .cons (.int n) (Rels.ofInts ns)
theorem SlR.get : ∀ {σ : St} {l : Sl} {i : Nat} {d : D}, SlR K ρ φ H σ l → l[i]? = some (some d) → ∃ v, σ[i]? = some (some v) ∧ Rel K ρ φ H v d
  | _, _, _, _, .nil, h => by simp at h
  | _, _, 0, _, .no r, h => by cases h
  | _, _, 0, _, .so q r, h => by cases h; exact ⟨_, rfl, q⟩
  | _, _, i + 1, _, .no r, h => SlR.get (i := i) r h
  | _, _, i + 1, _, .so q r, h => SlR.get (i := i) r h
theorem SlR.set {v : V} {d : D} (q : Rel K ρ φ H v d) : ∀ {σ : St} {l : Sl} (i : Nat), SlR K ρ φ H σ l → SlR K ρ φ H (σ.set i (some v)) (l.set i (some d))
  | _, _, _, .nil => .nil
  | _, _, 0, .no r => .so q r
  | _, _, 0, .so _ r => .so q r
  | _, _, i + 1, .no r => .no (SlR.set q i r)
  | _, _, i + 1, .so h r => .so h (SlR.set q i r)
theorem SlR.unset {o : Option V} : ∀ {σ : St} {l : Sl} (i : Nat), SlR K ρ φ H σ l → SlR K ρ φ H (σ.set i o) (l.set i none)
  | _, _, _, .nil => .nil
  | _, _, 0, .no r => .no r
  | _, _, 0, .so _ r => .no r
  | _, _, i + 1, .no r => .no (SlR.unset i r)
  | _, _, i + 1, .so h r => .so h (SlR.unset i r)
theorem SlR.start : ∀ {vs : List V} {ds : List D} (k : Nat), Rels K ρ φ H vs ds → SlR K ρ φ H (vs.map some ++ List.replicate k none) (ds.map some ++ List.replicate k none)
  | _, _, 0, .nil => .nil
  | _, _, k + 1, .nil => .no (SlR.start (vs := []) (ds := []) k .nil)
  | _, _, k, .cons r rs => .so r (SlR.start k rs)
theorem RelK.lookup {f : Str} : ∀ {vs : List (Str × V)} {ds : List (Str × D)} {d : D}, RelK K ρ φ H vs ds → ds.lookup f = some d → ∃ v, vs.lookup f = some v ∧ Rel K ρ φ H v d
  | _, _, _, .nil, h => by cases h
  | (k, v) :: vs, (_, d) :: ds, e, .cons r rs, h => by
    rw [List.lookup_cons] at h ⊢
    cases c : (f == k) with
    | true => rw [c] at h; cases h; exact ⟨v, rfl, r⟩
    | false => rw [c] at h; exact RelK.lookup rs h
theorem RelK.lookup_none {f : Str} : ∀ {vs : List (Str × V)} {ds : List (Str × D)}, RelK K ρ φ H vs ds → ds.lookup f = none → vs.lookup f = none
  | _, _, .nil, h => rfl
  | (k, v) :: vs, (_, d) :: ds, .cons r rs, h => by
    rw [List.lookup_cons] at h ⊢
    cases c : (f == k) with
    | true => rw [c] at h; cases h
    | false => rw [c] at h; exact RelK.lookup_none rs h
theorem RelK.length {κ : Type} : ∀ {vs : List (κ × V)} {ds : List (κ × D)}, RelK K ρ φ H vs ds → vs.length = ds.length
  | _, _, .nil => rfl
  | _, _, .cons _ rs => by rw [List.length_cons, List.length_cons, RelK.length rs]
/-- fewer private addresses -/
theorem Scr.less {ψ : List Addr} (h : ∀ a ∈ ψ, a ∈ φ) {p : Addr} {ns : List Int} (q : Scr K ρ φ H p ns) : Scr K ρ ψ H p ns := by
  rcases q with ⟨a, b, c⟩ | q
  · exact .inl ⟨a, b, fun z => c (h _ z)⟩
  · exact .inr q
mutual
theorem Rel.less {ψ : List Addr} (h : ∀ a ∈ ψ, a ∈ φ) : ∀ {v : V} {d : D}, Rel K ρ φ H v d → Rel K ρ ψ H v d
  | _, _, .non => .non
  | _, _, .bl b => .bl b
  | _, _, .int i => .int i
  | _, _, .str s => .str s
  | _, _, .tup a n m r => .tup a n (fun z => m (h _ z)) (Rels.less h r)
  | _, _, .fl a n m r => .fl a n (fun z => m (h _ z)) (Rels.less h r)
  | _, _, .scr a => .scr (a.less h)
  | _, _, .ref a => .ref a
theorem Rels.less {ψ : List Addr} (h : ∀ a ∈ ψ, a ∈ φ) : ∀ {vs : List V} {ds : List D}, Rels K ρ φ H vs ds → Rels K ρ ψ H vs ds
  | _, _, .nil => .nil
  | _, _, .cons r rs => .cons (Rel.less h r) (Rels.less h rs)
end
theorem RelK.less {κ : Type} {ψ : List Addr} (h : ∀ a ∈ ψ, a ∈ φ) : ∀ {vs : List (κ × V)} {ds : List (κ × D)}, RelK K ρ φ H vs ds → RelK K ρ ψ H vs ds
  | _, _, .nil => .nil
  | _, _, .cons r rs => .cons (r.less h) (RelK.less h rs)
theorem RelO.less {ψ : List Addr} (h : ∀ a ∈ ψ, a ∈ φ) {ho : HO} {so : SO} (q : RelO K ca ρ φ H ho so) : RelO K ca ρ ψ H ho so := by
  unfold RelO at q ⊢
  split at q
  · exact q.less h
  · exact q.less h
  · exact ⟨q.1, q.2.less h⟩
  · exact q.elim
theorem SlR.less {ψ : List Addr} (h : ∀ a ∈ ψ, a ∈ φ) : ∀ {σ : St} {l : Sl}, SlR K ρ φ H σ l → SlR K ρ ψ H σ l
  | _, _, .nil => .nil
  | _, _, .no r => .no (SlR.less h r)
  | _, _, .so q r => .so (q.less h) (SlR.less h r)
/-- a general change of the ground -/
structure Move (ρ φ : List Addr) (H : Hp) (ρ' φ' : List Addr) (H' : Hp) : Prop where
  keep : ∀ p o, H p = some o → p ∉ ρ → p ∉ φ → H' p = some o ∧ p ∉ ρ' ∧ p ∉ φ'
  at_ : ∀ (n : Nat) (a : Addr), ρ[n]? = some a → ρ'[n]? = some a
section
variable {φ' : List Addr}
theorem Scr.move (e : Move ρ φ H ρ' φ' H') {p : Addr} {ns : List Int} (h : Scr K ρ φ H p ns) : Scr K ρ' φ' H' p ns := by
  rcases h with ⟨h, n, m⟩ | h
  · rcases h with h | ⟨o, h⟩
    · obtain ⟨a, b, c⟩ := e.keep _ _ h n m
      exact .inl ⟨.inl a, b, c⟩
    · obtain ⟨a, b, c⟩ := e.keep _ _ h n m
      exact .inl ⟨.inr ⟨o, a⟩, b, c⟩
  · exact .inr h
mutual
theorem Rel.move (e : Move ρ φ H ρ' φ' H') : ∀ {v : V} {d : D}, Rel K ρ φ H v d → Rel K ρ' φ' H' v d
  | _, _, .non => .non
  | _, _, .bl b => .bl b
  | _, _, .int i => .int i
  | _, _, .str s => .str s
  | _, _, .tup h n m r => .tup (e.keep _ _ h n m).1 (e.keep _ _ h n m).2.1 (e.keep _ _ h n m).2.2 (Rels.move e r)
  | _, _, .fl h n m r => .fl (e.keep _ _ h n m).1 (e.keep _ _ h n m).2.1 (e.keep _ _ h n m).2.2 (Rels.move e r)
  | _, _, .scr h => .scr (h.move e)
  | _, _, .ref h => .ref (e.at_ _ _ h)
theorem Rels.move (e : Move ρ φ H ρ' φ' H') : ∀ {vs : List V} {ds : List D}, Rels K ρ φ H vs ds → Rels K ρ' φ' H' vs ds
  | _, _, .nil => .nil
  | _, _, .cons r rs => .cons (Rel.move e r) (Rels.move e rs)
end
theorem RelK.move {κ : Type} (e : Move ρ φ H ρ' φ' H') : ∀ {vs : List (κ × V)} {ds : List (κ × D)}, RelK K ρ φ H vs ds → RelK K ρ' φ' H' vs ds
  | _, _, .nil => .nil
  | _, _, .cons r rs => .cons (r.move e) (RelK.move e rs)
theorem RelO.move (e : Move ρ φ H ρ' φ' H') {ho : HO} {so : SO} (h : RelO K ca ρ φ H ho so) : RelO K ca ρ' φ' H' ho so := by
  unfold RelO at h ⊢
  split at h
  · exact h.move e
  · exact h.move e
  · exact ⟨h.1, h.2.move e⟩
  · exact h.elim
theorem SlR.move (e : Move ρ φ H ρ' φ' H') : ∀ {σ : St} {l : Sl}, SlR K ρ φ H σ l → SlR K ρ' φ' H' σ l
  | _, _, .nil => .nil
  | _, _, .no r => .no (SlR.move e r)
  | _, _, .so h r => .so (h.move e) (SlR.move e r)
end
end
/-- in an except suite: the slot of the error, its address, its dict, its fields -/
structure XI where
  i : Nat
  a : Addr
  d : Option Addr
  fs : Option (List (Str × D))
/-- the error's fields stand -/
def XF (K : PySem.W.Frag) (ρ φ : List Addr) (H : Hp) (d : Option Addr) (fs : Option (List (Str × D))) : Prop := match fs with
  | none => d = none
  | some gs => ∃ dd hs, d = some dd ∧ H dd = some (.xd hs) ∧ dd ∉ ρ ∧ dd ∉ φ ∧ RelK K ρ φ H hs gs
/-- what a code's run is asked beside: the wish of errors; the error that a suite holds -/
structure WW where
  f : WX
  x : Option XI
/-- the slots; the error's slot holds it -/
structure SlX (ξ : Option XI) (K : PySem.W.Frag) (ρ φ : List Addr) (H : Hp) (σ : St) (l : Sl) : Prop where
  sl : SlR K ρ φ H σ l
  er : ∀ z, ξ = some z → σ[z.i]? = some (some (.ref z.a)) ∧ XF K ρ φ H z.d z.fs
section
variable {ξ : Option XI} {K : PySem.W.Frag} {ρ φ ρ' φ' : List Addr} {H H' : Hp} {σ : St} {l : Sl}
theorem XF.move {d : Option Addr} {fs : Option (List (Str × D))} (h : XF K ρ φ H d fs) (e : Move ρ φ H ρ' φ' H') : XF K ρ' φ' H' d fs := by
  cases fs with
  | none => exact h
  | some gs =>
    obtain ⟨dd, hs, h1, h2, h3, h4, h5⟩ := h
    exact ⟨dd, hs, h1, (e.keep _ _ h2 h3 h4).1, (e.keep _ _ h2 h3 h4).2.1, (e.keep _ _ h2 h3 h4).2.2, h5.move e⟩
theorem XF.mono {d : Option Addr} {fs : Option (List (Str × D))} (h : XF K ρ φ H d fs) (e : Ext ρ H ρ' H') : XF K ρ' φ H' d fs := by
  cases fs with
  | none => exact h
  | some gs =>
    obtain ⟨dd, hs, h1, h2, h3, h4, h5⟩ := h
    exact ⟨dd, hs, h1, e.keep _ _ h2 h3, e.notin (by rw [h2]; simp) h3, h4, h5.mono e⟩
theorem SlX.mono (h : SlX ξ K ρ φ H σ l) (e : Ext ρ H ρ' H') : SlX ξ K ρ' φ H' σ l := ⟨h.sl.mono e, fun z hz => ⟨(h.er z hz).1, (h.er z hz).2.mono e⟩⟩
theorem SlX.move (h : SlX ξ K ρ φ H σ l) (e : Move ρ φ H ρ' φ' H') : SlX ξ K ρ' φ' H' σ l := ⟨h.sl.move e, fun z hz => ⟨(h.er z hz).1, (h.er z hz).2.move e⟩⟩
theorem SlX.get (h : SlX ξ K ρ φ H σ l) {i : Nat} {d : D} (e : l[i]? = some (some d)) : ∃ v, σ[i]? = some (some v) ∧ Rel K ρ φ H v d := h.sl.get e
/-- the slot i is not the error's -/
def freeS (ξ : Option XI) (i : Nat) : Prop := ∀ z, ξ = some z → z.i ≠ i
theorem SlX.set (h : SlX ξ K ρ φ H σ l) {v : V} {d : D} (q : Rel K ρ φ H v d) {i : Nat} (hi : freeS ξ i) : SlX ξ K ρ φ H (σ.set i (some v)) (l.set i (some d)) :=
  ⟨h.sl.set q i, fun z e => ⟨by rw [List.getElem?_set_ne (hi z e).symm]; exact (h.er z e).1, (h.er z e).2⟩⟩
theorem SlX.none (h : SlX ξ K ρ φ H σ l) : SlX Option.none K ρ φ H σ l := ⟨h.sl, fun _ z => nomatch z⟩
theorem SlX.of (h : SlR K ρ φ H σ l) : SlX Option.none K ρ φ H σ l := ⟨h, fun _ z => nomatch z⟩
theorem freeS.none {i : Nat} : freeS Option.none i := fun _ z => nomatch z
theorem SlR.len : ∀ {σ : St} {l : Sl}, SlR K ρ φ H σ l → σ.length = l.length
  | _, _, .nil => rfl
  | _, _, .no r => by rw [List.length_cons, List.length_cons, SlR.len r]
  | _, _, .so _ r => by rw [List.length_cons, List.length_cons, SlR.len r]
end
end Sim

/-! Sim: the operations on plain data, and the constructs. -/
namespace Sim
open PySem PySem.Spec L2

/-! ### reading -/
def listOf (d : D) (S : Store) : Option (List D) :=
  match d with
  | .fl ds => some ds
  | .scr ns => some (ns.map D.int)
  | .ref n => match S[n]? with
    | some ⟨.lst ds, _⟩ => some ds
    | _ => none
  | _ => none
/-- a list that may be joined: no script, not locked -/
def catOf (d : D) (S : Store) : Option (List D) :=
  match d with
  | .fl ds => some ds
  | .ref n => match S[n]? with
    | some ⟨.lst ds, false⟩ => some ds
    | _ => none
  | _ => none
def seqOf (d : D) (S : Store) : Option (List D) :=
  match d with
  | .tup ds => some ds
  | d => listOf d S
def dctOf (d : D) (S : Store) : Option (List (Key × D)) :=
  match d with
  | .ref n => match S[n]? with
    | some ⟨.dct kvs, _⟩ => some kvs
    | _ => none
  | _ => none
def dctU (d : D) (S : Store) : Option (List (Key × D)) :=
  match d with
  | .ref n => match S[n]? with
    | some ⟨.dct kvs, false⟩ => some kvs
    | _ => none
  | _ => none
def insOf (d : D) (S : Store) : Option (Nat × List (Str × D)) :=
  match d with
  | .ref n => match S[n]? with
    | some ⟨.ins c fs, false⟩ => some (c, fs)
    | _ => none
  | _ => none
def keyOf : D → Option Key
  | .int i => some (.inl i)
  | .str s => some (.inr s)
  | _ => none
def valD (kvs : List (Key × D)) (k : Key) : Option D := (kvs.find? fun kv => decide (kv.1 = k)).map (·.2)
def putD (kvs : List (Key × D)) (k : Key) (v : D) : List (Key × D) :=
  if (kvs.any fun kv => decide (kv.1 = k)) = true then kvs.map (fun kv => if kv.1 = k then (kv.1, v) else kv) else kvs ++ [(k, v)]
def putFD (f : Str) (v : D) : List (Str × D) → List (Str × D)
  | [] => [(f, v)]
  | (g, x) :: r => if g = f then (g, v) :: r else (g, x) :: putFD f v r
/-- as data of any depth -/
def pyD (S : Store) : Nat → D → Option PyData
  | 0, _ => none
  | _ + 1, .non => some .none
  | _ + 1, .bl b => some (.bool b)
  | _ + 1, .int i => some (.int i)
  | _ + 1, .str s => some (.str s)
  | k + 1, .tup ds => (ds.mapM (pyD S k)).map .tuple
  | k + 1, .fl ds => (ds.mapM (pyD S k)).map .list
  | k + 1, .scr ns => some (.list (ns.map PyData.int))
  | k + 1, .ref n => match S[n]? with
    | some ⟨.lst ds, _⟩ => (ds.mapM (pyD S k)).map .list
    | _ => none
def okV {α : Type} (a : α) : M α := fun S => some (.ok a, S)
def stuck {α : Type} : M α := fun _ => none
def ofOpt {α : Type} (o : Option α) : M α := fun S => match o with
  | some a => some (.ok a, S)
  | none => none
def guard (c : Bool) {α : Type} (m : M α) : M α := fun S => if c = true then m S else none

/-! ### two-place operations -/
def lineN : Nat := 16777216
def fAdd (a b : D) : M D := fun S =>
  match a, b with
  | .int i, .int j => some (.ok (.int (i + j)), S)
  | .str s, .str t => if s.length + t.length ≤ lineN then some (.ok (.str (s ++ t)), S) else none
  | a, b => match catOf a S, catOf b S with
    | some xs, some ys => if xs.length + ys.length ≤ lineN then some (.ok (.fl (xs ++ ys)), S) else none
    | _, _ => none
def fSub (a b : D) : M D := fun S =>
  match a, b with
  | .int i, .int j => some (.ok (.int (i - j)), S)
  | _, _ => none
def fMul (a b : D) : M D := fun S =>
  match a, b with
  | .int i, .int j => if (-18446744073709551616 < i ∧ i < 18446744073709551616) ∨ (-18446744073709551616 < j ∧ j < 18446744073709551616) then some (.ok (.int (i * j)), S) else none
  | a, .int k => match catOf a S with
    | some xs => if -1000000 ≤ k ∧ k ≤ 1000000 ∧ xs.length * k.toNat ≤ lineN then some (.ok (.fl (List.replicate k.toNat xs).flatten), S) else none
    | none => none
  | _, _ => none
def fDiv (a b : D) : M D := fun S =>
  match a, b with
  | .int i, .int j => if 0 < j ∧ j < 1606938044258990275541962092341162602522202993782792835301376 then some (.ok (.int (i / j)), S) else none
  | _, _ => none
def fMod (a b : D) : M D := fun S =>
  match a, b with
  | .int i, .int j => if 0 < j then some (.ok (.int (i % j)), S) else none
  | _, _ => none
def fPow (a b : D) : M D := fun S =>
  match a, b with
  | .int i, .int j => if 0 ≤ j ∧ j ≤ 1000 ∧ i.natAbs < 18446744073709551616 then some (.ok (.int (i ^ j.toNat)), S) else none
  | _, _ => none
def fCmpI (p : Int → Int → Bool) (a b : D) : M D := fun S =>
  match a, b with
  | .int i, .int j => some (.ok (.bl (p i j)), S)
  | _, _ => none
def intsOf : List D → Option (List Int)
  | [] => some []
  | .int i :: r => (intsOf r).map (i :: ·)
  | _ :: _ => none
def fLt (a b : D) : M D := fun S =>
  match a, b with
  | .int i, .int j => some (.ok (.bl (decide (i < j))), S)
  | .tup xs, .tup ys => match intsOf xs, intsOf ys with
    | some ns, some ms => some (.ok (.bl (HT.lexLt ns ms)), S)
    | _, _ => none
  | _, _ => none
abbrev fLe := fCmpI fun i j => decide (i ≤ j)
abbrev fGt := fCmpI fun i j => decide (j < i)
abbrev fGe := fCmpI fun i j => decide (j ≤ i)
def pyDepth : Nat := 8
def eqD (a b : D) (S : Store) : Option Bool :=
  match pyD S pyDepth a, pyD S pyDepth b with
  | some x, some y => if SeqAt.shaped x = true ∧ SeqAt.shaped y = true then some (PyData.eqv x y) else none
  | _, _ => none
def fEq (a b : D) : M D := fun S => match eqD a b S with
  | some k => some (.ok (.bl k), S)
  | none => none
def fNe (a b : D) : M D := fun S => match eqD a b S with
  | some k => some (.ok (.bl (!k)), S)
  | none => none
def isNon : D → Bool
  | .non => true
  | _ => false
def fIs (a b : D) : M D := fun S => match b with
  | .non => some (.ok (.bl (isNon a)), S)
  | _ => none
def fIsNot (a b : D) : M D := fun S => match b with
  | .non => some (.ok (.bl (!isNon a)), S)
  | _ => none
def inD (a b : D) (S : Store) : Option Bool :=
  match b with
  | .str z => match a with
    | .str w => match w.cps with
      | ⟨[c]⟩ => some (decide (c ∈ z.cps.toList))
      | _ => none
    | _ => none
  | b => match dctOf b S with
    | some kvs => match keyOf a with
      | some k => some (valD kvs k).isSome
      | none => none
    | none => match pyD S pyDepth a, pyD S pyDepth b with
      | some x, some (.list ys) => if SeqAt.shaped x = true ∧ SeqAt.shaped (.list ys) = true then some (ys.any fun z => PyData.eqv z x) else none
      | _, _ => none
def fIn (a b : D) : M D := fun S => match inD a b S with
  | some k => some (.ok (.bl k), S)
  | none => none
def fNotIn (a b : D) : M D := fun S => match inD a b S with
  | some k => some (.ok (.bl (!k)), S)
  | none => none
/-- a[b] -/
def fIx (a b : D) : M D := fun S =>
  match a with
  | .str z => match b with
    | .int i => match (if z.length ≤ lineN then atI z.cps.toList i else none) with
      | some c => some (.ok (.str ⟨#[c]⟩), S)
      | none => none
    | _ => none
  | a => match dctOf a S with
    | some kvs => match keyOf b with
      | some k => match valD kvs k with
        | some d => some (.ok d, S)
        | none => none
      | none => none
    | none => match seqOf a S, b with
      | some ds, .int i => match atI ds i with
        | some d => some (.ok d, S)
        | none => none
      | _, _ => none
def cutD (xs : List D) (lo hi : Option Int) : List D := (xs.drop (HT.sIx xs.length 0 lo)).take (HT.sIx xs.length xs.length hi - HT.sIx xs.length 0 lo)
/-- a[lo:hi] of a list -/
def fSl (a : D) (lo hi : Option Int) : M D := fun S =>
  match a with
  | .tup ds => if HT.sIx ds.length 0 lo = 0 ∧ HT.sIx ds.length ds.length hi = ds.length then none else some (.ok (.tup (cutD ds lo hi)), S)
  | a => match listOf a S with
    | some ds => some (.ok (.fl (cutD ds lo hi)), S)
    | none => none

/-! ### one-place operations -/
def fNeg (a : D) : M D := fun S => match a with
  | .int i => some (.ok (.int (-i)), S)
  | _ => none
def fFld (c : Nat) (f : Str) (a : D) : M D := fun S => match insOf a S with
  | some (c', fs) => if c' = c then (match fs.lookup f with
    | some d => some (.ok d, S)
    | none => none) else none
  | none => none
def fLen (a : D) : M D := fun S => match a with
  | .str z => if z.length ≤ lineN then some (.ok (.int z.length), S) else none
  | a => match dctU a S with
    | some kvs => some (.ok (.int kvs.length), S)
    | none => match seqOf a S with
      | some ds => some (.ok (.int ds.length), S)
      | none => none
/-- list(a), frozen | stored -/
def fList (a : D) : M D := fun S => match seqOf a S with
  | some ds => some (.ok (.fl ds), S)
  | none => none
def newO (o : SO) : M D := fun S => some (.ok (.ref S.length), S ++ [⟨o, false⟩])
def fListR (a : D) : M D := fun S => match seqOf a S with
  | some ds => newO (.lst ds) S
  | none => none
def fInt (a : D) : M D := fun S => match a with
  | .int i => some (.ok (.int i), S)
  | .bl k => some (.ok (.int (if k then 1 else 0)), S)
  | _ => none
def fSum (a : D) : M D := fun S => match listOf a S with
  | some ds => match intsOf ds with
    | some ns => some (.ok (.int ns.sum), S)
    | none => none
  | none => none
def tyD (a : D) (S : Store) : Option String := match a with
  | .non => some "NoneType"
  | .bl _ => some "bool"
  | .int _ => some "int"
  | .str _ => some "str"
  | .tup _ => some "tuple"
  | .fl _ => some "list"
  | .scr _ => none
  | .ref n => match S[n]? with
    | some ⟨.lst _, false⟩ => some "list"
    | some ⟨.dct _, false⟩ => some "dict"
    | _ => none
/-- isinstance(a, T), T a built-in class -/
def fIsi (T : String) (a : D) : M D := fun S => match tyD a S with
  | some t => some (.ok (.bl (t == T || (t == "bool" && T == "int"))), S)
  | none => none
/-- s.index(t), l.index(x) -/
def fIndexS (a b : D) : M D := fun S => match a, b with
  | .str z, .str w => match Builtin.Str.occurrences z w 0 z.length 1 with
    | i :: _ => some (.ok (.int (i : Nat)), S)
    | [] => none
  | _, _ => none
def fIndexL (a b : D) : M D := fun S => match pyD S pyDepth a, pyD S pyDepth b with
  | some (.list ys), some x => if SeqAt.shaped x = true ∧ SeqAt.shaped (.list ys) = true then (match ys.findIdx? (fun z => PyData.eqv z x) with
    | some j => some (.ok (.int (j : Nat)), S)
    | none => none) else none
  | _, _ => none

def a1 (f : D → M D) (ds : List D) : M D := match ds with
  | [a] => f a
  | _ => stuck
def a2 (f : D → D → M D) (ds : List D) : M D := match ds with
  | [a, b] => f a b
  | _ => stuck
def fMax2 (a b : D) : M D := fun S => match a, b with
  | .int i, .int j => some (.ok (.int (if j > i then j else i)), S)
  | _, _ => none
def fMin2 (a b : D) : M D := fun S => match a, b with
  | .int i, .int j => some (.ok (.int (if j < i then j else i)), S)
  | _, _ => none
/-- isinstance(x, C), C an own class -/
def fIsC (c : Nat) (d : D) : M D := fun S => match insOf d S with
  | some (c', _) => if c' = c then some (.ok (.bl true), S) else none
  | none => none

/-! ### sequencing -/
def bnd {α β : Type} (m : Out α) (f : α → M β) : Out β := match m with
  | some (.ok a, S) => f a S
  | some (.error x, S) => some (.error x, S)
  | none => none
def eVar (i : Nat) : ME := fun l S => match l[i]? with
  | some (some d) => some (.ok d, S)
  | _ => none
def eC (d : D) : ME := fun _ S => some (.ok d, S)
def e1 (f : D → M D) (a : ME) : ME := fun l S => bnd (a l S) f
def e2 (f : D → D → M D) (a b : ME) : ME := fun l S => bnd (a l S) fun x S1 => bnd (b l S1) fun y => f x y
def aNil : MA := fun _ S => some (.ok [], S)
def aCons (a : ME) (r : MA) : MA := fun l S => bnd (a l S) fun x S1 => bnd (r l S1) fun xs S2 => some (.ok (x :: xs), S2)
def eA (f : List D → M D) (a : MA) : ME := fun l S => bnd (a l S) f
def eTup (a : MA) : ME := eA (fun ds => guard (decide (ds.length ≤ lineN)) (okV (.tup ds))) a
def eLst (a : MA) : ME := eA (fun ds => guard (decide (ds.length ≤ lineN)) (okV (.fl ds))) a
def eLstR (a : MA) : ME := eA (fun ds => guard (decide (ds.length ≤ lineN)) (newO (.lst ds))) a
def blOf (d : D) : M Bool := fun S => match d with
  | .bl b => some (.ok b, S)
  | _ => none
def tOf (a : ME) : MT := fun l S => bnd (a l S) blOf
def tAnd (a b : MT) : MT := fun l S => bnd (a l S) fun c S1 => if c = true then b l S1 else some (.ok false, S1)
def tOr (a b : MT) : MT := fun l S => bnd (a l S) fun c S1 => if c = true then some (.ok true, S1) else b l S1
def tNot (a : MT) : MT := fun l S => bnd (a l S) fun c S1 => some (.ok (!c), S1)
def eAnd (a b : ME) : ME := fun l S => bnd (tOf a l S) fun c S1 => if c = true then b l S1 else some (.ok (.bl false), S1)
def eOr (a b : ME) : ME := fun l S => bnd (tOf a l S) fun c S1 => if c = true then some (.ok (.bl true), S1) else b l S1
def eNot (a : ME) : ME := fun l S => bnd (tOf a l S) fun c S1 => some (.ok (.bl (!c)), S1)
def eIf (t : MT) (a b : ME) : ME := fun l S => bnd (t l S) fun c S1 => if c = true then a l S1 else b l S1
/-- a < b < c: two comparisons, b asked once -/
def eChain (f g : D → D → M D) (a b c : ME) : ME := fun l S => bnd (a l S) fun x S1 => bnd (b l S1) fun y S2 => bnd (f x y S2) fun z S3 => match z with
  | .bl true => bnd (c l S3) fun w S4 => g y w S4
  | .bl false => some (.ok (.bl false), S3)
  | _ => none
def iofD (d : D) : M (Option Int) := fun S => match d with
  | .int i => some (.ok (some i), S)
  | _ => none
def oNo : Sl → M (Option Int) := fun _ S => some (.ok none, S)
def oSo (a : ME) : Sl → M (Option Int) := fun l S => bnd (a l S) iofD
def eSl (a : ME) (lo hi : Sl → M (Option Int)) : ME := fun l S => bnd (a l S) fun x S1 => bnd (lo l S1) fun i S2 => bnd (hi l S2) fun j S3 => fSl x i j S3
/-- o.m(..) of a built-in thing: chk is asked of o ahead of the arguments -/
def eBM (chk : D → Store → Bool) (f : D → List D → M D) (o : ME) (a : MA) : ME := fun l S => bnd (o l S) fun x S1 => if chk x S1 = true then bnd (a l S1) fun ds S2 => f x ds S2 else none
def isL (d : D) (S : Store) : Bool := (listOf d S).isSome
def isS (d : D) (_ : Store) : Bool := match d with
  | .str _ => true
  | _ => false
def m1 (f : D → D → M D) (x : D) (ds : List D) : M D := match ds with
  | [a] => f x a
  | _ => stuck
def eIndex (o : ME) (a : MA) : ME := fun l S => bnd (o l S) fun x S1 => if isS x S1 = true then (bnd (a l S1) fun ds S2 => m1 fIndexS x ds S2) else if isL x S1 = true then bnd (a l S1) fun ds S2 => m1 fIndexL x ds S2 else none
/-- o.m(..) of an instance of the class c -/
def eMeth (c : Nat) (m : Str) (g : List D → M D) (o : ME) (a : MA) : ME := fun l S => bnd (o l S) fun x S1 => match insOf x S1 with
  | some (c', fs) => if c' = c ∧ fs.lookup m = none then bnd (a l S1) fun ds S2 => g (x :: ds) S2 else none
  | none => none
/-- a new instance of the class c, its __init__ -/
def fMake (c : Nat) (init : List D → M D) (ds : List D) : M D := fun S => match init (.ref S.length :: ds) (S ++ [⟨.ins c [], false⟩]) with
  | some (.ok .non, S') => some (.ok (.ref S.length), S')
  | some (.error x, S') => some (.error x, S')
  | _ => none
/-- a new dict with written keys -/
def newDct (ks : List Key) (ds : List D) : M D := fun S => if ks.length = ds.length ∧ ks.length ≤ 15 then newO (.dct ((ks.zip ds).foldl (fun acc kv => putD acc kv.1 kv.2) [])) S else none

/-! ### statements -/
def sNext : MS := fun l S => some (.nx l, S)
def sSeq (a b : MS) : MS := fun l S => match a l S with
  | some (.nx l', S') => b l' S'
  | r => r
def bndS {α : Type} (l : Sl) (m : Out α) (f : α → Store → OutS) : OutS := match m with
  | some (.ok a, S) => f a S
  | some (.error x, S) => some (.ex x l, S)
  | none => none
def sBreak : MS := fun l S => some (.bk l, S)
def sCont : MS := fun l S => some (.ct l, S)
def sDrop (a : ME) : MS := fun l S => bndS l (a l S) fun _ S' => some (.nx l, S')
def sRet (a : ME) : MS := fun l S => bndS l (a l S) fun d S' => some (.rt d, S')
def sRetN : MS := fun _ S => some (.rt .non, S)
def sSet (i : Nat) (a : ME) : MS := fun l S => bndS l (a l S) fun d S' => some (.nx (l.set i (some d)), S')
def sIf (t : MT) (a b : MS) : MS := fun l S => bndS l (t l S) fun c S' => if c = true then a l S' else b l S'
/-- targets: a name, names of a tuple -/
def setAll : List Nat → List D → Sl → Option Sl
  | [], [], l => some l
  | i :: is, d :: ds, l => setAll is ds (l.set i (some d))
  | _, _, _ => none
inductive Tg where
  | one (i : Nat) | many (is : List Nat)
def tgIx : Tg → List Nat
  | .one i => [i]
  | .many is => is
def tgSet (t : Tg) (d : D) (l : Sl) : Option Sl := match t with
  | .one i => some (l.set i (some d))
  | .many is => match d with
    | .tup ds => setAll is ds l
    | _ => none
def sSetT (is : List Nat) (a : ME) : MS := fun l S => bndS l (a l S) fun d S' => match tgSet (.many is) d l with
  | some l' => some (.nx l', S')
  | none => none
def putFldD (c : Nat) (f : Str) (x d : D) : Store → Option Store := fun S => match x with
  | .ref n => match S[n]? with
    | some ⟨.ins c' fs, false⟩ => if c' = c ∧ fs.length < 1000 then some (S.set n ⟨.ins c (putFD f d fs), false⟩) else none
    | _ => none
  | _ => none
/-- o.f = e: e first -/
def sFld (c : Nat) (o : ME) (f : Str) (e : ME) : MS := fun l S => bndS l (e l S) fun d S1 => bndS l (o l S1) fun x S2 => match putFldD c f x d S2 with
  | some S3 => some (.nx l, S3)
  | none => none
def putIxD (x i d : D) : Store → Option Store := fun S => match x with
  | .ref n => match S[n]? with
    | some ⟨.lst ds, false⟩ => match i with
      | .int k => match ixN ds.length k with
        | some j => some (S.set n ⟨.lst (ds.set j d), false⟩)
        | none => none
      | _ => none
    | some ⟨.dct kvs, false⟩ => match keyOf i with
      | some k => if kvs.length < lineN then some (S.set n ⟨.dct (putD kvs k d), false⟩) else none
      | none => none
    | _ => none
  | _ => none
/-- o[i] = e: e first, then o, then i -/
def sPut (o i e : ME) : MS := fun l S => bndS l (e l S) fun d S1 => bndS l (o l S1) fun x S2 => bndS l (i l S2) fun k S3 => match putIxD x k d S3 with
  | some S4 => some (.nx l, S4)
  | none => none
def fAppend (x d : D) : M D := fun S => match x with
  | .ref n => match S[n]? with
    | some ⟨.lst ds, false⟩ => if ds.length < lineN then some (.ok .non, S.set n ⟨.lst (ds ++ [d]), false⟩) else none
    | _ => none
  | _ => none
def fPopAt (x i : D) : M D := fun S => match x with
  | .ref n => match S[n]? with
    | some ⟨.lst ds, false⟩ => match i with
      | .int 0 => match ds with
        | d :: r => if ds.length ≤ lineN then some (.ok d, S.set n ⟨.lst r, false⟩) else none
        | [] => none
      | _ => none
    | _ => none
  | _ => none
/-- d.get(k), d.get(k, x) -/
def fGet1 (x k : D) : M D := fun S => match dctOf x S, keyOf k with
  | some kvs, some k => some (.ok ((valD kvs k).getD .non), S)
  | _, _ => none
def fGet2 (x k d : D) : M D := fun S => match dctOf x S, keyOf k with
  | some kvs, some k => some (.ok ((valD kvs k).getD d), S)
  | _, _ => none
def eGet1 (o a : ME) : ME := fun l S => bnd (o l S) fun x S1 => match dctOf x S1 with
  | some _ => bnd (a l S1) fun k S2 => fGet1 x k S2
  | none => none
def eGet2 (o a b : ME) : ME := fun l S => bnd (o l S) fun x S1 => match dctOf x S1 with
  | some _ => bnd (a l S1) fun k S2 => bnd (b l S2) fun d S3 => fGet2 x k d S3
  | none => none

/-! ### loops -/
/-- the body at each item -/
def forL (tg : Tg) (body : MS) : List D → Sl → Store → OutS
  | [], l, S => some (.nx l, S)
  | d :: ds, l, S => match tgSet tg d l with
    | none => none
    | some l1 => match body l1 S with
      | some (.nx l', S') => forL tg body ds l' S'
      | some (.ct l', S') => forL tg body ds l' S'
      | some (.bk l', S') => some (.nx l', S')
      | r => r
/-- what is walked, as the store stands -/
abbrev Src := Store → Option (List D)
def forG (src : Src) (tg : Tg) (body : MS) : Nat → Nat → Sl → Store → OutS
  | 0, _, _, _ => none
  | k + 1, i, l, S => match src S with
    | none => none
    | some ds => match ds[i]? with
      | none => some (.nx l, S)
      | some d => match tgSet tg d l with
        | none => none
        | some l1 => match body l1 S with
          | some (.nx l', S') => forG src tg body k (i + 1) l' S'
          | some (.ct l', S') => forG src tg body k (i + 1) l' S'
          | some (.bk l', S') => some (.nx l', S')
          | r => r
def sFor (items : Sl → M Src) (tg : Tg) (body : MS) : MS := fun l S => bndS l (items l S) fun src S1 => match src S1 with
  | none => none
  | some ds => forG src tg body (ds.length + 1) 0 l S1
/-- a list -/
def iL (a : ME) : Sl → M Src := fun l S => bnd (a l S) fun x S1 => if isL x S1 = true then some (.ok (listOf x), S1) else none
def signsOf (z : Str) : List D := z.cps.toList.map fun c => D.str ⟨#[c]⟩
/-- a text, sign by sign -/
def iS (a : ME) : Sl → M Src := fun l S => bnd (a l S) fun x S1 => match x with
  | .str z => some (.ok (fun _ => some (signsOf z)), S1)
  | _ => none
def rangeD (lo : Int) (n : Nat) : List D := (List.range n).map fun (i : Nat) => D.int (lo + (i : Int))
def bigI (i : Int) : Bool := decide (-4611686018427387904 ≤ i ∧ i < 4611686018427387904)
def iR1 (a : ME) : Sl → M Src := fun l S => bnd (a l S) fun x S1 => match x with
  | .int n => if bigI n = true then some (.ok (fun _ => some (rangeD 0 n.toNat)), S1) else none
  | _ => none
def iR2 (a b : ME) : Sl → M Src := fun l S => bnd (a l S) fun x S1 => bnd (b l S1) fun y S2 => match x, y with
  | .int lo, .int hi => if bigI lo = true ∧ bigI hi = true then some (.ok (fun _ => some (rangeD lo (hi - lo).toNat)), S2) else none
  | _, _ => none
def enumD (ds : List D) : List D := ds.zipIdx.map fun p => D.tup [.int (p.2 : Nat), p.1]
def iEn (a : ME) : Sl → M Src := fun l S => bnd (a l S) fun x S1 => if isL x S1 = true then some (.ok (fun S' => (listOf x S').map enumD), S1) else none
def zipD (xs ys : List D) : List D := List.zipWith (fun x y => D.tup [x, y]) xs ys
def iZ (a b : ME) : Sl → M Src := fun l S => bnd (a l S) fun x S1 => bnd (b l S1) fun y S2 => if isL x S2 = true ∧ isL y S2 = true then some (.ok (fun S' => match listOf x S', listOf y S' with
  | some xs, some ys => some (zipD xs ys)
  | _, _ => none), S2) else none
def fuelN : Nat := 1000000
def whileF (t : MT) (body : MS) : Nat → Sl → Store → OutS
  | 0, _, _ => none
  | k + 1, l, S => bndS l (t l S) fun c S1 => if c = true then (match body l S1 with
      | some (.nx l', S') => whileF t body k l' S'
      | some (.ct l', S') => whileF t body k l' S'
      | some (.bk l', S') => some (.nx l', S')
      | r => r) else some (.nx l, S1)
def sWhile (t : MT) (body : MS) : MS := whileF t body fuelN
/-- what a comprehension's block sees -/
def wipeD (l : Sl) : List Nat → Sl
  | [] => l
  | v :: vs => (wipeD l vs).set v none
/-- no error leaves -/
def bndN {α β : Type} (m : Out α) (f : α → M β) : Out β := match m with
  | some (.ok a, S) => f a S
  | _ => none
def compG (src : Src) (tg : Tg) (t : MT) (e : ME) (l : Sl) : Nat → Nat → List D → M D
  | 0, _, _, _ => none
  | k + 1, i, acc, S => match src S with
    | none => none
    | some ds => match ds[i]? with
      | none => some (.ok (.fl acc), S)
      | some d => match tgSet tg d l with
        | none => none
        | some l1 => bndN (t l1 S) fun c S1 => if c = true then (bndN (e l1 S1) fun x S2 => if acc.length < lineN then compG src tg t e l k (i + 1) (acc ++ [x]) S2 else none) else compG src tg t e l k (i + 1) acc S1
def tYes' : MT := fun _ S => some (.ok true, S)
def eComp (vs : List Nat) (items : Sl → M Src) (tg : Tg) (t : MT) (e : ME) : ME := fun l S => bnd (items l S) fun src S1 => match src S1 with
  | none => none
  | some ds => compG src tg t e (wipeD l vs) (ds.length + 1) 0 [] S1
/-- .. of a list, all items kept -/
def compL (tg : Tg) (t : MT) (e : ME) (l : Sl) : List D → List D → M D
  | acc, [], S => some (.ok (.fl acc), S)
  | acc, d :: ds, S => match tgSet tg d l with
    | none => none
    | some l1 => bndN (t l1 S) fun c S1 => if c = true then (bndN (e l1 S1) fun x S2 => if acc.length < lineN then compL tg t e l (acc ++ [x]) ds S2 else none) else compL tg t e l acc ds S1
theorem forG_const {tg : Tg} {body : MS} (ds : List D) : ∀ (k i : Nat) (l : Sl) (S : Store), ds.length < k + i → i ≤ ds.length → forG (fun _ => some ds) tg body k i l S = forL tg body (ds.drop i) l S
  | 0, i, l, S, h, h' => absurd h (by omega)
  | k + 1, i, l, S, h, h' => by
    unfold forG
    cases e : ds[i]? with
    | none =>
      rw [List.drop_eq_nil_of_le (List.getElem?_eq_none_iff.mp e)]
      simp only [e]
      rfl
    | some d =>
      obtain ⟨hi, e2⟩ := List.getElem?_eq_some_iff.mp e
      rw [List.drop_eq_getElem_cons hi, e2]
      simp only [e]
      unfold forL
      cases tgSet tg d l with
      | none => rfl
      | some l1 =>
        simp only
        cases body l1 S with
        | none => rfl
        | some p =>
          obtain ⟨f, S'⟩ := p
          cases f with
          | nx l' => exact forG_const ds k (i + 1) l' S' (by omega) (by omega)
          | ct l' => exact forG_const ds k (i + 1) l' S' (by omega) (by omega)
          | bk l' => rfl
          | rt d => rfl
          | ex x l' => rfl
theorem forG_all {tg : Tg} {body : MS} {ds : List D} {l : Sl} {S : Store} : forG (fun _ => some ds) tg body (ds.length + 1) 0 l S = forL tg body ds l S := forG_const ds _ 0 l S (by omega) (by omega)
theorem compG_const {tg : Tg} {t : MT} {e : ME} {l : Sl} (ds : List D) : ∀ (k i : Nat) (acc : List D) (S : Store), ds.length < k + i → i ≤ ds.length → compG (fun _ => some ds) tg t e l k i acc S = compL tg t e l acc (ds.drop i) S
  | 0, i, acc, S, h, h' => absurd h (by omega)
  | k + 1, i, acc, S, h, h' => by
    unfold compG
    cases q : ds[i]? with
    | none =>
      rw [List.drop_eq_nil_of_le (List.getElem?_eq_none_iff.mp q)]
      simp only [q]
      rfl
    | some d =>
      obtain ⟨hi, e2⟩ := List.getElem?_eq_some_iff.mp q
      rw [List.drop_eq_getElem_cons hi, e2]
      simp only [q]
      unfold compL
      cases tgSet tg d l with
      | none => rfl
      | some l1 =>
        simp only
        have ih := fun acc S => compG_const (tg := tg) (t := t) (e := e) (l := l) ds k (i + 1) acc S (by omega) (by omega)
        simp only [ih]
theorem compG_all {tg : Tg} {t : MT} {e : ME} {l : Sl} {ds acc : List D} {S : Store} : compG (fun _ => some ds) tg t e l (ds.length + 1) 0 acc S = compL tg t e l acc ds S := compG_const ds _ 0 acc S (by omega) (by omega)
/-- a def: its slots, its body -/
def fnM (n : Nat) (np : Nat) (body : MS) : List D → M D := fun ds S => if ds.length = np then (match body (ds.map some ++ List.replicate (n - np) none) S with
  | some (.nx _, S') => some (.ok .non, S')
  | some (.rt d, S') => some (.ok d, S')
  | some (.ex x _, S') => some (.error x, S')
  | _ => none) else none
/-- raise C(..) -/
def sRaise (c : Nat) (fs : Option (List Str)) (a : MA) : MS := fun l S => bndS l (a l S) fun ds S' => match fs with
  | none => some (.ex ⟨c, none⟩ l, S')
  | some ns => if ns.length = ds.length then some (.ex ⟨c, some (ns.zip ds)⟩ l, S') else none
def noEx (r : OutS) : OutS := match r with
  | some (.ex _ _, _) => none
  | r => r
def unsetS (i : Nat) (r : OutS) : OutS := match r with
  | some (.nx l, S) => some (.nx (l.set i none), S)
  | some (.bk l, S) => some (.bk (l.set i none), S)
  | some (.ct l, S) => some (.ct (l.set i none), S)
  | some (.rt d, S) => some (.rt d, S)
  | _ => none
/-- try: body / except C [as slot i]: suite -/
def sTry (body : MS) (catch_ : Nat → Option Bool) (i : Option Nat) (suite : Exn → MS) : MS := fun l S => match body l S with
  | some (.ex x l', S') => match catch_ x.c with
    | some true => (match i with
      | none => noEx (suite x l' S')
      | some i => if i < l'.length then unsetS i (suite x (l'.set i none) S') else none)
    | some false => some (.ex x l', S')
    | none => none
  | r => r
/-- a field of the error that a suite holds -/
def eXF (c : Nat) (f : Str) (x : Exn) : ME := fun _ S => if x.c = c then (match x.fs with
  | some gs => match gs.lookup f with
    | some d => some (.ok d, S)
    | none => none
  | none => none) else none
/-- isinstance of that error -/
def eIsE (tab : Nat → Option Bool) (x : Exn) : ME := fun _ S => match x.fs with
  | some _ => none
  | none => match tab x.c with
    | some b => some (.ok (.bl b), S)
    | none => none
/-- raise C('..'), raise C(e) -/
def sRaiseB (c : Nat) : MS := fun l S => some (.ex ⟨c, none⟩ l, S)
def sRaiseN (c : Nat) (f : Str) (a : MA) : MS := fun l S => bndS l (a l S) fun ds S' => match ds with
  | [d] => some (.ex ⟨c, some [(f, d)]⟩ l, S')
  | _ => none
/-- no error comes out -/
def noErr {α : Type} (m : M α) : M α := fun S => match m S with
  | some (.ok a, S') => some (.ok a, S')
  | _ => none
end Sim

/-! Sim: what a run of the constructs promises of the layer's readings. -/
namespace Sim
open PySem PySem.Spec L2

section
variable (K : PySem.W.Frag) (ca : Nat → Addr)
/-- an error in the air -/
def XR (ρ φ : List Addr) (H : Hp) (cls : Value) (d : Option Addr) (x : Exn) : Prop := cls = .ref (ca x.c) ∧ XF K ρ φ H d x.fs
def AtM {α β : Type} (W : WW) (R : List Addr → List Addr → Hp → β → α → Prop) (ρ φ : List Addr) (H : Hp) (σ : St) (c : Out α) (Q : β → Hp → Prop) : Prop :=
  match c with
  | some (.ok a, S') => ∀ (ρ' : List Addr) (H' : Hp) (b : β), SR K ca ρ' φ S' H' → Ext ρ H ρ' H' → R ρ' φ H' b a → Q b H'
  | some (.error x, S') => ∀ (ρ' : List Addr) (H' : Hp) (C : Value) (d : Option Addr), SR K ca ρ' φ S' H' → Ext ρ H ρ' H' → XR K ca ρ' φ H' C d x → W.f C d σ H'
  | none => False
def Tm {α β : Type} (W : WW) (R : List Addr → List Addr → Hp → β → α → Prop) (m : Sl → M α) : St → Hp → (β → Hp → Prop) → Prop := fun σ H Q =>
  ∃ (ρ φ : List Addr) (S : Store) (l : Sl), SR K ca ρ φ S H ∧ SlX W.x K ρ φ H σ l ∧ AtM K ca W R ρ φ H σ (m l S) Q
def AtS (W : WW) (ρ φ : List Addr) (H : Hp) (c : OutS) (D : Ends) : Prop :=
  match c with
  | some (.nx l', S') => ∀ (ρ' : List Addr) (H' : Hp) (σ' : St), SR K ca ρ' φ S' H' → Ext ρ H ρ' H' → SlX W.x K ρ' φ H' σ' l' → D.nx σ' H'
  | some (.bk l', S') => ∀ (ρ' : List Addr) (H' : Hp) (σ' : St), SR K ca ρ' φ S' H' → Ext ρ H ρ' H' → SlX W.x K ρ' φ H' σ' l' → D.bk σ' H'
  | some (.ct l', S') => ∀ (ρ' : List Addr) (H' : Hp) (σ' : St), SR K ca ρ' φ S' H' → Ext ρ H ρ' H' → SlX W.x K ρ' φ H' σ' l' → D.ct σ' H'
  | some (.rt d, S') => ∀ (ρ' : List Addr) (H' : Hp) (v : V), SR K ca ρ' φ S' H' → Ext ρ H ρ' H' → Rel K ρ' φ H' v d → D.rt v H'
  | some (.ex x l', S') => ∀ (ρ' : List Addr) (H' : Hp) (σ' : St) (C : Value) (d : Option Addr), SR K ca ρ' φ S' H' → Ext ρ H ρ' H' → SlX W.x K ρ' φ H' σ' l' → XR K ca ρ' φ H' C d x → W.f C d σ' H'
  | none => False
def TmS (W : WW) (m : MS) : TS := fun D σ H => ∃ (ρ φ : List Addr) (S : Store) (l : Sl), SR K ca ρ φ S H ∧ SlX W.x K ρ φ H σ l ∧ AtS K ca W ρ φ H (m l S) D
/-- equal, whatever the heap -/
def REq {α : Type} (_ _ : List Addr) (_ : Hp) (b a : α) : Prop := b = a
end

section
variable (ca : Nat → Addr) (W : WW) (X : Cx)
def SE (e : Expr) (m : ME) : Prop := PE X e (Tm X.K ca W (Rel X.K) m)
def ST (e : Expr) (m : MT) : Prop := PT X e (Tm X.K ca W REq m)
def SW (e : Expr) (m : MT) : Prop := PW X e (Tm X.K ca W REq m)
def SA (es : List Expr) (m : MA) : Prop := PA X es (Tm X.K ca W (Rels X.K) m)
def SO' (e : Option Expr) (m : Sl → M (Option Int)) : Prop := PO X e (Tm X.K ca W REq m)
def SS (st : Stmt) (m : MS) : Prop := PS X st (TmS X.K ca W m)
def SSs (st : List Stmt) (m : MS) : Prop := PSs X st (TmS X.K ca W m)
end

section
variable {X : Cx}
theorem pe_imp {e : Expr} {t t' : TE} (h : PE X e t) (i : ∀ σ H Q, t' σ H Q → t σ H Q) : PE X e t' := ⟨fun pins s σ H Q I q => h.run pins s σ H Q I (i σ H Q q)⟩
theorem pt_imp {e : Expr} {t t' : TT} (h : PT X e t) (i : ∀ σ H Q, t' σ H Q → t σ H Q) : PT X e t' := ⟨fun pins s σ H Q I q => h.run pins s σ H Q I (i σ H Q q)⟩
theorem pw_imp {e : Expr} {t t' : TT} (h : PW X e t) (i : ∀ σ H Q, t' σ H Q → t σ H Q) : PW X e t' := ⟨fun wh pins s σ H Q I q => h.run wh pins s σ H Q I (i σ H Q q)⟩
theorem pa_imp {e : List Expr} {t t' : TA} (h : PA X e t) (i : ∀ σ H Q, t' σ H Q → t σ H Q) : PA X e t' := ⟨fun pos pins s σ H Q I q => h.run pos pins s σ H Q I (i σ H Q q)⟩
theorem ps_imp {e : Stmt} {t t' : TS} (h : PS X e t) (i : ∀ D σ H, t' D σ H → t D σ H) : PS X e t' := ⟨fun pins s σ H D I q => h.run pins s σ H D I (i D σ H q)⟩
theorem pss_imp {e : List Stmt} {t t' : TS} (h : PSs X e t) (i : ∀ D σ H, t' D σ H → t D σ H) : PSs X e t' := ⟨fun pins s σ H D I q => h.run pins s σ H D I (i D σ H q)⟩
/-- one or the other -/
theorem pe_or2 {e : Expr} {t u : TE} (h : PE X e t) (k : PE X e u) : PE X e (fun σ H Q => t σ H Q ∨ u σ H Q) := ⟨fun pins s σ H Q I q => q.elim (h.run pins s σ H Q I) (k.run pins s σ H Q I)⟩
theorem ps_or2 {e : Stmt} {t u : TS} (h : PS X e t) (k : PS X e u) : PS X e (fun D σ H => t D σ H ∨ u D σ H) := ⟨fun pins s σ H D I q => q.elim (h.run pins s σ H D I) (k.run pins s σ H D I)⟩
theorem opR_or {f : Value → Value → Sem Value} {r r' : R2} (h : OpR X f r) (k : OpR X f r') : OpR X f (fun x y H Q => r x y H Q ∨ r' x y H Q) := by
  intro pins s σ H x y v u Q I rx ry q
  exact q.elim (h pins s σ H x y v u Q I rx ry) (k pins s σ H x y v u Q I rx ry)
theorem callR_or {f : Value} {r r' : List V → Hp → VK → Prop} (h : CallR X f r) (k : CallR X f r') : CallR X f (fun xs H Q => r xs H Q ∨ r' xs H Q) := by
  intro pins s σ H xs us Q I rx q
  exact q.elim (h pins s σ H xs us Q I rx) (k pins s σ H xs us Q I rx)
end

section
variable {K : PySem.W.Frag} {ca : Nat → Addr} {ρ ρ' φ : List Addr} {S S' : Store} {H H' : Hp}
theorem XR.mono {C : Value} {d : Option Addr} {x : Exn} (e : Ext ρ H ρ' H') (h : XR K ca ρ φ H C d x) : XR K ca ρ' φ H' C d x := ⟨h.1, h.2.mono e⟩
theorem SR.trk (h : SR K ca ρ φ S H) {a : Addr} (ha : a ∈ ρ) : H a ≠ none := by
  obtain ⟨n, hn⟩ := List.mem_iff_getElem?.mp ha
  have hl : n < S.length := by rw [← h.len]; exact (List.getElem?_eq_some_iff.mp hn).1
  obtain ⟨ho, q, _⟩ := h.ob n a (S[n]) hn (List.getElem?_eq_getElem hl)
  unfold At at q
  split at q
  · obtain ⟨o, q⟩ := q; rw [q]; simp
  · rw [q]; simp
theorem SR.fresh (h : SR K ca ρ φ S H) {p : Addr} (hp : H p = none) : p ∉ ρ ∧ p ∉ φ := ⟨fun z => h.trk z hp, fun z => h.ph p z hp⟩
theorem Ext.lay {p : Addr} {o : HO} (hp : H p = none) : Ext ρ H ρ (upd H p o) :=
  ⟨⟨[], by simp, by simp⟩, fun b u hb _ => by rw [upd_ne (ne_of_none hb hp)]; exact hb, fun b hb => by
    by_cases c : b = p
    · subst c; rw [upd_same]; simp
    · rw [upd_ne c]; exact hb, fun b o u hb => by rw [upd_ne (ne_of_none hb hp)]; exact hb⟩
theorem At.lay {a p : Addr} {ho o : HO} {k : Bool} (h : At H a ho k) (hp : H p = none) : At (upd H p o) a ho k := by
  cases k with
  | true =>
    obtain ⟨u, h⟩ := (show ∃ u, H a = some (.frz u ho) from h)
    exact (show ∃ u, upd H p o a = some (.frz u ho) from ⟨u, by rw [upd_ne (ne_of_none h hp)]; exact h⟩)
  | false =>
    have h' : H a = some ho := h
    show upd H p o a = some ho
    rw [upd_ne (ne_of_none h' hp)]; exact h'
theorem At.put {a p : Addr} {ho o : HO} {k : Bool} (h : At H a ho k) (hp : a ≠ p) : At (upd H p o) a ho k := by
  cases k with
  | true =>
    obtain ⟨u, h⟩ := (show ∃ u, H a = some (.frz u ho) from h)
    exact (show ∃ u, upd H p o a = some (.frz u ho) from ⟨u, by rw [upd_ne hp]; exact h⟩)
  | false =>
    have h' : H a = some ho := h
    show upd H p o a = some ho
    rw [upd_ne hp]; exact h'
/-- a new frozen thing -/
theorem SR.lay (h : SR K ca ρ φ S H) {p : Addr} {o : HO} (hp : H p = none) : SR K ca ρ φ S (upd H p o) :=
  ⟨h.nd, h.len, h.dj, fun a ha => Ext.trk (Ext.lay (ρ := ρ) hp) a (h.ph a ha), fun n a c h1 h2 => by
    obtain ⟨ho, q1, q2⟩ := h.ob n a c h1 h2
    exact ⟨ho, q1.lay hp, q2.mono (Ext.lay hp)⟩⟩
/-- a new stored thing -/
theorem SR.grow (h : SR K ca ρ φ S H) {p : Addr} {ho : HO} {so : SO} (hp : H p = none) (r : RelO K ca (ρ ++ [p]) φ (upd H p ho) ho so) : SR K ca (ρ ++ [p]) φ (S ++ [⟨so, false⟩]) (upd H p ho) := by
  obtain ⟨f1, f2⟩ := h.fresh hp
  have e : Ext ρ H (ρ ++ [p]) (upd H p ho) := ⟨⟨[p], rfl, fun q hq => by rw [List.mem_singleton.mp hq]; exact hp⟩, (Ext.lay (ρ := ρ) hp).keep, (Ext.lay (ρ := ρ) hp).trk, (Ext.lay (ρ := ρ) hp).fz⟩
  refine ⟨?_, by simp [h.len], fun a ha hm => ?_, fun a ha => e.trk a (h.ph a ha), fun n a c h1 h2 => ?_⟩
  · rw [List.nodup_append]
    exact ⟨h.nd, by simp, fun a ha b hb z => by rw [List.mem_singleton.mp hb] at z; subst z; exact f1 ha⟩
  · rcases List.mem_append.mp hm with z | z
    · exact h.dj a ha z
    · rw [List.mem_singleton.mp z] at ha; exact f2 ha
  · by_cases hn : n < ρ.length
    · rw [List.getElem?_append_left hn] at h1
      rw [List.getElem?_append_left (by rw [← h.len]; exact hn)] at h2
      obtain ⟨ho', q1, q2⟩ := h.ob n a c h1 h2
      exact ⟨ho', q1.lay hp, q2.mono e⟩
    · rw [List.getElem?_append_right (by omega)] at h1
      rw [List.getElem?_append_right (by rw [← h.len]; omega)] at h2
      have hz : n - ρ.length = 0 := by
        have := (List.getElem?_eq_some_iff.mp h1).1
        simpa using this
      rw [hz] at h1
      rw [← h.len, hz] at h2
      cases h1; cases h2
      exact ⟨ho, upd_same, r⟩
theorem Ext.grow {p : Addr} {ho : HO} (hp : H p = none) : Ext ρ H (ρ ++ [p]) (upd H p ho) :=
  ⟨⟨[p], rfl, fun q hq => by rw [List.mem_singleton.mp hq]; exact hp⟩, (Ext.lay (ρ := ρ) hp).keep, (Ext.lay (ρ := ρ) hp).trk, (Ext.lay (ρ := ρ) hp).fz⟩
/-- no lock stands on it -/
def NoFz (H : Hp) (p : Addr) : Prop := ∀ o u, H p ≠ some (.frz o u)
theorem Ext.put {p : Addr} {ho : HO} (hp : p ∈ ρ) (ht : H p ≠ none) (hz : NoFz H p) : Ext ρ H ρ (upd H p ho) :=
  ⟨⟨[], by simp, by simp⟩, fun b u hb n => by rw [upd_ne (fun z => n (by rw [z]; exact hp))]; exact hb, fun b hb => by
    by_cases c : b = p
    · subst c; rw [upd_same]; simp
    · rw [upd_ne c]; exact hb, fun b o u hb => by
    by_cases c : b = p
    · subst c; exact absurd hb (hz o u)
    · rw [upd_ne c]; exact hb⟩
theorem nofz_lst {p : Addr} {xs : List V} (h : H p = some (.lst xs)) : NoFz H p := fun o u z => by rw [h] at z; cases z
theorem nofz_dK {p : Addr} {xs : List (Key × V)} (h : H p = some (.dK xs)) : NoFz H p := fun o u z => by rw [h] at z; cases z
theorem nofz_ins {p C d : Addr} {xs : List (Str × V)} (h : H p = some (.ins C d xs)) : NoFz H p := fun o u z => by rw [h] at z; cases z
theorem nd_ix' {α : Type} {l : List α} (hN : l.Nodup) {i j : Nat} {x : α} (a : l[i]? = some x) (b : l[j]? = some x) : i = j := by
  obtain ⟨h1, e1⟩ := List.getElem?_eq_some_iff.mp a
  obtain ⟨h2, e2⟩ := List.getElem?_eq_some_iff.mp b
  exact (List.getElem_inj hN).mp (e1.trans e2.symm)
/-- a stored thing changes -/
theorem SR.put (h : SR K ca ρ φ S H) {n : Nat} {p : Addr} {c : Cell} {ho : HO} {so : SO} (hn : ρ[n]? = some p) (hz : NoFz H p) (r : RelO K ca ρ φ (upd H p ho) ho so) : SR K ca ρ φ (S.set n ⟨so, false⟩) (upd H p ho) := by
  have hp : p ∈ ρ := List.mem_of_getElem? hn
  have e : Ext ρ H ρ (upd H p ho) := Ext.put hp (h.trk hp) hz
  refine ⟨h.nd, by rw [List.length_set]; exact h.len, h.dj, fun a ha => e.trk a (h.ph a ha), fun m a c' h1 h2 => ?_⟩
  by_cases hm : n = m
  · subst hm
    have z : p = a := Option.some.inj (hn.symm.trans h1)
    subst z
    rw [List.getElem?_set_self (by rw [← h.len]; exact (List.getElem?_eq_some_iff.mp hn).1)] at h2
    cases h2
    exact ⟨ho, upd_same, r⟩
  · rw [List.getElem?_set_ne hm] at h2
    obtain ⟨ho', q1, q2⟩ := h.ob m a c' h1 h2
    exact ⟨ho', q1.put (fun z => hm (nd_ix' h.nd hn (z ▸ h1))), q2.mono e⟩

/-! ### outcomes -/
section
variable {α β γ δ : Type} {W : WW} {R : List Addr → List Addr → Hp → β → α → Prop} {R' : List Addr → List Addr → Hp → δ → γ → Prop} {σ : St} {l : Sl} {Q : β → Hp → Prop} {Q' : δ → Hp → Prop}
theorem AtM.mono {c : Out α} (e : Ext ρ H ρ' H') (h : AtM K ca W R ρ φ H σ c Q) : AtM K ca W R ρ' φ H' σ c Q := by
  unfold AtM at h ⊢
  split at h
  · exact fun ρ2 H2 b hS e2 r => h ρ2 H2 b hS (e.trans e2) r
  · exact fun ρ2 H2 C d hS e2 r => h ρ2 H2 C d hS (e.trans e2) r
  · exact h
theorem AtM.here {a : α} {b : β} (h : AtM K ca W R ρ φ H σ (some (.ok a, S)) Q) (hS : SR K ca ρ φ S H) (r : R ρ φ H b a) : Q b H := h ρ H b hS (Ext.refl ρ H) r
theorem bindAt {m : Sl → M α} {k : α → M γ} (hS : SR K ca ρ φ S H) (hl : SlX W.x K ρ φ H σ l) (h : AtM K ca W R' ρ φ H σ (bnd (m l S) k) Q')
    (q : ∀ a S1 ρ1 H1 b, m l S = some (.ok a, S1) → SR K ca ρ1 φ S1 H1 → Ext ρ H ρ1 H1 → R ρ1 φ H1 b a → AtM K ca W R' ρ1 φ H1 σ (k a S1) Q' → Q b H1) : Tm K ca W R m σ H Q := by
  refine ⟨ρ, φ, S, l, hS, hl, ?_⟩
  cases hm : m l S with
  | none => rw [hm] at h; exact h
  | some p =>
    obtain ⟨r, S1⟩ := p
    rw [hm] at h
    cases r with
    | error x => exact h
    | ok a => exact fun ρ1 H1 b hS1 e1 r1 => q a S1 ρ1 H1 b hm hS1 e1 r1 (h.mono e1)
theorem bindC {c : Out α} {k : α → M γ} (h : AtM K ca W R' ρ φ H σ (bnd c k) Q')
    (q : ∀ a S1 ρ1 H1 b, SR K ca ρ1 φ S1 H1 → Ext ρ H ρ1 H1 → R ρ1 φ H1 b a → AtM K ca W R' ρ1 φ H1 σ (k a S1) Q' → Q b H1) : AtM K ca W R ρ φ H σ c Q := by
  cases c with
  | none => exact h
  | some p =>
    obtain ⟨r, S1⟩ := p
    cases r with
    | error x => exact h
    | ok a => exact fun ρ1 H1 b hS1 e1 r1 => q a S1 ρ1 H1 b hS1 e1 r1 (h.mono e1)
theorem bindAtS {m : Sl → M α} {k : α → Store → OutS} {D : Ends} (hS : SR K ca ρ φ S H) (hl : SlX W.x K ρ φ H σ l) (h : AtS K ca W ρ φ H (bndS l (m l S) k) D)
    (mono : ∀ {ρ1 H1 c}, Ext ρ H ρ1 H1 → AtS K ca W ρ φ H c D → AtS K ca W ρ1 φ H1 c D)
    (q : ∀ a S1 ρ1 H1 b, m l S = some (.ok a, S1) → SR K ca ρ1 φ S1 H1 → Ext ρ H ρ1 H1 → R ρ1 φ H1 b a → AtS K ca W ρ1 φ H1 (k a S1) D → Q b H1) : Tm K ca W R m σ H Q := by
  refine ⟨ρ, φ, S, l, hS, hl, ?_⟩
  cases hm : m l S with
  | none => rw [hm] at h; exact h
  | some p =>
    obtain ⟨r, S1⟩ := p
    rw [hm] at h
    cases r with
    | error x => exact fun ρ1 H1 C d hS1 e1 r1 => h ρ1 H1 σ C d hS1 e1 (hl.mono e1) r1
    | ok a => exact fun ρ1 H1 b hS1 e1 r1 => q a S1 ρ1 H1 b hm hS1 e1 r1 (mono e1 h)
end
theorem AtS.mono {W : WW} {c : OutS} {D : Ends} (e : Ext ρ H ρ' H') (h : AtS K ca W ρ φ H c D) : AtS K ca W ρ' φ H' c D := by
  unfold AtS at h ⊢
  split at h
  · exact fun ρ2 H2 b hS e2 r => h ρ2 H2 b hS (e.trans e2) r
  · exact fun ρ2 H2 b hS e2 r => h ρ2 H2 b hS (e.trans e2) r
  · exact fun ρ2 H2 b hS e2 r => h ρ2 H2 b hS (e.trans e2) r
  · exact fun ρ2 H2 b hS e2 r => h ρ2 H2 b hS (e.trans e2) r
  · exact fun ρ2 H2 b C d hS e2 r => h ρ2 H2 b C d hS (e.trans e2) r
  · exact h
end

section
variable {K : PySem.W.Frag} {ca : Nat → Addr} {ρ ρ' φ : List Addr} {S S' : Store} {H H' : Hp} {v : V} {d : D}
/-! ### reading data -/
theorem SR.obj (h : SR K ca ρ φ S H) {n : Nat} {a : Addr} {so : SO} {k : Bool} (hn : ρ[n]? = some a) (hs : S[n]? = some ⟨so, k⟩) : ∃ ho, At H a ho k ∧ RelO K ca ρ φ H ho so := h.ob n a ⟨so, k⟩ hn hs
theorem At.rd {a : Addr} {ho : HO} {k : Bool} (h : At H a ho k) : Rd H a ho := by
  unfold At at h
  split at h
  · exact .inr h
  · exact .inl h
theorem At.tr {a : Addr} {ho : HO} (h : At H a ho false) : H a = some ho := h
theorem scr_sq {p : Addr} {ns : List Int} (h : Scr K ρ φ H p ns) : SqL K H p (ns.map V.int) := by
  rcases h with ⟨h, _, _⟩ | h
  · exact .inl h
  · exact h H
theorem list_rel (hS : SR K ca ρ φ S H) (r : Rel K ρ φ H v d) {ds : List D} (h : listOf d S = some ds) : ∃ p xs, v = .ref p ∧ SqL K H p xs ∧ Rels K ρ φ H xs ds := by
  cases r with
  | fl h1 n m r =>
    rename_i p xs es
    cases h
    exact ⟨p, xs, rfl, .inl (.inl h1), r⟩
  | scr h1 =>
    rename_i p ns
    cases h
    exact ⟨p, _, rfl, scr_sq h1, Rels.ofInts ns⟩
  | ref h1 =>
    rename_i a n
    unfold listOf at h
    simp only at h
    split at h
    · rename_i es k hs
      cases h
      obtain ⟨ho, q1, q2⟩ := hS.obj h1 hs
      unfold RelO at q2
      split at q2
      · rename_i xs es' e; cases e; exact ⟨a, xs, rfl, .inl q1.rd, q2⟩
      · rename_i e; cases e
      · rename_i e; cases e
      · exact q2.elim
    · cases h
  | _ => cases h
theorem cat_rel (hS : SR K ca ρ φ S H) (r : Rel K ρ φ H v d) {ds : List D} (h : catOf d S = some ds) : ∃ p xs, v = .ref p ∧ H p = some (.lst xs) ∧ Rels K ρ φ H xs ds := by
  cases r with
  | fl h1 n m r =>
    rename_i p xs es
    cases h
    exact ⟨p, xs, rfl, h1, r⟩
  | ref h1 =>
    rename_i a n
    unfold catOf at h
    simp only at h
    split at h
    · rename_i es hs
      cases h
      obtain ⟨ho, q1, q2⟩ := hS.obj h1 hs
      unfold RelO at q2
      split at q2
      · rename_i xs es' e; cases e; exact ⟨a, xs, rfl, q1, q2⟩
      · rename_i e; cases e
      · rename_i e; cases e
      · exact q2.elim
    · cases h
  | _ => cases h
theorem seq_rel (hS : SR K ca ρ φ S H) (r : Rel K ρ φ H v d) {ds : List D} (h : seqOf d S = some ds) : ∃ p xs, v = .ref p ∧ (SqL K H p xs ∨ SqT K H p xs) ∧ Rels K ρ φ H xs ds := by
  unfold seqOf at h
  split at h
  · cases h
    cases r with
    | tup h1 n m r => exact ⟨_, _, rfl, .inr (.inl (.inl h1)), r⟩
  · obtain ⟨p, xs, e, q, r⟩ := list_rel hS r h
    exact ⟨p, xs, e, .inl q, r⟩
theorem dct_rel (hS : SR K ca ρ φ S H) (r : Rel K ρ φ H v d) {ks : List (Key × D)} (h : dctOf d S = some ks) : ∃ p kvs, v = .ref p ∧ Rd H p (.dK kvs) ∧ RelK K ρ φ H kvs ks := by
  cases r with
  | ref h1 =>
    rename_i a n
    unfold dctOf at h
    simp only at h
    split at h
    · rename_i es k hs
      cases h
      obtain ⟨ho, q1, q2⟩ := hS.obj h1 hs
      unfold RelO at q2
      split at q2
      · rename_i e; cases e
      · rename_i xs es' e; cases e; exact ⟨a, xs, rfl, q1.rd, q2⟩
      · rename_i e; cases e
      · exact q2.elim
    · cases h
  | _ => cases h
theorem ins_rel (hS : SR K ca ρ φ S H) (r : Rel K ρ φ H v d) {c : Nat} {gs : List (Str × D)} (h : insOf d S = some (c, gs)) : ∃ n p dx fs, d = .ref n ∧ v = .ref p ∧ ρ[n]? = some p ∧ S[n]? = some ⟨.ins c gs, false⟩ ∧ H p = some (.ins (ca c) dx fs) ∧ RelK K ρ φ H fs gs := by
  cases r with
  | ref h1 =>
    rename_i a n
    unfold insOf at h
    simp only at h
    split at h
    · rename_i c' es hs
      cases h
      obtain ⟨ho, q1, q2⟩ := hS.obj h1 hs
      unfold RelO at q2
      split at q2
      · rename_i e; cases e
      · rename_i e; cases e
      · rename_i C dx fs c2 gs2 e
        cases e
        obtain ⟨q3, q4⟩ := q2
        subst q3
        exact ⟨n, a, dx, fs, rfl, rfl, h1, hs, q1, q4⟩
      · exact q2.elim
    · cases h
  | _ => cases h
theorem dctU_rel (hS : SR K ca ρ φ S H) (r : Rel K ρ φ H v d) {ks : List (Key × D)} (h : dctU d S = some ks) : ∃ p kvs, v = .ref p ∧ H p = some (.dK kvs) ∧ RelK K ρ φ H kvs ks := by
  cases r with
  | ref h1 =>
    rename_i a n
    unfold dctU at h
    simp only at h
    split at h
    · rename_i es hs
      cases h
      obtain ⟨ho, q1, q2⟩ := hS.obj h1 hs
      unfold RelO at q2
      split at q2
      · rename_i e; cases e
      · rename_i xs es' e; cases e; exact ⟨a, xs, rfl, q1, q2⟩
      · rename_i e; cases e
      · exact q2.elim
    · cases h
  | _ => cases h
theorem relK_val {k : Key} : ∀ {vs : List (Key × V)} {ds : List (Key × D)}, RelK K ρ φ H vs ds → (valV vs k = none ∧ valD ds k = none) ∨ ∃ v d, valV vs k = some v ∧ valD ds k = some d ∧ Rel K ρ φ H v d
  | _, _, .nil => .inl ⟨rfl, rfl⟩
  | (k', v) :: vs, (_, d) :: ds, .cons r rs => by
    by_cases c : k' = k
    · exact .inr ⟨v, d, by simp [valV, List.find?_cons, c], by simp [valD, List.find?_cons, c], r⟩
    · have e1 : valV ((k', v) :: vs) k = valV vs k := by simp [valV, List.find?_cons, c]
      have e2 : valD ((k', d) :: ds) k = valD ds k := by simp [valD, List.find?_cons, c]
      rw [e1, e2]
      exact relK_val rs
theorem relK_any {k : Key} : ∀ {vs : List (Key × V)} {ds : List (Key × D)}, RelK K ρ φ H vs ds → (vs.any fun kv => decide (kv.1 = k)) = (ds.any fun kv => decide (kv.1 = k))
  | _, _, .nil => rfl
  | _, _, .cons r rs => by rw [List.any_cons, List.any_cons, relK_any rs]
theorem relK_append {κ : Type} : ∀ {vs ws : List (κ × V)} {ds es : List (κ × D)}, RelK K ρ φ H vs ds → RelK K ρ φ H ws es → RelK K ρ φ H (vs ++ ws) (ds ++ es)
  | _, _, _, _, .nil, s => s
  | _, _, _, _, .cons r rs, s => .cons r (relK_append rs s)
theorem relK_put {k : Key} (q : Rel K ρ φ H v d) {vs : List (Key × V)} {ds : List (Key × D)} (h : RelK K ρ φ H vs ds) : RelK K ρ φ H (putK vs k v) (putD ds k d) := by
  have hm : ∀ {vs : List (Key × V)} {ds : List (Key × D)}, RelK K ρ φ H vs ds → RelK K ρ φ H (vs.map (fun kv => if kv.1 = k then (kv.1, v) else kv)) (ds.map (fun kv => if kv.1 = k then (kv.1, d) else kv)) := by
    intro vs ds h
    induction h with
    | nil => exact .nil
    | cons r rs ih =>
      rename_i k' v' d' vs' ds'
      rw [List.map_cons, List.map_cons]
      by_cases c : k' = k
      · rw [if_pos c, if_pos c]; exact .cons q ih
      · rw [if_neg c, if_neg c]; exact .cons r ih
  unfold putK putD
  rw [relK_any h]
  split
  · exact hm h
  · exact relK_append h (.cons q .nil)
theorem relK_putF {f : Str} (q : Rel K ρ φ H v d) : ∀ {vs : List (Str × V)} {ds : List (Str × D)}, RelK K ρ φ H vs ds → RelK K ρ φ H (putF f v vs) (putFD f d ds)
  | _, _, .nil => .cons q .nil
  | (g, x) :: vs, (_, y) :: ds, .cons r rs => by
    unfold putF putFD
    by_cases c : g = f
    · rw [if_pos c, if_pos c]; exact .cons q rs
    · rw [if_neg c, if_neg c]; exact .cons r (relK_putF q rs)
theorem putF_len {f : Str} {v : V} : ∀ {fs : List (Str × V)} , (putF f v fs).length ≤ fs.length + 1
  | [] => Nat.le_refl _
  | (g, x) :: r => by
    unfold putF
    split
    · exact Nat.le_succ _
    · simpa using putF_len (fs := r)
theorem ints_rel : ∀ {vs : List V} {ds : List D} {ns : List Int}, Rels K ρ φ H vs ds → intsOf ds = some ns → vs = ns.map V.int
  | _, _, _, .nil, h => by cases h; rfl
  | _, _, _, .cons r rs, h => by
    cases r <;> first | (cases h; done) | skip
    rename_i i
    unfold intsOf at h
    rename_i ds
    cases e : intsOf ds with
    | none => rw [e] at h; cases h
    | some ms => rw [e] at h; cases h; rw [ints_rel rs e]; rfl
theorem dp_ints : ∀ (ns : List Int), DpAll K H (ns.map V.int) (ns.map PyData.int)
  | [] => .nil
  | n :: ns => .cons (.int n) (dp_ints ns)
theorem py_all {k : Nat} (ih : ∀ {v : V} {d : D} {x : PyData}, Rel K ρ φ H v d → pyD S k d = some x → Dp K H v x) : ∀ {vs : List V} {ds : List D} {xs : List PyData}, Rels K ρ φ H vs ds → ds.mapM (pyD S k) = some xs → DpAll K H vs xs
  | _, _, xs, .nil, h => by
    rw [List.mapM_nil] at h
    cases h
    exact .nil
  | _, d :: ds, xs, .cons r rs, h => by
    rw [List.mapM_cons] at h
    cases e : pyD S k d with
    | none => rw [e] at h; cases h
    | some x =>
      rw [e] at h
      cases e2 : ds.mapM (pyD S k) with
      | none => rw [e2] at h; cases h
      | some ys => rw [e2] at h; cases h; exact .cons (ih r e) (py_all ih rs e2)
theorem py_rel (hS : SR K ca ρ φ S H) : ∀ (k : Nat) {v : V} {d : D} {x : PyData}, Rel K ρ φ H v d → pyD S k d = some x → Dp K H v x
  | 0, _, _, _, _, h => by unfold pyD at h; cases h
  | k + 1, v, d, x, r, h => by
    cases r with
    | non => unfold pyD at h; cases h; exact .non
    | bl b => unfold pyD at h; cases h; exact .bl b
    | int i => unfold pyD at h; cases h; exact .int i
    | str s => unfold pyD at h; cases h; exact .str s
    | tup h1 n m r =>
      rename_i p xs ds
      unfold pyD at h
      cases e : ds.mapM (pyD S k) with
      | none => rw [e] at h; cases h
      | some ys => rw [e] at h; cases h; exact .tup (.inl (.inl h1)) (py_all (py_rel hS k) r e)
    | fl h1 n m r =>
      rename_i p xs ds
      unfold pyD at h
      cases e : ds.mapM (pyD S k) with
      | none => rw [e] at h; cases h
      | some ys => rw [e] at h; cases h; exact .lst (.inl (.inl h1)) (py_all (py_rel hS k) r e)
    | scr h1 =>
      unfold pyD at h
      cases h
      exact .lst (scr_sq h1) (dp_ints _)
    | ref h1 =>
      rename_i a n
      unfold pyD at h
      split at h
      · rename_i ds b hs
        cases e : ds.mapM (pyD S k) with
        | none => rw [e] at h; cases h
        | some ys =>
          rw [e] at h
          cases h
          obtain ⟨ho, q1, q2⟩ := hS.obj h1 hs
          unfold RelO at q2
          split at q2
          · rename_i xs es' e'; cases e'; exact .lst (.inl q1.rd) (py_all (py_rel hS k) q2 e)
          · rename_i e'; cases e'
          · rename_i e'; cases e'
          · exact q2.elim
      · cases h
end
end Sim

/-! Sim: rules for expressions. -/
namespace Sim
open PySem PySem.Spec L2 PyProof.Rows

theorem line_le {n : Nat} (h : n ≤ lineN) : n ≤ sizeLine := by rw [sizeLine_eq]; exact h
theorem line_lt {n : Nat} (h : n < lineN) : n < sizeLine := by rw [sizeLine_eq]; exact h

section
variable {X : Cx} {ca : Nat → Addr} {W : WW} {e a b c : Expr} {ma mb mc : ME} {pos : Pos}

/-! ### names and constants -/
theorem se_var {i : Nat} {x : Str} (hN : X.N[i]? = some x) (hv : Vis X.env.scope x) (hd : (x == ("__debug__" : Str)) = false) (hcd : (x == ("__classdict__" : Str)) = false) : SE ca W X (.Name x pos) (eVar i) :=
  pe_imp (pe_var hN hv hd hcd) fun σ H Q ⟨ρ, φ, S, l, hS, hl, h⟩ => by
    unfold eVar at h
    split at h
    · rename_i d hd
      obtain ⟨v, hv, r⟩ := hl.get hd
      exact ⟨v, hv, h.here hS r⟩
    · exact h.elim
/-- constants -/
inductive Cst : V → D → Prop
  | non : Cst .non .non
  | bl (b : Bool) : Cst (.bl b) (.bl b)
  | int (i : Int) : Cst (.int i) (.int i)
  | str (s : Str) : Cst (.str s) (.str s)
theorem Cst.rel {K : PySem.W.Frag} {ρ φ : List Addr} {H : Hp} {v : V} {d : D} (h : Cst v d) : Rel K ρ φ H v d := by
  cases h with
  | non => exact .non
  | bl b => exact .bl b
  | int i => exact .int i
  | str s => exact .str s
theorem se_tc {v : V} {d : D} (h : PE X e (tC v)) (c : Cst v d) : SE ca W X e (eC d) :=
  pe_imp h fun σ H Q ⟨ρ, φ, S, l, hS, hl, h⟩ => AtM.here (b := v) h hS c.rel
theorem se_int {i : Int} {j : Tok} : SE ca W X (.Constant (.int i) j pos) (eC (.int i)) := se_tc pe_int (.int i)
theorem se_bl {b : Bool} {j : Tok} : SE ca W X (.Constant (.bool b) j pos) (eC (.bl b)) := se_tc pe_bl (.bl b)
theorem se_non {j : Tok} : SE ca W X (.Constant .none j pos) (eC .non) := se_tc pe_non .non
theorem se_str {s : Str} {j : Tok} : SE ca W X (.Constant (.str s) j pos) (eC (.str s)) := se_tc pe_str (.str s)
theorem se_globI {x : Str} {i : Int} (hm : ∃ t : Tok, X.mg x = some (.int i t)) (hg : Gl X x) (hd : (x == ("__debug__" : Str)) = false) : SE ca W X (.Name x pos) (eC (.int i)) := by
  obtain ⟨t, hm⟩ := hm
  exact se_tc (pe_glob (v := .int i) hg hm (show ∃ t', Value.int i t = Value.int i t' from ⟨t, rfl⟩) hd) (.int i)
theorem se_globS {x : Str} {s : Str} (hm : ∃ t : Tok, X.mg x = some (.str s t)) (hg : Gl X x) (hd : (x == ("__debug__" : Str)) = false) : SE ca W X (.Name x pos) (eC (.str s)) := by
  obtain ⟨t, hm⟩ := hm
  exact se_tc (pe_glob (v := .str s) hg hm (show ∃ t', Value.str s t = Value.str s t' from ⟨t, rfl⟩) hd) (.str s)

/-! ### two-place operations -/
/-- the reading r is met by the operation f -/
def OpS (K : PySem.W.Frag) (ca : Nat → Addr) (r : R2) (f : D → D → M D) : Prop := ∀ (W : WW) (ρ φ : List Addr) (S : Store) (H : Hp) (σ : L2.St) (x y : V) (a b : D) (Q : VK),
  SR K ca ρ φ S H → Rel K ρ φ H x a → Rel K ρ φ H y b → AtM K ca W (Rel K) ρ φ H σ (f a b S) Q → r x y H Q
theorem op_run {r : R2} {f : D → D → M D} (hs : OpS X.K ca r f) {σ : L2.St} {H : Hp} {Q : VK} (h : Tm X.K ca W (Rel X.K) (e2 f ma mb) σ H Q) : tOp r (Tm X.K ca W (Rel X.K) ma) (Tm X.K ca W (Rel X.K) mb) σ H Q := by
  obtain ⟨ρ, φ, S, l, hS, hl, h⟩ := h
  exact bindAt hS hl h fun a S1 ρ1 H1 x m1 hS1 e1 rx h1 => bindAt hS1 (hl.mono e1) h1 fun b S2 ρ2 H2 y m2 hS2 e2 ry h2 => hs _ _ _ _ _ _ _ _ _ _ _ hS2 (rx.mono e2) ry h2
theorem se_bin {op : Operator} {r : R2} {f : D → D → M D} (ho : OpR X (binaryOp op) r) (hs : OpS X.K ca r f) (ha : SE ca W X a ma) (hb : SE ca W X b mb) : SE ca W X (.BinOp a op b pos) (e2 f ma mb) :=
  pe_imp (pe_op ho ha hb) fun _ _ _ h => op_run hs h
theorem se_cmp {op : CmpOp} {r : R2} {f : D → D → M D} (ho : OpR X (compareOp op) r) (hs : OpS X.K ca r f) (ha : SE ca W X a ma) (hb : SE ca W X b mb) (hm : behindInMarks op b = false) : SE ca W X (.Compare a [op] [b] pos) (e2 f ma mb) :=
  pe_imp (pe_cmpR ho ha hb hm) fun _ _ _ h => op_run hs h
theorem st_of {t : TE} {m : ME} (h : ∀ σ H Q, Tm X.K ca W (Rel X.K) m σ H Q → t σ H Q) (p : PT X e (tTest t)) : ST ca W X e (tOf m) :=
  pt_imp p fun σ H Q ⟨ρ, φ, S, l, hS, hl, q⟩ => h _ _ _ (bindAt hS hl q fun d S1 ρ1 H1 x m1 hS1 e1 rx h1 => by
    cases rx <;> first | exact h1.elim | skip
    rename_i k
    exact ⟨k, rfl, AtM.here (b := k) h1 hS1 rfl⟩)
theorem st_cmp {op : CmpOp} {r : R2} {f : D → D → M D} (ho : OpR X (compareOp op) r) (hs : OpS X.K ca r f) (ha : SE ca W X a ma) (hb : SE ca W X b mb) (hm : behindInMarks op b = false) : ST ca W X (.Compare a [op] [b] pos) (tOf (e2 f ma mb)) :=
  st_of (fun _ _ _ h => op_run hs h) (pt_cmpR ho ha hb hm)
theorem chain_run {r r' : R2} {f g : D → D → M D} (hf : OpS X.K ca r f) (hg : OpS X.K ca r' g) {σ : L2.St} {H : Hp} {Q : VK} (h : Tm X.K ca W (Rel X.K) (eChain f g ma mb mc) σ H Q) :
    tChain r r' (Tm X.K ca W (Rel X.K) ma) (Tm X.K ca W (Rel X.K) mb) (Tm X.K ca W (Rel X.K) mc) σ H Q := by
  obtain ⟨ρ, φ, S, l, hS, hl, h⟩ := h
  refine bindAt hS hl h fun a S1 ρ1 H1 x m1 hS1 e1 rx h1 => bindAt hS1 (hl.mono e1) h1 fun b S2 ρ2 H2 y m2 hS2 e2 ry h2 => ?_
  refine hf W ρ2 φ S2 H2 σ x y a b _ hS2 (rx.mono e2) ry (bindC h2 fun d S3 ρ3 H3 z hS3 e3 r3 h3 => ?_)
  cases r3 <;> first | exact h3.elim | skip
  rename_i k
  refine ⟨k, rfl, ?_⟩
  cases k with
  | true =>
    rw [if_pos rfl]
    exact bindAt hS3 ((hl.mono (e1.trans e2)).mono e3) h3 fun w S4 ρ4 H4 u m4 hS4 e4 ru h4 => hg _ _ _ _ _ _ _ _ _ _ _ hS4 ((ry.mono e3).mono e4) ru h4
  | false =>
    rw [if_neg Bool.false_ne_true]
    exact AtM.here (b := V.bl false) h3 hS3 (.bl false)
theorem se_chain {op op' : CmpOp} {r r' : R2} {f g : D → D → M D} (ho : OpR X (compareOp op) r) (ho' : OpR X (compareOp op') r') (hf : OpS X.K ca r f) (hg : OpS X.K ca r' g) (ha : SE ca W X a ma) (hb : SE ca W X b mb) (hc : SE ca W X c mc) (hm : lastMarks [op, op'] [b, c] = false) :
    SE ca W X (.Compare a [op, op'] [b, c] pos) (eChain f g ma mb mc) := pe_imp (pe_chain ho ho' ha hb hc hm) fun _ _ _ h => chain_run hf hg h
theorem st_chain {op op' : CmpOp} {r r' : R2} {f g : D → D → M D} (ho : OpR X (compareOp op) r) (ho' : OpR X (compareOp op') r') (hf : OpS X.K ca r f) (hg : OpS X.K ca r' g) (ha : SE ca W X a ma) (hb : SE ca W X b mb) (hc : SE ca W X c mc) (hm : lastMarks [op, op'] [b, c] = false) :
    ST ca W X (.Compare a [op, op'] [b, c] pos) (tOf (eChain f g ma mb mc)) := st_of (fun _ _ _ h => chain_run hf hg h) (pt_chain ho ho' ha hb hc hm)

/-! ### the operations -/
theorem opI_S {f : D → D → M D} {g : Int → Int → V} {g' : Int → Int → D} (hg : ∀ i j, Cst (g i j) (g' i j)) (hf : ∀ a b S r, f a b S = some r → ∃ i j, a = .int i ∧ b = .int j ∧ r = (.ok (g' i j), S)) : OpS X.K ca (rI0 g) f := by
  intro W ρ φ S H σ x y a b Q hS rx ry h
  cases hm : f a b S with
  | none => rw [hm] at h; exact h.elim
  | some r =>
    obtain ⟨i, j, rfl, rfl, rfl⟩ := hf a b S r hm
    rw [hm] at h
    cases rx; cases ry
    exact ⟨i, j, rfl, rfl, AtM.here h hS (hg i j).rel⟩
theorem opIC_S {C : Int → Int → Prop} {f : D → D → M D} {g : Int → Int → V} {g' : Int → Int → D} (hg : ∀ i j, Cst (g i j) (g' i j)) (hf : ∀ a b S r, f a b S = some r → ∃ i j, a = .int i ∧ b = .int j ∧ C i j ∧ r = (.ok (g' i j), S)) : OpS X.K ca (rI C g) f := by
  intro W ρ φ S H σ x y a b Q hS rx ry h
  cases hm : f a b S with
  | none => rw [hm] at h; exact h.elim
  | some r =>
    obtain ⟨i, j, rfl, rfl, hc, rfl⟩ := hf a b S r hm
    rw [hm] at h
    cases rx; cases ry
    exact ⟨i, j, rfl, rfl, hc, AtM.here h hS (hg i j).rel⟩
/-- a new frozen list -/
theorem new_fl {ρ φ : List Addr} {S : Store} {H : Hp} {σ : L2.St} {xs : List V} {ds : List D} {Q : VK} (hS : SR X.K ca ρ φ S H) (r : Rels X.K ρ φ H xs ds) (h : AtM X.K ca W (Rel X.K) ρ φ H σ (some (.ok (.fl ds), S)) Q) : ∀ p, H p = none → Q (.ref p) (upd H p (.lst xs)) :=
  fun p hp => h ρ _ (.ref p) (hS.lay hp) (Ext.lay hp) (.fl upd_same (hS.fresh hp).1 (hS.fresh hp).2 (r.mono (Ext.lay hp)))
theorem new_tup {ρ φ : List Addr} {S : Store} {H : Hp} {σ : L2.St} {xs : List V} {ds : List D} {Q : VK} (hS : SR X.K ca ρ φ S H) (r : Rels X.K ρ φ H xs ds) (h : AtM X.K ca W (Rel X.K) ρ φ H σ (some (.ok (.tup ds), S)) Q) : ∀ p, H p = none → Q (.ref p) (upd H p (.tup xs)) :=
  fun p hp => h ρ _ (.ref p) (hS.lay hp) (Ext.lay hp) (.tup upd_same (hS.fresh hp).1 (hS.fresh hp).2 (r.mono (Ext.lay hp)))
/-- a new stored list -/
theorem new_lst {ρ φ : List Addr} {S : Store} {H : Hp} {σ : L2.St} {xs : List V} {ds : List D} {Q : VK} (hS : SR X.K ca ρ φ S H) (r : Rels X.K ρ φ H xs ds) (h : AtM X.K ca W (Rel X.K) ρ φ H σ (newO (.lst ds) S) Q) : ∀ p, H p = none → Q (.ref p) (upd H p (.lst xs)) :=
  fun p hp => h (ρ ++ [p]) _ (.ref p) (hS.grow hp (r.mono (Ext.grow hp))) (Ext.grow hp) (.ref (by rw [hS.len.symm]; simp))
def rStr : R2 := fun x y H Q => ∃ i j, x = .str i ∧ y = .str j ∧ i.length + j.length ≤ sizeLine ∧ Q (.str (i ++ j)) H
def rAddA : R2 := fun x y H Q => rI0 (fun i j => .int (i + j)) x y H Q ∨ (rStr x y H Q ∨ rCat x y H Q)
theorem op_addA : OpR X (binaryOp .Add) rAddA := opR_or op_add (opR_or op_add_str op_cat)
theorem add_S : OpS X.K ca rAddA fAdd := by
  intro W ρ φ S H σ x y a b Q hS rx ry h
  unfold fAdd at h
  split at h
  · cases rx; cases ry
    exact .inl ⟨_, _, rfl, rfl, AtM.here h hS (.int _)⟩
  · cases rx; cases ry
    split at h
    · rename_i hl
      exact .inr (.inl ⟨_, _, rfl, rfl, line_le hl, AtM.here h hS (.str _)⟩)
    · exact h.elim
  · split at h
    · rename_i xs ys h1 h2
      split at h
      · rename_i hl
        obtain ⟨p, vs, rfl, q1, r1⟩ := cat_rel hS rx h1
        obtain ⟨q, ws, rfl, q2, r2⟩ := cat_rel hS ry h2
        exact .inr (.inr ⟨p, q, vs, ws, rfl, rfl, q1, q2, line_le (by rw [r1.length, r2.length]; exact hl), new_fl hS (r1.append r2) h⟩)
      · exact h.elim
    · exact h.elim
theorem sub_S : OpS X.K ca (rI0 fun i j => .int (i - j)) fSub := opI_S (g' := fun i j => .int (i - j)) (fun _ _ => .int _) fun a b S r h => by
  unfold fSub at h
  split at h
  · cases h; exact ⟨_, _, rfl, rfl, rfl⟩
  · cases h
theorem div_S : OpS X.K ca (rI CDivW fun i j => .int (i / j)) fDiv := opIC_S (g' := fun i j => .int (i / j)) (fun _ _ => .int _) fun a b S r h => by
  unfold fDiv at h
  split at h
  · rename_i i j
    split at h
    · rename_i hc
      cases h
      refine ⟨_, _, rfl, rfl, wide_div (b := 200) hc.1 ?_ (by decide) (by decide), rfl⟩
      have e : (2 : Nat) ^ 200 = 1606938044258990275541962092341162602522202993782792835301376 := by decide +kernel
      rw [e]; omega
    · cases h
  · cases h
theorem mod_S : OpS X.K ca (rI (fun _ j => 0 < j) fun i j => .int (i % j)) fMod := opIC_S (g' := fun i j => .int (i % j)) (fun _ _ => .int _) fun a b S r h => by
  unfold fMod at h
  split at h
  · split at h
    · rename_i hc; cases h; exact ⟨_, _, rfl, rfl, hc, rfl⟩
    · cases h
  · cases h
theorem pow_S : OpS X.K ca (rI CPow fun i j => .int (i ^ j.toNat)) fPow := opIC_S (g' := fun i j => .int (i ^ j.toNat)) (fun _ _ => .int _) fun a b S r h => by
  unfold fPow at h
  split at h
  · split at h
    · rename_i hc; cases h; exact ⟨_, _, rfl, rfl, ⟨hc.1, by omega, hc.2.2⟩, rfl⟩
    · cases h
  · cases h
theorem cmpI_S {p : Int → Int → Bool} : OpS X.K ca (rI0 fun i j => .bl (p i j)) (fCmpI p) := opI_S (g' := fun i j => .bl (p i j)) (fun _ _ => .bl _) fun a b S r h => by
  unfold fCmpI at h
  split at h
  · cases h; exact ⟨_, _, rfl, rfl, rfl⟩
  · cases h
def rLtA (K : PySem.W.Frag) : R2 := fun x y H Q => rI0 (fun i j => .bl (decide (i < j))) x y H Q ∨ rLtT K x y H Q
theorem op_ltA (hu : X.A.units < cLine) : OpR X (compareOp .Lt) (rLtA X.K) := opR_or op_lt (op_ltT hu)
theorem lt_S : OpS X.K ca (rLtA X.K) fLt := by
  intro W ρ φ S H σ x y a b Q hS rx ry h
  unfold fLt at h
  split at h
  · cases rx; cases ry
    exact .inl ⟨_, _, rfl, rfl, AtM.here h hS (.bl _)⟩
  · split at h
    · rename_i ns ms h1 h2
      cases rx with
      | tup a1 a2 a3 a4 =>
        cases ry with
        | tup b1 b2 b3 b4 =>
          have z1 := ints_rel a4 h1
          have z2 := ints_rel b4 h2
          subst z1 z2
          exact .inr ⟨_, _, ns, ms, rfl, rfl, .inl (.inl a1), .inl (.inl b1), AtM.here h hS (.bl _)⟩
    · exact h.elim
  · exact h.elim
theorem eq_S : OpS X.K ca (rEqD X.K) fEq := by
  intro W ρ φ S H σ x y a b Q hS rx ry h
  unfold fEq eqD at h
  split at h
  · rename_i k hk
    split at hk
    · rename_i u w h1 h2
      split at hk
      · rename_i hc
        cases hk
        exact ⟨u, w, py_rel hS _ rx h1, py_rel hS _ ry h2, hc.1, hc.2, AtM.here h hS (.bl _)⟩
      · cases hk
    · cases hk
  · exact h.elim
theorem ne_S : OpS X.K ca (rNeD X.K) fNe := by
  intro W ρ φ S H σ x y a b Q hS rx ry h
  unfold fNe eqD at h
  split at h
  · rename_i k hk
    split at hk
    · rename_i u w h1 h2
      split at hk
      · rename_i hc
        cases hk
        exact ⟨u, w, py_rel hS _ rx h1, py_rel hS _ ry h2, hc.1, hc.2, AtM.here h hS (.bl _)⟩
      · cases hk
    · cases hk
  · exact h.elim
theorem isNon_rel {K : PySem.W.Frag} {ρ φ : List Addr} {H : Hp} {v : V} {d : D} (r : Rel K ρ φ H v d) : decide (v = .non) = isNon d := by
  cases r <;> rfl
def rIsNo : R2 := fun x y H Q => y = .non ∧ Q (.bl (decide (x = .non))) H
def rIsNotNo : R2 := fun x y H Q => y = .non ∧ Q (.bl (!decide (x = .non))) H
theorem is_S : OpS X.K ca rIsNo fIs := by
  intro W ρ φ S H σ x y a b Q hS rx ry h
  unfold fIs at h
  split at h
  · cases ry
    refine ⟨rfl, ?_⟩
    rw [isNon_rel rx]
    exact AtM.here h hS (.bl _)
  · exact h.elim
theorem isNot_S : OpS X.K ca rIsNotNo fIsNot := by
  intro W ρ φ S H σ x y a b Q hS rx ry h
  unfold fIsNot at h
  split at h
  · cases ry
    refine ⟨rfl, ?_⟩
    rw [isNon_rel rx]
    exact AtM.here h hS (.bl _)
  · exact h.elim
def rMulA : R2 := fun x y H Q => rI CMul (fun i j => .int (i * j)) x y H Q ∨ rRep x y H Q
theorem op_mulA : OpR X (binaryOp .Mult) rMulA := opR_or op_mul op_rep
end
end Sim

/-! Sim: further rules for expressions. -/
namespace Sim
open PySem PySem.Spec L2 PyProof.Rows
section
variable {X : Cx} {ca : Nat → Addr} {W : WW} {e a b c o : Expr} {ma mb mc mo : ME} {pos : Pos}
theorem mul_S : OpS X.K ca rMulA fMul := by
  intro W ρ φ S H σ x y a b Q hS rx ry h
  unfold fMul at h
  split at h
  · cases rx; cases ry
    split at h
    · rename_i hc
      exact .inl ⟨_, _, rfl, rfl, by unfold CMul; omega, AtM.here h hS (.int _)⟩
    · exact h.elim
  · cases ry
    split at h
    · rename_i xs h1
      split at h
      · rename_i hc
        obtain ⟨p, vs, rfl, q1, r1⟩ := cat_rel hS rx h1
        refine .inr ⟨p, _, vs, rfl, rfl, q1, by omega, by omega, line_le (by rw [r1.length]; exact hc.2.2), new_fl hS ?_ h⟩
        generalize Int.toNat _ = k
        induction k with
        | zero => exact .nil
        | succ k ih =>
          rw [List.replicate_succ, List.flatten_cons, List.replicate_succ, List.flatten_cons]
          exact r1.append ih
      · exact h.elim
    · exact h.elim
  · exact h.elim
/-! ### in -/
def rInS : R2 := fun x y H Q => ∃ (c : Nat) (z : Str), x = .str ⟨#[c]⟩ ∧ y = .str z ∧ Q (.bl (decide (c ∈ z.cps.toList))) H
def rNotInS : R2 := fun x y H Q => ∃ (c : Nat) (z : Str), x = .str ⟨#[c]⟩ ∧ y = .str z ∧ Q (.bl (!decide (c ∈ z.cps.toList))) H
def rInA (K : PySem.W.Frag) : R2 := fun x y H Q => rInS x y H Q ∨ rInD K x y H Q
def rNotInA (K : PySem.W.Frag) : R2 := fun x y H Q => rNotInS x y H Q ∨ rNotInD K x y H Q
theorem key_rel {K : PySem.W.Frag} {ρ φ : List Addr} {H : Hp} {v : V} {d : D} {k : Key} (r : Rel K ρ φ H v d) (h : keyOf d = some k) : v = kV k := by
  cases r <;> first | (cases h; done) | (cases h; rfl)
theorem dget_rel {K : PySem.W.Frag} {ca : Nat → Addr} {ρ φ : List Addr} {S : Store} {H : Hp} {x y : V} {d e : D} {ks : List (Key × D)} {k : Key} (hS : SR K ca ρ φ S H) (rd : Rel K ρ φ H x d) (rk : Rel K ρ φ H y e) (h1 : dctOf d S = some ks) (h2 : keyOf e = some k) :
    ∃ p o, x = .ref p ∧ IsD H p ∧ DGet H p y o ∧ ((o = none ∧ valD ks k = none) ∨ ∃ v u, o = some v ∧ valD ks k = some u ∧ Rel K ρ φ H v u) := by
  obtain ⟨p, kvs, rfl, q1, q2⟩ := dct_rel hS rd h1
  have e2 := key_rel rk h2
  subst e2
  rcases relK_val (k := k) q2 with ⟨z1, z2⟩ | ⟨v, u, z1, z2, z3⟩
  · exact ⟨p, none, rfl, .inl ⟨kvs, q1⟩, .inl ⟨kvs, k, q1, rfl, z1.symm⟩, .inl ⟨rfl, z2⟩⟩
  · exact ⟨p, some v, rfl, .inl ⟨kvs, q1⟩, .inl ⟨kvs, k, q1, rfl, z1.symm⟩, .inr ⟨v, u, rfl, z2, z3⟩⟩
theorem str1 {w : Str} {c : Nat} (h : w.cps = ⟨[c]⟩) : w = ⟨#[c]⟩ := by
  cases w with
  | mk cps => cases h; rfl
theorem in_seq {W : WW} {ρ φ : List Addr} {S : Store} {H : Hp} {σ : L2.St} {x y : V} {a b : D} {Q : VK} (hS : SR X.K ca ρ φ S H) (rx : Rel X.K ρ φ H x a) (ry : Rel X.K ρ φ H y b) (hd : dctOf b S = none)
    (h : AtM X.K ca W (Rel X.K) ρ φ H σ (fIn a b S) Q) : rInA X.K x y H Q := by
  unfold fIn at h
  split at h
  · rename_i k hk
    unfold inD at hk
    split at hk
    · cases ry
      split at hk
      · cases rx
        split at hk
        · rename_i c hc
          cases hk
          exact .inl ⟨c, _, by rw [str1 hc], rfl, AtM.here h hS (.bl _)⟩
        · cases hk
      · cases hk
    · rw [hd] at hk
      simp only at hk
      split at hk
      · rename_i u ys h1 h2
        split at hk
        · rename_i hc
          cases hk
          exact .inr ⟨u, ys, py_rel hS _ rx h1, py_rel hS _ ry h2, hc.1, hc.2, AtM.here h hS (.bl _)⟩
        · cases hk
      · cases hk
  · exact h.elim
theorem notIn_seq {W : WW} {ρ φ : List Addr} {S : Store} {H : Hp} {σ : L2.St} {x y : V} {a b : D} {Q : VK} (hS : SR X.K ca ρ φ S H) (rx : Rel X.K ρ φ H x a) (ry : Rel X.K ρ φ H y b) (hd : dctOf b S = none)
    (h : AtM X.K ca W (Rel X.K) ρ φ H σ (fNotIn a b S) Q) : rNotInA X.K x y H Q := by
  unfold fNotIn at h
  split at h
  · rename_i k hk
    unfold inD at hk
    split at hk
    · cases ry
      split at hk
      · cases rx
        split at hk
        · rename_i c hc
          cases hk
          exact .inl ⟨c, _, by rw [str1 hc], rfl, AtM.here h hS (.bl _)⟩
        · cases hk
      · cases hk
    · rw [hd] at hk
      simp only at hk
      split at hk
      · rename_i u ys h1 h2
        split at hk
        · rename_i hc
          cases hk
          exact .inr ⟨u, ys, py_rel hS _ rx h1, py_rel hS _ ry h2, hc.1, hc.2, AtM.here h hS (.bl _)⟩
        · cases hk
      · cases hk
  · exact h.elim
theorem in_dct {W : WW} {ρ φ : List Addr} {S : Store} {H : Hp} {σ : L2.St} {x y : V} {a b : D} {ks : List (Key × D)} {Q : VK} (hS : SR X.K ca ρ φ S H) (rx : Rel X.K ρ φ H x a) (ry : Rel X.K ρ φ H y b) (hd : dctOf b S = some ks)
    (h : AtM X.K ca W (Rel X.K) ρ φ H σ (fIn a b S) Q) : ∃ p o, y = .ref p ∧ DGet H p x o ∧ Q (.bl o.isSome) H := by
  unfold fIn inD at h
  cases ry <;> first | (cases hd; done) | skip
  rename_i p n hn
  simp only [hd] at h
  cases hk : keyOf a with
  | none => rw [hk] at h; exact h.elim
  | some k =>
    rw [hk] at h
    simp only at h
    obtain ⟨p', o, e, _, q1, q2⟩ := dget_rel hS (.ref hn) rx hd hk
    cases e
    refine ⟨p, o, rfl, q1, ?_⟩
    rcases q2 with ⟨rfl, z⟩ | ⟨v, u, rfl, z, _⟩
    · rw [z] at h; exact AtM.here h hS (.bl _)
    · rw [z] at h; exact AtM.here h hS (.bl _)
theorem notIn_dct {W : WW} {ρ φ : List Addr} {S : Store} {H : Hp} {σ : L2.St} {x y : V} {a b : D} {ks : List (Key × D)} {Q : VK} (hS : SR X.K ca ρ φ S H) (rx : Rel X.K ρ φ H x a) (ry : Rel X.K ρ φ H y b) (hd : dctOf b S = some ks)
    (h : AtM X.K ca W (Rel X.K) ρ φ H σ (fNotIn a b S) Q) : ∃ p o, y = .ref p ∧ DGet H p x o ∧ Q (.bl (!o.isSome)) H := by
  unfold fNotIn inD at h
  cases ry <;> first | (cases hd; done) | skip
  rename_i p n hn
  simp only [hd] at h
  cases hk : keyOf a with
  | none => rw [hk] at h; exact h.elim
  | some k =>
    rw [hk] at h
    simp only at h
    obtain ⟨p', o, e, _, q1, q2⟩ := dget_rel hS (.ref hn) rx hd hk
    cases e
    refine ⟨p, o, rfl, q1, ?_⟩
    rcases q2 with ⟨rfl, z⟩ | ⟨v, u, rfl, z, _⟩
    · rw [z] at h; exact AtM.here h hS (.bl _)
    · rw [z] at h; exact AtM.here h hS (.bl _)
/-- which of two roads: by what the second part gives -/
theorem e2_road {f : D → D → M D} {σ : L2.St} {H : Hp} {Q : VK} (P : D → Store → Prop) {A B : Prop}
    (h : Tm X.K ca W (Rel X.K) (e2 f ma mb) σ H Q)
    (hA : (∀ (ρ φ : List Addr) (S : Store) (l : Sl), SR X.K ca ρ φ S H → SlX W.x X.K ρ φ H σ l → AtM X.K ca W (Rel X.K) ρ φ H σ (e2 f ma mb l S) Q → (∀ x S1 y S2, ma l S = some (.ok x, S1) → mb l S1 = some (.ok y, S2) → P y S2) → A))
    (hB : (∀ (ρ φ : List Addr) (S : Store) (l : Sl), SR X.K ca ρ φ S H → SlX W.x X.K ρ φ H σ l → AtM X.K ca W (Rel X.K) ρ φ H σ (e2 f ma mb l S) Q → (∀ x S1 y S2, ma l S = some (.ok x, S1) → mb l S1 = some (.ok y, S2) → ¬ P y S2) → B)) : A ∨ B := by
  obtain ⟨ρ, φ, S, l, hS, hl, h⟩ := h
  by_cases c : ∀ x S1 y S2, ma l S = some (.ok x, S1) → mb l S1 = some (.ok y, S2) → P y S2
  · exact .inl (hA ρ φ S l hS hl h c)
  · refine .inr (hB ρ φ S l hS hl h fun x S1 y S2 m1 m2 hp => c fun x' S1' y' S2' n1 n2 => ?_)
    rw [m1] at n1
    cases n1
    rw [m2] at n2
    cases n2
    exact hp
theorem in_run {σ : L2.St} {H : Hp} {Q : VK} (h : Tm X.K ca W (Rel X.K) (e2 fIn ma mb) σ H Q) :
    tOp (rInA X.K) (Tm X.K ca W (Rel X.K) ma) (Tm X.K ca W (Rel X.K) mb) σ H Q ∨ tDIn (Tm X.K ca W (Rel X.K) ma) (Tm X.K ca W (Rel X.K) mb) σ H Q :=
  e2_road (fun y S => dctOf y S = none) h
    (fun ρ φ S l hS hl h c => bindAt hS hl h fun a S1 ρ1 H1 x m1 hS1 e1 rx h1 => bindAt hS1 (hl.mono e1) h1 fun b S2 ρ2 H2 y m2 hS2 e2 ry h2 => in_seq hS2 (rx.mono e2) ry (c _ _ _ _ m1 m2) h2)
    (fun ρ φ S l hS hl h c => bindAt hS hl h fun a S1 ρ1 H1 x m1 hS1 e1 rx h1 => bindAt hS1 (hl.mono e1) h1 fun b S2 ρ2 H2 y m2 hS2 e2 ry h2 => by
      obtain ⟨ks, hk⟩ := Option.ne_none_iff_exists'.mp (c _ _ _ _ m1 m2)
      exact in_dct hS2 (rx.mono e2) ry hk h2)
theorem notIn_run {σ : L2.St} {H : Hp} {Q : VK} (h : Tm X.K ca W (Rel X.K) (e2 fNotIn ma mb) σ H Q) :
    tOp (rNotInA X.K) (Tm X.K ca W (Rel X.K) ma) (Tm X.K ca W (Rel X.K) mb) σ H Q ∨ tDNotIn (Tm X.K ca W (Rel X.K) ma) (Tm X.K ca W (Rel X.K) mb) σ H Q :=
  e2_road (fun y S => dctOf y S = none) h
    (fun ρ φ S l hS hl h c => bindAt hS hl h fun a S1 ρ1 H1 x m1 hS1 e1 rx h1 => bindAt hS1 (hl.mono e1) h1 fun b S2 ρ2 H2 y m2 hS2 e2 ry h2 => notIn_seq hS2 (rx.mono e2) ry (c _ _ _ _ m1 m2) h2)
    (fun ρ φ S l hS hl h c => bindAt hS hl h fun a S1 ρ1 H1 x m1 hS1 e1 rx h1 => bindAt hS1 (hl.mono e1) h1 fun b S2 ρ2 H2 y m2 hS2 e2 ry h2 => by
      obtain ⟨ks, hk⟩ := Option.ne_none_iff_exists'.mp (c _ _ _ _ m1 m2)
      exact notIn_dct hS2 (rx.mono e2) ry hk h2)
theorem op_inA (hu : X.A.units + 65 < cLine) : OpR X (compareOp .In) (rInA X.K) := opR_or op_in_sign (op_inD hu)
theorem op_notInA (hu : X.A.units + 65 < cLine) : OpR X (compareOp .NotIn) (rNotInA X.K) := opR_or op_notIn_sign (op_notInD hu)
theorem se_in (hu : X.A.units + 65 < cLine) (ha : SE ca W X a ma) (hb : SE ca W X b mb) (hm : behindInMarks .In b = false) : SE ca W X (.Compare a [.In] [b] pos) (e2 fIn ma mb) :=
  pe_imp (pe_or2 (pe_cmpR (op_inA hu) ha hb hm) (pe_cmp (pc_din (by omega) ha hb) hm)) fun _ _ _ h => in_run h
theorem se_notIn (hu : X.A.units + 65 < cLine) (ha : SE ca W X a ma) (hb : SE ca W X b mb) (hm : behindInMarks .NotIn b = false) : SE ca W X (.Compare a [.NotIn] [b] pos) (e2 fNotIn ma mb) :=
  pe_imp (pe_or2 (pe_cmpR (op_notInA hu) ha hb hm) (pe_cmp (pc_dnotin (by omega) ha hb) hm)) fun _ _ _ h => notIn_run h
theorem pt_or2 {e : Expr} {t u : TT} (h : PT X e t) (k : PT X e u) : PT X e (fun σ H Q => t σ H Q ∨ u σ H Q) := ⟨fun pins s σ H Q I q => q.elim (h.run pins s σ H Q I) (k.run pins s σ H Q I)⟩
theorem tof_push {m : ME} {σ : L2.St} {H : Hp} {Q : Bool → Hp → Prop} (h : Tm X.K ca W REq (tOf m) σ H Q) : Tm X.K ca W (Rel X.K) m σ H (fun x H' => ∃ k, x = .bl k ∧ Q k H') := by
  obtain ⟨ρ, φ, S, l, hS, hl, q⟩ := h
  exact bindAt hS hl q fun d S1 ρ1 H1 x m1 hS1 e1 rx h1 => by
    cases rx <;> first | exact h1.elim | skip
    rename_i k
    exact ⟨k, rfl, AtM.here (b := k) h1 hS1 rfl⟩
theorem st_in (hu : X.A.units + 65 < cLine) (ha : SE ca W X a ma) (hb : SE ca W X b mb) (hm : behindInMarks .In b = false) : ST ca W X (.Compare a [.In] [b] pos) (tOf (e2 fIn ma mb)) :=
  pt_imp (pt_or2 (pt_cmpR (op_inA hu) ha hb hm) (pt_cmp (pc_din (by omega) ha hb) hm)) fun σ H Q h => in_run (tof_push h)
theorem st_notIn (hu : X.A.units + 65 < cLine) (ha : SE ca W X a ma) (hb : SE ca W X b mb) (hm : behindInMarks .NotIn b = false) : ST ca W X (.Compare a [.NotIn] [b] pos) (tOf (e2 fNotIn ma mb)) :=
  pt_imp (pt_or2 (pt_cmpR (op_notInA hu) ha hb hm) (pt_cmp (pc_dnotin (by omega) ha hb) hm)) fun σ H Q h => notIn_run (tof_push h)

/-! ### tests and truth values -/
theorem st_val (h : SE ca W X e ma) (he : ∀ whole, isTrue e X.env whole = (do let v ← whole; standAt e.pos; holding [v] (truthy v))) : ST ca W X e (tOf ma) :=
  pt_imp (pt_val h he) fun σ H Q h => tof_push h
theorem st_not {t : MT} (h : ST ca W X a t) : ST ca W X (.UnaryOp .Not a pos) (tNot t) := pt_imp (pt_not h) fun σ H Q ⟨ρ, φ, S, l, hS, hl, q⟩ =>
  bindAt hS hl q fun k S1 ρ1 H1 x m1 hS1 e1 rx h1 => by
    cases rx
    exact AtM.here (b := !k) h1 hS1 rfl
theorem sw_and1 {t : MT} (h : ST ca W X a t) : SW ca W X (.BoolOp .And [a] pos) t := pw_and1 h
theorem sw_or1 {t : MT} (h : ST ca W X a t) : SW ca W X (.BoolOp .Or [a] pos) t := pw_or1 h
theorem sw_and {t u : MT} {rest : List Expr} (h : ST ca W X a t) (k : SW ca W X (.BoolOp .And (b :: rest) pos) u) : SW ca W X (.BoolOp .And (a :: b :: rest) pos) (tAnd t u) :=
  pw_imp (pw_and h k) fun σ H Q ⟨ρ, φ, S, l, hS, hl, q⟩ => bindAt hS hl q fun k S1 ρ1 H1 x m1 hS1 e1 rx h1 => by
    cases rx
    cases k with
    | true => exact (show Tm X.K ca W REq u σ H1 Q from ⟨ρ1, φ, S1, l, hS1, hl.mono e1, h1⟩)
    | false => exact AtM.here (b := false) h1 hS1 rfl
theorem sw_or {t u : MT} {rest : List Expr} (h : ST ca W X a t) (k : SW ca W X (.BoolOp .Or (b :: rest) pos) u) : SW ca W X (.BoolOp .Or (a :: b :: rest) pos) (tOr t u) :=
  pw_imp (pw_or h k) fun σ H Q ⟨ρ, φ, S, l, hS, hl, q⟩ => bindAt hS hl q fun k S1 ρ1 H1 x m1 hS1 e1 rx h1 => by
    cases rx
    cases k with
    | false => exact (show Tm X.K ca W REq u σ H1 Q from ⟨ρ1, φ, S1, l, hS1, hl.mono e1, h1⟩)
    | true => exact AtM.here (b := true) h1 hS1 rfl
theorem st_w {t : MT} (h : SW ca W X e t) : ST ca W X e t := PW.pt h
theorem se_one {op : BoolOp} (h : SE ca W X a ma) : SE ca W X (.BoolOp op [a] pos) ma := pe_one h
theorem se_and {rest : List Expr} (h : SE ca W X a ma) (k : SE ca W X (.BoolOp .And (b :: rest) pos) mb) : SE ca W X (.BoolOp .And (a :: b :: rest) pos) (eAnd ma mb) :=
  pe_imp (pe_and h k) fun σ H Q ⟨ρ, φ, S, l, hS, hl, q⟩ => by
    have q' : AtM X.K ca W (Rel X.K) ρ φ H σ (bnd (ma l S) fun d S1 => bnd (blOf d S1) fun c S1 => if c = true then mb l S1 else some (.ok (.bl false), S1)) Q := by
      unfold eAnd tOf at q
      cases hm : ma l S with
      | none => rw [hm] at q; exact q
      | some p => obtain ⟨r, S1⟩ := p; rw [hm] at q; cases r <;> exact q
    exact bindAt hS hl q' fun d S1 ρ1 H1 x m1 hS1 e1 rx h1 => by
      cases rx <;> first | exact h1.elim | skip
      rename_i k
      refine ⟨k, rfl, ?_⟩
      cases k with
      | true => exact (show Tm X.K ca W (Rel X.K) mb σ H1 Q from ⟨ρ1, φ, S1, l, hS1, hl.mono e1, h1⟩)
      | false => exact AtM.here (b := V.bl false) h1 hS1 (.bl false)
theorem se_or {rest : List Expr} (h : SE ca W X a ma) (k : SE ca W X (.BoolOp .Or (b :: rest) pos) mb) : SE ca W X (.BoolOp .Or (a :: b :: rest) pos) (eOr ma mb) :=
  pe_imp (pe_or h k) fun σ H Q ⟨ρ, φ, S, l, hS, hl, q⟩ => by
    have q' : AtM X.K ca W (Rel X.K) ρ φ H σ (bnd (ma l S) fun d S1 => bnd (blOf d S1) fun c S1 => if c = true then some (.ok (.bl true), S1) else mb l S1) Q := by
      unfold eOr tOf at q
      cases hm : ma l S with
      | none => rw [hm] at q; exact q
      | some p => obtain ⟨r, S1⟩ := p; rw [hm] at q; cases r <;> exact q
    exact bindAt hS hl q' fun d S1 ρ1 H1 x m1 hS1 e1 rx h1 => by
      cases rx <;> first | exact h1.elim | skip
      rename_i k
      refine ⟨k, rfl, ?_⟩
      cases k with
      | false => exact (show Tm X.K ca W (Rel X.K) mb σ H1 Q from ⟨ρ1, φ, S1, l, hS1, hl.mono e1, h1⟩)
      | true => exact AtM.here (b := V.bl true) h1 hS1 (.bl true)
theorem se_not (h : SE ca W X a ma) : SE ca W X (.UnaryOp .Not a pos) (eNot ma) :=
  pe_imp (pe_not h) fun σ H Q ⟨ρ, φ, S, l, hS, hl, q⟩ => by
    have q' : AtM X.K ca W (Rel X.K) ρ φ H σ (bnd (ma l S) fun d S1 => bnd (blOf d S1) fun c S1 => some (.ok (.bl (!c)), S1)) Q := by
      unfold eNot tOf at q
      cases hm : ma l S with
      | none => rw [hm] at q; exact q
      | some p => obtain ⟨r, S1⟩ := p; rw [hm] at q; cases r <;> exact q
    exact bindAt hS hl q' fun d S1 ρ1 H1 x m1 hS1 e1 rx h1 => by
      cases rx <;> first | exact h1.elim | skip
      rename_i k
      exact ⟨k, rfl, AtM.here (b := V.bl (!k)) h1 hS1 (.bl (!k))⟩
theorem se_if {t : MT} (ht : ST ca W X c t) (ha : SE ca W X a ma) (hb : SE ca W X b mb) : SE ca W X (.IfExp c a b pos) (eIf t ma mb) :=
  pe_imp (pe_ifExp ht ha hb) fun σ H Q ⟨ρ, φ, S, l, hS, hl, q⟩ => bindAt hS hl q fun k S1 ρ1 H1 x m1 hS1 e1 rx h1 => by
    cases rx
    cases k with
    | true => exact (show Tm X.K ca W (Rel X.K) ma σ H1 Q from ⟨ρ1, φ, S1, l, hS1, hl.mono e1, h1⟩)
    | false => exact (show Tm X.K ca W (Rel X.K) mb σ H1 Q from ⟨ρ1, φ, S1, l, hS1, hl.mono e1, h1⟩)
theorem se_neg (h : SE ca W X a ma) : SE ca W X (.UnaryOp .USub a pos) (e1 fNeg ma) :=
  pe_imp (pe_un un_neg h) fun σ H Q ⟨ρ, φ, S, l, hS, hl, q⟩ => bindAt hS hl q fun d S1 ρ1 H1 x m1 hS1 e1 rx h1 => by
    cases rx <;> first | exact h1.elim | skip
    exact ⟨_, rfl, AtM.here h1 hS1 (.int _)⟩

/-! ### argument lists, displays -/
theorem sa_nil : SA ca W X [] aNil := pa_imp pa_nil fun σ H Q ⟨ρ, φ, S, l, hS, hl, q⟩ => AtM.here (b := ([] : List V)) q hS .nil
theorem sa_cons {es : List Expr} {m : MA} (ha : SE ca W X e ma) (hr : SA ca W X es m) (hs : starEach (e :: es) X.env = (false, eval e X.env) :: starEach es X.env) : SA ca W X (e :: es) (aCons ma m) :=
  pa_imp (pa_cons ha hr hs) fun σ H Q ⟨ρ, φ, S, l, hS, hl, q⟩ => bindAt hS hl q fun d S1 ρ1 H1 x m1 hS1 e1 rx h1 => bindAt hS1 (hl.mono e1) h1 fun ds S2 ρ2 H2 xs m2 hS2 e2 rs h2 => AtM.here (b := x :: xs) h2 hS2 (.cons (rx.mono e2) rs)
theorem guard_at {α β : Type} {R : List Addr → List Addr → Hp → β → α → Prop} {ρ φ : List Addr} {H : Hp} {σ : L2.St} {S : Store} {c : Bool} {m : M α} {Q : β → Hp → Prop} (h : AtM X.K ca W R ρ φ H σ (guard c m S) Q) : c = true ∧ AtM X.K ca W R ρ φ H σ (m S) Q := by
  unfold guard at h
  cases c with
  | true => exact ⟨rfl, h⟩
  | false => exact h.elim
theorem se_tup {es : List Expr} {x1} {m : MA} (h : SA ca W X es m) : SE ca W X (.Tuple es x1 pos) (eTup m) :=
  pe_imp (pe_tup h) fun σ H Q ⟨ρ, φ, S, l, hS, hl, q⟩ => bindAt hS hl q fun ds S1 ρ1 H1 xs m1 hS1 e1 rs h1 => by
    obtain ⟨hc, h1⟩ := guard_at h1
    exact ⟨line_le (by rw [rs.length]; exact of_decide_eq_true hc), new_tup hS1 rs h1⟩
theorem se_lst {es : List Expr} {m : MA} (h : SA ca W X es m) : SE ca W X (.List es pos) (eLst m) :=
  pe_imp (pe_lst h) fun σ H Q ⟨ρ, φ, S, l, hS, hl, q⟩ => bindAt hS hl q fun ds S1 ρ1 H1 xs m1 hS1 e1 rs h1 => by
    obtain ⟨hc, h1⟩ := guard_at h1
    exact ⟨line_le (by rw [rs.length]; exact of_decide_eq_true hc), new_fl hS1 rs h1⟩
theorem se_lstR {es : List Expr} {m : MA} (h : SA ca W X es m) : SE ca W X (.List es pos) (eLstR m) :=
  pe_imp (pe_lst h) fun σ H Q ⟨ρ, φ, S, l, hS, hl, q⟩ => bindAt hS hl q fun ds S1 ρ1 H1 xs m1 hS1 e1 rs h1 => by
    obtain ⟨hc, h1⟩ := guard_at h1
    exact ⟨line_le (by rw [rs.length]; exact of_decide_eq_true hc), new_lst hS1 rs h1⟩
/-! ### attributes -/
/-- the field f of the class of code c -/
structure FldF (K : PySem.W.Frag) (ca : Nat → Addr) (c : Nat) (f : Str) : Prop where
  cl : Cls K (ca c)
  no : NoAttr K (ca c) f
theorem se_fld {cc : Nat} {f : Str} (T : FldF X.K ca cc f) (h : SE ca W X e ma) (hb : attributeBase e f X.env (eval e X.env) = eval e X.env) : SE ca W X (.Attribute e f pos) (e1 (fFld cc f) ma) :=
  pe_imp (pe_fld h hb) fun σ H Q ⟨ρ, φ, S, l, hS, hl, q⟩ => bindAt hS hl q fun d S1 ρ1 H1 x m1 hS1 e1 rx h1 => by
    unfold fFld at h1
    split at h1
    · rename_i c' gs hi
      split at h1
      · rename_i hc
        subst hc
        obtain ⟨n, p, dx, fs, rfl, rfl, hn, hs, hp, hr⟩ := ins_rel hS1 rx hi
        split at h1
        · rename_i d' hd
          obtain ⟨v, hv, rv⟩ := hr.lookup hd
          exact ⟨p, _, dx, fs, v, rfl, hp, T.cl, T.no, hv, AtM.here h1 hS1 rv⟩
        · exact h1.elim
      · exact h1.elim
    · exact h1.elim
/-! ### subscripts -/
theorem ixN_len {n : Nat} {i : Int} {j : Nat} (h : ixN n i = some j) : j < n := by
  unfold ixN at h
  split at h
  · split at h
    · cases h; omega
    · cases h
  · split at h
    · cases h; omega
    · cases h
theorem at_rel {K : PySem.W.Frag} {ρ φ : List Addr} {H : Hp} {xs : List V} {ds : List D} {i : Int} {d : D} (r : Rels K ρ φ H xs ds) (h : atI ds i = some d) : ∃ v, atI xs i = some v ∧ Rel K ρ φ H v d := by
  unfold atI at h ⊢
  rw [r.length]
  cases e : ixN ds.length i with
  | none => rw [e] at h; cases h
  | some j => rw [e] at h; exact r.get (i := j) h
theorem dct_not_seq {d : D} {S : Store} (h : dctOf d S ≠ none) : seqOf d S = none := by
  unfold dctOf at h
  split at h
  · unfold seqOf listOf
    simp only
    split at h
    · rename_i hs; simp [hs]
    · exact absurd rfl h
  · exact absurd rfl h
/-- by what the first part gives -/
theorem e2_road1 {f : D → D → M D} {σ : L2.St} {H : Hp} {Q : VK} (P : D → Store → Prop) {A B : Prop}
    (h : Tm X.K ca W (Rel X.K) (e2 f ma mb) σ H Q)
    (hA : (∀ (ρ φ : List Addr) (S : Store) (l : Sl), SR X.K ca ρ φ S H → SlX W.x X.K ρ φ H σ l → AtM X.K ca W (Rel X.K) ρ φ H σ (e2 f ma mb l S) Q → (∀ x S1 y S2, ma l S = some (.ok x, S1) → mb l S1 = some (.ok y, S2) → P x S2) → A))
    (hB : (∀ (ρ φ : List Addr) (S : Store) (l : Sl), SR X.K ca ρ φ S H → SlX W.x X.K ρ φ H σ l → AtM X.K ca W (Rel X.K) ρ φ H σ (e2 f ma mb l S) Q → (∀ x S1 y S2, ma l S = some (.ok x, S1) → mb l S1 = some (.ok y, S2) → ¬ P x S2) → B)) : A ∨ B := by
  obtain ⟨ρ, φ, S, l, hS, hl, h⟩ := h
  by_cases c : ∀ x S1 y S2, ma l S = some (.ok x, S1) → mb l S1 = some (.ok y, S2) → P x S2
  · exact .inl (hA ρ φ S l hS hl h c)
  · refine .inr (hB ρ φ S l hS hl h fun x S1 y S2 m1 m2 hp => c fun x' S1' y' S2' n1 n2 => ?_)
    rw [m1] at n1
    cases n1
    rw [m2] at n2
    cases n2
    exact hp
theorem ix_seqS {W : WW} {ρ φ : List Addr} {S : Store} {H : Hp} {σ : L2.St} {x y : V} {a b : D} {Q : VK} (hS : SR X.K ca ρ φ S H) (rx : Rel X.K ρ φ H x a) (ry : Rel X.K ρ φ H y b) (hd : dctOf a S = none)
    (h : AtM X.K ca W (Rel X.K) ρ φ H σ (fIx a b S) Q) : rIx X.K x y H Q := by
  unfold fIx at h
  split at h
  · cases rx
    split at h
    · cases ry
      split at h
      · rename_i c hc
        split at hc
        · rename_i hz
          exact .inr (.inr ⟨_, _, c, rfl, rfl, line_le hz, hc, AtM.here h hS (.str _)⟩)
        · cases hc
      · exact h.elim
    · exact h.elim
  · rw [hd] at h
    simp only at h
    split at h
    · rename_i ds i hs
      cases ry
      split at h
      · rename_i d hd'
        obtain ⟨p, xs, rfl, q1, r1⟩ := seq_rel hS rx hs
        obtain ⟨v, hv, rv⟩ := at_rel r1 hd'
        rcases q1 with q1 | q1
        · exact .inl ⟨p, xs, _, v, rfl, rfl, q1, hv, AtM.here h hS rv⟩
        · exact .inr (.inl ⟨p, xs, _, v, rfl, rfl, q1, hv, AtM.here h hS rv⟩)
      · exact h.elim
    · exact h.elim
theorem ix_dct {W : WW} {ρ φ : List Addr} {S : Store} {H : Hp} {σ : L2.St} {x y : V} {a b : D} {ks : List (Key × D)} {Q : VK} (hS : SR X.K ca ρ φ S H) (rx : Rel X.K ρ φ H x a) (ry : Rel X.K ρ φ H y b) (hd : dctOf a S = some ks)
    (h : AtM X.K ca W (Rel X.K) ρ φ H σ (fIx a b S) Q) : ∃ p v, x = .ref p ∧ DGet H p y (some v) ∧ Q v H := by
  unfold fIx at h
  cases rx <;> first | (cases hd; done) | skip
  rename_i p n hn
  simp only [hd] at h
  cases hk : keyOf b with
  | none => rw [hk] at h; exact h.elim
  | some k =>
    rw [hk] at h
    simp only at h
    obtain ⟨p', o, e, _, q1, q2⟩ := dget_rel hS (.ref hn) ry hd hk
    cases e
    rcases q2 with ⟨rfl, z⟩ | ⟨v, u, rfl, z, rv⟩
    · rw [z] at h; exact h.elim
    · rw [z] at h; exact ⟨p, v, rfl, q1, AtM.here h hS rv⟩
theorem se_ix (hu : X.A.units + 1 < cLine) (ha : SE ca W X a ma) (hb : SE ca W X b mb) (h1 : PlainIx b) : SE ca W X (.Subscript a b pos) (e2 fIx ma mb) :=
  pe_imp (pe_or2 (pe_ix ix_seq ha hb h1) (pe_dget hu ha hb h1)) fun σ H Q h => e2_road1 (fun x S => dctOf x S = none) h
    (fun ρ φ S l hS hl h c => bindAt hS hl h fun a S1 ρ1 H1 x m1 hS1 e1 rx h1 => bindAt hS1 (hl.mono e1) h1 fun b S2 ρ2 H2 y m2 hS2 e2 ry h2 => ix_seqS hS2 (rx.mono e2) ry (c _ _ _ _ m1 m2) h2)
    (fun ρ φ S l hS hl h c => bindAt hS hl h fun a S1 ρ1 H1 x m1 hS1 e1 rx h1 => bindAt hS1 (hl.mono e1) h1 fun b S2 ρ2 H2 y m2 hS2 e2 ry h2 => by
      obtain ⟨ks, hk⟩ := Option.ne_none_iff_exists'.mp (c _ _ _ _ m1 m2)
      exact ix_dct hS2 (rx.mono e2) ry hk h2)
/-! ### slices -/
theorem so_no : SO' ca W X none oNo := ⟨fun pins s σ H Q I ⟨ρ, φ, S, l, hS, hl, q⟩ => po_none.run pins s σ H Q I (AtM.here (b := (none : Option Int)) q hS rfl)⟩
theorem so_so (h : SE ca W X e ma) : SO' ca W X (some e) (oSo ma) := ⟨fun pins s σ H Q I ⟨ρ, φ, S, l, hS, hl, q⟩ => (po_some h).run pins s σ H Q I (bindAt hS hl q fun d S1 ρ1 H1 x m1 hS1 e1 rx h1 => by
  cases rx <;> first | exact h1.elim | skip
  exact ⟨_, rfl, AtM.here (b := some _) h1 hS1 rfl⟩)⟩
def rSlA (K : PySem.W.Frag) : V → Option Int → Option Int → Hp → VK → Prop := fun x lo hi H Q => rSlL K x lo hi H Q ∨ rSlT K x lo hi H Q
theorem sl_A : L2.SlR X (rSlA X.K) := by
  intro pins s σ H x v vl vu lo hi sl Q I rx hs pl pu h
  rcases h with h | h
  · exact sl_list pins s σ H x v vl vu lo hi sl Q I rx hs pl pu h
  · exact sl_tup pins s σ H x v vl vu lo hi sl Q I rx hs pl pu h
theorem cut_rel {K : PySem.W.Frag} {ρ φ : List Addr} {H : Hp} {xs : List V} {ds : List D} {lo hi : Option Int} (r : Rels K ρ φ H xs ds) : Rels K ρ φ H (cutV xs lo hi) (cutD ds lo hi) := by
  unfold cutV cutD
  rw [r.length]
  exact (r.drop _).take _
theorem se_sl {lo hi : Option Expr} {p2 : Pos} {ml mh : Sl → M (Option Int)} (ha : SE ca W X a ma) (hl : SO' ca W X lo ml) (hh : SO' ca W X hi mh) : SE ca W X (.Subscript a (.Slice lo hi none p2) pos) (eSl ma ml mh) :=
  pe_imp (pe_slice sl_A ha hl hh) fun σ H Q ⟨ρ, φ, S, l, hS, hl, q⟩ => bindAt hS hl q fun d S1 ρ1 H1 x m1 hS1 e1 rx h1 => bindAt hS1 (hl.mono e1) h1 fun i S2 ρ2 H2 i' m2 hS2 e2 ri h2 => bindAt hS2 ((hl.mono e1).mono e2) h2 fun j S3 ρ3 H3 j' m3 hS3 e3 rj h3 => by
    cases ri
    cases rj
    have rx3 := (rx.mono e2).mono e3
    unfold fSl at h3
    split at h3
    · cases rx3 with
      | tup a1 a2 a3 a4 =>
        split at h3
        · exact h3.elim
        · rename_i hc
          exact .inr ⟨_, _, rfl, .inl (.inl a1), by rw [a4.length]; exact hc, new_tup hS3 (cut_rel a4) h3⟩
    · split at h3
      · rename_i ds hd
        obtain ⟨p, xs, rfl, q1, r1⟩ := list_rel hS3 rx3 hd
        exact .inl ⟨p, xs, rfl, q1, new_fl hS3 (cut_rel r1) h3⟩
      · exact h3.elim
end
end Sim

/-! Sim: calls. -/
namespace Sim
open PySem PySem.Spec L2 PyProof.Rows
section
variable {X : Cx} {ca : Nat → Addr} {W : WW} {e a b c o : Expr} {es : List Expr} {ma mb mc mo : ME} {m : MA} {pos p apos : Pos}
/-- a call by values is met by f -/
def CallS (K : PySem.W.Frag) (ca : Nat → Addr) (r : List V → Hp → VK → Prop) (f : List D → M D) : Prop := ∀ (W : WW) (ρ φ : List Addr) (S : Store) (H : Hp) (σ : L2.St) (xs : List V) (ds : List D) (Q : VK),
  SR K ca ρ φ S H → Rels K ρ φ H xs ds → AtM K ca W (Rel K) ρ φ H σ (f ds S) Q → r xs H Q
theorem cb_run {r : List V → Hp → VK → Prop} {f : List D → M D} (hs : CallS X.K ca r f) {σ : L2.St} {H : Hp} {Q : VK} (h : Tm X.K ca W (Rel X.K) (eA f m) σ H Q) : tCB r (Tm X.K ca W (Rels X.K) m) σ H Q := by
  obtain ⟨ρ, φ, S, l, hS, hl, h⟩ := h
  exact bindAt hS hl h fun ds S1 ρ1 H1 xs m1 hS1 e1 rx h1 => hs _ _ _ _ _ _ _ _ _ hS1 rx h1
/-- what a call's text must show -/
structure CallT (X : Cx) (e : Expr) (es : List Expr) (pos : Pos) : Prop where
  he : starEach (e :: es) X.env = (false, eval e X.env) :: starEach es X.env
  hpl : (backTo pos (starEach es X.env)).any (·.1) = false
theorem se_cb {x : Str} {id : String} {r : List V → Hp → VK → Prop} {f : List D → M D} (hc : CallR X (.builtin id) r) (hs : CallS X.K ca r f) (hm : X.mg x = none) (hv : bootBuiltins x = some (.builtin id)) (hn : x ≠ "__name__") (hdb : (x == ("__debug__" : Str)) = false) (hg : Gl X x)
    (ha : SA ca W X (e :: es) m) (T : CallT X e es pos) : SE ca W X (.Call (.Name x p) (e :: es) [] pos) (eA f m) := pe_imp (pe_callB hc hg hm hv ha hn hdb T.he T.hpl) fun _ _ _ h => cb_run hs h
theorem se_ct {x : Str} {id : String} {r : List V → Hp → VK → Prop} {f : List D → M D} (hc : CallR X (.type id) r) (hs : CallS X.K ca r f) (hm : X.mg x = none) (hv : bootBuiltins x = some (.type id)) (hn : x ≠ "__name__") (hdb : (x == ("__debug__" : Str)) = false) (hg : Gl X x)
    (ha : SA ca W X (e :: es) m) (T : CallT X e es pos) : SE ca W X (.Call (.Name x p) (e :: es) [] pos) (eA f m) := pe_imp (pe_callTy hc hg hm hv ha hn hdb T.he T.hpl) fun _ _ _ h => cb_run hs h
theorem one_of {f : D → M D} {W : WW} {K : PySem.W.Frag} {ρ φ : List Addr} {S : Store} {H : Hp} {σ : L2.St} {xs : List V} {ds : List D} {Q : VK} (r : Rels K ρ φ H xs ds) (h : AtM K ca W (Rel K) ρ φ H σ (a1 f ds S) Q) : ∃ x d, xs = [x] ∧ ds = [d] ∧ Rel K ρ φ H x d ∧ AtM K ca W (Rel K) ρ φ H σ (f d S) Q := by
  unfold a1 at h
  split at h
  · cases r with
    | cons r1 r2 => cases r2; exact ⟨_, _, rfl, rfl, r1, h⟩
  · exact h.elim
theorem two_of {f : D → D → M D} {W : WW} {K : PySem.W.Frag} {ρ φ : List Addr} {S : Store} {H : Hp} {σ : L2.St} {xs : List V} {ds : List D} {Q : VK} (r : Rels K ρ φ H xs ds) (h : AtM K ca W (Rel K) ρ φ H σ (a2 f ds S) Q) : ∃ x d y e, xs = [x, y] ∧ ds = [d, e] ∧ Rel K ρ φ H x d ∧ Rel K ρ φ H y e ∧ AtM K ca W (Rel K) ρ φ H σ (f d e S) Q := by
  unfold a2 at h
  split at h
  · cases r with
    | cons r1 r2 =>
      cases r2 with
      | cons r2 r3 => cases r3; exact ⟨_, _, _, _, rfl, rfl, r1, r2, h⟩
  · exact h.elim
/-! ### len, list, tuple, int, sum, isinstance -/
def rLenA (K : PySem.W.Frag) : List V → Hp → VK → Prop := fun xs H Q => (∃ p ys, xs = [.ref p] ∧ (SqL K H p ys ∨ SqT K H p ys) ∧ Q (.int ys.length) H) ∨ ((∃ z, xs = [.str z] ∧ z.length ≤ sizeLine ∧ Q (.int z.length) H) ∨ (∃ a kvs, xs = [V.ref a] ∧ H a = some (.dK kvs) ∧ Q (.int kvs.length) H))
theorem call_lenA : CallR X (.builtin "len") (rLenA X.K) := callR_or call_len_seq (callR_or call_len_str call_lenD)
theorem len_S : CallS X.K ca (rLenA X.K) (a1 fLen) := by
  intro W ρ φ S H σ xs ds Q hS rx h
  obtain ⟨x, d, rfl, rfl, r, h⟩ := one_of rx h
  unfold fLen at h
  split at h
  · cases r
    split at h
    · rename_i hz
      exact .inr (.inl ⟨_, rfl, line_le hz, AtM.here h hS (.int _)⟩)
    · exact h.elim
  · split at h
    · rename_i kvs hd
      obtain ⟨p, ks, rfl, q1, q2⟩ := dctU_rel hS r hd
      refine .inr (.inr ⟨p, ks, rfl, q1, ?_⟩)
      rw [q2.length]
      exact AtM.here h hS (.int _)
    · split at h
      · rename_i es hs
        obtain ⟨p, ys, rfl, q1, r1⟩ := seq_rel hS r hs
        refine .inl ⟨p, ys, rfl, q1, ?_⟩
        rw [r1.length]
        exact AtM.here h hS (.int _)
      · exact h.elim
def rListA (K : PySem.W.Frag) : List V → Hp → VK → Prop := fun xs H Q => ∃ p ys, xs = [.ref p] ∧ (SqL K H p ys ∨ SqT K H p ys) ∧ ∀ l, H l = none → Q (.ref l) (upd H l (.lst ys))
theorem call_listA : CallR X (.type "list") (rListA X.K) := call_list_of
theorem list_S : CallS X.K ca (rListA X.K) (a1 fList) := by
  intro W ρ φ S H σ xs ds Q hS rx h
  obtain ⟨x, d, rfl, rfl, r, h⟩ := one_of rx h
  unfold fList at h
  split at h
  · rename_i es hs
    obtain ⟨p, ys, rfl, q1, r1⟩ := seq_rel hS r hs
    exact ⟨p, ys, rfl, q1, new_fl hS r1 h⟩
  · exact h.elim
theorem listR_S : CallS X.K ca (rListA X.K) (a1 fListR) := by
  intro W ρ φ S H σ xs ds Q hS rx h
  obtain ⟨x, d, rfl, rfl, r, h⟩ := one_of rx h
  unfold fListR at h
  split at h
  · rename_i es hs
    obtain ⟨p, ys, rfl, q1, r1⟩ := seq_rel hS r hs
    exact ⟨p, ys, rfl, q1, new_lst hS r1 h⟩
  · exact h.elim
def rIntA : List V → Hp → VK → Prop := fun xs H Q => (∃ i, xs = [.int i] ∧ Q (.int i) H) ∨ ∃ k, xs = [.bl k] ∧ Q (.int (if k then 1 else 0)) H
theorem call_intA : CallR X (.type "int") rIntA := call_int1
theorem int_S : CallS X.K ca rIntA (a1 fInt) := by
  intro W ρ φ S H σ xs ds Q hS rx h
  obtain ⟨x, d, rfl, rfl, r, h⟩ := one_of rx h
  unfold fInt at h
  split at h
  · cases r; exact .inl ⟨_, rfl, AtM.here h hS (.int _)⟩
  · cases r; exact .inr ⟨_, rfl, AtM.here h hS (.int _)⟩
  · exact h.elim
theorem sum_S : CallS X.K ca (rSum X.K) (a1 fSum) := by
  intro W ρ φ S H σ xs ds Q hS rx h
  obtain ⟨x, d, rfl, rfl, r, h⟩ := one_of rx h
  unfold fSum at h
  split at h
  · rename_i es hs
    split at h
    · rename_i ns hn
      obtain ⟨p, ys, rfl, q1, r1⟩ := list_rel hS r hs
      have z := ints_rel r1 hn
      subst z
      exact ⟨p, ns, rfl, q1, AtM.here h hS (.int _)⟩
    · exact h.elim
  · exact h.elim
def rMax2 : List V → Hp → VK → Prop := fun xs H Q => ∃ i j, xs = [.int i, .int j] ∧ Q (.int (if j > i then j else i)) H
def rMin2 : List V → Hp → VK → Prop := fun xs H Q => ∃ i j, xs = [.int i, .int j] ∧ Q (.int (if j < i then j else i)) H
theorem call_max2A (hc : X.calm = true) : CallR X (.builtin "max") rMax2 := call_max2 hc
theorem call_min2A (hc : X.calm = true) : CallR X (.builtin "min") rMin2 := call_min2 hc
theorem max2_S : CallS X.K ca rMax2 (a2 fMax2) := by
  intro W ρ φ S H σ xs ds Q hS rx h
  obtain ⟨x, d, y, e, rfl, rfl, r, r', h⟩ := two_of rx h
  unfold fMax2 at h
  split at h
  · cases r; cases r'; exact ⟨_, _, rfl, AtM.here h hS (.int _)⟩
  · exact h.elim
theorem min2_S : CallS X.K ca rMin2 (a2 fMin2) := by
  intro W ρ φ S H σ xs ds Q hS rx h
  obtain ⟨x, d, y, e, rfl, rfl, r, r', h⟩ := two_of rx h
  unfold fMin2 at h
  split at h
  · cases r; cases r'; exact ⟨_, _, rfl, AtM.here h hS (.int _)⟩
  · exact h.elim
/-! ### isinstance -/
def tysA : List String := ["NoneType", "bool", "int", "str", "tuple", "list", "dict"]
def tysB : List String := ["bool", "int", "str", "tuple", "list", "dict"]
theorem kit_tab : ∀ t ∈ tysA, ∀ T ∈ tysB, kitB t T = some (t == T || (t == "bool" && T == "int")) := by decide +kernel
theorem ty_rel {ρ φ : List Addr} {S : Store} {H : Hp} {v : V} {d : D} {t : String} (hS : SR X.K ca ρ φ S H) (r : Rel X.K ρ φ H v d) (h : tyD d S = some t) : t ∈ tysA ∧ TyX X.K H v (.type t) := by
  cases r with
  | non => cases h; exact ⟨by decide, .base .non⟩
  | bl b => cases h; exact ⟨by decide, .base (.bl b)⟩
  | int i => cases h; exact ⟨by decide, .base (.int i)⟩
  | str s => cases h; exact ⟨by decide, .base (.str s)⟩
  | tup h1 n m r => cases h; exact ⟨by decide, .base (.tup h1)⟩
  | fl h1 n m r => cases h; exact ⟨by decide, .base (.lst h1)⟩
  | scr h1 => cases h
  | ref h1 =>
    unfold tyD at h
    simp only at h
    split at h
    · rename_i es hs
      cases h
      obtain ⟨p, xs, e, q, _⟩ := cat_rel hS (.ref h1) (ds := es) (by unfold catOf; simp only [hs])
      cases e
      exact ⟨by decide, .base (.lst q)⟩
    · rename_i es hs
      cases h
      obtain ⟨p, xs, e, q, _⟩ := dctU_rel hS (.ref h1) (ks := es) (by unfold dctU; simp only [hs])
      cases e
      exact ⟨by decide, .base (.dK q)⟩
    · cases h
theorem se_isi {T : String} {x : Str} {px p1 : Pos} (hT : T ∈ tysB) (hm : X.mg "isinstance" = none) (hg : Gl X "isinstance") (hmT : X.mg x = none) (hgT : Gl X x) (hvT : bootBuiltins x = some (.type T)) (hn : x ≠ "__name__") (hdb : (x == ("__debug__" : Str)) = false)
    (ha : SE ca W X a ma) (T1 : CallT X a [.Name x px] pos) (T2 : CallT X (.Name x px) [] pos) : SE ca W X (.Call (.Name "isinstance" p1) [a, .Name x px] [] pos) (e1 (fIsi T) ma) := by
  have hp : PA X [a, .Name x px] (tCons (Tm X.K ca W (Rel X.K) ma) (tCons (tC (.ty T)) tNil)) := pa_cons ha (pa_cons (pe_bltn hgT hmT hvT (show Value.type T = Value.type T from rfl) hn hdb) pa_nil T2.he) T1.he
  refine pe_imp (pe_callB call_isi hg hm (by decide +kernel) hp (by decide) (by decide) T1.he T1.hpl) fun σ H Q ⟨ρ, φ, S, l, hS, hl, q⟩ => bindAt hS hl q fun d S1 ρ1 H1 x m1 hS1 e1 rx h1 => ?_
  show rIsi X.K [x, .ty T] H1 Q
  unfold fIsi at h1
  split at h1
  · rename_i t ht
    obtain ⟨t1, t2⟩ := ty_rel hS1 rx ht
    exact ⟨x, .ty T, .type t, .type T, _, rfl, .ty T, t2, kit_ty (kit_tab t t1 T hT), AtM.here h1 hS1 (.bl _)⟩
  · exact h1.elim
structure ClsI (K : PySem.W.Frag) (mg : Str → Option Value) (ca : Nat → Addr) (c : Nat) (x : Str) : Prop where
  mg : mg x = some (.ref (ca c))
  cl : Cls K (ca c)
  ha : PySem.W.findIn K (.ref (ca c)) "__class__" = some (some (.builtin "object.__class__"))
  hn : PySem.W.specialIn K (.builtin "object.__class__") "__get__" = some (some (.builtin "getset_descriptor.__get__"))
  ht : PySem.W.takesIn K (.builtin "object.__class__") = some true
  hm : PySem.W.mroIn K (ca c) (.type "object") = some true
  kit : PySem.W.kitOne K (.ref (ca c)) (.ref (ca c)) = some true
theorem se_isC {cc : Nat} {x : Str} {px p1 : Pos} (T : ClsI X.K X.mg ca cc x) (hm : X.mg "isinstance" = none) (hg : Gl X "isinstance") (hgT : Gl X x) (hdb : (x == ("__debug__" : Str)) = false)
    (ha : SE ca W X a ma) (T1 : CallT X a [.Name x px] pos) (T2 : CallT X (.Name x px) [] pos) : SE ca W X (.Call (.Name "isinstance" p1) [a, .Name x px] [] pos) (e1 (fIsC cc) ma) := by
  have hp : PA X [a, .Name x px] (tCons (Tm X.K ca W (Rel X.K) ma) (tCons (tC (.ref (ca cc))) tNil)) := pa_cons ha (pa_cons (pe_glob hgT T.mg (show Value.ref (ca cc) = Value.ref (ca cc) from rfl) hdb) pa_nil T2.he) T1.he
  refine pe_imp (pe_callB call_isi hg hm (by decide +kernel) hp (by decide) (by decide) T1.he T1.hpl) fun σ H Q ⟨ρ, φ, S, l, hS, hl, q⟩ => bindAt hS hl q fun d S1 ρ1 H1 x m1 hS1 e1 rx h1 => ?_
  show rIsi X.K [x, .ref (ca cc)] H1 Q
  unfold fIsC at h1
  split at h1
  · rename_i c' gs hi
    split at h1
    · rename_i hc
      subst hc
      obtain ⟨n, p, dx, fs, rfl, rfl, hn, hs, hp, hr⟩ := ins_rel hS1 rx hi
      exact ⟨_, _, _, _, _, rfl, .own _, .base (.ins hp T.cl T.ha T.hn T.ht T.hm), T.kit, AtM.here h1 hS1 (.bl _)⟩
    · exact h1.elim
  · exact h1.elim

/-! ### methods of lists, dicts, texts -/
/-- what a method call's text must show -/
structure MethT (X : Cx) (o : Expr) (name : Str) (es : List Expr) (apos cpos : Pos) : Prop where
  base : attributeBase o name X.env (eval o X.env) = eval o X.env
  few : ((backTo cpos (starEach es X.env)).all (fun x => !x.1) && (backToKw cpos (keywordEach [] X.env)).all (fun x => x.1.isSome)
    && decide (es.length + ([] : List Keyword).length + (if ([] : List Keyword).isEmpty then 0 else 1) < 30)) = true
  line : (apos.endLine == cpos.line) = true
theorem lst_at {K : PySem.W.Frag} {ρ φ : List Addr} {S : Store} {H : Hp} {v : V} {n : Nat} {ds : List D} (hS : SR K ca ρ φ S H) (r : Rel K ρ φ H v (.ref n)) (h : S[n]? = some ⟨.lst ds, false⟩) : ∃ p xs, v = .ref p ∧ ρ[n]? = some p ∧ H p = some (.lst xs) ∧ Rels K ρ φ H xs ds := by
  cases r with
  | ref h1 =>
    rename_i a
    obtain ⟨ho, q1, q2⟩ := hS.obj h1 h
    unfold RelO at q2
    split at q2
    · rename_i xs es' e; cases e; exact ⟨a, xs, rfl, h1, q1, q2⟩
    · rename_i e; cases e
    · rename_i e; cases e
    · exact q2.elim
theorem put_at {K : PySem.W.Frag} {ρ φ : List Addr} {S : Store} {H : Hp} {σ : L2.St} {W : WW} {n : Nat} {p : Addr} {xs : List V} {ds : List D} {v : V} {d : D} {Q : VK} (hS : SR K ca ρ φ S H) (hn : ρ[n]? = some p) (hz : NoFz H p) (r : Rels K ρ φ H xs ds) (rv : Rel K ρ φ H v d)
    (h : AtM K ca W (Rel K) ρ φ H σ (some (.ok d, S.set n ⟨.lst ds, false⟩)) Q) : Q v (upd H p (.lst xs)) := by
  have hp : p ∈ ρ := List.mem_of_getElem? hn
  have e : Ext ρ H ρ (upd H p (.lst xs)) := Ext.put hp (hS.trk hp) hz
  exact h ρ _ v (hS.put (c := ⟨.lst ds, false⟩) hn hz (r.mono e)) e (rv.mono e)
/-- a method by values is met by f -/
def MthS (K : PySem.W.Frag) (ca : Nat → Addr) (r : V → List V → Hp → VK → Prop) (f : D → List D → M D) : Prop := ∀ (W : WW) (ρ φ : List Addr) (S : Store) (H : Hp) (σ : L2.St) (x : V) (a : D) (xs : List V) (ds : List D) (Q : VK),
  SR K ca ρ φ S H → Rel K ρ φ H x a → Rels K ρ φ H xs ds → AtM K ca W (Rel K) ρ φ H σ (f a ds S) Q → r x xs H Q
structure StarT (X : Cx) (e : Expr) (es : List Expr) (cpos : Pos) : Prop where
  hs : starEach (e :: es) X.env = (false, eval e X.env) :: starEach es X.env
  hp : (backTo cpos (starEach es X.env)).any (·.1) = false
theorem bm_run {T : String} {r : V → List V → Hp → VK → Prop} {f : D → List D → M D} {chk : D → Store → Bool} (hs : MthS X.K ca r f)
    (hk : ∀ (ρ φ : List Addr) (S : Store) (H : Hp) (v : V) (d : D), SR X.K ca ρ φ S H → Rel X.K ρ φ H v d → chk d S = true → tyV X.K T v H) {σ : L2.St} {H : Hp} {Q : VK} (h : Tm X.K ca W (Rel X.K) (eBM chk f mo m) σ H Q) : tBM X.K T r (Tm X.K ca W (Rel X.K) mo) (Tm X.K ca W (Rels X.K) m) σ H Q := by
  obtain ⟨ρ, φ, S, l, hS, hl, q⟩ := h
  refine bindAt hS hl q fun x S1 ρ1 H1 v m1 hS1 e1 rx h1 => ?_
  cases hc : chk x S1 with
  | false => rw [hc] at h1; exact h1.elim
  | true =>
    rw [hc] at h1
    exact ⟨hk _ _ _ _ _ _ hS1 rx hc, bindAt hS1 (hl.mono e1) h1 fun d S2 ρ2 H2 w m2 hS2 e2 rd h2 => hs _ _ _ _ _ _ _ _ _ _ _ hS2 (rx.mono e2) rd h2⟩
theorem isL_ty {K : PySem.W.Frag} (ρ φ : List Addr) (S : Store) (H : Hp) (v : V) (d : D) (hS : SR K ca ρ φ S H) (r : Rel K ρ φ H v d) (h : isL d S = true) : tyV K "list" v H := by
  unfold isL at h
  cases e : listOf d S with
  | none => rw [e] at h; cases h
  | some ds =>
    obtain ⟨p, xs, rfl, q, _⟩ := list_rel hS r e
    exact .inl ⟨rfl, xs, q⟩
theorem isS_ty {K : PySem.W.Frag} (ρ φ : List Addr) (S : Store) (H : Hp) (v : V) (d : D) (hS : SR K ca ρ φ S H) (r : Rel K ρ φ H v d) (h : isS d S = true) : tyV K "str" v H := by
  cases r <;> first | (cases h; done) | rfl
theorem append_S : MthS X.K ca rAppend (m1 fAppend) := by
  intro W ρ φ S H σ x a xs ds Q hS rx rs h
  unfold m1 at h
  split at h
  · rename_i y
    cases rs with
    | cons ry rn =>
      cases rn
      unfold fAppend at h
      split at h
      · split at h
        · rename_i n es hn
          split at h
          · rename_i hz
            obtain ⟨p, vs, rfl, h1, h2, h3⟩ := lst_at hS rx hn
            exact ⟨p, vs, _, rfl, rfl, h2, line_lt (by rw [h3.length]; exact hz), put_at hS h1 (nofz_lst h2) (h3.append (.cons ry .nil)) .non h⟩
          · exact h.elim
        · exact h.elim
      · exact h.elim
  · exact h.elim
theorem se_append (ho : SE ca W X o mo) (ha : SA ca W X [e] m) (T : MethT X o "append" [e] apos pos) (R : StarT X e [] pos) : SE ca W X (.Call (.Attribute o "append" apos) [e] [] pos) (eBM isL (m1 fAppend) mo m) :=
  pe_imp (pe_bm PySem.F.plainAttrs_list PySem.F.slot_list_append PySem.F.type_list_append mt_append ho ha T.base T.few T.line R.hs R.hp) fun σ H Q h => bm_run append_S isL_ty h
theorem pop_S : MthS X.K ca rPopAt (m1 fPopAt) := by
  intro W ρ φ S H σ x a xs ds Q hS rx rs h
  unfold m1 at h
  split at h
  · rename_i y
    cases rs with
    | cons ry rn =>
      cases rn
      unfold fPopAt at h
      split at h
      · split at h
        · rename_i n es hn
          split at h
          · split at h
            · rename_i d r
              split at h
              · rename_i hz
                obtain ⟨p, vs, rfl, h1, h2, h3⟩ := lst_at hS rx hn
                cases ry
                cases h3 with
                | cons r1 r2 =>
                  rename_i v vs
                  refine ⟨p, v :: vs, 0, 0, v, rfl, rfl, h2, by decide, by decide, ?_, rfl, put_at hS h1 (nofz_lst h2) r2 r1 h⟩
                  unfold seqIndex?
                  simp
              · exact h.elim
            · exact h.elim
          · exact h.elim
        · exact h.elim
      · exact h.elim
  · exact h.elim
theorem se_pop (ho : SE ca W X o mo) (ha : SA ca W X [e] m) (T : MethT X o "pop" [e] apos pos) (R : StarT X e [] pos) : SE ca W X (.Call (.Attribute o "pop" apos) [e] [] pos) (eBM isL (m1 fPopAt) mo m) :=
  pe_imp (pe_bm PySem.F.plainAttrs_list PySem.F.slot_list_pop PySem.F.type_list_pop mt_popAt ho ha T.base T.few T.line R.hs R.hp) fun σ H Q h => bm_run pop_S isL_ty h
def rSIndex : V → List V → Hp → VK → Prop := fun x xs H Q => ∃ a b i rest, x = .str a ∧ xs = [.str b] ∧ Builtin.Str.occurrences a b 0 a.length 1 = i :: rest ∧ Q (.int (i : Nat)) H
theorem sindex_S : MthS X.K ca rSIndex (m1 fIndexS) := by
  intro W ρ φ S H σ x a xs ds Q hS rx rs h
  unfold m1 at h
  split at h
  · rename_i y
    cases rs with
    | cons ry rn =>
      cases rn
      unfold fIndexS at h
      split at h
      · split at h
        · rename_i i r hr
          cases rx
          cases ry
          exact ⟨_, _, i, r, rfl, rfl, hr, AtM.here h hS (.int _)⟩
        · exact h.elim
      · exact h.elim
  · exact h.elim
theorem lindex_S : MthS X.K ca (rIndexD X.K) (m1 fIndexL) := by
  intro W ρ φ S H σ x a xs ds Q hS rx rs h
  unfold m1 at h
  split at h
  · rename_i y
    cases rs with
    | cons ry rn =>
      cases rn
      unfold fIndexL at h
      split at h
      · rename_i ys u h1 h2
        split at h
        · rename_i hc
          split at h
          · rename_i j hj
            have d1 := py_rel hS _ rx h1
            have d2 := py_rel hS _ ry h2
            obtain ⟨hj1, hj2, hj3⟩ := List.findIdx?_eq_some_iff_getElem.mp hj
            cases d1 with
            | lst q1 q2 => exact ⟨_, _, u, ys, j, _, rfl, rfl, .lst q1 q2, d2, hc.2, hc.1, List.getElem?_eq_getElem hj1, hj2, fun m z' hm hz => (by
                obtain ⟨hm1, hm2⟩ := List.getElem?_eq_some_iff.mp hz
                have := hj3 m hm
                subst hm2
                simpa using this), AtM.here h hS (.int _)⟩
          · exact h.elim
        · exact h.elim
      · exact h.elim
  · exact h.elim
theorem se_index (hu : X.A.units + 65 < cLine) (ho : SE ca W X o mo) (ha : SA ca W X [e] m) (T : MethT X o "index" [e] apos pos) (R : StarT X e [] pos) : SE ca W X (.Call (.Attribute o "index" apos) [e] [] pos) (eIndex mo m) := by
  refine pe_imp (pe_or2 (pe_bm PySem.F.plainAttrs_str PySem.F.slot_str_index PySem.F.type_str_index mt_sindex ho ha T.base T.few T.line R.hs R.hp)
    (pe_bm PySem.F.plainAttrs_list PySem.F.slot_list_index PySem.F.type_list_index (mt_indexD hu) ho ha T.base T.few T.line R.hs R.hp)) fun σ H Q ⟨ρ, φ, S, l, hS, hl, q⟩ => ?_
  by_cases c : ∀ x S1, mo l S = some (.ok x, S1) → isS x S1 = true
  · refine .inl (bm_run (r := rSIndex) (f := m1 fIndexS) (chk := isS) sindex_S isS_ty ⟨ρ, φ, S, l, hS, hl, ?_⟩)
    unfold eIndex at q
    unfold eBM
    cases e : mo l S with
    | none => rw [e] at q; exact q
    | some p =>
      obtain ⟨r, S1⟩ := p
      cases r with
      | error z => rw [e] at q; exact q
      | ok x =>
        have z := c x S1 e
        rw [e] at q
        simp only [bnd, z, if_true] at q ⊢
        exact q
  · refine .inr (bm_run (r := rIndexD X.K) (f := m1 fIndexL) (chk := isL) lindex_S isL_ty ⟨ρ, φ, S, l, hS, hl, ?_⟩)
    unfold eIndex at q
    unfold eBM
    cases e : mo l S with
    | none => rw [e] at q; exact q
    | some p =>
      obtain ⟨r, S1⟩ := p
      cases r with
      | error z => rw [e] at q; exact q
      | ok x =>
        have z : isS x S1 = false := by
          cases z : isS x S1 with
          | false => rfl
          | true =>
            refine absurd (fun x' S1' e' => ?_) c
            rw [e] at e'
            cases e'
            exact z
        rw [e] at q
        simp only [bnd, z, Bool.false_eq_true, if_false] at q ⊢
        exact q
/-! ### d.get -/
theorem se_get1 (hu : X.A.units + 1 < cLine) (ho : SE ca W X o mo) (ha : SE ca W X e ma) (T : M1 X o "get" apos e pos) : SE ca W X (.Call (.Attribute o "get" apos) [e] [] pos) (eGet1 mo ma) :=
  pe_imp (pe_dget1 hu ho ha T) fun σ H Q ⟨ρ, φ, S, l, hS, hl, q⟩ => bindAt hS hl q fun x S1 ρ1 H1 v m1 hS1 e1 rx h1 => by
    cases hc : dctOf x S1 with
    | none => rw [hc] at h1; exact h1.elim
    | some ks =>
      rw [hc] at h1
      obtain ⟨p, kvs, rfl, q1, _⟩ := dct_rel hS1 rx hc
      refine ⟨p, rfl, .inl ⟨kvs, q1⟩, bindAt hS1 (hl.mono e1) h1 fun y S2 ρ2 H2 w m2 hS2 e2 ry h2 => ?_⟩
      unfold fGet1 at h2
      split at h2
      · rename_i ks2 k hk1 hk2
        obtain ⟨p', o, e', _, g1, g2⟩ := dget_rel hS2 (rx.mono e2) ry hk1 hk2
        cases e'
        refine ⟨o, g1, ?_⟩
        rcases g2 with ⟨rfl, z⟩ | ⟨v, u, rfl, z, rv⟩
        · rw [z] at h2; exact AtM.here h2 hS2 .non
        · rw [z] at h2; exact AtM.here h2 hS2 rv
      · exact h2.elim
theorem se_get2 {f : Expr} (hu : X.A.units + 1 < cLine) (ho : SE ca W X o mo) (ha : SE ca W X e ma) (hf : SE ca W X f mb) (T : M2 X o "get" apos e f pos) : SE ca W X (.Call (.Attribute o "get" apos) [e, f] [] pos) (eGet2 mo ma mb) :=
  pe_imp (pe_dget2 hu ho ha hf T) fun σ H Q ⟨ρ, φ, S, l, hS, hl, q⟩ => bindAt hS hl q fun x S1 ρ1 H1 v m1 hS1 e1 rx h1 => by
    cases hc : dctOf x S1 with
    | none => rw [hc] at h1; exact h1.elim
    | some ks =>
      rw [hc] at h1
      obtain ⟨p, kvs, rfl, q1, _⟩ := dct_rel hS1 rx hc
      refine ⟨p, rfl, .inl ⟨kvs, q1⟩, bindAt hS1 (hl.mono e1) h1 fun y S2 ρ2 H2 w m2 hS2 e2 ry h2 => bindAt hS2 ((hl.mono e1).mono e2) h2 fun z S3 ρ3 H3 t m3 hS3 e3 rz h3 => ?_⟩
      unfold fGet2 at h3
      split at h3
      · rename_i ks2 k hk1 hk2
        obtain ⟨p', o, e', _, g1, g2⟩ := dget_rel hS3 ((rx.mono e2).mono e3) (ry.mono e3) hk1 hk2
        cases e'
        refine ⟨o, g1, ?_⟩
        rcases g2 with ⟨rfl, z'⟩ | ⟨v, u, rfl, z', rv⟩
        · rw [z'] at h3; exact AtM.here h3 hS3 rz
        · rw [z'] at h3; exact AtM.here h3 hS3 rv
      · exact h3.elim
end
end Sim

/-! Sim: calls of own defs, what is walked, comprehensions. -/
namespace Sim
open PySem PySem.Spec L2 PyProof.Rows
/-- no wish: no error leaves -/
def W0 (ξ : Option XI) : WW := ⟨fun _ _ _ _ => False, ξ⟩
/-- what a def promises that runs as g -/
def spM (K : PySem.W.Frag) (ca : Nat → Addr) (g : List D → M D) : Sp := fun vs H Q E =>
  ∃ (ρ φ : List Addr) (S : Store) (ds : List D), SR K ca ρ φ S H ∧ Rels K ρ φ H vs ds ∧ AtM K ca ⟨fun C d _ H' => E C d H', none⟩ (Rel K) ρ φ H [] (g ds S) Q
section
variable {K : PySem.W.Frag} {ca : Nat → Addr}
theorem at_slot {α β : Type} {R : List Addr → List Addr → Hp → β → α → Prop} {W W' : WW} {ρ φ : List Addr} {H : Hp} {σ σ' : L2.St} {c : Out α} {Q : β → Hp → Prop} (hw : ∀ C d H', W.f C d σ H' → W'.f C d σ' H') (h : AtM K ca W R ρ φ H σ c Q) : AtM K ca W' R ρ φ H σ' c Q := by
  unfold AtM at h ⊢
  split at h
  · exact h
  · exact fun ρ' H' C d h1 h2 h3 => hw _ _ _ (h ρ' H' C d h1 h2 h3)
  · exact h
theorem at_noErr {α β : Type} {R : List Addr → List Addr → Hp → β → α → Prop} {W W' : WW} {ρ φ : List Addr} {H : Hp} {σ σ' : L2.St} {m : M α} {S : Store} {Q : β → Hp → Prop} (h : AtM K ca W R ρ φ H σ (noErr m S) Q) : AtM K ca W' R ρ φ H σ' (m S) Q := by
  unfold noErr at h
  split at h
  · rename_i e; rw [e]; exact h
  · exact h.elim
end
/-- a def at a module's name: it runs as g, at most k calls deep -/
structure FnS (P : Program) (w : World) (K : PySem.W.Frag) (mg : Str → Option Value) (base : Heap) (ca : Nat → Addr) (k : Nat) (x : Str) (g : List D → M D) : Prop where
  ex : ∃ (f : Addr) (fd : FuncData) (ps : List Str), FnOk P w K mg base (L2.CX P w) k f fd ps (spM K ca g) ∧ mg x = some (.ref f) ∧ PySem.W.keepIn K (.ref f) = true ∧ Binds K fd ps []
/-- a method of the class of code c -/
structure MeS (P : Program) (w : World) (K : PySem.W.Frag) (mg : Str → Option Value) (base : Heap) (ca : Nat → Addr) (k : Nat) (c : Nat) (m : Str) (g : List D → M D) : Prop where
  cl : Cls K (ca c)
  ex : ∃ (f : Addr) (fd : FuncData) (ps : List Str), FnOk P w K mg base (L2.CX P w) k f fd ps (spM K ca g) ∧ Meth K (ca c) m f ∧ Binds K fd ps []
/-- a class by its __init__ -/
structure MkS (P : Program) (w : World) (K : PySem.W.Frag) (mg : Str → Option Value) (base : Heap) (ca : Nat → Addr) (k : Nat) (c : Nat) (x : Str) (g : List D → M D) : Prop where
  ex : ∃ (f : Addr) (fd : FuncData) (ps : List Str), FnOk P w K mg base (L2.CX P w) k f fd ps (spM K ca g) ∧ Mk K (ca c) f ∧ mg x = some (.ref (ca c)) ∧ Binds K fd ps []
section
variable {X : Cx} {ca : Nat → Addr} {W : WW} {e a b c o : Expr} {es : List Expr} {ma mb mc mo : ME} {m : MA} {g : List D → M D} {pos p apos : Pos} {k : Nat} {x : Str}
theorem sp_of {ρ φ : List Addr} {S : Store} {H : Hp} {σ : L2.St} {vs : List V} {ds : List D} {Q : VK} (hS : SR X.K ca ρ φ S H) (r : Rels X.K ρ φ H vs ds) (h : AtM X.K ca W (Rel X.K) ρ φ H σ (g ds S) Q) : spM X.K ca g vs H Q (WE W.f σ) :=
  ⟨ρ, φ, S, ds, hS, r, at_slot (fun _ _ _ z => z) h⟩
theorem se_call (F : FnS X.prog X.w X.K X.mg X.base ca k x g) (hr : Room k X.A) (tk : Takes X W.f) (hg : Gl X x) (hdb : (x == ("__debug__" : Str)) = false) (ha : SA ca W X (e :: es) m) (T : CallT X e es pos) : SE ca W X (.Call (.Name x p) (e :: es) [] pos) (eA g m) := by
  obtain ⟨f, fd, ps, F1, hm, hk, hb⟩ := F.ex
  exact pe_imp (pe_callS F1 hr hg hm hk hb (passAt tk) ha hdb T.he T.hpl) fun σ H Q ⟨ρ, φ, S, l, hS, hl, q⟩ => bindAt hS hl q fun ds S1 ρ1 H1 xs m1 hS1 e1 rs h1 => sp_of hS1 rs h1
theorem se_call0 (F : FnS X.prog X.w X.K X.mg X.base ca k x g) (hr : Room k X.A) (hg : Gl X x) (hdb : (x == ("__debug__" : Str)) = false) : SE ca W X (.Call (.Name x p) [] [] pos) (eA (fun ds => noErr (g ds)) aNil) := by
  obtain ⟨f, fd, ps, F1, hm, hk, hb⟩ := F.ex
  exact pe_imp (pe_call0 F1 hr hg hm hk hb .nil passL hdb) fun σ H Q ⟨ρ, φ, S, l, hS, hl, q⟩ => by
    show spM X.K ca g ([] ++ []) H Q E0
    exact ⟨ρ, φ, S, [], hS, .nil, at_noErr q⟩
/-! ### methods -/
theorem meth_run {c : Nat} {mn : Str} {σ : L2.St} {H : Hp} {Q : VK} (h : Tm X.K ca W (Rel X.K) (eMeth c mn g mo m) σ H Q) :
    Tm X.K ca W (Rel X.K) mo σ H (fun x H1 => ∃ a dx fs, x = .ref a ∧ H1 a = some (.ins (ca c) dx fs) ∧ fs.lookup mn = none ∧ Tm X.K ca W (Rels X.K) m σ H1 (fun vs H2 => spM X.K ca g (x :: vs) H2 Q (WE W.f σ))) := by
  obtain ⟨ρ, φ, S, l, hS, hl, q⟩ := h
  refine bindAt hS hl q fun x S1 ρ1 H1 v m1 hS1 e1 rx h1 => ?_
  cases hi : insOf x S1 with
  | none => rw [hi] at h1; exact h1.elim
  | some cf =>
    obtain ⟨c', gs⟩ := cf
    rw [hi] at h1
    simp only at h1
    split at h1
    · rename_i hc
      obtain ⟨hc1, hc2⟩ := hc
      subst hc1
      obtain ⟨n, p, dx, fs, rfl, rfl, hn, hs, hp, hr⟩ := ins_rel hS1 rx hi
      refine ⟨p, dx, fs, rfl, hp, hr.lookup_none hc2, bindAt hS1 (hl.mono e1) h1 fun ds S2 ρ2 H2 vs m2 hS2 e2 rs h2 => ?_⟩
      exact sp_of hS2 (.cons (rx.mono e2) rs) h2
    · exact h1.elim
/-- what a method's call must show -/
structure OMeth (X : Cx) (o : Expr) (mn : Str) (es : List Expr) (apos pos : Pos) : Prop where
  ht : ∃ pl : Sem Bool, eval (.Call (.Attribute o mn apos) es [] pos) X.env = (do
      let ov ← eval o X.env
      standAt apos.atName
      let (f, first) ← holding [ov] (getMethod ov mn pl)
      callWith pos f first (backTo pos (starEach es X.env)) (backToKw pos (keywordEach [] X.env)))
theorem se_meth {c : Nat} {mn : Str} (F : MeS X.prog X.w X.K X.mg X.base ca k c mn g) (hr : Room k X.A) (tk : Takes X W.f) (ho : SE ca W X o mo) (ha : SA ca W X (e :: es) m) (T : CallT X e es pos) (O : OMeth X o mn (e :: es) apos pos) :
    SE ca W X (.Call (.Attribute o mn apos) (e :: es) [] pos) (eMeth c mn g mo m) := by
  obtain ⟨f, fd, ps, F1, hm, hb⟩ := F.ex
  obtain ⟨pl, ht⟩ := O.ht
  refine ⟨fun pins s σ H Q I h => ?_⟩
  refine PySem.W.methodCall_KW (pl := pl) (thn (ho.run pins s σ H _ I (meth_run h)) fun u s1 ⟨x, H1, I1, rx, a, dx, fs, ex, ea, l, q⟩ => ?_) ht
  subst ex
  obtain rfl : u = Value.ref a := rx
  refine getmeth_ok I1 ea F.cl hm l ?_
  refine PySem.W.callWith_K (first := [.ref a]) (h₀ := X.base) I.ok.mod.kin hm.kp (thn (ha.run pos pins s1 σ H1 _ I1 q) fun us s2 ⟨vs, H2, I2, r, q2⟩ => ⟨I2.kIn, ?_⟩) T.he T.hpl
  exact run_fnS (us := .ref a :: us) (vs := .ref a :: vs) (E := WE W.f) F1 hr hb (passAt tk σ) I2 (.cons rfl r) q2
theorem se_meth0 {c : Nat} {mn : Str} (F : MeS X.prog X.w X.K X.mg X.base ca k c mn g) (hr : Room k X.A) (tk : Takes X W.f) (ho : SE ca W X o mo) (O : OMeth X o mn [] apos pos) :
    SE ca W X (.Call (.Attribute o mn apos) [] [] pos) (eMeth c mn g mo aNil) := by
  obtain ⟨f, fd, ps, F1, hm, hb⟩ := F.ex
  obtain ⟨pl, ht⟩ := O.ht
  refine ⟨fun pins s σ H Q I h => ?_⟩
  refine PySem.W.methodCall_KW (pl := pl) (thn (ho.run pins s σ H _ I (meth_run h)) fun u s1 ⟨x, H1, I1, rx, a, dx, fs, ex, ea, l, q⟩ => ?_) ht
  subst ex
  obtain rfl : u = Value.ref a := rx
  refine getmeth_ok I1 ea F.cl hm l ?_
  obtain ⟨ρ2, φ2, S2, l2, hS2, hl2, q2⟩ := q
  have q3 : spM X.K ca g [.ref a] H1 Q (WE W.f σ) := AtM.here (b := ([] : List V)) q2 hS2 .nil
  exact PySem.W.callWith_K0 (first := [.ref a]) I1.kIn hm.kp (run_fnS (us := [.ref a]) (vs := [.ref a]) (E := WE W.f) F1 hr hb (passAt tk σ) I1 (.cons rfl .nil) q3)
/-! ### a new instance -/
theorem make_run {c : Nat} {ρ φ : List Addr} {S : Store} {H : Hp} {σ : L2.St} {vs : List V} {ds : List D} {Q : VK} (hS : SR X.K ca ρ φ S H) (r : Rels X.K ρ φ H vs ds) (h : AtM X.K ca W (Rel X.K) ρ φ H σ (fMake c (fun ds => noErr (g ds)) ds S) Q) :
    ∀ x dx, H x = none → H dx = none → dx ≠ x → spM X.K ca g (.ref x :: (vs ++ [])) (upd (upd H dx (.own x)) x (.ins (ca c) dx [])) (fun v H2 => v = .non ∧ Q (.ref x) H2) E0 := by
  intro x dx hx hdx hne
  have hx' : upd H dx (.own x) x = none := by rw [upd_ne (Ne.symm hne)]; exact hx
  have e1 : Ext ρ H ρ (upd H dx (.own x)) := Ext.lay hdx
  have hS1 := hS.lay (o := .own x) hdx
  have e2 : Ext ρ (upd H dx (.own x)) (ρ ++ [x]) (upd (upd H dx (.own x)) x (.ins (ca c) dx [])) := Ext.grow hx'
  have hS2 : SR X.K ca (ρ ++ [x]) φ (S ++ [⟨.ins c [], false⟩]) (upd (upd H dx (.own x)) x (.ins (ca c) dx [])) := hS1.grow hx' ⟨rfl, .nil⟩
  have hx3 : (ρ ++ [x])[S.length]? = some x := by rw [← hS.len]; simp
  refine ⟨ρ ++ [x], φ, _, .ref S.length :: ds, hS2, .cons (.ref hx3) (by rw [List.append_nil]; exact r.mono (e1.trans e2)), ?_⟩
  unfold fMake at h
  simp only at h
  refine at_noErr (W := W) (σ := σ) ?_
  split at h
  · rename_i S' hm
    rw [hm]
    intro ρ' H' v hS' e' rv
    cases rv
    exact ⟨rfl, h ρ' H' (.ref x) hS' ((e1.trans e2).trans e') (.ref (e'.at hx3))⟩
  · rename_i y S' hm
    unfold noErr at hm
    split at hm <;> cases hm
  · exact h.elim
theorem se_make {c : Nat} (F : MkS X.prog X.w X.K X.mg X.base ca k c x g) (hr : Room (k + 1) X.A) (hg : Gl X x) (hdb : (x == ("__debug__" : Str)) = false) (ha : SA ca W X (e :: es) m) (T : CallT X e es pos) : SE ca W X (.Call (.Name x p) (e :: es) [] pos) (eA (fMake c (fun ds => noErr (g ds))) m) := by
  obtain ⟨f, fd, ps, F1, M, hm, hb⟩ := F.ex
  exact pe_imp (pe_make M F1 hr hg hm hb .nil passL ha hdb T.he T.hpl) fun σ H Q ⟨ρ, φ, S, l, hS, hl, q⟩ => bindAt hS hl q fun ds S1 ρ1 H1 xs m1 hS1 e1 rs h1 => make_run hS1 rs h1
theorem se_make0 {c : Nat} (F : MkS X.prog X.w X.K X.mg X.base ca k c x g) (hr : Room (k + 1) X.A) (hg : Gl X x) (hdb : (x == ("__debug__" : Str)) = false) : SE ca W X (.Call (.Name x p) [] [] pos) (eA (fMake c (fun ds => noErr (g ds))) aNil) := by
  obtain ⟨f, fd, ps, F1, M, hm, hb⟩ := F.ex
  exact pe_imp (pe_make0 M F1 hr hg hm hb .nil passL hdb) fun σ H Q ⟨ρ, φ, S, l, hS, hl, q⟩ => make_run (ds := []) hS .nil q
end
/-! ### what is walked -/
/-- J gives the items that src tells, as the store stands -/
def Feeds (K : PySem.W.Frag) (ca : Nat → Addr) (ρ φ : List Addr) (H : Hp) (J : It) (src : Src) : Prop :=
  ∀ (ρ' φ' : List Addr) (S' : Store) (H' : Hp) (ds : List D), SR K ca ρ' φ' S' H' → Ext ρ H ρ' H' → (∀ a ∈ φ', a ∈ φ ∨ H a = none) → src S' = some ds → ∀ i : Nat,
    (∀ d, ds[i]? = some d → J.go i H' ∧ ∀ x H'', J.yld i H' x H'' → SR K ca ρ' φ' S' H'' ∧ Ext ρ' H' ρ' H'' ∧ Rel K ρ' φ' H'' x d) ∧ (ds[i]? = none → J.stop i H')
def SI (ca : Nat → Addr) (W : WW) (X : Cx) (tg iter : Expr) (m : Sl → M Src) : Prop := PI X tg iter (Tm X.K ca W (Feeds X.K ca) m)
section
variable {X : Cx} {ca : Nat → Addr} {W : WW} {tg e a b : Expr} {ma mb : ME} {pos p tpos : Pos}
theorem move_of {ρ φ ρ' φ' : List Addr} {H H' : Hp} (e : Ext ρ H ρ' H') (hp : ∀ a ∈ φ', a ∈ φ ∨ H a = none) : Move ρ φ H ρ' φ' H' :=
  ⟨fun q o h n m => ⟨e.keep q o h n, e.notin (by rw [h]; simp) n, fun z => by
    rcases hp q z with y | y
    · exact m y
    · rw [h] at y; cases y⟩, fun n a h => e.at h⟩
theorem pi_imp {e : Expr} {t t' : TI} (h : PI X tg e t) (i : ∀ σ H R, t' σ H R → t σ H R) : PI X tg e t' := ⟨fun pins s σ H R I q => h.run pins s σ H R I (i σ H R q)⟩
theorem isL_rel {ρ φ : List Addr} {S : Store} {H : Hp} {v : V} {d : D} (hS : SR X.K ca ρ φ S H) (r : Rel X.K ρ φ H v d) (h : isL d S = true) : ∃ p xs, v = .ref p ∧ SqL X.K H p xs := by
  unfold isL at h
  cases e : listOf d S with
  | none => rw [e] at h; cases h
  | some ds =>
    obtain ⟨p, xs, rfl, q, _⟩ := list_rel hS r e
    exact ⟨p, xs, rfl, q⟩
theorem feeds_list {ρ φ : List Addr} {H : Hp} {p : Addr} {x : D} (r : Rel X.K ρ φ H (.ref p) x) : Feeds X.K ca ρ φ H (Itl X.K p) (listOf x) := by
  intro ρ' φ' S' H' ds hS' e' hp hs i
  obtain ⟨q, xs, ep, q1, q2⟩ := list_rel hS' (r.move (move_of e' hp)) hs
  cases ep
  refine ⟨fun d hd => ?_, fun hd => ⟨xs, q1, by rw [q2.length]; exact List.getElem?_eq_none_iff.mp hd⟩⟩
  obtain ⟨v, hv, rv⟩ := q2.get hd
  refine ⟨⟨xs, v, q1, hv⟩, fun y H'' hy => ?_⟩
  obtain ⟨rfl, hy⟩ := hy
  have z := hy xs q1
  rw [hv] at z
  cases z
  exact ⟨hS', Ext.refl _ _, rv⟩
theorem si_list (h : SE ca W X e ma) : SI ca W X tg e (iL ma) :=
  pi_imp (pi_list h) fun σ H R ⟨ρ, φ, S, l, hS, hl, q⟩ => bindAt hS hl q fun x S1 ρ1 H1 v m1 hS1 e1 rx h1 => by
    split at h1
    · rename_i hc
      obtain ⟨p, xs, rfl, q1⟩ := isL_rel hS1 rx hc
      exact ⟨p, rfl, ⟨xs, q1⟩, AtM.here (b := Itl X.K p) h1 hS1 (feeds_list rx)⟩
    · exact h1.elim
theorem signs_get {z : Str} {i : Nat} {d : D} (h : (signsOf z)[i]? = some d) : ∃ c, z.cps[i]? = some c ∧ d = .str ⟨#[c]⟩ := by
  unfold signsOf at h
  rw [List.getElem?_map] at h
  cases e : z.cps.toList[i]? with
  | none => rw [e] at h; cases h
  | some c => rw [e] at h; cases h; exact ⟨c, by simpa using e, rfl⟩
theorem si_str (h : SE ca W X e ma) : SI ca W X tg e (iS ma) :=
  pi_imp (pi_str h) fun σ H R ⟨ρ, φ, S, l, hS, hl, q⟩ => bindAt hS hl q fun x S1 ρ1 H1 v m1 hS1 e1 rx h1 => by
    cases rx <;> first | exact h1.elim | skip
    rename_i z
    refine ⟨z, rfl, AtM.here (b := Its z) h1 hS1 ?_⟩
    intro ρ' φ' S' H' ds hS' e' hp hs i
    cases hs
    refine ⟨fun d hd => ?_, fun hd => ?_⟩
    · obtain ⟨c, hc, rfl⟩ := signs_get hd
      refine ⟨(Array.getElem?_eq_some_iff.mp hc).1, fun y H'' hy => ?_⟩
      obtain ⟨rfl, c', hc', rfl⟩ := hy
      rw [hc] at hc'
      cases hc'
      exact ⟨hS', Ext.refl _ _, .str _⟩
    · have := List.getElem?_eq_none_iff.mp hd
      unfold signsOf at this
      show z.cps.size ≤ i
      simpa using this
theorem range_get {lo : Int} {n i : Nat} {d : D} (h : (rangeD lo n)[i]? = some d) : i < n ∧ d = .int (lo + (i : Int)) := by
  unfold rangeD at h
  rw [List.getElem?_map] at h
  by_cases c : i < n
  · rw [List.getElem?_range c] at h
    cases h
    exact ⟨c, rfl⟩
  · rw [List.getElem?_eq_none (by simpa using c)] at h
    cases h
theorem feeds_range {ρ φ : List Addr} {H : Hp} {lo : Int} {n : Nat} : Feeds X.K ca ρ φ H (Itr lo n) (fun _ => some (rangeD lo n)) := by
  intro ρ' φ' S' H' ds hS' e' hp hs i
  cases hs
  refine ⟨fun d hd => ?_, fun hd => ?_⟩
  · obtain ⟨h1, rfl⟩ := range_get hd
    refine ⟨h1, fun y H'' hy => ?_⟩
    obtain ⟨rfl, rfl⟩ := hy
    exact ⟨hS', Ext.refl _ _, .int _⟩
  · have := List.getElem?_eq_none_iff.mp hd
    unfold rangeD at this
    show n ≤ i
    simpa using this
theorem big_of {i : Int} (h : bigI i = true) : -(2 ^ 62) ≤ i ∧ i < 2 ^ 62 := by
  unfold bigI at h
  have := of_decide_eq_true h
  omega
theorem si_r1 (hm : X.mg "range" = none) (hg : Gl X "range") (h : SE ca W X a ma) (hs : starEach [a] X.env = [(false, eval a X.env)]) (hs' : starEach [a] X.env = (false, eval a X.env) :: starEach [] X.env) : SI ca W X tg (.Call (.Name "range" p) [a] [] pos) (iR1 ma) :=
  pi_imp (pi_range1 hg hm (pa_cons h pa_nil hs') hs) fun σ H R ⟨ρ, φ, S, l, hS, hl, q⟩ => bindAt hS hl q fun x S1 ρ1 H1 v m1 hS1 e1 rx h1 => by
    cases rx <;> first | exact h1.elim | skip
    rename_i n
    simp only at h1
    split at h1
    · rename_i hb
      obtain ⟨b1, b2⟩ := big_of hb
      exact ⟨n, rfl, b1, b2, AtM.here (b := Itr 0 n.toNat) h1 hS1 feeds_range⟩
    · exact h1.elim
theorem si_r2 (hm : X.mg "range" = none) (hg : Gl X "range") (h : SE ca W X a ma) (k : SE ca W X b mb) (hs : starEach [a, b] X.env = [(false, eval a X.env), (false, eval b X.env)]) (hs2 : starEach [b] X.env = [(false, eval b X.env)])
    (hs' : starEach [a, b] X.env = (false, eval a X.env) :: starEach [b] X.env) (hs2' : starEach [b] X.env = (false, eval b X.env) :: starEach [] X.env) : SI ca W X tg (.Call (.Name "range" p) [a, b] [] pos) (iR2 ma mb) :=
  pi_imp (pi_range2 hg hm (pa_cons h (pa_cons k pa_nil hs2') hs') hs hs2) fun σ H R ⟨ρ, φ, S, l, hS, hl, q⟩ => bindAt hS hl q fun x S1 ρ1 H1 v m1 hS1 e1 rx h1 => bindAt hS1 (hl.mono e1) h1 fun y S2 ρ2 H2 w m2 hS2 e2 ry h2 => by
    cases rx <;> first | exact h2.elim | skip
    cases ry <;> first | exact h2.elim | skip
    rename_i lo hi
    simp only at h2
    split at h2
    · rename_i hb
      obtain ⟨b1, b2⟩ := big_of hb.1
      obtain ⟨b3, b4⟩ := big_of hb.2
      exact ⟨lo, hi, rfl, ⟨b1, b2, b3, b4⟩, AtM.here (b := Itr lo (hi - lo).toNat) h2 hS2 feeds_range⟩
    · exact h2.elim
theorem enum_get {ds : List D} {i : Nat} {d : D} (h : (enumD ds)[i]? = some d) : ∃ x, ds[i]? = some x ∧ d = .tup [.int (i : Nat), x] := by
  unfold enumD at h
  rw [List.getElem?_map, List.getElem?_zipIdx] at h
  cases e : ds[i]? with
  | none => rw [e] at h; cases h
  | some x => rw [e] at h; cases h; exact ⟨x, rfl, by simp⟩
theorem si_enum {elts : List Expr} {kk : Nat} (hm : X.mg "enumerate" = none) (hg : Gl X "enumerate") (h : SE ca W X e ma) (hs : starEach [e] X.env = [(false, eval e X.env)]) (hs' : starEach [e] X.env = (false, eval e X.env) :: starEach [] X.env) :
    SI ca W X (.Tuple elts kk tpos) (.Call (.Name "enumerate" p) [e] [] pos) (iEn ma) :=
  pi_imp (pi_enum hg hm (pa_cons h pa_nil hs') hs) fun σ H R ⟨ρ, φ, S, l, hS, hl, q⟩ => bindAt hS hl q fun x S1 ρ1 H1 v m1 hS1 e1 rx h1 => by
    split at h1
    · rename_i hc
      obtain ⟨p, xs, rfl, q1⟩ := isL_rel hS1 rx hc
      refine ⟨p, xs, rfl, q1, AtM.here (b := Ite X.K p) h1 hS1 ?_⟩
      intro ρ' φ' S' H' ds hS' e' hp hs i
      cases e3 : listOf x S' with
      | none => simp only [e3] at hs; cases hs
      | some es =>
        simp only [e3] at hs
        cases hs
        obtain ⟨q', ys, ep, q2, q3⟩ := list_rel hS' (rx.move (move_of e' hp)) e3
        cases ep
        refine ⟨fun d hd => ?_, fun hd => ⟨ys, q2, ?_⟩⟩
        · obtain ⟨y, hy, rfl⟩ := enum_get hd
          obtain ⟨v, hv, rv⟩ := q3.get hy
          refine ⟨⟨ys, v, q2, hv⟩, fun z H'' hz => ?_⟩
          obtain ⟨T, w, rfl, hT, rfl, hw⟩ := hz
          have z2 := hw ys q2
          rw [hv] at z2
          cases z2
          have e5 : Ext ρ' H' ρ' (upd H' T (.tup [.int (i : Nat), v])) := Ext.lay hT
          exact ⟨hS'.lay hT, e5, .tup upd_same (hS'.fresh hT).1 (hS'.fresh hT).2 (.cons (.int _) (.cons (rv.mono e5) .nil))⟩
        · rw [q3.length]
          have := List.getElem?_eq_none_iff.mp hd
          unfold enumD at this
          simpa using this
    · exact h1.elim
theorem zip_get : ∀ {xs ys : List D} {i : Nat} {d : D}, (zipD xs ys)[i]? = some d → ∃ x y, xs[i]? = some x ∧ ys[i]? = some y ∧ d = .tup [x, y] := by
  intro xs ys i d h
  unfold zipD at h
  rw [List.getElem?_zipWith] at h
  cases e1 : xs[i]? with
  | none => simp [e1] at h
  | some x =>
    cases e2 : ys[i]? with
    | none => simp [e1, e2] at h
    | some y => simp [e1, e2] at h; exact ⟨x, y, rfl, rfl, h.symm⟩
theorem zip_none : ∀ {xs ys : List D} {i : Nat}, (zipD xs ys)[i]? = none → xs.length ≤ i ∨ ys.length ≤ i := by
  intro xs ys i h
  have := List.getElem?_eq_none_iff.mp h
  unfold zipD at this
  rw [List.length_zipWith] at this
  omega
theorem si_zip {elts : List Expr} {kk : Nat} (hm : X.mg "zip" = none) (hg : Gl X "zip") (h : SE ca W X a ma) (k : SE ca W X b mb) (hs1 : starEach [a, b] X.env = (false, eval a X.env) :: starEach [b] X.env) (hs2 : starEach [b] X.env = (false, eval b X.env) :: starEach [] X.env)
    (hpl : (backTo pos (starEach [b] X.env)).any (·.1) = false) : SI ca W X (.Tuple elts kk tpos) (.Call (.Name "zip" p) [a, b] [] pos) (iZ ma mb) :=
  pi_imp (pi_zip hg hm (pa_cons h (pa_cons k pa_nil hs2) hs1) hs1 hpl) fun σ H R ⟨ρ, φ, S, l, hS, hl, q⟩ => bindAt hS hl q fun x S1 ρ1 H1 v m1 hS1 e1 rx h1 => bindAt hS1 (hl.mono e1) h1 fun y S2 ρ2 H2 w m2 hS2 e2 ry h2 => by
    split at h2
    · rename_i hc
      have rx2 := rx.mono e2
      obtain ⟨p, xs, rfl, q1⟩ := isL_rel hS2 rx2 hc.1
      obtain ⟨q, ys, rfl, q2⟩ := isL_rel hS2 ry hc.2
      refine ⟨p, q, xs, ys, rfl, q1, q2, AtM.here (b := Itz X.K p q) h2 hS2 ?_⟩
      intro ρ' φ' S' H' ds hS' e' hp hs i
      simp only at hs
      split at hs
      · rename_i es fs h3 h4
        cases hs
        obtain ⟨p', us, ep, g1, g2⟩ := list_rel hS' (rx2.move (move_of e' hp)) h3
        cases ep
        obtain ⟨q', ws, eq', g3, g4⟩ := list_rel hS' (ry.move (move_of e' hp)) h4
        cases eq'
        refine ⟨fun d hd => ?_, fun hd => ⟨us, ws, g1, g3, ?_⟩⟩
        · obtain ⟨d1, d2, hd1, hd2, rfl⟩ := zip_get hd
          obtain ⟨v1, hv1, rv1⟩ := g2.get hd1
          obtain ⟨v2, hv2, rv2⟩ := g4.get hd2
          refine ⟨⟨us, ws, v1, v2, g1, g3, hv1, hv2⟩, fun z H'' hz => ?_⟩
          obtain ⟨T, t1, t2, rfl, hT, rfl, ht1, ht2⟩ := hz
          have z1 := ht1 us g1
          rw [hv1] at z1
          cases z1
          have z2 := ht2 ws g3
          rw [hv2] at z2
          cases z2
          have e5 : Ext ρ' H' ρ' (upd H' T (.tup [v1, v2])) := Ext.lay hT
          exact ⟨hS'.lay hT, e5, .tup upd_same (hS'.fresh hT).1 (hS'.fresh hT).2 (.cons (rv1.mono e5) (.cons (rv2.mono e5) .nil))⟩
        · rw [g2.length, g4.length]
          exact zip_none hd
      · cases hs
    · exact h2.elim
/-! ### targets -/
/-- the target's reading stores what tgSet stores; vs: the slots that it may change -/
def TgOk (K : PySem.W.Frag) (ξ : Option XI) (g : TG) (tg : Tg) : Prop := ∀ (ρ φ : List Addr) (H : Hp) (σ : L2.St) (l l' : Sl) (x : V) (d : D) (Q : L2.St → Hp → Prop),
  SlX ξ K ρ φ H σ l → Rel K ρ φ H x d → tgSet tg d l = some l' → (∀ σ', SlX ξ K ρ φ H σ' l' → (∀ vs, (∀ i ∈ tgIx tg, i ∈ vs) → wipe σ' vs = wipe σ vs) → Q σ' H) → g x σ H Q
theorem wipe_set {i : Nat} {o : Option V} : ∀ {vs : List Nat} {σ : L2.St}, i ∈ vs → wipe (σ.set i o) vs = wipe σ vs
  | v :: vs, σ, h => by
    show (wipe (σ.set i o) vs).set v none = (wipe σ vs).set v none
    by_cases c : i ∈ vs
    · rw [wipe_set c]
    · have e : i = v := (List.mem_cons.mp h).resolve_right c
      subst e
      have q : ∀ (vs : List Nat) (σ : L2.St), i ∉ vs → wipe (σ.set i o) vs = (wipe σ vs).set i o := by
        intro vs
        induction vs with
        | nil => intro σ _; rfl
        | cons w ws ih =>
          intro σ hn
          show (wipe (σ.set i o) ws).set w none = ((wipe σ ws).set w none).set i o
          rw [ih σ (fun z => hn (List.mem_cons_of_mem _ z)), List.set_comm]
          intro z
          subst z
          exact hn List.mem_cons_self
      rw [q vs σ c, List.set_set]
theorem tg_one {ξ : Option XI} {i : Nat} (hi : freeS ξ i) : TgOk X.K ξ (gName i) (.one i) := by
  intro ρ φ H σ l l' x d Q hl r h q
  cases h
  exact q _ (hl.set r hi) fun vs hv => wipe_set (hv i (List.mem_singleton.mpr rfl))
theorem tgs_ok {ξ : Option XI} : ∀ (is : List Nat) (hi : ∀ i ∈ is, freeS ξ i) (ρ φ : List Addr) (H : Hp) (σ : L2.St) (l l' : Sl) (xs : List V) (ds : List D) (Q : L2.St → Hp → Prop),
    SlX ξ X.K ρ φ H σ l → Rels X.K ρ φ H xs ds → setAll is ds l = some l' → (∀ σ', SlX ξ X.K ρ φ H σ' l' → (∀ vs, (∀ i ∈ is, i ∈ vs) → wipe σ' vs = wipe σ vs) → Q σ' H) → (is.foldr (fun i t => gCons (gName i) t) gNil) xs σ H Q
  | [], _, ρ, φ, H, σ, l, l', _, _, Q, hl, .nil, h, q => by
    cases h
    exact ⟨rfl, q _ hl fun _ _ => rfl⟩
  | [], _, ρ, φ, H, σ, l, l', _, _, Q, hl, .cons r rs, h, q => by cases h
  | i :: is, hi, ρ, φ, H, σ, l, l', _, _, Q, hl, .nil, h, q => by cases h
  | i :: is, hi, ρ, φ, H, σ, l, l', _, _, Q, hl, .cons r rs, h, q => by
    refine ⟨_, _, rfl, ?_⟩
    exact tgs_ok is (fun j hj => hi j (List.mem_cons_of_mem _ hj)) ρ φ H _ _ l' _ _ Q (hl.set r (hi i List.mem_cons_self)) rs h fun σ' h1 h2 => q σ' h1 fun vs hv => by
      rw [h2 vs fun j hj => hv j (List.mem_cons_of_mem _ hj), wipe_set (hv i List.mem_cons_self)]
theorem setAll_len : ∀ {is : List Nat} {ds : List D} {l l' : Sl}, setAll is ds l = some l' → ds.length = is.length
  | [], [], _, _, _ => rfl
  | i :: is, d :: ds, l, l', h => by rw [List.length_cons, List.length_cons, setAll_len (is := is) h]
  | [], _ :: _, _, _, h => by cases h
  | _ :: _, [], _, _, h => by cases h
theorem tg_many {ξ : Option XI} {is : List Nat} (hi : ∀ i ∈ is, freeS ξ i) : TgOk X.K ξ (gTup X.K is.length (is.foldr (fun i t => gCons (gName i) t) gNil)) (.many is) := by
  intro ρ φ H σ l l' x d Q hl r h q
  unfold tgSet at h
  simp only at h
  cases r <;> first | (cases h; done) | skip
  rename_i p xs ds h1 h2 h3 h4
  refine ⟨p, xs, rfl, .inl (.inl h1), by rw [h4.length]; exact setAll_len h, ?_⟩
  exact tgs_ok is hi ρ φ H σ l l' xs ds Q hl h4 h q
end
end Sim

/-! Sim: comprehensions. -/
namespace Sim
open PySem PySem.Spec L2 PyProof.Rows
section
variable {K : PySem.W.Frag} {ca : Nat → Addr} {ρ ρ' φ : List Addr} {S : Store} {H H' : Hp}
/-- a private place is laid -/
theorem SR.hide (h : SR K ca ρ φ S H) {p : Addr} {o : HO} (hp : H p = none) : SR K ca ρ (p :: φ) S (upd H p o) := by
  obtain ⟨f1, f2⟩ := h.fresh hp
  have mv : Move ρ φ H ρ (p :: φ) (upd H p o) := ⟨fun q u hq n m => ⟨by rw [upd_ne (ne_of_none hq hp)]; exact hq, n, fun z => by
    rcases List.mem_cons.mp z with y | y
    · subst y; rw [hq] at hp; cases hp
    · exact m y⟩, fun _ _ z => z⟩
  refine ⟨h.nd, h.len, fun a ha => ?_, fun a ha => ?_, fun n a c h1 h2 => ?_⟩
  · rcases List.mem_cons.mp ha with y | y
    · subst y; exact f1
    · exact h.dj a y
  · rcases List.mem_cons.mp ha with y | y
    · subst y; rw [upd_same]; simp
    · exact Ext.trk (Ext.lay (ρ := ρ) hp) a (h.ph a y)
  · obtain ⟨ho, q1, q2⟩ := h.ob n a c h1 h2
    exact ⟨ho, q1.lay hp, q2.move mv⟩
theorem hide_move {p : Addr} {o : HO} (hp : H p = none) : Move ρ φ H ρ (p :: φ) (upd H p o) := ⟨fun q u hq n m => ⟨by rw [upd_ne (ne_of_none hq hp)]; exact hq, n, fun z => by
    rcases List.mem_cons.mp z with y | y
    · subst y; rw [hq] at hp; cases hp
    · exact m y⟩, fun _ _ z => z⟩
theorem priv_move {p : Addr} {o : HO} (hp : p ∈ φ) : Move ρ φ H ρ φ (upd H p o) := ⟨fun q u hq n m => ⟨by rw [upd_ne (fun z => m (by rw [z]; exact hp))]; exact hq, n, m⟩, fun _ _ z => z⟩
/-- a private place changes -/
theorem SR.priv (h : SR K ca ρ φ S H) {p : Addr} {o : HO} (hp : p ∈ φ) : SR K ca ρ φ S (upd H p o) := by
  refine ⟨h.nd, h.len, h.dj, fun a ha => ?_, fun n a c h1 h2 => ?_⟩
  · by_cases c : a = p
    · subst c; rw [upd_same]; simp
    · rw [upd_ne c]; exact h.ph a ha
  · obtain ⟨ho, q1, q2⟩ := h.ob n a c h1 h2
    exact ⟨ho, q1.put (fun z => h.dj p hp (z ▸ List.mem_of_getElem? h1)), q2.move (priv_move hp)⟩
theorem SR.less {ψ : List Addr} (h : SR K ca ρ φ S H) (hp : ∀ a ∈ ψ, a ∈ φ) : SR K ca ρ ψ S H :=
  ⟨h.nd, h.len, fun a ha => h.dj a (hp a ha), fun a ha => h.ph a (hp a ha), fun n a c h1 h2 => by
    obtain ⟨ho, q1, q2⟩ := h.ob n a c h1 h2
    exact ⟨ho, q1, q2.less hp⟩⟩
theorem XF.less {ψ : List Addr} {d : Option Addr} {fs : Option (List (Str × D))} (h : XF K ρ φ H d fs) (hp : ∀ a ∈ ψ, a ∈ φ) : XF K ρ ψ H d fs := by
  cases fs with
  | none => exact h
  | some gs =>
    obtain ⟨dd, hs, h1, h2, h3, h4, h5⟩ := h
    exact ⟨dd, hs, h1, h2, h3, fun z => h4 (hp _ z), h5.less hp⟩
theorem SlX.less {ξ : Option XI} {ψ : List Addr} {σ : L2.St} {l : Sl} (h : SlX ξ K ρ φ H σ l) (hp : ∀ a ∈ ψ, a ∈ φ) : SlX ξ K ρ ψ H σ l := ⟨h.sl.less hp, fun z hz => ⟨(h.er z hz).1, (h.er z hz).2.less hp⟩⟩
theorem SlR.wipe {σ : L2.St} {l : Sl} (h : SlR K ρ φ H σ l) : ∀ vs : List Nat, SlR K ρ φ H (wipe σ vs) (wipeD l vs)
  | [] => h
  | v :: vs => (SlR.wipe h vs).unset v
theorem bindN {α β γ δ : Type} {W : WW} {ξ : Option XI} {R : List Addr → List Addr → Hp → β → α → Prop} {R' : List Addr → List Addr → Hp → δ → γ → Prop} {σ τ : L2.St} {l : Sl} {Q : β → Hp → Prop} {Q' : δ → Hp → Prop} {m : Sl → M α} {k : α → M γ} {ψ ρb : List Addr} {Hb : Hp} (hS : SR K ca ρ φ S H) (hl : SlX ξ K ρ φ H σ l) (h : AtM K ca W R' ρb ψ Hb τ (bndN (m l S) k) Q')
    (q : ∀ a S1 ρ1 H1 b, m l S = some (.ok a, S1) → SR K ca ρ1 φ S1 H1 → Ext ρ H ρ1 H1 → R ρ1 φ H1 b a → AtM K ca W R' ρb ψ Hb τ (k a S1) Q' → Q b H1) : Tm K ca (W0 ξ) R m σ H Q := by
  refine ⟨ρ, φ, S, l, hS, hl, ?_⟩
  cases hm : m l S with
  | none => rw [hm] at h; exact h
  | some p =>
    obtain ⟨r, S1⟩ := p
    rw [hm] at h
    cases r with
    | error x => exact h.elim
    | ok a => exact fun ρ1 H1 b hS1 e1 r1 => q a S1 ρ1 H1 b hm hS1 e1 r1 h
theorem ext_new {p : Addr} {o : HO} (e : Ext ρ H ρ' H') (hp : H p = none) : Ext ρ H ρ' (upd H' p o) :=
  ⟨e.pre, fun b u hb n => by rw [upd_ne (ne_of_none hb hp)]; exact e.keep b u hb n, fun b hb => by
    by_cases c : b = p
    · subst c; rw [upd_same]; simp
    · rw [upd_ne c]; exact e.trk b hb, fun b o' u hb => by rw [upd_ne (ne_of_none hb hp)]; exact e.fz b o' u hb⟩
theorem wipe_wipe (σ : L2.St) : ∀ vs : List Nat, wipe (wipe σ vs) vs = wipe σ vs := by
  have q : ∀ (ws vs : List Nat), (∀ w ∈ ws, w ∈ vs) → wipe (wipe σ ws) vs = wipe σ vs := by
    intro ws
    induction ws with
    | nil => intro vs _; rfl
    | cons w ws ih =>
      intro vs h
      show wipe ((wipe σ ws).set w none) vs = wipe σ vs
      rw [wipe_set (h w List.mem_cons_self), ih vs fun x hx => h x (List.mem_cons_of_mem _ hx)]
  exact fun vs => q vs vs fun _ h => h
end
section
variable {X : Cx} {ca : Nat → Addr} {W : WW}
/-- the tests of a comprehension -/
def STs (ca : Nat → Addr) (X : Cx) (ifs : List Expr) (t : MT) : Prop := PTs X ifs (Tm X.K ca (W0 none) REq t)
theorem pts_imp {e : List Expr} {t t' : TT} (h : PTs X e t) (i : ∀ σ H Q, t' σ H Q → t σ H Q) : PTs X e t' := ⟨fun pins s σ H Q I q => h.run pins s σ H Q I (i σ H Q q)⟩
theorem ts_nil : STs ca X [] tYes' := pts_imp pts_nil fun σ H Q ⟨ρ, φ, S, l, hS, hl, q⟩ => AtM.here (b := true) q hS rfl
theorem ts_one {c : Expr} {t : MT} (h : ST ca (W0 none) X c t) : STs ca X [c] t := pts_one h
/-- the block of a comprehension -/
abbrev blkX (X : Cx) (scope : Scope) (s : Shared) (H : Hp) (C : Addr) (cl : List (Str × Addr)) (fp : List Addr) : Cx := X.blk s H scope (compEnvC scope cl C X.env) fp
/-- what a comprehension's text must show -/
structure CompT (X : Cx) (tg iter : Expr) (ifs : List Expr) (elt : Expr) (scope : Scope) (own : List (Str × Nat)) (g : TG) (tgd : Tg) (ca : Nat → Addr) (t : MT) (me : ME) : Prop where
  calm : X.calm = true
  nd : X.N.Nodup
  ok : BlkOk X.N X.env.scope scope own
  tgs : TgOk X.K none g tgd
  ix : ∀ i ∈ tgIx tgd, i ∈ own.map (·.2)
  pg : ∀ (s : Shared) (H : Hp) (C : Addr) (cl : List (Str × Addr)) (fp : List Addr), PG (blkX X scope s H C cl fp) tg g
  ts : ∀ (s : Shared) (H : Hp) (C : Addr) (cl : List (Str × Addr)) (fp : List Addr), STs ca (blkX X scope s H C cl fp) ifs t
  el : ∀ (s : Shared) (H : Hp) (C : Addr) (cl : List (Str × Addr)) (fp : List Addr), SE ca (W0 none) (blkX X scope s H C cl fp) elt me
  fs : ∀ x, foldedSetIterable iter X.env x = pure x
theorem comp_run {mi : Sl → M Src} {g : TG} {tgd : Tg} {t : MT} {me : ME} {vs : List Nat} {σ : L2.St} {H : Hp} {Q : VK} (hg : TgOk X.K none g tgd) (hix : ∀ i ∈ tgIx tgd, i ∈ vs)
    (h : Tm X.K ca W (Rel X.K) (eComp vs mi tgd t me) σ H Q) : tLc (Tm X.K ca W (Feeds X.K ca) mi) g (Tm X.K ca (W0 none) REq t) (Tm X.K ca (W0 none) (Rel X.K) me) vs σ H Q := by
  obtain ⟨ρ, φ, S, l, hS, hl, q⟩ := h
  refine bindAt hS hl q fun src S1 ρ1 H1 J m1 hS1 e1 fd h1 => ?_
  have hl1 := hl.mono e1
  intro Dd hD
  split at h1
  · exact h1.elim
  rename_i ds0 hds0
  have hD1 : Dd ∉ ρ1 := (hS1.fresh hD).1
  have hD2 : Dd ∉ φ := (hS1.fresh hD).2
  refine ⟨fun i m H' => ∃ (ρ' : List Addr) (S' : Store) (xs : List V) (acc : List D), SR X.K ca ρ' (Dd :: φ) S' H' ∧ Ext ρ1 H1 ρ' H' ∧ H' Dd = some (.lst xs) ∧ Rels X.K ρ' (Dd :: φ) H' xs acc ∧ AtM X.K ca W (Rel X.K) ρ1 φ H1 σ (compG src tgd t me (wipeD l vs) m i acc S') Q,
    ⟨ds0.length + 1, ρ1, S1, [], [], hS1.hide hD, Ext.lay hD, upd_same, .nil, h1⟩, ?_⟩
  rintro i m H' ⟨ρ', S', xs, acc, hS', e', hx, hr, ha⟩
  have hDρ : Dd ∉ ρ' := hS'.dj Dd List.mem_cons_self
  cases m with
  | zero => exact ha.elim
  | succ m =>
    unfold compG at ha
    cases hs : src S' with
    | none => rw [hs] at ha; exact ha.elim
    | some ds =>
      rw [hs] at ha
      simp only at ha
      have hp : ∀ a ∈ Dd :: φ, a ∈ φ ∨ H1 a = none := fun a hm => by
        rcases List.mem_cons.mp hm with y | y
        · subst y; exact .inr hD
        · exact .inl y
      obtain ⟨f1, f2⟩ := fd ρ' (Dd :: φ) S' H' ds hS' e' hp hs i
      cases hi : ds[i]? with
      | none =>
        rw [hi] at ha
        refine .inl ⟨f2 hi, ?_⟩
        exact ha ρ' H' (V.ref Dd) (hS'.less fun a hm => List.mem_cons_of_mem _ hm) e' (.fl hx hDρ hD2 (hr.less fun a hm => List.mem_cons_of_mem _ hm))
      | some d =>
        rw [hi] at ha
        simp only at ha
        obtain ⟨g1, g2⟩ := f1 d hi
        refine .inr ⟨g1, fun H'' => ∃ (ρ' : List Addr) (S' : Store) (xs : List V) (acc : List D), SR X.K ca ρ' (Dd :: φ) S' H'' ∧ Ext ρ1 H1 ρ' H'' ∧ H'' Dd = some (.lst xs) ∧ Rels X.K ρ' (Dd :: φ) H'' xs acc ∧ AtM X.K ca W (Rel X.K) ρ1 φ H1 σ (compG src tgd t me (wipeD l vs) m (i + 1) acc S') Q,
          fun H'' z => ⟨m, Nat.lt_succ_self m, z⟩, fun x H2 hy => ?_⟩
        obtain ⟨hS2, e2, rx⟩ := g2 x H2 hy
        cases ht : tgSet tgd d (wipeD l vs) with
        | none => rw [ht] at ha; exact ha.elim
        | some l1 =>
          rw [ht] at ha
          simp only at ha
          have hlw : SlX none X.K ρ' (Dd :: φ) H2 (wipe σ vs) (wipeD l vs) := ⟨(hl1.sl.move (move_of (e'.trans e2) hp)).wipe vs, fun _ z => nomatch z⟩
          refine hg ρ' (Dd :: φ) H2 _ _ _ x d _ hlw rx ht fun σ2 hl2 hw => ⟨(hw vs hix).trans (wipe_wipe σ vs), ?_⟩
          refine bindN (ψ := φ) (R := REq) (ρ := ρ') (τ := σ) (W := W) (R' := Rel X.K) (Q' := Q) hS2 hl2 ha fun c S3 ρ3 H3 c' m3 hS3 e3 rc h3 => ?_
          have rc' : c' = c := rc
          subst rc'
          have eX := (e'.trans e2).trans e3
          have keepD : ∀ {ρa : List Addr} {Ha : Hp}, Ext ρ' H' ρa Ha → Ha Dd = some (.lst xs) := fun e => e.keep _ _ hx hDρ
          cases c' with
          | true =>
            rw [if_pos rfl]
            refine bindN (ψ := φ) (R := Rel X.K) (ρ := ρ3) (τ := σ) (W := W) (R' := Rel X.K) (Q' := Q) hS3 (hl2.mono e3) h3 fun d4 S4 ρ4 H4 y m4 hS4 e4 ry h4 => ?_
            split at h4
            · rename_i hz
              have e04 := (e2.trans e3).trans e4
              have hr4 := hr.mono e04
              refine ⟨xs, keepD e04, line_lt (by rw [hr.length]; exact hz), ρ4, S4, xs ++ [y], acc ++ [d4], hS4.priv List.mem_cons_self, ?_, upd_same, (hr4.append (.cons ry .nil)).move (priv_move List.mem_cons_self), ?_⟩
              · exact ext_new (eX.trans e4) hD
              · exact h4
            · exact h4.elim
          | false =>
            rw [if_neg Bool.false_ne_true]
            exact ⟨ρ3, S3, xs, acc, hS3, eX, keepD (e2.trans e3), hr.mono (e2.trans e3), h3⟩
theorem se_comp {tg iter : Expr} {ifs : List Expr} {elt : Expr} {scope : Scope} {own : List (Str × Nat)} {g : TG} {tgd : Tg} {t : MT} {me : ME} {mi : Sl → M Src} {pos : Pos} (T : CompT X tg iter ifs elt scope own g tgd ca t me) (hi : SI ca W X tg iter mi) :
    SE ca W X (.ListComp elt [⟨tg, iter, ifs, 0⟩] scope pos) (eComp (own.map (·.2)) mi tgd t me) :=
  pe_imp (pe_lc (tt := Tm X.K ca (W0 none) REq t) (te := Tm X.K ca (W0 none) (Rel X.K) me) T.calm T.nd hi T.ok T.pg T.ts T.el T.fs) fun σ H Q h => comp_run T.tgs T.ix h
end
end Sim

/-! Sim: statements. -/
namespace Sim
open PySem PySem.Spec L2 PyProof.Rows
section
variable {X : Cx} {ca : Nat → Addr} {W : WW} {e a b c o : Expr} {ma mb mc mo : ME} {pos p : Pos} {st : Stmt} {rest : List Stmt} {u v : MS}
theorem ss_nil : SSs ca W X [] sNext := pss_imp pss_nil fun D σ H ⟨ρ, φ, S, l, hS, hl, q⟩ => q ρ H σ hS (Ext.refl _ _) hl
theorem seq_run {D : Ends} {σ : L2.St} {H : Hp} (h : TmS X.K ca W (sSeq u v) D σ H) : TmS X.K ca W u { D with nx := TmS X.K ca W v D } σ H := by
  obtain ⟨ρ, φ, S, l, hS, hl, q⟩ := h
  refine ⟨ρ, φ, S, l, hS, hl, ?_⟩
  unfold sSeq at q
  cases hm : u l S with
  | none => rw [hm] at q; exact q
  | some p =>
    obtain ⟨f, S'⟩ := p
    rw [hm] at q
    cases f with
    | nx l' => exact fun ρ' H' σ' hS' e' hl' => ⟨ρ', φ, S', l', hS', hl', q.mono e'⟩
    | bk l' => exact q
    | ct l' => exact q
    | rt d => exact q
    | ex x l' => exact q
theorem ss_cons (h1 : SS ca W X st u) (h2 : SSs ca W X rest v) : SSs ca W X (st :: rest) (sSeq u v) := pss_imp (pss_cons h1 h2) fun D σ H h => seq_run h
theorem ss_one (h1 : SS ca W X st u) : SSs ca W X [st] u := pss_one h1
theorem ss_pass : SS ca W X (.Pass pos) sNext := ps_imp ps_pass fun D σ H ⟨ρ, φ, S, l, hS, hl, q⟩ => q ρ H σ hS (Ext.refl _ _) hl
theorem ss_break : SS ca W X (.Break pos) sBreak := ps_imp ps_break fun D σ H ⟨ρ, φ, S, l, hS, hl, q⟩ => q ρ H σ hS (Ext.refl _ _) hl
theorem ss_cont : SS ca W X (.Continue pos) sCont := ps_imp ps_continue fun D σ H ⟨ρ, φ, S, l, hS, hl, q⟩ => q ρ H σ hS (Ext.refl _ _) hl
theorem ss_retN : SS ca W X (.Return none pos) sRetN := ps_imp ps_retN fun D σ H ⟨ρ, φ, S, l, hS, hl, q⟩ => q ρ H .non hS (Ext.refl _ _) .non
theorem bindS {α β : Type} {R : List Addr → List Addr → Hp → β → α → Prop} {ρ φ : List Addr} {S : Store} {H : Hp} {σ : L2.St} {l : Sl} {Q : β → Hp → Prop} {m : Sl → M α} {k : α → Store → OutS} {D : Ends} (hS : SR X.K ca ρ φ S H) (hl : SlX W.x X.K ρ φ H σ l) (h : AtS X.K ca W ρ φ H (bndS l (m l S) k) D)
    (q : ∀ a S1 ρ1 H1 b, m l S = some (.ok a, S1) → SR X.K ca ρ1 φ S1 H1 → Ext ρ H ρ1 H1 → R ρ1 φ H1 b a → AtS X.K ca W ρ1 φ H1 (k a S1) D → Q b H1) : Tm X.K ca W R m σ H Q := bindAtS hS hl h (fun e h => h.mono e) q
theorem ss_drop (h : SE ca W X e ma) (hs : swapsWith e none pos.line X.env = pure false) : SS ca W X (.Expr e pos) (sDrop ma) :=
  ps_imp (ps_expr h hs) fun D σ H ⟨ρ, φ, S, l, hS, hl, q⟩ => bindS hS hl q fun d S1 ρ1 H1 x m1 hS1 e1 rx h1 => h1 ρ1 H1 σ hS1 (Ext.refl _ _) (hl.mono e1)
theorem ss_ret (h : SE ca W X e ma) : SS ca W X (.Return (some e) pos) (sRet ma) :=
  ps_imp (ps_ret h) fun D σ H ⟨ρ, φ, S, l, hS, hl, q⟩ => bindS hS hl q fun d S1 ρ1 H1 x m1 hS1 e1 rx h1 => h1 ρ1 H1 x hS1 (Ext.refl _ _) rx
theorem set_run {i : Nat} (hi : freeS W.x i) {D : Ends} {σ : L2.St} {H : Hp} (h : TmS X.K ca W (sSet i ma) D σ H) : tAsg (Tm X.K ca W (Rel X.K) ma) (gName i) D σ H := by
  obtain ⟨ρ, φ, S, l, hS, hl, q⟩ := h
  exact bindS hS hl q fun d S1 ρ1 H1 x m1 hS1 e1 rx h1 => h1 ρ1 H1 _ hS1 (Ext.refl _ _) ((hl.mono e1).set rx hi)
theorem ss_set {i : Nat} {x : Str} {pos' : Pos} (hN : X.N.Nodup) (hi : X.N[i]? = some x) (hx : Loc X.env.scope x) (hf : freeS W.x i) (h : SE ca W X e ma) (hs : swapsWith e (some (.Name x pos')) pos.line X.env = pure false) (hg : X.fn x = true ∨ X.env.scope.names.lookup x = some .local) :
    SS ca W X (.Assign [.Name x pos'] e pos) (sSet i ma) := ps_imp (ps_set hN hi hx h hs hg) fun D σ H h => set_run hf h
/-- y = [.. for ..] -/
theorem ss_setLc {i : Nat} {y : Str} {py : Pos} {elt tg iter : Expr} {ifs : List Expr} {scope : Scope} {own : List (Str × Nat)} {spos : Pos} {g : TG} {tgd : Tg} {t : MT} {me : ME} {mi : Sl → M Src} (T : CompT X tg iter ifs elt scope own g tgd ca t me) (hy : X.N[i]? = some y) (hyl : X.env.scope.names.lookup y = some .local) (hf : freeS W.x i)
    (hsw : swapsWith (.ListComp elt [⟨tg, iter, ifs, 0⟩] scope pos) (some (.Name y py)) spos.line X.env = pure true) (hi : SI ca W X tg iter mi) :
    SS ca W X (.Assign [.Name y py] (.ListComp elt [⟨tg, iter, ifs, 0⟩] scope pos) spos) (sSet i (eComp (own.map (·.2)) mi tgd t me)) :=
  ps_imp (ps_setLc (tt := Tm X.K ca (W0 none) REq t) (te := Tm X.K ca (W0 none) (Rel X.K) me) T.calm T.nd hy hyl hsw hi T.ok T.pg T.ts T.el T.fs) fun D σ H ⟨ρ, φ, S, l, hS, hl, q⟩ =>
    comp_run (W := W) T.tgs T.ix (bindS hS hl q fun d S1 ρ1 H1 x m1 hS1 e1 rx h1 => h1 ρ1 H1 _ hS1 (Ext.refl _ _) ((hl.mono e1).set rx hf))
/-- a, b, .. = e -/
theorem ss_setT {is : List Nat} {es : List Expr} {k : Nat} {pt : Pos} {g : TG} (hf : ∀ i ∈ is, freeS W.x i) (hg : PG X (.Tuple es k pt) g) (eg : g = gTup X.K is.length (is.foldr (fun i t => gCons (gName i) t) gNil)) (h : SE ca W X e ma)
    (hs : swapsWithSole [.Tuple es k pt] e pos.line X.env = pure false) (hw : swappedStores [.Tuple es k pt] e X.env = pure none) (h1 : (assignEach [.Tuple es k pt] X.env).map (·.2) = [assign (.Tuple es k pt) X.env]) : SS ca W X (.Assign [.Tuple es k pt] e pos) (sSetT is ma) := by
  subst eg
  exact ps_imp (ps_asg h hg hs hw h1) fun D σ H ⟨ρ, φ, S, l, hS, hl, q⟩ => bindS hS hl q fun d S1 ρ1 H1 x m1 hS1 e1 rx h1 => by
    split at h1
    · rename_i l' hl'
      exact tg_many hf ρ1 φ H1 σ l l' x d D.nx (hl.mono e1) rx hl' fun σ' hl2 _ => h1 ρ1 H1 σ' hS1 (Ext.refl _ _) hl2
    · exact h1.elim
theorem ss_if {t : MT} {xs ys : List Stmt} (h : ST ca W X c t) (h1 : SSs ca W X xs u) (h2 : SSs ca W X ys v) : SS ca W X (.If c xs ys pos) (sIf t u v) :=
  ps_imp (ps_if h h1 h2) fun D σ H ⟨ρ, φ, S, l, hS, hl, q⟩ => bindS hS hl q fun k S1 ρ1 H1 x m1 hS1 e1 rx h1 => by
    have rx' : x = k := rx
    subst rx'
    cases x with
    | true => exact (show TmS X.K ca W u D σ H1 from ⟨ρ1, φ, S1, l, hS1, hl.mono e1, h1⟩)
    | false => exact (show TmS X.K ca W v D σ H1 from ⟨ρ1, φ, S1, l, hS1, hl.mono e1, h1⟩)
/-! ### stores -/
theorem ss_fld {cc : Nat} {f : Str} {pos' : Pos} (T : FldF X.K ca cc f) (ho : SE ca W X o mo) (h : SE ca W X e ma) (hs : swapsWith e (some (.Attribute o f pos')) pos.line X.env = pure false) : SS ca W X (.Assign [.Attribute o f pos'] e pos) (sFld cc mo f ma) :=
  ps_imp (ps_fld ho h hs) fun D σ H ⟨ρ, φ, S, l, hS, hl, q⟩ => bindS hS hl q fun d S1 ρ1 H1 y m1 hS1 e1 ry h1 => bindS hS1 (hl.mono e1) h1 fun x S2 ρ2 H2 w m2 hS2 e2 rx h2 => by
    split at h2
    · rename_i S3 h3
      unfold putFldD at h3
      split at h3
      · split at h3
        · rename_i n c' fs hn
          split at h3
          · rename_i hc
            obtain ⟨hc1, hc2⟩ := hc
            subst hc1
            cases h3
            obtain ⟨n', p, dx, gs, en, rfl, hp, hs, hH, hr⟩ := ins_rel hS2 rx (c := c') (gs := fs) (by unfold insOf; simp only [hn])
            cases en
            have e3 : Ext ρ2 H2 ρ2 (upd H2 p (.ins (ca c') dx (putF f y gs))) := Ext.put (List.mem_of_getElem? hp) (hS2.trk (List.mem_of_getElem? hp)) (nofz_ins hH)
            refine ⟨p, _, dx, gs, rfl, hH, T.cl, T.no, by rw [hr.length]; exact hc2, ?_⟩
            exact h2 ρ2 _ σ (hS2.put (c := ⟨.ins c' fs, false⟩) hp (nofz_ins hH) ⟨rfl, relK_putF ((ry.mono e2).mono e3) (hr.mono e3)⟩) e3 (((hl.mono e1).mono e2).mono e3)
          · cases h3
        · cases h3
      · cases h3
    · exact h2.elim
theorem ss_put {i : Expr} {mi : ME} {pos' : Pos} (hu : X.A.units + 1 < cLine) (ho : SE ca W X o mo) (hi : SE ca W X i mi) (h : SE ca W X e ma) (hs : swapsWith e (some (.Subscript o i pos')) pos.line X.env = pure false)
    (hs2 : swapsWithSole [.Subscript o i pos'] e pos.line X.env = pure false) (hw : swappedStores [.Subscript o i pos'] e X.env = pure none) (h1 : (assignEach [.Subscript o i pos'] X.env).map (·.2) = [assign (.Subscript o i pos') X.env])
    (hsub : ∀ v, assign (.Subscript o i pos') X.env v = (do
      let ov ← holding [v] (eval o X.env)
      let iv ← holding [v, ov] (eval i X.env)
      standAt pos'
      holding [v, ov, iv] (setItem ov iv v)
      release [v, ov, iv] [])) : SS ca W X (.Assign [.Subscript o i pos'] e pos) (sPut mo mi ma) :=
  ps_imp (ps_or2 (ps_asg h (pg_sub ho hi set_list hsub) hs2 hw h1) (ps_dput hu ho hi h hs)) fun D σ H ⟨ρ, φ, S, l, hS, hl, q⟩ => by
    by_cases c : ∀ d S1 x S2 k S3, ma l S = some (.ok d, S1) → mo l S1 = some (.ok x, S2) → mi l S2 = some (.ok k, S3) → dctOf x S3 = none
    · refine .inl (bindS hS hl q fun d S1 ρ1 H1 y m1 hS1 e1 ry h1 => bindS hS1 (hl.mono e1) h1 fun x S2 ρ2 H2 w m2 hS2 e2 rx h2 => bindS hS2 ((hl.mono e1).mono e2) h2 fun k S3 ρ3 H3 z m3 hS3 e3 rk h3 => ?_)
      have hd := c _ _ _ _ _ _ m1 m2 m3
      split at h3
      · rename_i S4 h4
        unfold putIxD at h4
        split at h4
        · rename_i n
          split at h4
          · rename_i ds hn
            split at h4
            · split at h4
              · rename_i j hj
                cases h4
                obtain ⟨p, xs, rfl, g1, g2, g3⟩ := lst_at hS3 (rx.mono e3) hn
                cases rk
                have e4 : Ext ρ3 H3 ρ3 (upd H3 p (.lst (xs.set j y))) := Ext.put (List.mem_of_getElem? g1) (hS3.trk (List.mem_of_getElem? g1)) (nofz_lst g2)
                refine ⟨p, xs, _, j, rfl, rfl, g2, by rw [g3.length]; exact hj, ?_⟩
                exact h3 ρ3 _ σ (hS3.put (c := ⟨.lst ds, false⟩) g1 (nofz_lst g2) (Rels.set ((ry.mono (e2.trans e3)).mono e4) j (g3.mono e4))) e4 ((((hl.mono e1).mono e2).mono e3).mono e4)
              · cases h4
            · cases h4
          · rename_i kvs hn
            unfold dctOf at hd
            simp only [hn] at hd
            cases hd
          · cases h4
        · cases h4
      · exact h3.elim
    · refine .inr (bindS hS hl q fun d S1 ρ1 H1 y m1 hS1 e1 ry h1 => bindS hS1 (hl.mono e1) h1 fun x S2 ρ2 H2 w m2 hS2 e2 rx h2 => bindS hS2 ((hl.mono e1).mono e2) h2 fun k S3 ρ3 H3 z m3 hS3 e3 rk h3 => ?_)
      have hd : dctOf x S3 ≠ none := fun hd => c fun d' S1' x' S2' k' S3' n1 n2 n3 => by
        rw [m1] at n1; cases n1
        rw [m2] at n2; cases n2
        rw [m3] at n3; cases n3
        exact hd
      split at h3
      · rename_i S4 h4
        unfold putIxD at h4
        split at h4
        · rename_i n
          split at h4
          · rename_i ds hn
            unfold dctOf at hd
            simp only [hn] at hd
            exact absurd rfl hd
          · rename_i kvs hn
            split at h4
            · rename_i kk hk
              split at h4
              · rename_i hz
                cases h4
                obtain ⟨p, ks, ep, g1, g2⟩ := dctU_rel hS3 (rx.mono e3) (ks := kvs) (by unfold dctU; simp only [hn])
                subst ep
                cases rx with
                | ref hp =>
                  have hp3 := e3.at hp
                  have ez := key_rel rk hk
                  subst ez
                  have e4 : Ext ρ3 H3 ρ3 (upd H3 p (.dK (putK ks kk y))) := Ext.put (List.mem_of_getElem? hp3) (hS3.trk (List.mem_of_getElem? hp3)) (nofz_dK g1)
                  refine ⟨p, _, rfl, DPut.k g1 (line_lt (by rw [g2.length]; exact hz)), ?_⟩
                  exact h3 ρ3 _ σ (hS3.put (c := ⟨.dct kvs, false⟩) hp3 (nofz_dK g1) (relK_put ((ry.mono (e2.trans e3)).mono e4) (g2.mono e4))) e4 ((((hl.mono e1).mono e2).mono e3).mono e4)
              · cases h4
            · cases h4
          · cases h4
        · cases h4
      · exact h3.elim
/-! ### loops -/
theorem for_run {mi : Sl → M Src} {g : TG} {tgd : Tg} {D : Ends} {σ : L2.St} {H : Hp} (hg : TgOk X.K W.x g tgd) (h : TmS X.K ca W (sFor mi tgd u) D σ H) : tFor (Tm X.K ca W (Feeds X.K ca) mi) g (TmS X.K ca W u) D σ H := by
  obtain ⟨ρ, φ, S, l, hS, hl, q⟩ := h
  refine bindS hS hl q fun src S1 ρ1 H1 J m1 hS1 e1 fd h1 => ?_
  have hl1 := hl.mono e1
  split at h1
  · exact h1.elim
  rename_i ds0 hds0
  refine ⟨fun i m σ' H' => ∃ (ρ' : List Addr) (S' : Store) (l' : Sl), SR X.K ca ρ' φ S' H' ∧ Ext ρ1 H1 ρ' H' ∧ SlX W.x X.K ρ' φ H' σ' l' ∧ AtS X.K ca W ρ' φ H' (forG src tgd u m i l' S') D,
    ⟨ds0.length + 1, ρ1, S1, l, hS1, Ext.refl _ _, hl1, h1⟩, ?_⟩
  rintro i m σ' H' ⟨ρ', S', l', hS', e', hl', ha⟩
  cases m with
  | zero => exact ha.elim
  | succ m =>
    unfold forG at ha
    cases hs : src S' with
    | none => rw [hs] at ha; exact ha.elim
    | some ds =>
      rw [hs] at ha
      simp only at ha
      obtain ⟨f1, f2⟩ := fd ρ' φ S' H' ds hS' e' (fun a h => .inl h) hs i
      cases hi : ds[i]? with
      | none =>
        rw [hi] at ha
        exact .inl ⟨f2 hi, ha ρ' H' σ' hS' (Ext.refl _ _) hl'⟩
      | some d =>
        rw [hi] at ha
        simp only at ha
        obtain ⟨g1, g2⟩ := f1 d hi
        refine .inr ⟨g1, fun σ'' H'' => ∃ (ρ' : List Addr) (S' : Store) (l' : Sl), SR X.K ca ρ' φ S' H'' ∧ Ext ρ1 H1 ρ' H'' ∧ SlX W.x X.K ρ' φ H'' σ'' l' ∧ AtS X.K ca W ρ' φ H'' (forG src tgd u m (i + 1) l' S') D,
          fun σ'' H'' z => ⟨m, Nat.lt_succ_self m, z⟩, fun x H2 hy => ?_⟩
        obtain ⟨hS2, e2, rx⟩ := g2 x H2 hy
        cases ht : tgSet tgd d l' with
        | none => rw [ht] at ha; exact ha.elim
        | some l1 =>
          rw [ht] at ha
          simp only at ha
          refine hg ρ' φ H2 σ' l' l1 x d _ (hl'.mono e2) rx ht fun σ2 hl2 _ => ?_
          refine ⟨ρ', φ, S', l1, hS2, hl2, ?_⟩
          have ha := ha.mono e2
          cases hb : u l1 S' with
          | none => rw [hb] at ha; exact ha.elim
          | some pr =>
            obtain ⟨f, S3⟩ := pr
            rw [hb] at ha
            cases f with
            | nx l3 => exact fun ρ3 H3 σ3 hS3 e3 hl3 => ⟨ρ3, S3, l3, hS3, (e'.trans e2).trans e3, hl3, ha.mono e3⟩
            | ct l3 => exact fun ρ3 H3 σ3 hS3 e3 hl3 => ⟨ρ3, S3, l3, hS3, (e'.trans e2).trans e3, hl3, ha.mono e3⟩
            | bk l3 => exact ha
            | rt d3 => exact ha
            | ex x3 l3 => exact ha
theorem ss_for {tg iter : Expr} {body : List Stmt} {mi : Sl → M Src} {g : TG} {tgd : Tg} (hp : PassesOwn (model X.prog X.w) X.A X.env X.xe) (hc : X.calm = true) (hg : TgOk X.K W.x g tgd) (hpg : PG X tg g) (hi : SI ca W X tg iter mi) (hb : SSs ca W X body u) (hs : ∀ x, foldedSetIterable iter X.env x = pure x) :
    SS ca W X (.For tg iter body [] pos) (sFor mi tgd u) := ps_imp (ps_for hp hc hi hpg hb hs) fun D σ H h => for_run hg h
theorem while_run {t : MT} {D : Ends} {σ : L2.St} {H : Hp} (h : TmS X.K ca W (sWhile t u) D σ H) : tWhile (Tm X.K ca W REq t) (TmS X.K ca W u) D σ H := by
  obtain ⟨ρ0, φ, S0, l0, hS0, hl0, q0⟩ := h
  refine ⟨fun m σ H => ∃ (ρ : List Addr) (S : Store) (l : Sl), SR X.K ca ρ φ S H ∧ SlX W.x X.K ρ φ H σ l ∧ AtS X.K ca W ρ φ H (whileF t u m l S) D, ⟨fuelN, ρ0, S0, l0, hS0, hl0, q0⟩, ?_⟩
  rintro m σ H ⟨ρ, S, l, hS, hl, q⟩
  cases m with
  | zero => exact ⟨ρ, φ, S, l, hS, hl, q.elim⟩
  | succ m =>
    refine bindS hS hl q fun k S1 ρ1 H1 x m1 hS1 e1 rx h1 => ?_
    have rx' : x = k := rx
    subst rx'
    have hl1 := hl.mono e1
    cases x with
    | false =>
      rw [if_neg Bool.false_ne_true]
      exact h1 ρ1 H1 σ hS1 (Ext.refl _ _) hl1
    | true =>
      rw [if_pos rfl]
      refine ⟨fun σ H => ∃ (ρ : List Addr) (S : Store) (l : Sl), SR X.K ca ρ φ S H ∧ SlX W.x X.K ρ φ H σ l ∧ AtS X.K ca W ρ φ H (whileF t u m l S) D, fun σ' H' z => ⟨m, Nat.lt_succ_self m, z⟩, ?_⟩
      refine ⟨ρ1, φ, S1, l, hS1, hl1, ?_⟩
      simp only [if_true] at h1
      cases hb : u l S1 with
      | none => rw [hb] at h1; exact h1.elim
      | some pr =>
        obtain ⟨f, S3⟩ := pr
        rw [hb] at h1
        cases f with
        | nx l3 => exact fun ρ3 H3 σ3 hS3 e3 hl3 => ⟨ρ3, S3, l3, hS3, hl3, h1.mono e3⟩
        | ct l3 => exact fun ρ3 H3 σ3 hS3 e3 hl3 => ⟨ρ3, S3, l3, hS3, hl3, h1.mono e3⟩
        | bk l3 => exact h1
        | rt d3 => exact h1
        | ex x3 l3 => exact h1
theorem ss_while {body : List Stmt} {t : MT} (hp : PassesOwn (model X.prog X.w) X.A X.env X.xe) (h : ST ca W X c t) (hb : SSs ca W X body u) : SS ca W X (.While c body [] pos) (sWhile t u) := ps_imp (ps_while hp h hb) fun D σ H h => while_run h
end
end Sim

/-! Sim: errors, defs. -/
namespace Sim
open PySem PySem.Spec L2 PyProof.Rows
/-- an own error class without an __init__ of its own -/
structure ExB (K : PySem.W.Frag) (mg : Str → Option Value) (ca : Nat → Addr) (c : Nat) (x : Str) : Prop where
  q : PySem.W.excIn K (ca c) [.type "ValueError", .type "Exception", .type "BaseException", .type "object"] "ValueError.__new__" = true
  g : mg x = some (.ref (ca c))
  k : PySem.W.keepIn K (.ref (ca c)) = true
  b : PySem.W.subIn K (.ref (ca c)) (.type "BaseException") = some true
  t : PySem.W.typeIn K (.ref (ca c)) = some (.type "type")
section
variable {X : Cx} {ca : Nat → Addr} {W : WW} {e a b c o : Expr} {ma mb mc mo : ME} {pos p : Pos}
theorem ss_raiseB {cc : Nat} {x m : Str} {j : Nat} {p2 pos' : Pos} (T : ExB X.K X.mg ca cc x) (hc : X.calm = true) (tk : Takes X W.f) (hg : Gl X x) (hdb : (x == ("__debug__" : Str)) = false) : SS ca W X (.Raise (some (.Call (.Name x p) [.Constant (.str m) j p2] [] pos)) none pos') (sRaiseB cc) :=
  ps_imp (ps_raise hc tk (pmk_own PySem.F.excBase_ValueError T.q T.g T.k (raises_own T.b T.t) hg hdb)) fun D σ H ⟨ρ, φ, S, l, hS, hl, q⟩ => q ρ H σ (.ref (ca cc)) none hS (Ext.refl _ _) hl ⟨rfl, rfl⟩
/-! ### an error class whose __init__ keeps its argument -/
/-- what that __init__ does -/
def spInitE (K : PySem.W.Frag) (C : Addr) (f : Str) : Sp := fun vs H Q _ => ∃ (a : Addr) (v : V), vs = [.ref a, v] ∧ H a = some (exo a C none) ∧ ∀ dx, H dx = none → dx ≠ a → Q .non (upd (upd H dx (exd dx [(f, v)])) a (exo a C (some dx)))
/-- such a class, its __init__ at most k calls deep -/
structure ExN (P : Program) (w : World) (K : PySem.W.Frag) (mg : Str → Option Value) (base : Heap) (ca : Nat → Addr) (k : Nat) (c : Nat) (x f : Str) : Prop where
  T : OexC K (ca c)
  g : mg x = some (.ref (ca c))
  ex : ∃ (fI : Addr) (fd : FuncData) (ps : List Str), PySem.W.findIn K (.ref (ca c)) "__init__" = some (some (.ref fI)) ∧ PySem.W.typeIn K (.ref fI) = some (.type "function") ∧ FnOk P w K mg base (L2.CX P w) k fI fd ps (spInitE K (ca c) f) ∧ Binds K fd ps []
theorem ss_raiseN {cc : Nat} {x f : Str} {k : Nat} {m : MA} {pos' : Pos} (T : ExN X.prog X.w X.K X.mg X.base ca k cc x f) (hr : Room (k + 1) X.A) (hc : X.calm = true) (tk : Takes X W.f) (hg : Gl X x) (hdb : (x == ("__debug__" : Str)) = false) (ha : SA ca W X [e] m) (Tc : CallT X e [] pos) :
    SS ca W X (.Raise (some (.Call (.Name x p) [e] [] pos)) none pos') (sRaiseN cc f m) := by
  obtain ⟨fI, fd, ps, h1, h2, F, hb⟩ := T.ex
  refine ps_imp (ps_raise hc tk (pmk_oex T.T h1 h2 F hr hb .nil passL hg T.g ha hdb Tc.he Tc.hpl)) fun D σ H ⟨ρ, φ, S, l, hS, hl, q⟩ => bindS hS hl q fun ds S1 ρ1 H1 vs m1 hS1 e1 rs h1 => ?_
  split at h1
  · rename_i d
    cases rs with
    | cons rv rn =>
      cases rn
      rename_i v
      refine ⟨(show 1 ≤ 1000 by decide), fun a' hna => ?_⟩
      refine ⟨a', v, rfl, upd_same, fun dx hdx hne => ⟨rfl, dx, [(f, v)], upd_same, ?_, ?_, ?_⟩⟩
      · rw [upd_ne hne, upd_same]
      · rw [upd_ne hne] at hdx; exact hdx
      · have hd1 : H1 dx = none := by rw [upd_ne hne] at hdx; exact hdx
        have eH : upd (del (upd (upd (upd H1 a' (exo a' (ca cc) none)) dx (exd dx [(f, v)])) a' (exo a' (ca cc) (some dx))) a') dx (.xd [(f, v)]) = upd H1 dx (.xd [(f, v)]) := by
          funext z
          by_cases z1 : z = dx
          · subst z1; rw [upd_same, upd_same]
          · rw [upd_ne z1, upd_ne z1]
            by_cases z2 : z = a'
            · subst z2; rw [del_same]; exact hna.symm
            · rw [del_ne z2, upd_ne z2, upd_ne z1, upd_ne z2]
        rw [eH]
        have e2 : Ext ρ1 H1 ρ1 (upd H1 dx (.xd [(f, v)])) := Ext.lay hd1
        exact h1 ρ1 _ σ (.ref (ca cc)) (some dx) (hS1.lay hd1) e2 ((hl.mono e1).mono e2) ⟨rfl, dx, [(f, v)], rfl, upd_same, (hS1.fresh hd1).1, (hS1.fresh hd1).2, .cons (rv.mono e2) .nil⟩
  · exact h1.elim
/-! ### try -/
theorem suite_no {D : Ends} {ρ φ : List Addr} {H : Hp} {r : OutS} {ξ : Option XI} (hW : W.x = none) (h : AtS X.K ca W ρ φ H (noEx r) D) : AtS X.K ca (W0 none) ρ φ H r D := by
  unfold noEx at h
  cases r with
  | none => exact h
  | some p =>
    obtain ⟨f, S⟩ := p
    cases f with
    | nx l => exact fun ρ' H' σ' h1 h2 h3 => h ρ' H' σ' h1 h2 (by rw [hW]; exact h3)
    | bk l => exact fun ρ' H' σ' h1 h2 h3 => h ρ' H' σ' h1 h2 (by rw [hW]; exact h3)
    | ct l => exact fun ρ' H' σ' h1 h2 h3 => h ρ' H' σ' h1 h2 (by rw [hW]; exact h3)
    | rt d => exact h
    | ex x l => exact h.elim
theorem pss_ex {α : Type} {p : α → Prop} {sts : List Stmt} {t : α → TS} (h : ∀ x, p x → PSs X sts (t x)) : PSs X sts (fun D σ H => ∃ x, p x ∧ t x D σ H) := ⟨fun pins s σ H D I ⟨x, hx, q⟩ => (h x hx).run pins s σ H D I q⟩
/-- except X: .., without a name -/
theorem ss_try0 {x : Str} {cv : Value} {body suite : List Stmt} {b0 : Stmt} {np pos' : Pos} {u : MS} {v : Exn → MS} {catch_ : Nat → Option Bool} (hW : W.x = none) (hs : X.stack = X.env :: X.outer) (hf : X.env.frame = some X.env.locals) (hc : Names X x cv) (tk : Takes X W.f)
    (hk : ∀ c b, catch_ c = some b → PySem.W.exmOne X.K (.ref (ca c)) cv = some b)
    (hb : ∀ (Wf : WX) (pn : List (Addr × Obj)) (xe : Value → Shared → Prop), Takes (X.tr pn xe) Wf → PassesOwn (model X.prog X.w) X.A X.env xe → SSs ca ⟨Wf, none⟩ (X.tr pn xe) body u)
    (hsu : ∀ (a : Addr) (oe : Obj) (cls : Value) (d : Option Addr) (pn : List (Addr × Obj)), Zc cls d oe → (∃ vs, oe.data = .fields vs) → ∀ xn : Exn, SSs ca (W0 none) (X.suite a ((a, oe) :: pn)) (b0 :: suite) (v xn)) :
    SS ca W X (.Try body [.ExceptHandler (some (.Name x np)) none (b0 :: suite) pos'] [] [] pos) (sTry u catch_ none v) := by
  refine ps_imp (ps_try_only (tb := fun Wf => TmS X.K ca ⟨Wf, none⟩ u) (ts := fun a cls d D σ H => ∃ xn : Exn, True ∧ TmS X.K ca (W0 none) (v xn) D σ H) hs hf hc tk (fun Wf pn xe t1 t2 => hb Wf pn xe t1 t2)
    (fun a oe cls d pn z1 z2 => pss_ex fun xn _ => hsu a oe cls d pn z1 z2 xn)) fun D σ H ⟨ρ, φ, S, l, hS, hl, q⟩ => ?_
  refine ⟨ρ, φ, S, l, hS, by rw [hW] at hl; exact hl, ?_⟩
  unfold sTry at q
  cases hm : u l S with
  | none => rw [hm] at q; exact q
  | some pr =>
    obtain ⟨f, S1⟩ := pr
    rw [hm] at q
    cases f with
    | nx l1 => exact fun ρ' H' σ' h1 h2 h3 => q ρ' H' σ' h1 h2 (by rw [hW]; exact h3)
    | bk l1 => exact fun ρ' H' σ' h1 h2 h3 => q ρ' H' σ' h1 h2 (by rw [hW]; exact h3)
    | ct l1 => exact fun ρ' H' σ' h1 h2 h3 => q ρ' H' σ' h1 h2 (by rw [hW]; exact h3)
    | rt d1 => exact q
    | ex xn l1 =>
      intro ρ1 H1 σ1 C d hS1 e1 hl1 hx
      simp only at q
      cases hk1 : catch_ xn.c with
      | none => rw [hk1] at q; exact q.elim
      | some b =>
        rw [hk1] at q
        have hx1 : C = .ref (ca xn.c) := hx.1
        subst hx1
        refine ⟨b, hk xn.c b hk1, fun hb1 a' ha' => ?_, fun hb1 => ?_⟩
        · subst hb1
          refine ⟨xn, trivial, ρ1, φ, S1, l1, hS1, hl1, suite_no (ξ := none) hW (q.mono e1)⟩
        · subst hb1
          exact q ρ1 H1 σ1 _ d hS1 e1 (by rw [hW]; exact hl1) hx
theorem slx_unset {K : PySem.W.Frag} {ξ : Option XI} {ρ φ : List Addr} {H : Hp} {σ : L2.St} {l : Sl} {i : Nat} (h : SlX ξ K ρ φ H σ l) : SlX Option.none K ρ φ H (σ.set i Option.none) (l.set i Option.none) := SlX.of (h.sl.unset i)
/-- except X as n: .. -/
theorem ss_tryN {x n : Str} {cv : Value} {i : Nat} {body suite : List Stmt} {b0 : Stmt} {np pos' : Pos} {u : MS} {v : Exn → MS} {catch_ : Nat → Option Bool} (hW : W.x = none) (hs : X.stack = X.env :: X.outer) (hf : X.env.frame = some X.env.locals) (hN : X.N.Nodup) (hi : X.N[i]? = some n) (hln : X.env.kindOf n = some .local) (hc : Names X x cv) (tk : Takes X W.f)
    (hk : ∀ c b, catch_ c = some b → PySem.W.exmOne X.K (.ref (ca c)) cv = some b)
    (hb : ∀ (Wf : WX) (pn : List (Addr × Obj)) (xe : Value → Shared → Prop), Takes (X.tr pn xe) Wf → PassesOwn (model X.prog X.w) X.A X.env xe → SSs ca ⟨Wf, none⟩ (X.tr pn xe) body u)
    (hsu : ∀ (a : Addr) (oe : Obj) (cls : Value) (d : Option Addr) (pn : List (Addr × Obj)), Zc cls d oe → (∃ vs, oe.data = .fields vs) → ∀ xn : Exn, cls = .ref (ca xn.c) → SSs ca (W0 (some ⟨i, a, d, xn.fs⟩)) (X.suite a ((a, oe) :: pn)) (b0 :: suite) (v xn)) :
    SS ca W X (.Try body [.ExceptHandler (some (.Name x np)) (some n) (b0 :: suite) pos'] [] [] pos) (sTry u catch_ (some i) v) := by
  refine ps_imp (ps_try_as (tb := fun Wf => TmS X.K ca ⟨Wf, none⟩ u) (ts := fun a cls d D σ H => ∃ xn : Exn, cls = .ref (ca xn.c) ∧ TmS X.K ca (W0 (some ⟨i, a, d, xn.fs⟩)) (v xn) D σ H) hs hf hN hi hln hc tk (fun Wf pn xe t1 t2 => hb Wf pn xe t1 t2)
    (fun a oe cls d pn z1 z2 => pss_ex fun xn z => hsu a oe cls d pn z1 z2 xn z)) fun D σ H ⟨ρ, φ, S, l, hS, hl, q⟩ => ?_
  refine ⟨ρ, φ, S, l, hS, by rw [hW] at hl; exact hl, ?_⟩
  unfold sTry at q
  cases hm : u l S with
  | none => rw [hm] at q; exact q
  | some pr =>
    obtain ⟨f, S1⟩ := pr
    rw [hm] at q
    cases f with
    | nx l1 => exact fun ρ' H' σ' h1 h2 h3 => q ρ' H' σ' h1 h2 (by rw [hW]; exact h3)
    | bk l1 => exact fun ρ' H' σ' h1 h2 h3 => q ρ' H' σ' h1 h2 (by rw [hW]; exact h3)
    | ct l1 => exact fun ρ' H' σ' h1 h2 h3 => q ρ' H' σ' h1 h2 (by rw [hW]; exact h3)
    | rt d1 => exact q
    | ex xn l1 =>
      intro ρ1 H1 σ1 C d hS1 e1 hl1 hx
      simp only at q
      cases hk1 : catch_ xn.c with
      | none => rw [hk1] at q; exact q.elim
      | some b =>
        rw [hk1] at q
        have hx1 : C = .ref (ca xn.c) := hx.1
        subst hx1
        refine ⟨b, hk xn.c b hk1, fun hb1 a' ha' => ?_, fun hb1 => ?_⟩
        · subst hb1
          simp only at q
          split at q
          · rename_i hlen
            refine ⟨xn, rfl, ρ1, φ, S1, l1.set i none, hS1, ⟨hl1.sl.unset i, fun z hz => ?_⟩, ?_⟩
            · cases hz
              exact ⟨List.getElem?_set_self (by rw [hl1.sl.len]; exact hlen), hx.2⟩
            · have q1 := q.mono e1
              unfold unsetS at q1
              cases hv : v xn (l1.set i none) S1 with
              | none => rw [hv] at q1; exact q1
              | some pr2 =>
                obtain ⟨f2, S2⟩ := pr2
                rw [hv] at q1
                cases f2 with
                | nx l2 => exact fun ρ' H' σ' h1 h2 h3 => q1 ρ' H' _ h1 h2 (by rw [hW]; exact slx_unset h3)
                | bk l2 => exact fun ρ' H' σ' h1 h2 h3 => q1 ρ' H' _ h1 h2 (by rw [hW]; exact slx_unset h3)
                | ct l2 => exact fun ρ' H' σ' h1 h2 h3 => q1 ρ' H' _ h1 h2 (by rw [hW]; exact slx_unset h3)
                | rt d2 => exact q1
                | ex x2 l2 => exact q1.elim
          · exact q.elim
        · subst hb1
          exact q ρ1 H1 σ1 _ d hS1 e1 (by rw [hW]; exact hl1) hx
/-- e.f of the error that the suite holds -/
theorem se_xf {aa : Addr} {oe : Obj} {cls : Value} {d : Option Addr} {pn : List (Addr × Obj)} {x f : Str} {i cc : Nat} {xn : Exn} {px : Pos} (T : XfC X.K (ca cc)) (hno : PySem.W.findIn X.K (.ref (ca cc)) f = some none) (hz : Zc cls d oe) (hf : ∃ vs, oe.data = .fields vs) (hcls : cls = .ref (ca xn.c))
    (hN : X.N[i]? = some x) (hv : Vis X.env.scope x) (hd : (x == ("__debug__" : Str)) = false) (hcd : (x == ("__classdict__" : Str)) = false) (hb : attributeBase (.Name x px) f X.env (eval (.Name x px) X.env) = eval (.Name x px) X.env) :
    SE ca (W0 (some ⟨i, aa, d, xn.fs⟩)) (X.suite aa ((aa, oe) :: pn)) (.Attribute (.Name x px) f pos) (eXF cc f xn) := by
  refine pe_imp (pe_xf (C := ca cc) (te := tVar i) T hno hz hf (pe_var (X := X.suite aa ((aa, oe) :: pn)) hN hv hd hcd) hb) fun σ H Q ⟨ρ, φ, S, l, hS, hl, q⟩ => ?_
  unfold eXF at q
  split at q
  · rename_i hc
    obtain ⟨g1, g2⟩ := hl.er _ rfl
    refine ⟨.ref aa, g1, rfl, by rw [hcls, hc], ?_⟩
    cases hfs : xn.fs with
    | none => rw [hfs] at q; exact q.elim
    | some gs =>
      rw [hfs] at q
      simp only [hfs] at g2
      obtain ⟨dd, hs, k1, k2, k3, k4, k5⟩ := g2
      simp only at q
      split at q
      · rename_i dv hdv
        obtain ⟨v, hv1, rv⟩ := k5.lookup hdv
        exact ⟨dd, hs, v, k1, k2, hv1, AtM.here q hS rv⟩
      · exact q.elim
  · exact q.elim
end
/-! ### a def -/
section
variable {P : Program} {w : World} {K : PySem.W.Frag} {mg : Str → Option Value} {base : Heap} {ca : Nat → Addr}
theorem fn_sound {x qual : Str} {st : Stmt} {f : Addr} {fd : FuncData} {N ps : List Str} {k : Nat} {body : MS} {np : Nat} (F : Fun K x qual st f fd) (S : FnScope N ps (defScope st)) (hnp : ps.length = np) (hnn : np ≤ N.length)
    (hb : ∀ (cdv : Value) (A : Around) (outer : List Env) (s : Shared) (H : Hp) (E : XK), Room k (A.deeper (envOfC qual (defScope st) s.heap.objs.size f cdv)) →
      Takes (cxOf (L2.CX P w) P w K mg base N qual (defScope st) f cdv A outer s H E) (fun C d _ H => E C d H) →
      SSs ca ⟨fun C d _ H => E C d H, none⟩ (cxOf (L2.CX P w) P w K mg base N qual (defScope st) f cdv A outer s H E) (defBody st) body) :
    FnOk P w K mg base (L2.CX P w) (k + 1) f fd ps (spM K ca (fnM N.length np body)) := by
  refine F.okX S (fun vs H Q E h => ?_) (fun cdv A outer s H vs Q E hr h => ⟨_, hb cdv A outer s H E hr (takes_of rfl rfl rfl rfl), ?_⟩)
  · obtain ⟨ρ, φ, S, ds, hS, rs, h⟩ := h
    unfold fnM at h
    split at h
    · rename_i hl; rw [rs.length, hl, hnp]
    · exact h.elim
  · obtain ⟨ρ, φ, S, ds, hS, rs, h⟩ := h
    unfold fnM at h
    split at h
    · rename_i hl
      refine ⟨ρ, φ, S, ds.map some ++ List.replicate (N.length - np) none, hS, SlX.of ?_, ?_⟩
      · have e : start N vs = vs.map some ++ List.replicate (N.length - np) none := by
          show vs.map some ++ List.replicate (N.length - vs.length) none = _
          rw [rs.length, hl]
        rw [e]
        exact SlR.start _ rs
      · cases hm : body (ds.map some ++ List.replicate (N.length - np) none) S with
        | none => rw [hm] at h; exact h.elim
        | some pr =>
          obtain ⟨fl, S1⟩ := pr
          rw [hm] at h
          cases fl with
          | nx l1 => exact fun ρ1 H1 σ1 h1 h2 h3 => h ρ1 H1 .non h1 h2 .non
          | rt d => exact h
          | ex xn l1 => exact fun ρ1 H1 σ1 C d h1 h2 h3 h4 => h ρ1 H1 C d h1 h2 h4
          | bk l1 => exact h.elim
          | ct l1 => exact h.elim
    · exact h.elim
end
end Sim

/-! Sim: short forms. -/
namespace Sim
open PySem PySem.Spec L2 PyProof.Rows
theorem bt_len : bootBuiltins "len" = some (.builtin "len") := by decide +kernel
theorem bt_list : bootBuiltins "list" = some (.type "list") := by decide +kernel
theorem bt_int : bootBuiltins "int" = some (.type "int") := by decide +kernel
theorem bt_bool : bootBuiltins "bool" = some (.type "bool") := by decide +kernel
theorem bt_str : bootBuiltins "str" = some (.type "str") := by decide +kernel
theorem bt_tuple : bootBuiltins "tuple" = some (.type "tuple") := by decide +kernel
theorem bt_sum : bootBuiltins "sum" = some (.builtin "sum") := by decide +kernel
theorem bt_max : bootBuiltins "max" = some (.builtin "max") := by decide +kernel
theorem bt_min : bootBuiltins "min" = some (.builtin "min") := by decide +kernel
/-- the built-in names that the text does not bind -/
structure Std (mg : Str → Option Value) : Prop where
  len : mg "len" = none
  list : mg "list" = none
  int : mg "int" = none
  bool : mg "bool" = none
  str : mg "str" = none
  tuple : mg "tuple" = none
  sum : mg "sum" = none
  max : mg "max" = none
  min : mg "min" = none
  isinstance : mg "isinstance" = none
  range : mg "range" = none
  enumerate : mg "enumerate" = none
  zip : mg "zip" = none
  sorted : mg "sorted" = none
  ValueError : mg "ValueError" = none
theorem hu65 {k : Nat} {A : Around} (r : Room k A) : A.units + 65 < cLine := by have := r.un; omega
theorem hu64 {k : Nat} {A : Around} (r : Room k A) : A.units + 64 < cLine := by have := r.un; omega
theorem hu1 {k : Nat} {A : Around} (r : Room k A) : A.units + 1 < cLine := by have := r.un; omega
theorem hu0 {k : Nat} {A : Around} (r : Room k A) : A.units < cLine := by have := r.un; omega
section
variable {X : Cx} {ca : Nat → Addr} {W : WW} {e a b c o : Expr} {es : List Expr} {ma mb mc mo : ME} {m : MA} {pos p apos : Pos}
theorem sv (i : Nat) {x : Str} (hN : X.N[i]? = some x := by rfl) (hv : Vis X.env.scope x := by first | exact Or.inl rfl | exact Or.inr (Or.inl rfl) | exact Or.inr (Or.inr rfl)) (hd : (x == ("__debug__" : Str)) = false := by decide)
    (hcd : (x == ("__classdict__" : Str)) = false := by decide) : SE ca W X (.Name x pos) (eVar i) := se_var hN hv hd hcd
theorem se_len (T : Std X.mg) (hg : Gl X "len") (ha : SA ca W X (e :: es) m) (Tc : CallT X e es pos) : SE ca W X (.Call (.Name "len" p) (e :: es) [] pos) (eA (a1 fLen) m) := se_cb call_lenA len_S T.len bt_len (by decide) (by decide) hg ha Tc
theorem se_list (T : Std X.mg) (hg : Gl X "list") (ha : SA ca W X (e :: es) m) (Tc : CallT X e es pos) : SE ca W X (.Call (.Name "list" p) (e :: es) [] pos) (eA (a1 fList) m) := se_ct call_listA list_S T.list bt_list (by decide) (by decide) hg ha Tc
theorem se_listR (T : Std X.mg) (hg : Gl X "list") (ha : SA ca W X (e :: es) m) (Tc : CallT X e es pos) : SE ca W X (.Call (.Name "list" p) (e :: es) [] pos) (eA (a1 fListR) m) := se_ct call_listA listR_S T.list bt_list (by decide) (by decide) hg ha Tc
theorem se_intC (T : Std X.mg) (hg : Gl X "int") (ha : SA ca W X (e :: es) m) (Tc : CallT X e es pos) : SE ca W X (.Call (.Name "int" p) (e :: es) [] pos) (eA (a1 fInt) m) := se_ct call_intA int_S T.int bt_int (by decide) (by decide) hg ha Tc
theorem se_sum (hc : X.calm = true) (T : Std X.mg) (hg : Gl X "sum") (ha : SA ca W X (e :: es) m) (Tc : CallT X e es pos) : SE ca W X (.Call (.Name "sum" p) (e :: es) [] pos) (eA (a1 fSum) m) := se_cb (cr_sum hc) sum_S T.sum bt_sum (by decide) (by decide) hg ha Tc
theorem se_max2 (hc : X.calm = true) (T : Std X.mg) (hg : Gl X "max") (ha : SA ca W X (e :: es) m) (Tc : CallT X e es pos) : SE ca W X (.Call (.Name "max" p) (e :: es) [] pos) (eA (a2 fMax2) m) := se_cb (call_max2A hc) max2_S T.max bt_max (by decide) (by decide) hg ha Tc
theorem se_min2 (hc : X.calm = true) (T : Std X.mg) (hg : Gl X "min") (ha : SA ca W X (e :: es) m) (Tc : CallT X e es pos) : SE ca W X (.Call (.Name "min" p) (e :: es) [] pos) (eA (a2 fMin2) m) := se_cb (call_min2A hc) min2_S T.min bt_min (by decide) (by decide) hg ha Tc
theorem se_isI {px p1 : Pos} (T : Std X.mg) (hg : Gl X "isinstance") (hgT : Gl X "int") (ha : SE ca W X a ma) (T1 : CallT X a [.Name "int" px] pos) (T2 : CallT X (.Name "int" px) [] pos) : SE ca W X (.Call (.Name "isinstance" p1) [a, .Name "int" px] [] pos) (e1 (fIsi "int") ma) :=
  se_isi (by decide) T.isinstance hg T.int hgT bt_int (by decide) (by decide) ha T1 T2
theorem se_isB {px p1 : Pos} (T : Std X.mg) (hg : Gl X "isinstance") (hgT : Gl X "bool") (ha : SE ca W X a ma) (T1 : CallT X a [.Name "bool" px] pos) (T2 : CallT X (.Name "bool" px) [] pos) : SE ca W X (.Call (.Name "isinstance" p1) [a, .Name "bool" px] [] pos) (e1 (fIsi "bool") ma) :=
  se_isi (by decide) T.isinstance hg T.bool hgT bt_bool (by decide) (by decide) ha T1 T2
theorem se_isL {px p1 : Pos} (T : Std X.mg) (hg : Gl X "isinstance") (hgT : Gl X "list") (ha : SE ca W X a ma) (T1 : CallT X a [.Name "list" px] pos) (T2 : CallT X (.Name "list" px) [] pos) : SE ca W X (.Call (.Name "isinstance" p1) [a, .Name "list" px] [] pos) (e1 (fIsi "list") ma) :=
  se_isi (by decide) T.isinstance hg T.list hgT bt_list (by decide) (by decide) ha T1 T2
theorem se_isS {px p1 : Pos} (T : Std X.mg) (hg : Gl X "isinstance") (hgT : Gl X "str") (ha : SE ca W X a ma) (T1 : CallT X a [.Name "str" px] pos) (T2 : CallT X (.Name "str" px) [] pos) : SE ca W X (.Call (.Name "isinstance" p1) [a, .Name "str" px] [] pos) (e1 (fIsi "str") ma) :=
  se_isi (by decide) T.isinstance hg T.str hgT bt_str (by decide) (by decide) ha T1 T2
theorem se_isT {px p1 : Pos} (T : Std X.mg) (hg : Gl X "isinstance") (hgT : Gl X "tuple") (ha : SE ca W X a ma) (T1 : CallT X a [.Name "tuple" px] pos) (T2 : CallT X (.Name "tuple" px) [] pos) : SE ca W X (.Call (.Name "isinstance" p1) [a, .Name "tuple" px] [] pos) (e1 (fIsi "tuple") ma) :=
  se_isi (by decide) T.isinstance hg T.tuple hgT bt_tuple (by decide) (by decide) ha T1 T2
/-! ### operators -/
theorem se_add (ha : SE ca W X a ma) (hb : SE ca W X b mb) : SE ca W X (.BinOp a .Add b pos) (e2 fAdd ma mb) := se_bin op_addA add_S ha hb
theorem se_sub (ha : SE ca W X a ma) (hb : SE ca W X b mb) : SE ca W X (.BinOp a .Sub b pos) (e2 fSub ma mb) := se_bin op_sub sub_S ha hb
theorem se_mul (ha : SE ca W X a ma) (hb : SE ca W X b mb) : SE ca W X (.BinOp a .Mult b pos) (e2 fMul ma mb) := se_bin op_mulA mul_S ha hb
theorem se_div (ha : SE ca W X a ma) (hb : SE ca W X b mb) : SE ca W X (.BinOp a .FloorDiv b pos) (e2 fDiv ma mb) := se_bin op_fdivW div_S ha hb
theorem se_mod (ha : SE ca W X a ma) (hb : SE ca W X b mb) : SE ca W X (.BinOp a .Mod b pos) (e2 fMod ma mb) := se_bin op_mod mod_S ha hb
theorem se_pow (ha : SE ca W X a ma) (hb : SE ca W X b mb) : SE ca W X (.BinOp a .Pow b pos) (e2 fPow ma mb) := se_bin op_pow pow_S ha hb
theorem se_lt (hu : X.A.units < cLine) (ha : SE ca W X a ma) (hb : SE ca W X b mb) : SE ca W X (.Compare a [.Lt] [b] pos) (e2 fLt ma mb) := se_cmp (op_ltA hu) lt_S ha hb (nomark _)
theorem se_le (ha : SE ca W X a ma) (hb : SE ca W X b mb) : SE ca W X (.Compare a [.LtE] [b] pos) (e2 fLe ma mb) := se_cmp op_le cmpI_S ha hb (nomark _)
theorem se_gt (ha : SE ca W X a ma) (hb : SE ca W X b mb) : SE ca W X (.Compare a [.Gt] [b] pos) (e2 fGt ma mb) := se_cmp op_gt cmpI_S ha hb (nomark _)
theorem se_ge (ha : SE ca W X a ma) (hb : SE ca W X b mb) : SE ca W X (.Compare a [.GtE] [b] pos) (e2 fGe ma mb) := se_cmp op_ge cmpI_S ha hb (nomark _)
theorem se_eq (hu : X.A.units + 64 < cLine) (ha : SE ca W X a ma) (hb : SE ca W X b mb) : SE ca W X (.Compare a [.Eq] [b] pos) (e2 fEq ma mb) := se_cmp (op_eqD hu) eq_S ha hb (nomark _)
theorem se_ne (hu : X.A.units + 64 < cLine) (ha : SE ca W X a ma) (hb : SE ca W X b mb) : SE ca W X (.Compare a [.NotEq] [b] pos) (e2 fNe ma mb) := se_cmp (op_neD hu) ne_S ha hb (nomark _)
theorem se_is (ha : SE ca W X a ma) (hb : SE ca W X b mb) : SE ca W X (.Compare a [.Is] [b] pos) (e2 fIs ma mb) := se_cmp (r := rIsNo) op_isN is_S ha hb (nomark _)
theorem se_isNot (ha : SE ca W X a ma) (hb : SE ca W X b mb) : SE ca W X (.Compare a [.IsNot] [b] pos) (e2 fIsNot ma mb) := se_cmp (r := rIsNotNo) op_notN isNot_S ha hb (nomark _)
theorem st_lt (hu : X.A.units < cLine) (ha : SE ca W X a ma) (hb : SE ca W X b mb) : ST ca W X (.Compare a [.Lt] [b] pos) (tOf (e2 fLt ma mb)) := st_cmp (op_ltA hu) lt_S ha hb (nomark _)
theorem st_le (ha : SE ca W X a ma) (hb : SE ca W X b mb) : ST ca W X (.Compare a [.LtE] [b] pos) (tOf (e2 fLe ma mb)) := st_cmp op_le cmpI_S ha hb (nomark _)
theorem st_gt (ha : SE ca W X a ma) (hb : SE ca W X b mb) : ST ca W X (.Compare a [.Gt] [b] pos) (tOf (e2 fGt ma mb)) := st_cmp op_gt cmpI_S ha hb (nomark _)
theorem st_ge (ha : SE ca W X a ma) (hb : SE ca W X b mb) : ST ca W X (.Compare a [.GtE] [b] pos) (tOf (e2 fGe ma mb)) := st_cmp op_ge cmpI_S ha hb (nomark _)
theorem st_eq (hu : X.A.units + 64 < cLine) (ha : SE ca W X a ma) (hb : SE ca W X b mb) : ST ca W X (.Compare a [.Eq] [b] pos) (tOf (e2 fEq ma mb)) := st_cmp (op_eqD hu) eq_S ha hb (nomark _)
theorem st_ne (hu : X.A.units + 64 < cLine) (ha : SE ca W X a ma) (hb : SE ca W X b mb) : ST ca W X (.Compare a [.NotEq] [b] pos) (tOf (e2 fNe ma mb)) := st_cmp (op_neD hu) ne_S ha hb (nomark _)
theorem st_is (ha : SE ca W X a ma) (hb : SE ca W X b mb) : ST ca W X (.Compare a [.Is] [b] pos) (tOf (e2 fIs ma mb)) := st_cmp (r := rIsNo) op_isN is_S ha hb (nomark _)
theorem st_isNot (ha : SE ca W X a ma) (hb : SE ca W X b mb) : ST ca W X (.Compare a [.IsNot] [b] pos) (tOf (e2 fIsNot ma mb)) := st_cmp (r := rIsNotNo) op_notN isNot_S ha hb (nomark _)
theorem se_lele (ha : SE ca W X a ma) (hb : SE ca W X b mb) (hc : SE ca W X c mc) (hm : lastMarks [.LtE, .LtE] [b, c] = false) : SE ca W X (.Compare a [.LtE, .LtE] [b, c] pos) (eChain fLe fLe ma mb mc) := se_chain op_le op_le cmpI_S cmpI_S ha hb hc hm
theorem st_lele (ha : SE ca W X a ma) (hb : SE ca W X b mb) (hc : SE ca W X c mc) (hm : lastMarks [.LtE, .LtE] [b, c] = false) : ST ca W X (.Compare a [.LtE, .LtE] [b, c] pos) (tOf (eChain fLe fLe ma mb mc)) := st_chain op_le op_le cmpI_S cmpI_S ha hb hc hm
theorem se_ltle (hu : X.A.units < cLine) (ha : SE ca W X a ma) (hb : SE ca W X b mb) (hc : SE ca W X c mc) (hm : lastMarks [.Lt, .LtE] [b, c] = false) : SE ca W X (.Compare a [.Lt, .LtE] [b, c] pos) (eChain fLt fLe ma mb mc) := se_chain (op_ltA hu) op_le lt_S cmpI_S ha hb hc hm
theorem st_ltle (hu : X.A.units < cLine) (ha : SE ca W X a ma) (hb : SE ca W X b mb) (hc : SE ca W X c mc) (hm : lastMarks [.Lt, .LtE] [b, c] = false) : ST ca W X (.Compare a [.Lt, .LtE] [b, c] pos) (tOf (eChain fLt fLe ma mb mc)) := st_chain (op_ltA hu) op_le lt_S cmpI_S ha hb hc hm
theorem se_ltlt (hu : X.A.units < cLine) (ha : SE ca W X a ma) (hb : SE ca W X b mb) (hc : SE ca W X c mc) (hm : lastMarks [.Lt, .Lt] [b, c] = false) : SE ca W X (.Compare a [.Lt, .Lt] [b, c] pos) (eChain fLt fLt ma mb mc) := se_chain (op_ltA hu) (op_ltA hu) lt_S lt_S ha hb hc hm
end
/-! ### what the top has left, def by def -/
/-- a def at a module's name -/
def DefF (K : PySem.W.Frag) (mg : Str → Option Value) (x : Str) (st : Stmt) (ps : List Str) : Prop := ∃ (f : Addr) (fd : FuncData), Fun K x x st f fd ∧ mg x = some (.ref f) ∧ Binds K fd ps []
/-- a method -/
def MetF (K : PySem.W.Frag) (C : Addr) (m qual : Str) (st : Stmt) (ps : List Str) : Prop := ∃ (f : Addr) (fd : FuncData), Fun K m qual st f fd ∧ Meth K C m f ∧ Binds K fd ps []
/-- an __init__ -/
def MakF (K : PySem.W.Frag) (mg : Str → Option Value) (C : Addr) (x qual : Str) (st : Stmt) (ps : List Str) : Prop := ∃ (f : Addr) (fd : FuncData), Fun K "__init__" qual st f fd ∧ Mk K C f ∧ mg x = some (.ref C) ∧ Binds K fd ps []
section
variable {P : Program} {w : World} {K : PySem.W.Frag} {mg : Str → Option Value} {base : Heap} {ca : Nat → Addr}
abbrev cxF (P : Program) (w : World) (K : PySem.W.Frag) (mg : Str → Option Value) (base : Heap) (N : List Str) (qual : Str) (st : Stmt) (f : Addr) (cdv : Value) (A : Around) (outer : List Env) (s : Shared) (H : Hp) (E : XK) : Cx :=
  cxOf (L2.CX P w) P w K mg base N qual (defScope st) f cdv A outer s H E
def BodyOk (P : Program) (w : World) (K : PySem.W.Frag) (mg : Str → Option Value) (base : Heap) (ca : Nat → Addr) (N : List Str) (qual : Str) (st : Stmt) (k : Nat) (body : MS) : Prop :=
  ∀ (f : Addr) (cdv : Value) (A : Around) (outer : List Env) (s : Shared) (H : Hp) (E : XK), Room k (A.deeper (envOfC qual (defScope st) s.heap.objs.size f cdv)) →
      Takes (cxF P w K mg base N qual st f cdv A outer s H E) (fun C d _ H => E C d H) →
      SSs ca ⟨fun C d _ H => E C d H, none⟩ (cxF P w K mg base N qual st f cdv A outer s H E) (defBody st) body
theorem fn_def {x : Str} {st : Stmt} {N ps : List Str} {k : Nat} {body : MS} {np : Nat} (T : DefF K mg x st ps) (S : FnScope N ps (defScope st)) (hnp : ps.length = np) (hnn : np ≤ N.length) (hb : BodyOk P w K mg base ca N x st k body) : FnS P w K mg base ca (k + 1) x (fnM N.length np body) := by
  obtain ⟨f, fd, F, hm, b⟩ := T
  exact ⟨⟨f, fd, ps, fn_sound F S hnp hnn (hb f), hm, F.kp, b⟩⟩
theorem fn_met {m qual : Str} {c : Nat} {st : Stmt} {N ps : List Str} {k : Nat} {body : MS} {np : Nat} (cl : Cls K (ca c)) (T : MetF K (ca c) m qual st ps) (S : FnScope N ps (defScope st)) (hnp : ps.length = np) (hnn : np ≤ N.length) (hb : BodyOk P w K mg base ca N qual st k body) : MeS P w K mg base ca (k + 1) c m (fnM N.length np body) := by
  obtain ⟨f, fd, F, hm, b⟩ := T
  exact ⟨cl, ⟨f, fd, ps, fn_sound F S hnp hnn (hb f), hm, b⟩⟩
theorem fn_mak {x qual : Str} {c : Nat} {st : Stmt} {N ps : List Str} {k : Nat} {body : MS} {np : Nat} (T : MakF K mg (ca c) x qual st ps) (S : FnScope N ps (defScope st)) (hnp : ps.length = np) (hnn : np ≤ N.length) (hb : BodyOk P w K mg base ca N qual st k body) : MkS P w K mg base ca (k + 1) c x (fnM N.length np body) := by
  obtain ⟨f, fd, F, hm, hg, b⟩ := T
  exact ⟨⟨f, fd, ps, fn_sound F S hnp hnn (hb f), hm, hg, b⟩⟩
end
end Sim

/-! Sim: the end. -/
namespace Sim
open PySem PySem.Spec L2 PyProof.Rows
section
variable {K : PySem.W.Frag} {h : Heap} {mg : Str → Option Value} {f C : Addr} {x qual : Str} {st : Stmt} {ps : List Str} {oc kV doc pm cd ct : Value} {od an : Option Addr} {sl : Array (Option Value)}
/-- the arguments bind -/
def BindOk (x qual : Str) (st : Stmt) (ps : List Str) : Prop := ∀ (kV doc pm : Value) (an : Option Addr) (cdv ct : Value) (us : List Value), us.length = ps.length → bindArgs (PySem.W.fnOf x qual (defArgs st) (defBody st) (defScope st) .none kV doc pm an cdv ct) ⟨us, []⟩ = pure (ps.zip us)
theorem defF_of (X : K.In h) (G : h.Ns mainGlobals mg) (a : PySem.W.nsIn K mainGlobals x = some (some (.ref f))) (l : K.lookup f = some ⟨oc, od, .func (PySem.W.fnOf x x (defArgs st) (defBody st) (defScope st) .none kV doc pm an cd ct), sl⟩)
    (c : PySem.W.codeIn K cd x = true) (k : PySem.W.keepIn K (.ref f) = true) (hb : BindOk x x st ps) : DefF K mg x st ps := ⟨f, _, fun_mk l c k, PySem.W.mg_of X G a, (fun_mk l c k).binds hb⟩
theorem metF_of (a : PySem.W.findIn K (.ref C) x = some (some (.ref f))) (i : PySem.W.isFn K (.ref f) = true) (l : K.lookup f = some ⟨oc, od, .func (PySem.W.fnOf x qual (defArgs st) (defBody st) (defScope st) .none kV doc pm an cd ct), sl⟩)
    (c : PySem.W.codeIn K cd qual = true) (k : PySem.W.keepIn K (.ref f) = true) (hb : BindOk x qual st ps) : MetF K C x qual st ps := ⟨f, _, fun_mk l c k, ⟨a, i, k⟩, (fun_mk l c k).binds hb⟩
theorem makF_of (X : K.In h) (G : h.Ns mainGlobals mg) (g : PySem.W.nsIn K mainGlobals x = some (some (.ref C))) (mk : PySem.W.makesIn K C = true) (kc : PySem.W.keepIn K (.ref C) = true) (a : PySem.W.findIn K (.ref C) "__init__" = some (some (.ref f))) (i : PySem.W.isFn K (.ref f) = true)
    (l : K.lookup f = some ⟨oc, od, .func (PySem.W.fnOf "__init__" qual (defArgs st) (defBody st) (defScope st) .none kV doc pm an cd ct), sl⟩) (c : PySem.W.codeIn K cd qual = true) (k : PySem.W.keepIn K (.ref f) = true) (hb : BindOk "__init__" qual st ps) : MakF K mg C x qual st ps :=
  ⟨f, _, fun_mk l c k, ⟨mk, a, i, kc⟩, PySem.W.mg_of X G g, (fun_mk l c k).binds hb⟩
end
/-- the law's promise -/
def spLaw (K : PySem.W.Frag) : Sp := fun vs H Q _ => ∃ (a : Addr) (ns : List Int), vs = [.ref a] ∧ SqL K H a (ns.map V.int) ∧ ns.length ≤ 63 ∧ ∀ H', Q (.bl true) H'
/-- the law, run on plain data, is true -/
def LawTrue (g : List D → M D) : Prop := ∀ ns : List Int, ns.length ≤ 63 → ∃ S', g [.scr ns] [] = some (.ok (.bl true), S')
theorem law_sp {K : PySem.W.Frag} {ca : Nat → Addr} {g : List D → M D} (hg : LawTrue g) (vs : List V) (H : Hp) (Q : VK) (E : XK) (h : spLaw K vs H Q E) : spM K ca g vs H Q E := by
  obtain ⟨a, ns, rfl, hS, hl, q⟩ := h
  obtain ⟨S', e⟩ := hg ns hl
  refine ⟨[], [], [], [.scr ns], ⟨List.nodup_nil, rfl, (fun _ z => nomatch z), (fun _ z => nomatch z), (fun n a c z _ => by simp at z)⟩, .cons (.scr ?_) .nil, ?_⟩
  · rcases hS with hS | hS
    · exact .inl ⟨hS, by simp, by simp⟩
    · exact .inr fun H' => .inr hS
  · rw [e]
    intro ρ' H' b _ _ rb
    cases rb
    exact q H'
theorem law_fn {P : Program} {w : World} {K : PySem.W.Frag} {mg : Str → Option Value} {base : Heap} {ca : Nat → Addr} {k : Nat} {x : Str} {g : List D → M D} {fa : Addr} (hg : LawTrue g) (F : FnS P w K mg base ca k x g) (hm : mg x = some (.ref fa)) :
    ∃ (fd : FuncData) (ps : List Str), FnOk P w K mg base (L2.CX P w) k fa fd ps (spLaw K) := by
  obtain ⟨f, fd, ps, F1, h1, _, _⟩ := F.ex
  have e : fa = f := by
    have := hm.symm.trans h1
    cases this
    rfl
  subst e
  exact ⟨fd, ps, F1.imp fun vs H Q E h => law_sp hg vs H Q E h⟩
theorem cx_false {P : Program} {w : World} {H : Hp} {s : Shared} {e : Value} {s' : Shared} (h : L2.CX P w [] H s (fun _ _ _ => False) e s') : False := by
  obtain ⟨_, _, _, _, _, _, _, _, _, _, _, _, z⟩ := h
  exact z
/-- addresses by codes -/
def caL (l : List (Nat × Addr)) (n : Nat) : Addr := ((l.find? fun p => p.1 == n).map (·.2)).getD 0
end Sim

namespace Sim
open PySem PySem.Spec L2
section
variable {ca : Nat → Addr} {X : Cx} {pos : Pos}
theorem bt_isinstance : bootBuiltins "isinstance" = some (.builtin "isinstance") := by decide +kernel
theorem bt_ValueError : bootBuiltins "ValueError" = some (.type "ValueError") := by decide +kernel
/-- isinstance(e, C), e the error that the suite holds, one without fields -/
theorem se_isE {aa : Addr} {oe : Obj} {cls : Value} {d : Option Addr} {pn : List (Addr × Obj)} {n : Str} {i : Nat} {xn : Exn} {tab : Nat → Option Bool} {v : V} {cv : Value} {te : Expr} {p1 px : Pos} (hz : Zc cls d oe) (hf : ∃ vs, oe.data = .fields vs) (hcls : cls = .ref (ca xn.c))
    (hX : ∀ c b, tab c = some b → ExcC X.K (ca c) ∧ PySem.W.kitOne X.K (.ref (ca c)) cv = some b) (hC : PE (X.suite aa ((aa, oe) :: pn)) te (tC v)) (hcv : ∀ u, RelV v u → u = cv)
    (hN : X.N[i]? = some n) (hv : Vis X.env.scope n) (hd : (n == ("__debug__" : Str)) = false) (hcd : (n == ("__classdict__" : Str)) = false) (hm : X.mg "isinstance" = none) (hg : Gl X "isinstance")
    (T1 : CallT X (.Name n px) [te] pos) (T2 : CallT X te [] pos) :
    SE ca (W0 (some ⟨i, aa, d, xn.fs⟩)) (X.suite aa ((aa, oe) :: pn)) (.Call (.Name "isinstance" p1) [.Name n px, te] [] pos) (eIsE tab xn) := by
  have bad : ∀ {σ H Q}, Tm X.K ca (W0 (some ⟨i, aa, d, xn.fs⟩)) (Rel X.K) (eIsE tab xn) σ H Q → d = none ∧ ∃ b, tab xn.c = some b := fun ⟨ρ, φ, S, l, hS, hl, q⟩ => by
    obtain ⟨g1, g2⟩ := hl.er _ rfl
    unfold eIsE at q
    cases hfs : xn.fs with
    | some gs => rw [hfs] at q; exact q.elim
    | none =>
      rw [hfs] at q
      simp only [hfs] at g2
      refine ⟨g2, ?_⟩
      cases ht : tab xn.c with
      | none => rw [ht] at q; exact q.elim
      | some b => exact ⟨b, rfl⟩
  by_cases hdn : d = none
  · cases ht : tab xn.c with
    | none => exact ⟨fun pins s σ H Q I h => by obtain ⟨_, b, e⟩ := bad h; rw [ht] at e; cases e⟩
    | some b =>
      subst hdn
      subst hcls
      obtain ⟨hE, hK⟩ := hX _ _ ht
      have hp : PA (X.suite aa ((aa, oe) :: pn)) [.Name n px, te] (tCons (tVar i) (tCons (tC v) tNil)) := pa_cons (pe_var (X := X.suite aa ((aa, oe) :: pn)) hN hv hd hcd) (pa_cons hC pa_nil T2.he) T1.he
      refine pe_imp (pe_callB (call_isE hE hz hf) hg hm bt_isinstance hp (by decide) (by decide) T1.he T1.hpl) fun σ H Q ⟨ρ, φ, S, l, hS, hl, q⟩ => ?_
      obtain ⟨g1, g2⟩ := hl.er _ rfl
      refine ⟨.ref aa, g1, ?_⟩
      refine ⟨v, cv, b, rfl, hcv, hK, ?_⟩
      unfold eIsE at q
      cases hfs : xn.fs with
      | some gs => rw [hfs] at q; exact q.elim
      | none =>
        rw [hfs, ht] at q
        exact AtM.here q hS (.bl _)
  · exact ⟨fun pins s σ H Q I h => absurd (bad h).1 hdn⟩
theorem kit_self {K : PySem.W.Frag} (t : Value) : PySem.W.kitOne K t t = some true := by
  unfold PySem.W.kitOne
  rw [if_pos (beq_iff_eq.mpr rfl)]
theorem kit_ref {K : PySem.W.Frag} {D C : Addr} {b : Bool} (hd : PySem.W.hasDictIn K C = true) (ht : PySem.W.typeIn K (.ref C) = some (.type "type")) (hs : PySem.W.subIn K (.ref D) (.ref C) = some b) (hn : b = true ∨ D ≠ C) : PySem.W.kitOne K (.ref D) (.ref C) = some b := by
  unfold PySem.W.kitOne
  by_cases e : (Value.ref D == Value.ref C) = true
  · rw [if_pos e]
    rcases hn with h | h
    · rw [h]
    · exact absurd (Value.ref.inj (beq_iff_eq.mp e)) h
  · rw [if_neg e]
    obtain ⟨cd, hc, _⟩ := PySem.W.any_some hd
    have e2 : ((PySem.W.clsIn K C).isSome && PySem.W.typeIn K (.ref C) == some (.type "type")) = true := by rw [hc, ht] <;> rfl
    show (if ((PySem.W.clsIn K C).isSome && PySem.W.typeIn K (.ref C) == some (.type "type")) = true then PySem.W.subIn K (.ref D) (.ref C) else none) = some b
    rw [if_pos e2]
    exact hs
theorem kit_VE {K : PySem.W.Frag} {D : Addr} {b : Bool} (hs : PySem.W.subIn K (.ref D) (.type "ValueError") = some b) : PySem.W.kitOne K (.ref D) (.type "ValueError") = some b := by
  unfold PySem.W.kitOne
  rw [if_neg (fun e => by have := beq_iff_eq.mp e; cases this)]
  show (if PySem.W.kitMeta "ValueError" = true then PySem.W.subIn K (.ref D) (.type "ValueError") else none) = some b
  rw [if_pos (by decide +kernel)]
  exact hs
end
/-! ### sep.join(a list of texts) -/
def strsOf : List D → Option (List Str)
  | [] => some []
  | .str z :: r => (strsOf r).map (z :: ·)
  | _ :: _ => none
def fJoin (a x : D) : M D := fun S => match a with
  | .str z => match listOf x S with
    | some ds => match strsOf ds with
      | some ys => if (ys.map (·.length)).sum + ys.length * z.length ≤ 16777216 then some (.ok (.str (Txt.join z ys)), S) else none
      | none => none
    | none => none
  | _ => none
def rJoin (K : PySem.W.Frag) : V → List V → Hp → VK → Prop := fun x xs H Q => ∃ a p, ∃ ys : List Str, x = .str a ∧ xs = [.ref p] ∧ (SqL K H p (ys.map V.str) ∨ SqT K H p (ys.map V.str)) ∧ (ys.map (·.length)).sum + ys.length * a.length ≤ 16777216 ∧ Q (.str (Txt.join a ys)) H
theorem strs_rel {K : PySem.W.Frag} {ρ φ : List Addr} {H : Hp} : ∀ {vs : List V} {ds : List D} {ys : List Str}, Rels K ρ φ H vs ds → strsOf ds = some ys → vs = ys.map V.str
  | _, _, _, .nil, h => by cases h; rfl
  | _, _, _, .cons r rs, h => by
    cases r <;> first | (cases h; done) | skip
    unfold strsOf at h
    rename_i ds z
    cases e : strsOf ds with
    | none => rw [e] at h; cases h
    | some ms => rw [e] at h; cases h; rw [strs_rel rs e]; rfl
section
variable {ca : Nat → Addr} {X : Cx} {W : WW} {o e : Expr} {mo : ME} {m : MA} {apos pos : Pos}
theorem join_S : MthS X.K ca (rJoin X.K) (m1 fJoin) := by
  intro W ρ φ S H σ x a xs ds Q hS rx rs h
  unfold m1 at h
  split at h
  · rename_i y
    cases rs with
    | cons ry rn =>
      cases rn
      unfold fJoin at h
      split at h
      · split at h
        · rename_i es hes
          split at h
          · rename_i ys hys
            split at h
            · rename_i hz
              obtain ⟨p, vs, rfl, q, r⟩ := list_rel hS ry hes
              have e := strs_rel r hys
              subst e
              cases rx
              exact ⟨_, p, ys, rfl, rfl, .inl q, hz, AtM.here h hS (.str _)⟩
            · exact h.elim
          · exact h.elim
        · exact h.elim
      · exact h.elim
  · exact h.elim
theorem se_join (ho : SE ca W X o mo) (ha : SA ca W X [e] m) (T : MethT X o "join" [e] apos pos) (R : StarT X e [] pos) : SE ca W X (.Call (.Attribute o "join" apos) [e] [] pos) (eBM isS (m1 fJoin) mo m) :=
  pe_imp (pe_bm PySem.F.plainAttrs_str PySem.F.slot_str_join PySem.F.type_str_join mt_join ho ha T.base T.few T.line R.hs R.hp) fun σ H Q h => bm_run join_S isS_ty h
end
end Sim

/-! Sim: min of three and four, sorted and list of a dict, two names at once. -/
namespace PySem.W
open PySem PySem.Calls PyProof.Rows
section
variable {prog : Program} {w : World} {A : Around} {E : Value → Shared → Prop} {s : Shared}
theorem args_min4S (a b c d : Value) : argsOk "min" ⟨[a, b, c, d], []⟩ := by unfold argsOk; kernel_rfl
theorem call_min_fourS {a b c d : Value} {Q : Value → Shared → Prop}
    (h : wpAny (model prog w) A.in1 (pyIter (.ref s.heap.objs.size)) (fun it s₂ => ∃ I fp wr n P St bt, it = .ref I ∧ Walks prog w A.in1 I fp wr n P St ∧ St 0 s₂.heap ∧ (∀ b ∈ fp, b < s₂.heap.objs.size) ∧ 0 < n ∧ CmpOf prog w A.in1 .Lt P bt ∧
      ∀ v h' tk, P (argBest bt (n - 1)) v → (∀ b o, b ∉ wr → s₂.heap.get? b = some o → h'.get? b = some o) → Q v { s₂ with heap := h', toks := tk }) E
      { s with heap := s.heap.push { cls := .type "tuple", data := .seq #[a, b, c, d] } }) :
    wpAny (model prog w) A (call (.builtin "min") [a, b, c, d]) Q E s := by
  have hname : (toString "min" ++ toString ".loop" : String) = "min.loop" := by decide
  refine call_function_tree F.kind_min F.plain_min F.entry_min (args_min4S _ _ _ _) ?_
  show wpAny _ A.in1 (Builtin.Builtins.bindParams "min" ["key", "default"] 0 ⟨[], []⟩ >>= _) _ _ s
  refine wpAny_bind (wpAny_of_eq (show Builtin.Builtins.bindParams "min" ["key", "default"] 0 ⟨[], []⟩ = pure [none, none] from rfl) ?_)
  show wpAny _ A.in1 (newTuple [a, b, c, d] >>= _) _ _ s
  refine wpAny_bind (wpAny_newObj_type ?_)
  refine wpAny_bind (wpAny_mono h (fun it s₂ h₂ => ?_) fun _ _ e => e)
  obtain ⟨I, fp, wr, n, P, St, bt, rfl, W, hst, hfp, hn, hcmp, hQ⟩ := h₂
  refine wpAny_bind (wpAny_newObj_type ?_)
  have hSf : s₂.heap.objs.size ∉ fp := fun hm => Nat.lt_irrefl _ (hfp _ hm)
  rw [hname]
  refine wpAny_pure ⟨plainId_quiet F.plain_min_loop _, codeAny_min_loop_first W bt hcmp s₂.heap.objs.size hSf hn (W.frame _ _ _ hst fun b _ o e => Heap.get?_push_of_some _ e) (Heap.get?_push_size _ rfl) fun v h' tk hP hk => ?_⟩
  exact hQ v h' tk hP fun b o hbw e => hk b o hbw (Nat.ne_of_lt (Heap.lt_size e)) (Heap.get?_push_of_some _ e)
def pickS (a b : Value) : Value := if Flt.ltV b a = true then b else a
/-- min of four numbers -/
theorem min4_numS {Q : Value → Shared → Prop} {a b c e : Value} (hh : A.handled = none) (ha : Flt.NumV a) (hb : Flt.NumV b) (hc : Flt.NumV c) (he : Flt.NumV e)
    (h : ∀ h' tk, (∀ d o, s.heap.get? d = some o → h'.get? d = some o) → Q (pickS (pickS (pickS a b) c) e) { s with heap := h', toks := tk }) :
    wpAny (model prog w) A (call (.builtin "min") [a, b, c, e]) Q E s := by
  have hT : (s.heap.push { cls := .type "tuple", data := .seq #[a, b, c, e] }).IsTuple s.heap.objs.size #[a, b, c, e] := ⟨_, Heap.get?_push_size _ rfl, rfl, 0, rfl⟩
  refine call_min_fourS (wpAny_pyIter_tuple hT ?_)
  have hsz : (s.heap.push { cls := .type "tuple", data := .seq #[a, b, c, e] }).objs.size = s.heap.objs.size + 1 := Heap.size_push ..
  refine ⟨_, [_, s.heap.objs.size], [_], _, _, _, _, rfl, Walks.tuple (A := A.in1) hh _ s.heap.objs.size (by rw [hsz]; exact Nat.ne_of_lt (Nat.lt_succ_self _)) #[a, b, c, e],
    ⟨⟨_, Heap.get?_push_size _ rfl, rfl, rfl⟩, hT.push _⟩, fun d hd => ?_, by simp, Flt.cmpOf_lt #[a, b, c, e] (by simp [ha, hb, hc, he]), fun v h' tk hP hk => ?_⟩
  · show d < ((s.heap.push _).push _).objs.size
    rw [Heap.size_push, hsz]
    rcases List.mem_cons.mp hd with rfl | hd
    · rw [hsz]; exact Nat.lt_succ_self _
    · rcases List.mem_cons.mp hd with rfl | hd
      · exact Nat.lt_succ_of_lt (Nat.lt_succ_self _)
      · cases hd
  · have hold : ∀ d o, s.heap.get? d = some o → h'.get? d = some o := fun d o e => by
      refine hk d o (fun hm => ?_) (Heap.get?_push_of_some _ (Heap.get?_push_of_some _ e))
      rcases List.mem_cons.mp hm with e1 | hm
      · have := Heap.lt_size e; rw [e1, hsz] at this; exact Nat.lt_irrefl _ (Nat.lt_of_succ_lt this)
      · cases hm
    have := h h' tk hold
    have hv : pickS (pickS (pickS a b) c) e = v := by
      unfold pickS
      cases h1 : Flt.ltV b a
      · cases h2 : Flt.ltV c a
        · cases h3 : Flt.ltV e a <;> simp [argBest, h1, h2, h3] at hP <;> simp [h2, h3] <;> exact hP
        · cases h3 : Flt.ltV e c <;> simp [argBest, h1, h2, h3] at hP <;> simp [h2, h3] <;> exact hP
      · cases h2 : Flt.ltV c b
        · cases h3 : Flt.ltV e b <;> simp [argBest, h1, h2, h3] at hP <;> simp [h2, h3] <;> exact hP
        · cases h3 : Flt.ltV e c <;> simp [argBest, h1, h2, h3] at hP <;> simp [h2, h3] <;> exact hP
    rw [hv] at this
    exact this
end
end PySem.W
namespace Sim
open PySem PySem.Spec L2 PyProof.Rows
def minI (i j : Int) : Int := if j < i then j else i
def fMinN (n : Nat) (ds : List D) : M D := fun S => match intsOf ds with
  | some (i :: r) => if r.length + 1 = n then some (.ok (.int (r.foldl minI i)), S) else none
  | _ => none
/-- ints put in order -/
def insI (x : Int) : List Int → List Int
  | [] => [x]
  | y :: r => if x ≤ y then x :: y :: r else y :: insI x r
def srtI : List Int → List Int
  | [] => []
  | x :: r => insI x (srtI r)
def keyD : Key → D
  | .inl i => .int i
  | .inr s => .str s
def keysI (kvs : List (Key × D)) : Option (List Int) := intsOf (kvs.map fun kv => keyD kv.1)
def fSortedD (a : D) : M D := fun S => match dctOf a S with
  | some kvs => match keysI kvs with
    | some ks => if ks.length ≤ lineN then some (.ok (.fl ((srtI ks).map D.int)), S) else none
    | none => none
  | none => none
def fListD (a : D) : M D := fun S => match dctOf a S with
  | some kvs => some (.ok (.fl (kvs.map fun kv => keyD kv.1)), S)
  | none => none
def sPar (i j : Nat) (a b : ME) : MS := fun l S => bndS l (a l S) fun x S1 => bndS l (b l S1) fun y S2 => some (.nx ((l.set i (some x)).set j (some y)), S2)
theorem insI_perm (x : Int) : ∀ l : List Int, (insI x l).Perm (x :: l)
  | [] => List.Perm.refl _
  | y :: r => by
    unfold insI
    split
    · exact List.Perm.refl _
    · exact ((insI_perm x r).cons y).trans (List.Perm.swap x y r)
theorem srtI_perm : ∀ l : List Int, (srtI l).Perm l
  | [] => List.Perm.refl _
  | x :: r => (insI_perm x (srtI r)).trans ((srtI_perm r).cons x)
theorem insI_sorted (x : Int) : ∀ l : List Int, l.Pairwise (· ≤ ·) → (insI x l).Pairwise (· ≤ ·)
  | [], _ => by unfold insI; simp
  | y :: r, h => by
    unfold insI
    obtain ⟨h1, h2⟩ := List.pairwise_cons.mp h
    split
    · rename_i c
      refine List.pairwise_cons.mpr ⟨fun z hz => ?_, h⟩
      rcases List.mem_cons.mp hz with e | hz
      · omega
      · have := h1 z hz; omega
    · rename_i c
      refine List.pairwise_cons.mpr ⟨fun z hz => ?_, insI_sorted x r h2⟩
      rcases List.mem_cons.mp ((insI_perm x r).mem_iff.mp hz) with e | hz
      · omega
      · exact h1 z hz
theorem srtI_sorted : ∀ l : List Int, (srtI l).Pairwise (· ≤ ·)
  | [] => List.Pairwise.nil
  | x :: r => insI_sorted x _ (srtI_sorted r)
theorem srt_eq : ∀ {a b : List Int}, a.Perm b → a.Pairwise (· ≤ ·) → b.Pairwise (· ≤ ·) → a = b
  | [], b, p, _, _ => (List.nil_perm.mp p).symm
  | x :: a, [], p, _, _ => absurd p.length_eq (by simp)
  | x :: a, y :: b, p, ha, hb => by
    obtain ⟨a1, a2⟩ := List.pairwise_cons.mp ha
    obtain ⟨b1, b2⟩ := List.pairwise_cons.mp hb
    have h1 : y ≤ x := by
      rcases List.mem_cons.mp (p.mem_iff.mp List.mem_cons_self) with e | h
      · omega
      · exact b1 x h
    have h2 : x ≤ y := by
      rcases List.mem_cons.mp (p.mem_iff.mpr List.mem_cons_self) with e | h
      · omega
      · exact a1 y h
    have e : x = y := by omega
    subst e
    rw [srt_eq (List.Perm.cons_inv p) a2 b2]
section
variable {X : Cx} {ca : Nat → Addr} {W : WW} {e a b c o : Expr} {es : List Expr} {ma mb mc mo : ME} {m : MA} {pos p : Pos}
theorem call_min3I (hc : X.calm = true) : CallR X (.builtin "min") (fun xs H Q => ∃ i j k, xs = [.int i, .int j, .int k] ∧ Q (.int (minI (minI i j) k)) H) := by
  intro pins s σ H xs us Q I r h
  obtain ⟨i, j, k, rfl, q⟩ := h
  refine call_min3Nu hc pins s σ H _ us Q I r ⟨_, _, _, _, rfl, ?_, q⟩
  unfold nuMin3 nuMin2 nuLt nuCB minI
  by_cases h1 : j < i <;> by_cases h2 : k < j <;> by_cases h3 : k < i <;> simp [h1, h2, h3]
theorem rel_pick {i j : Int} {u v : Value} (ru : RelV (.int i) u) (rv : RelV (.int j) v) : RelV (.int (minI i j)) (PySem.W.pickS u v) := by
  obtain ⟨n1, n2, hl⟩ := lt_nu rv ru (c := decide (j < i)) rfl
  unfold PySem.W.pickS minI
  rw [hl]
  by_cases h : j < i
  · rw [if_pos h, if_pos (decide_eq_true h)]; exact rv
  · rw [if_neg h, if_neg (by rw [decide_eq_false h]; decide)]; exact ru
theorem num_int {i : Int} {u : Value} (r : RelV (.int i) u) : Flt.NumV u := (lt_nu r r (c := decide (i < i)) rfl).1
theorem call_min4I (hc : X.calm = true) : CallR X (.builtin "min") (fun xs H Q => ∃ i j k z, xs = [.int i, .int j, .int k, .int z] ∧ Q (.int (minI (minI (minI i j) k) z)) H) := by
  intro pins s σ H xs us Q I r h
  obtain ⟨i, j, k, z, rfl, q⟩ := h
  cases r with
  | cons r0 r' =>
    obtain ⟨u1, u2, u3, rfl, r1, r2, r3⟩ := vals3 r'
    exact PySem.W.min4_numS (I.ok.hd hc) (num_int r0) (num_int r1) (num_int r2) (num_int r3) fun h' tk k' => ⟨_, H, I.kept k', rel_pick (rel_pick (rel_pick r0 r1) r2) r3, q⟩
theorem min3_S : CallS X.K ca (fun xs H Q => ∃ i j k, xs = [.int i, .int j, .int k] ∧ Q (.int (minI (minI i j) k)) H) (fMinN 3) := by
  intro W ρ φ S H σ xs ds Q hS rx h
  unfold fMinN at h
  split at h
  · rename_i i r e
    split at h
    · rename_i hl
      have z := ints_rel rx e
      match r, hl with
      | [j, k], _ => exact ⟨i, j, k, z, AtM.here h hS (.int _)⟩
    · exact h.elim
  · exact h.elim
theorem min4_S : CallS X.K ca (fun xs H Q => ∃ i j k z, xs = [.int i, .int j, .int k, .int z] ∧ Q (.int (minI (minI (minI i j) k) z)) H) (fMinN 4) := by
  intro W ρ φ S H σ xs ds Q hS rx h
  unfold fMinN at h
  split at h
  · rename_i i r e
    split at h
    · rename_i hl
      have z := ints_rel rx e
      match r, hl with
      | [j, k, y], _ => exact ⟨i, j, k, y, z, AtM.here h hS (.int _)⟩
    · exact h.elim
  · exact h.elim
theorem se_min3 (hc : X.calm = true) (T : Std X.mg) (hg : Gl X "min") (ha : SA ca W X (e :: es) m) (Tc : CallT X e es pos) : SE ca W X (.Call (.Name "min" p) (e :: es) [] pos) (eA (fMinN 3) m) := se_cb (call_min3I hc) min3_S T.min bt_min (by decide) (by decide) hg ha Tc
theorem se_min4 (hc : X.calm = true) (T : Std X.mg) (hg : Gl X "min") (ha : SA ca W X (e :: es) m) (Tc : CallT X e es pos) : SE ca W X (.Call (.Name "min" p) (e :: es) [] pos) (eA (fMinN 4) m) := se_cb (call_min4I hc) min4_S T.min bt_min (by decide) (by decide) hg ha Tc
/-- sorted(d) of a dict, all keys ints, any number of them -/
theorem call_sortedDA (hcalm : X.calm = true) : CallR X (.builtin "sorted") (fun xs H Q => ∃ (a : Addr) (kvs : List (Key × V)) (ks : List Int), xs = [.ref a] ∧ Rd H a (.dK kvs) ∧ kvs.map (·.1) = ks.map Sum.inl ∧ ks.length ≤ sizeLine ∧
    ∀ (ys : List Int) (p : Addr), ys.Perm ks → ys.Pairwise (· ≤ ·) → H p = none → Q (.ref p) (upd H p (.lst (ys.map V.int)))) := by
  intro pins s σ H xs us Q I r q
  obtain ⟨a, kvs, ks, ex, hd, hks, h64, q⟩ := q
  subst ex
  obtain ⟨u, eu, rx⟩ := vals1 r
  subst eu
  cases rx
  obtain ⟨z, lo, vs, rel, dd⟩ := dk_rd I.hok hd
  obtain ⟨ep, hat⟩ := dd.dictAt
  have hkeys : vs.map (·.1) = ks.map Sum.inl := rel.keys.symm.trans hks
  have hl : vs.length = ks.length := by
    have e := congrArg List.length hkeys
    rw [List.length_map, List.length_map] at e
    exact e
  have h16 : vs.length ≤ sizeLine := by rw [hl]; exact h64
  refine Calls.call_function_entry PyProof.Rows.kind_sorted PyProof.Rows.plain_sorted PyProof.Rows.entry_sorted (PyProof.Rows.args_sorted1 _) ?_
  unfold Builtin.«sorted»
  refine wpAny_bind (m := checkCount "sorted" 1 1 _) (wpAny_pure ?_)
  refine wpAny_bind (PySem.W.kdu_collect (A := X.A.in1) (PySem.W.kdl_dict (knd := mixKind X.prog X.w) (kvs := vs) (ep := ep) lo) (I.ok.hd hcalm) hat h16 fun h' tk acc hk hacc => ?_)
  have hal : acc.toList.length = ks.length := by rw [Array.length_toList, hacc.1, hl]
  have hS : IntsAre acc.toList ks := ints_each hal fun j v e => by
    obtain ⟨k, x, e1, e2⟩ := hacc.2 j v (by rw [← Array.getElem?_toList]; exact e)
    have e3 : (vs.map (·.1))[j]? = some k := by rw [List.getElem?_map, e1]; rfl
    rw [hkeys, List.getElem?_map] at e3
    cases e4 : ks[j]? with
    | none => rw [e4] at e3; cases e3
    | some y =>
      rw [e4] at e3
      have e5 : Sum.inl y = k := Option.some.inj e3
      subst e5
      rcases keyIs_shape (show keyIs (Sum.inl y) v = true from e2) with ⟨i, t, ek, ev⟩ | ⟨z, t, ek, ev⟩
      · cases ek
        exact ⟨y, t, rfl, ev⟩
      · cases ek
  have I1 : Inv X pins σ H { s with heap := h', toks := tk } := I.kept hk
  have hz : acc.toList.length ≤ sizeLine := by rw [hal]; exact h64
  refine wpAny_bind (wpAny_newList ?_ hz)
  have hoL : (h'.push (seqObj "list" acc.toList.toArray 0)).get? h'.objs.size = some (seqObj "list" acc.toList.toArray 0) := Heap.get?_push_size _ rfl
  show wpAny _ _ _ _ _ { s with heap := h'.push (seqObj "list" acc.toList.toArray 0), toks := tk }
  refine wpAny_bind (wpAny_holding (wpAny_call_entry PyProof.Rows.slot_list_sort ⟨_, hoL, rfl⟩ PyProof.Rows.entry_list_sort
    (SrtO.list_sort_ord (s := { s with heap := h'.push (seqObj "list" acc.toList.toArray 0), toks := tk }) SrtO.swo_int hoL hz (fun h2 => SrtO.ints_sortable hS h2) fun out h1 h2 => ⟨_, rfl, ?_⟩) (PyProof.Rows.args_list_sort _)))
  obtain ⟨k1, k2, k3⟩ := SrtO.ints_out hS h1 h2
  obtain ⟨e', he'⟩ := PyProof.Rows.sortedHeap_at (vs := acc.toList) (out := out.toArray) hoL
  have hlen : ((out.map SrtO.iv).map V.int).length ≤ sizeLine := by
    rw [List.length_map, k2.length_eq]
    exact h64
  refine wpAny_pure ⟨_, rfl, .ref h'.objs.size, upd H h'.objs.size (.lst ((out.map SrtO.iv).map V.int)), I1.laid (t' := tk) (fun b u e => ?_) (Nat.le_refl _)
    (show ObjOk X.prog X.w _ _ _ (.lst ((out.map SrtO.iv).map V.int)) from ⟨hlen, out, e', vals_of_ints k1, he'⟩), rfl, q _ _ k2 k3 (I1.hok.fresh (Nat.le_refl _))⟩
  have hb : b < h'.objs.size := Heap.lt_size e
  rw [PyProof.Rows.sortedHeap_old (Nat.ne_of_lt hb) (by rw [size_push']; exact Nat.lt_succ_of_lt hb)]
  exact Heap.get?_push_of_some _ e
theorem keys_rel {K : PySem.W.Frag} {ρ φ : List Addr} {H : Hp} : ∀ {vs : List (Key × V)} {ds : List (Key × D)}, RelK K ρ φ H vs ds → vs.map (·.1) = ds.map (·.1)
  | _, _, .nil => rfl
  | _, _, .cons r rs => by rw [List.map_cons, List.map_cons, keys_rel rs]
theorem keysI_eq : ∀ {kvs : List (Key × D)} {ks : List Int}, keysI kvs = some ks → kvs.map (·.1) = ks.map Sum.inl
  | [], ks, h => by cases h; rfl
  | (.inl i, d) :: r, ks, h => by
    unfold keysI at h
    rw [List.map_cons] at h
    show Sum.inl i :: r.map (·.1) = _
    change Option.map (fun x => i :: x) (intsOf (r.map fun kv => keyD kv.1)) = some ks at h
    cases e : intsOf (r.map fun kv => keyD kv.1) with
    | none => rw [e] at h; cases h
    | some js =>
      rw [e] at h
      cases h
      rw [keysI_eq (kvs := r) (ks := js) e]
      rfl
  | (.inr s, d) :: r, ks, h => by
    unfold keysI at h
    rw [List.map_cons] at h
    change (none : Option (List Int)) = some ks at h
    cases h
theorem sortedD_S : CallS X.K ca (fun xs H Q => ∃ (a : Addr) (kvs : List (Key × V)) (ks : List Int), xs = [.ref a] ∧ Rd H a (.dK kvs) ∧ kvs.map (·.1) = ks.map Sum.inl ∧ ks.length ≤ sizeLine ∧
    ∀ (ys : List Int) (p : Addr), ys.Perm ks → ys.Pairwise (· ≤ ·) → H p = none → Q (.ref p) (upd H p (.lst (ys.map V.int)))) (a1 fSortedD) := by
  intro W ρ φ S H σ xs ds Q hS rx h
  obtain ⟨x, d, rfl, rfl, r, h⟩ := one_of rx h
  unfold fSortedD at h
  split at h
  · rename_i kvs hd
    split at h
    · rename_i ks hk
      split at h
      · rename_i hz
        obtain ⟨p, ws, rfl, q1, q2⟩ := dct_rel hS r hd
        refine ⟨p, ws, ks, rfl, q1, (keys_rel q2).trans (keysI_eq hk), line_le hz, fun ys q h1 h2 h3 => ?_⟩
        have e := srt_eq (h1.trans (srtI_perm ks).symm) h2 (srtI_sorted ks)
        subst e
        exact new_fl hS (Rels.ofInts _) h q h3
      · exact h.elim
    · exact h.elim
  · exact h.elim
theorem bt_sorted : bootBuiltins "sorted" = some (.builtin "sorted") := by decide +kernel
theorem se_sortedD (hc : X.calm = true) (T : Std X.mg) (hg : Gl X "sorted") (ha : SA ca W X (e :: es) m) (Tc : CallT X e es pos) : SE ca W X (.Call (.Name "sorted" p) (e :: es) [] pos) (eA (a1 fSortedD) m) := se_cb (call_sortedDA hc) sortedD_S T.sorted bt_sorted (by decide) (by decide) hg ha Tc
theorem keysD_rel {K : PySem.W.Frag} {ρ φ : List Addr} {H : Hp} : ∀ {vs : List (Key × V)} {ds : List (Key × D)}, RelK K ρ φ H vs ds → Rels K ρ φ H (vs.map fun kv => kV kv.1) (ds.map fun kv => keyD kv.1)
  | _, _, .nil => .nil
  | (.inl i, _) :: _, _, .cons r rs => .cons (.int i) (keysD_rel rs)
  | (.inr i, _) :: _, _, .cons r rs => .cons (.str i) (keysD_rel rs)
theorem listD_S : CallS X.K ca (fun xs H Q => ∃ (a : Addr) (kvs : List (Key × V)), xs = [.ref a] ∧ Rd H a (.dK kvs) ∧ ∀ p, H p = none → Q (.ref p) (upd H p (.lst (kvs.map fun kv => kV kv.1)))) (a1 fListD) := by
  intro W ρ φ S H σ xs ds Q hS rx h
  obtain ⟨x, d, rfl, rfl, r, h⟩ := one_of rx h
  unfold fListD at h
  split at h
  · rename_i kvs hd
    obtain ⟨p, ws, rfl, q1, q2⟩ := dct_rel hS r hd
    exact ⟨p, ws, rfl, q1, fun q h3 => new_fl hS (keysD_rel q2) h q h3⟩
  · exact h.elim
theorem se_listD (hc : X.calm = true) (T : Std X.mg) (hg : Gl X "list") (ha : SA ca W X (e :: es) m) (Tc : CallT X e es pos) : SE ca W X (.Call (.Name "list" p) (e :: es) [] pos) (eA (a1 fListD) m) := se_ct (call_listD hc) listD_S T.list bt_list (by decide) (by decide) hg ha Tc
/-- a, b = e, f: two names of the def, no cells -/
theorem ss_par {i j : Nat} {x y : Str} {px py pt : Pos} {kt k2 pt2} (hc : X.calm = true) (hN : X.N.Nodup) (hi : X.N[i]? = some x) (hj : X.N[j]? = some y) (hij : i ≠ j)
    (hx : X.env.scope.names.lookup x = some .local) (hy : X.env.scope.names.lookup y = some .local) (hf : freeS W.x i) (hf2 : freeS W.x j) (ha : SE ca W X a ma) (hb : SE ca W X b mb) (h1 : starEach [a, b] X.env = (false, eval a X.env) :: starEach [b] X.env) (h2 : starEach [b] X.env = (false, eval b X.env) :: starEach [] X.env)
    (hw : swappedStores [.Tuple [.Name x px, .Name y py] kt pt] (.Tuple [a, b] k2 pt2) X.env = pure (some [x, y]))
    (hs : swapsWithSole [.Tuple [.Name x px, .Name y py] kt pt] (.Tuple [a, b] k2 pt2) pos.line X.env = pure false) :
    SS ca W X (.Assign [.Tuple [.Name x px, .Name y py] kt pt] (.Tuple [a, b] k2 pt2) pos) (sPar i j ma mb) :=
  ps_imp (ps_par hc hN hi hj hij hx hy (pa_cons ha (pa_cons hb pa_nil h2) h1) hw hs) fun D σ H ⟨ρ, φ, S, l, hS, hl, q⟩ =>
    bindS hS hl q fun u S1 ρ1 H1 x1 m1 hS1 e1 rx h1 => bindS hS1 (hl.mono e1) h1 fun u2 S2 ρ2 H2 x2 m2 hS2 e2 ry h2 =>
      ⟨x1, x2, rfl, h2 ρ2 H2 _ hS2 (Ext.refl _ _) ((((hl.mono e1).mono e2).set (rx.mono e2) hf).set ry hf2)⟩
end
end Sim


/-! Sim: a dict walked (locked meanwhile), dicts displayed. -/
namespace Sim
open PySem PySem.Spec L2 PyProof.Rows
/-- the keys of a locked dict -/
def iK (a : ME) : Sl → M Src := fun l S => bnd (a l S) fun x S1 => match x with
  | .ref n => match S1[n]? with
    | some ⟨.dct kvs, true⟩ => some (.ok (fun _ => some (kvs.map fun kv => keyD kv.1)), S1)
    | _ => none
  | _ => none
def unlk (n : Nat) (S : Store) : Option Store := match S[n]? with
  | some ⟨.dct kvs, true⟩ => some (S.set n ⟨.dct kvs, false⟩)
  | _ => none
def relk (n : Nat) (r : OutS) : OutS := match r with
  | some (.nx l, S) => (unlk n S).map fun S' => (.nx l, S')
  | some (.bk l, S) => (unlk n S).map fun S' => (.bk l, S')
  | some (.ct l, S) => (unlk n S).map fun S' => (.ct l, S')
  | some (.rt d, S) => (unlk n S).map fun S' => (.rt d, S')
  | _ => none
/-- for k in d: -/
def sForD (a : ME) (tg : Tg) (body : MS) : MS := fun l S => match a l S with
  | some (.ok (.ref n), _) => match S[n]? with
    | some ⟨.dct kvs, false⟩ => relk n (sFor (iK a) tg body l (S.set n ⟨.dct kvs, true⟩))
    | _ => none
  | _ => none
section
variable {K : PySem.W.Frag} {ca : Nat → Addr} {ρ ρ' φ : List Addr} {S S' : Store} {H H' : Hp}
theorem move_upd {p : Addr} {o : HO} (hp : p ∈ ρ) : Move ρ φ H ρ φ (upd H p o) :=
  ⟨fun q u h n m => ⟨by rw [upd_ne (fun z => n (by rw [z]; exact hp))]; exact h, n, m⟩, fun n a h => h⟩
theorem RelK.move' {κ : Type} (e : Move ρ φ H ρ' φ H') : ∀ {vs : List (κ × V)} {ds : List (κ × D)}, RelK K ρ φ H vs ds → RelK K ρ' φ H' vs ds
  | _, _, .nil => .nil
  | _, _, .cons r rs => .cons (r.move e) (RelK.move' e rs)
theorem RelO.move' (e : Move ρ φ H ρ' φ H') {ho : HO} {so : SO} (h : RelO K ca ρ φ H ho so) : RelO K ca ρ' φ H' ho so := by
  unfold RelO at h ⊢
  split at h
  · exact h.move e
  · exact RelK.move' e h
  · exact ⟨h.1, RelK.move' e h.2⟩
  · exact h.elim
/-- a dict locked or unlocked -/
theorem SR.relock (h : SR K ca ρ φ S H) {n : Nat} {p : Addr} {ks : List (Key × V)} {kvs : List (Key × D)} {k : Bool} {o : HO} (hn : ρ[n]? = some p) (r : RelK K ρ φ H ks kvs) (hk : At (upd H p o) p (.dK ks) k) : SR K ca ρ φ (S.set n ⟨.dct kvs, k⟩) (upd H p o) := by
  have hp : p ∈ ρ := List.mem_of_getElem? hn
  have e : Move ρ φ H ρ φ (upd H p o) := move_upd hp
  refine ⟨h.nd, by rw [List.length_set]; exact h.len, h.dj, fun a ha => ?_, fun m a c' h1 h2 => ?_⟩
  · have hne : a ≠ p := fun z => h.dj a ha (by rw [z]; exact hp)
    rw [upd_ne hne]
    exact h.ph a ha
  by_cases hm : n = m
  · subst hm
    have z : p = a := Option.some.inj (hn.symm.trans h1)
    subst z
    rw [List.getElem?_set_self (by rw [← h.len]; exact (List.getElem?_eq_some_iff.mp hn).1)] at h2
    cases h2
    exact ⟨.dK ks, hk, RelK.move' e r⟩
  · rw [List.getElem?_set_ne hm] at h2
    obtain ⟨ho', q1, q2⟩ := h.ob m a c' h1 h2
    exact ⟨ho', q1.put (fun z => hm (nd_ix' h.nd hn (z ▸ h1))), RelO.move' e q2⟩
theorem dct_at {v : V} {n : Nat} {kvs : List (Key × D)} {k : Bool} (hS : SR K ca ρ φ S H) (hn : ρ[n]? = some p) (h : S[n]? = some ⟨.dct kvs, k⟩) : ∃ ks, At H p (.dK ks) k ∧ RelK K ρ φ H ks kvs := by
  obtain ⟨ho, q1, q2⟩ := hS.obj hn h
  unfold RelO at q2
  split at q2
  · rename_i e; cases e
  · rename_i xs es' e; cases e; exact ⟨_, q1, q2⟩
  · rename_i e; cases e
  · exact q2.elim
end
section
variable {X : Cx} {ca : Nat → Addr} {W : WW} {tg e a b o : Expr} {ma mb : ME} {pos p tpos : Pos} {u : MS}
theorem feeds_keys {ρ φ : List Addr} {H : Hp} {d : Addr} {od : Obj} {ks : List (Key × V)} {kvs : List (Key × D)} (hd : H d = some (.frz od (.dK ks))) (r : RelK X.K ρ φ H ks kvs) : Feeds X.K ca ρ φ H (Itk d od ks) (fun _ => some (kvs.map fun kv => keyD kv.1)) := by
  intro ρ' φ' S' H' ds hS' e' hp hs i
  cases hs
  have hd' := e'.fz _ _ _ hd
  have hl : ks.length = kvs.length := by
    have := congrArg List.length (keys_rel r)
    rw [List.length_map, List.length_map] at this
    exact this
  refine ⟨fun x hx => ?_, fun hx => ⟨hd', by rw [hl]; simpa using List.getElem?_eq_none_iff.mp hx⟩⟩
  have hi : i < kvs.length := by simpa using (List.getElem?_eq_some_iff.mp hx).1
  refine ⟨⟨hd', by rw [hl]; exact hi⟩, fun y H'' hy => ?_⟩
  obtain ⟨rfl, k, v, h1, rfl⟩ := hy
  refine ⟨hS', Ext.refl _ _, ?_⟩
  have h2 : (ks.map (·.1))[i]? = some k := by rw [List.getElem?_map, h1]; rfl
  rw [keys_rel r, List.getElem?_map] at h2
  rw [List.getElem?_map] at hx
  cases e : kvs[i]? with
  | none => rw [e] at hx; cases hx
  | some kv =>
    rw [e] at hx h2
    have e1 := Option.some.inj hx
    have e2 := Option.some.inj h2
    subst e1
    subst e2
    show Rel X.K ρ' φ' H'' (kV kv.1) (keyD kv.1)
    cases kv.1 with
    | inl i => exact .int i
    | inr s => exact .str s
theorem si_keys (h : SE ca W X e ma) : SI ca W X tg e (iK ma) :=
  pi_imp (pi_keys h) fun σ H R ⟨ρ, φ, S, l, hS, hl, q⟩ => bindAt hS hl q fun x S1 ρ1 H1 v m1 hS1 e1 rx h1 => by
    cases rx <;> first | exact h1.elim | skip
    rename_i a n hn
    simp only at h1
    split at h1
    · rename_i kvs hs
      obtain ⟨ks, q1, q2⟩ := dct_at (v := .non) hS1 hn hs
      obtain ⟨od, hd⟩ := (show ∃ od, H1 a = some (.frz od (.dK ks)) from q1)
      exact ⟨a, od, rfl, .inl ⟨ks, hd, AtM.here (b := Itk a od ks) h1 hS1 (feeds_keys hd q2)⟩⟩
    · exact h1.elim
theorem ss_forD {iter : Expr} {body : List Stmt} {g : TG} {tgd : Tg} (hp : PassesOwn (model X.prog X.w) X.A X.env X.xe) (hc : X.calm = true) (hg : TgOk X.K W.x g tgd) (hpg : PG X tg g) (hi : SE ca W X iter ma) (hb : SSs ca W X body u) (hs : ∀ x, foldedSetIterable iter X.env x = pure x) :
    SS ca W X (.For tg iter body [] pos) (sForD ma tgd u) := ps_imp (ps_lock (ss_for hp hc hg hpg (si_keys hi) hb hs)) fun D σ H ⟨ρ, φ, S, l, hS, hl, q⟩ => by
  unfold sForD at q
  split at q
  · rename_i n S0 hm
    split at q
    · rename_i kvs hn
      have hln : n < ρ.length := by rw [hS.len]; exact (List.getElem?_eq_some_iff.mp hn).1
      have hpn : ρ[n]? = some (ρ[n]'hln) := List.getElem?_eq_getElem hln
      generalize ρ[n]'hln = d at hpn
      obtain ⟨ks, q1, q2⟩ := dct_at (v := .non) hS hpn hn
      have hd : H d = some (.dK ks) := q1
      have hdρ : d ∈ ρ := List.mem_of_getElem? hpn
      refine ⟨d, .dK ks, hd, trivial, fun od => ?_⟩
      have hSl : SR X.K ca ρ φ (S.set n ⟨.dct kvs, true⟩) (upd H d (.frz od (.dK ks))) := hS.relock hpn q2 ⟨od, upd_same⟩
      refine ⟨ρ, φ, _, l, hSl, hl.move (move_upd hdρ), ?_⟩
      -- what was locked stands
      have fin : ∀ (ρ' : List Addr) (S2 : Store) (H' : Hp), SR X.K ca ρ' φ S2 H' → Ext ρ (upd H d (.frz od (.dK ks))) ρ' H' → ∀ S3, unlk n S2 = some S3 →
          H' d = some (.frz od (.dK ks)) ∧ SR X.K ca ρ' φ S3 (upd H' d (.dK ks)) ∧ Ext ρ H ρ' (upd H' d (.dK ks)) ∧ Move ρ' φ H' ρ' φ (upd H' d (.dK ks)) := by
        intro ρ' S2 H' hS2 e2 S3 hu
        have hz : H' d = some (.frz od (.dK ks)) := e2.fz _ _ _ upd_same
        have hn' : ρ'[n]? = some d := e2.at hpn
        have hd' : d ∈ ρ' := List.mem_of_getElem? hn'
        refine ⟨hz, ?_, ?_, move_upd hd'⟩
        · unfold unlk at hu
          split at hu
          · rename_i kvs' hs2
            cases hu
            obtain ⟨ks', g1, g2⟩ := dct_at (v := .non) hS2 hn' hs2
            obtain ⟨od', g3⟩ := (show ∃ od, H' d = some (.frz od (.dK ks')) from g1)
            rw [hz] at g3
            cases g3
            exact hS2.relock hn' g2 upd_same
          · cases hu
        · refine ⟨?_, fun b w hb nb => ?_, fun b hb => ?_, fun b w x hb => ?_⟩
          · obtain ⟨t, ht1, ht2⟩ := e2.pre
            refine ⟨t, ht1, fun q hq => ?_⟩
            have := ht2 q hq
            by_cases c : q = d
            · subst c; rw [upd_same] at this; cases this
            · rw [upd_ne c] at this; exact this
          · have c : b ≠ d := fun z => nb (by rw [z]; exact hdρ)
            rw [upd_ne c]
            exact e2.keep b w (by rw [upd_ne c]; exact hb) nb
          · by_cases c : b = d
            · subst c; rw [upd_same]; simp
            · rw [upd_ne c]; exact e2.trk b (by rw [upd_ne c]; exact hb)
          · have c : b ≠ d := fun z => by rw [z, hd] at hb; cases hb
            rw [upd_ne c]
            exact e2.fz b w x (by rw [upd_ne c]; exact hb)
      cases hr : sFor (iK ma) tgd u l (S.set n ⟨.dct kvs, true⟩) with
      | none => rw [hr] at q; exact q.elim
      | some pr =>
        obtain ⟨f, S2⟩ := pr
        rw [hr] at q
        unfold relk at q
        cases f with
        | nx l2 =>
          intro ρ' H' σ' hS2 e2 hl2
          cases hu : unlk n S2 with
          | none => simp only [hu] at q; exact q.elim
          | some S3 =>
            simp only [hu] at q
            obtain ⟨f1, f2, f3, f4⟩ := fin ρ' S2 H' hS2 e2 S3 hu
            exact ⟨f1, q ρ' _ σ' f2 f3 (hl2.move f4)⟩
        | bk l2 =>
          intro ρ' H' σ' hS2 e2 hl2
          cases hu : unlk n S2 with
          | none => simp only [hu] at q; exact q.elim
          | some S3 =>
            simp only [hu] at q
            obtain ⟨f1, f2, f3, f4⟩ := fin ρ' S2 H' hS2 e2 S3 hu
            exact ⟨f1, q ρ' _ σ' f2 f3 (hl2.move f4)⟩
        | ct l2 =>
          intro ρ' H' σ' hS2 e2 hl2
          cases hu : unlk n S2 with
          | none => simp only [hu] at q; exact q.elim
          | some S3 =>
            simp only [hu] at q
            obtain ⟨f1, f2, f3, f4⟩ := fin ρ' S2 H' hS2 e2 S3 hu
            exact ⟨f1, q ρ' _ σ' f2 f3 (hl2.move f4)⟩
        | rt d2 =>
          intro ρ' H' v hS2 e2 rv
          cases hu : unlk n S2 with
          | none => simp only [hu] at q; exact q.elim
          | some S3 =>
            simp only [hu] at q
            obtain ⟨f1, f2, f3, f4⟩ := fin ρ' S2 H' hS2 e2 S3 hu
            exact ⟨f1, q ρ' _ v f2 f3 (rv.move f4)⟩
        | ex x2 l2 => exact q.elim
    · exact q.elim
  · exact q.elim
end
end Sim

/-! Sim: dicts displayed, a module's dict. -/
namespace Sim
open PySem PySem.Spec L2 PyProof.Rows
abbrev MP := Sl → M (List (Key × D))
def pNil : MP := fun _ S => some (.ok [], S)
def pCons (k : Key) (v : ME) (r : MP) : MP := fun l S => bnd (v l S) fun d S1 => bnd (r l S1) fun ps S2 => some (.ok ((k, d) :: ps), S2)
def mergeD (kvs more : List (Key × D)) : List (Key × D) := more.foldl (fun acc kv => putD acc kv.1 kv.2) kvs
def dspK (n : Nat) (ps : List (Key × D)) : M D := fun S2 => match S2[n]? with
  | some ⟨.dct [], false⟩ => if ps.length ≤ 15 then some (.ok (.ref n), S2.set n ⟨.dct (mergeD [] ps), false⟩) else none
  | _ => none
/-- {k: v, ..}: the dict stands empty while its pairs are made -/
def eDct (m : MP) : ME := fun l S => bnd (m l (S ++ [⟨.dct [], false⟩])) (dspK S.length)
def eDct0 : ME := fun _ S => newO (.dct []) S
/-- a dict of the module that nobody changes, its keys and values ints -/
def tabGet (t : List (Int × Int)) (k : Int) : Option Int := (t.find? fun p => p.1 == k).map (·.2)
def fGetK (t : List (Int × Int)) (k d : D) : M D := fun S => match k with
  | .int i => match tabGet t i with
    | some j => some (.ok (.int j), S)
    | none => some (.ok d, S)
  | _ => none
def eGetK (t : List (Int × Int)) (k d : ME) : ME := e2 (fGetK t) k d
def fInK (t : List (Int × Int)) (k : D) : M D := fun S => match k with
  | .int i => some (.ok (.bl (tabGet t i).isSome), S)
  | _ => none
section
variable {ca : Nat → Addr} {X : Cx} {W : WW} {pos p : Pos} {e a b o : Expr} {ma mb mo : ME}
def RP (K : PySem.W.Frag) (ρ φ : List Addr) (H : Hp) (ps : List (V × V)) (kds : List (Key × D)) : Prop := ∃ kvs : List (Key × V), ps = kvs.map (fun kv => (kV kv.1, kv.2)) ∧ RelK K ρ φ H kvs kds
def SP (ca : Nat → Addr) (W : WW) (X : Cx) (pos : Pos) (ks : List (Option Expr)) (vs : List Expr) (m : MP) : Prop := ∃ trs, PPs X pos ks vs trs ∧ ∀ σ H Q, Tm X.K ca W (RP X.K) m σ H Q → tPairs trs σ H Q
theorem sp_nil : SP ca W X pos [] [] pNil := ⟨[], pps_nil, fun σ H Q ⟨ρ, φ, S, l, hS, hl, q⟩ => AtM.here (b := ([] : List (V × V))) q hS ⟨[], rfl, .nil⟩⟩
theorem sp_cons {k v : Expr} {ks : List (Option Expr)} {vs : List Expr} {kk : Key} {mv : ME} {r : MP} (hk : SE ca W X k (eC (keyD kk))) (hv : SE ca W X v mv) (hr : SP ca W X pos ks vs r) : SP ca W X pos (some k :: ks) (v :: vs) (pCons kk mv r) := by
  obtain ⟨trs, h1, h2⟩ := hr
  refine ⟨_, pps_cons hk hv h1, fun σ H Q ⟨ρ, φ, S, l, hS, hl, q⟩ => ?_⟩
  refine ⟨ρ, φ, S, l, hS, hl, fun ρ0 H0 x hS0 e0 rx => ?_⟩
  have q := q.mono e0
  have hl := hl.mono e0
  refine bindAt hS0 hl q fun d S1 ρ1 H1 y m1 hS1 e1 ry q1 => h2 _ _ _ (bindAt hS1 (hl.mono e1) q1 fun ps S2 ρ2 H2 zs m2 hS2 e2 rz q2 => ?_)
  obtain ⟨kvs, rfl, rk⟩ := rz
  have ex : x = kV kk := by
    revert rx
    cases kk with
    | inl i => intro rx; cases rx; rfl
    | inr s => intro rx; cases rx; rfl
  subst ex
  exact AtM.here (b := (kV kk, y) :: kvs.map (fun kv => (kV kv.1, kv.2))) q2 hS2 ⟨(kk, y) :: kvs, rfl, .cons (ry.mono e2) rk⟩
theorem relK_merge {K : PySem.W.Frag} {ρ φ : List Addr} {H : Hp} : ∀ {ws : List (Key × V)} {es : List (Key × D)} {vs : List (Key × V)} {ds : List (Key × D)}, RelK K ρ φ H ws es → RelK K ρ φ H vs ds → RelK K ρ φ H (mergeK vs ws) (mergeD ds es)
  | _, _, _, _, .nil, h => h
  | _, _, _, _, .cons r rs, h => relK_merge (vs := putK _ _ _) (ds := putD _ _ _) rs (relK_put r h)
theorem se_dct0 : SE ca W X (.Dict [] [] pos) eDct0 :=
  pe_imp pe_dnewK fun σ H Q ⟨ρ, φ, S, l, hS, hl, h⟩ => fun p hp => h (ρ ++ [p]) _ (.ref p) (hS.grow hp (so := .dct []) RelK.nil) (Ext.grow hp) (.ref (by rw [hS.len.symm]; simp))
theorem se_dct {ks : List (Option Expr)} {vs : List Expr} {m : MP} (h : SP ca W X pos ks vs m) (hall : ks.all (·.isSome) = true) (hl : ks.length = vs.length) (h0 : ks ≠ []) (h15 : ks.length ≤ 15) : SE ca W X (.Dict ks vs pos) (eDct m) := by
  obtain ⟨trs, h1, h2⟩ := h
  refine pe_imp (pe_disp h1 hall hl h0 h15) fun σ H Q ⟨ρ, φ, S, l, hS, hl, q⟩ => fun p hp => ?_
  have e1 : Ext ρ H (ρ ++ [p]) (upd H p (.dK [])) := Ext.grow hp
  have hS1 : SR X.K ca (ρ ++ [p]) φ (S ++ [⟨.dct [], false⟩]) (upd H p (.dK [])) := hS.grow hp (so := .dct []) RelK.nil
  have hpn : (ρ ++ [p])[S.length]? = some p := by rw [← hS.len]; simp
  refine h2 _ _ _ (bindAt hS1 (hl.mono e1) (q.mono e1) fun ps S2 ρ2 H2 zs m2 hS2 e2 rz q2 => ?_)
  unfold dspK at q2
  split at q2
  · rename_i hs2
    split at q2
    · rename_i hz
      have hn2 := e2.at hpn
      obtain ⟨ks', g1, g2⟩ := dct_at (v := .non) hS2 hn2 hs2
      cases g2
      have hd : H2 p = some (.dK []) := g1
      obtain ⟨kvs, rfl, rk⟩ := rz
      have hlen : kvs.length = ps.length := by
        have := congrArg List.length (keys_rel rk)
        rw [List.length_map, List.length_map] at this
        exact this
      have e3 : Ext ρ2 H2 ρ2 (upd H2 p (.dK (mergeK [] kvs))) := Ext.put (List.mem_of_getElem? hn2) (hS2.trk (List.mem_of_getElem? hn2)) (nofz_dK hd)
      exact ⟨hd, kvs, rfl, by omega, q2 ρ2 _ _ (hS2.put (c := ⟨.dct [], false⟩) hn2 (nofz_dK hd) (relK_merge (rk.mono e3) .nil)) e3 (.ref (e3.at hn2))⟩
    · exact q2.elim
  · exact q2.elim
end
/-! ### a module's dict -/
/-- the module's dict at d holds the table t -/
structure KTab (K : PySem.W.Frag) (mg : Str → Option Value) (x : Str) (t : List (Int × Int)) : Prop where
  ex : ∃ (d : Addr) (es : Array DictEntry) (n : Nat), mg x = some (.ref d) ∧ K.lookup d = some ⟨.type "dict", none, .dict es n, #[]⟩ ∧ (d == sysModules) = false ∧
    (∀ q ∈ es.toList, ∃ (i : Int) (tk : Tok), q.key = .int i tk ∧ q.hash = hashInt i) ∧
    ∀ k : Int, (tabGet t k = none ∧ findBy keyIs es (.inl k) = none) ∨ ∃ (j : Int) (tk : Tok), tabGet t k = some j ∧ findBy keyIs es (.inl k) = some (.int j tk)
section
variable {X : Cx}
theorem ktab_map {w : World} {P : Program} {h : Heap} {K : PySem.W.Frag} {d : Addr} {es : Array DictEntry} {n : Nat} (I : K.In h) (hl : K.lookup d = some ⟨.type "dict", none, .dict es n, #[]⟩) (hk : ∀ q ∈ es.toList, ∃ (i : Int) (tk : Tok), q.key = .int i tk ∧ q.hash = hashInt i) :
    h.MapOf (mixKind P w) d (fun k => findBy keyIs es k) :=
  ⟨_, es, n, I _ _ hl, ⟨rfl, rfl, rfl⟩, rfl, fun q hq => by
    obtain ⟨i, tk, e1, e2⟩ := hk q (Array.mem_toList_iff.mpr hq)
    exact ⟨.inl i, by rw [e1]; exact keyIs_int i tk, e2⟩, fun _ => rfl⟩
/-- k in the module's dict -/
theorem op_inK {d : Addr} {es : Array DictEntry} {n : Nat} {t : List (Int × Int)} (hl : X.K.lookup d = some ⟨.type "dict", none, .dict es n, #[]⟩) (lo : (d == sysModules) = false) (hk : ∀ q ∈ es.toList, ∃ (i : Int) (tk : Tok), q.key = .int i tk ∧ q.hash = hashInt i)
    (ht : ∀ k : Int, (tabGet t k = none ∧ findBy keyIs es (.inl k) = none) ∨ ∃ (j : Int) (tk : Tok), tabGet t k = some j ∧ findBy keyIs es (.inl k) = some (.int j tk)) :
    OpR X (compareOp .In) (fun x y H Q => ∃ i, x = .int i ∧ y = .ref d ∧ Q (.bl (tabGet t i).isSome) H) := fun pins s σ H x y v u Q I rx ry ⟨i, ex, ey, q⟩ => by
  subst ex ey
  obtain ⟨tk, rfl⟩ := rx
  cases ry
  have z : (findBy keyIs es (.inl i)).isSome = (tabGet t i).isSome := by
    rcases ht i with ⟨h1, h2⟩ | ⟨j, tj, h1, h2⟩ <;> rw [h1, h2] <;> rfl
  have hk1 : (mixKind X.prog X.w).is (.inl i) (.int i tk) = true := keyIs_int i tk
  exact wpAny_in_of (knd := mixKind X.prog X.w) hk1 lo (ktab_map I.kIn hl hk) (by rw [z]; exact ⟨.bl (tabGet t i).isSome, H, I.tok _, rfl, q⟩)
def tGetK (t : List (Int × Int)) (ty tx : TE) : TE := fun σ H Q => ty σ H fun y H2 => tx σ H2 fun z H3 => ∃ i, y = .int i ∧ Q ((tabGet t i).elim z V.int) H3
theorem pe_getK {o e f : Expr} {apos cpos : Pos} {ty tx : TE} {d : Addr} {es : Array DictEntry} {n : Nat} {t : List (Int × Int)} (hl : X.K.lookup d = some ⟨.type "dict", none, .dict es n, #[]⟩) (lo : (d == sysModules) = false) (hk : ∀ q ∈ es.toList, ∃ (i : Int) (tk : Tok), q.key = .int i tk ∧ q.hash = hashInt i)
    (ht : ∀ k : Int, (tabGet t k = none ∧ findBy keyIs es (.inl k) = none) ∨ ∃ (j : Int) (tk : Tok), tabGet t k = some j ∧ findBy keyIs es (.inl k) = some (.int j tk))
    (ho : PE X o (tC (.ref d))) (he : PE X e ty) (hf : PE X f tx) (m : M2 X o "get" apos e f cpos) : PE X (.Call (.Attribute o "get" apos) [e, f] [] cpos) (tGetK t ty tx) := ⟨fun pins s σ H Q I h => by
  refine wpAny_Call_method m.base m.few m.line PySem.F.plainAttrs_dict PySem.F.slot_dict_get PySem.F.type_dict_get (thn (ho.run pins s σ H (fun x H1 => x = .ref d ∧ tGetK t ty tx σ H1 Q) I ⟨rfl, h⟩) fun u s1 ⟨x, H1, I1, rx, ex, q1⟩ => ?_)
  subst ex
  cases (show u = Value.ref d from rx)
  have M := ktab_map (P := X.prog) (w := X.w) I1.kIn hl hk
  refine ⟨M.typeIs, M.noDict, ?_⟩
  rw [m.trees]
  refine Calls.callWith_builtin rfl (Calls.evalArgs_plain (Calls.spliced_cons (thn (he.run pins s1 σ H1 _ I1 q1) fun iv s2 ⟨y, H2, I2, ry, q2⟩ => Calls.spliced_cons (thn (hf.run pins s2 σ H2 _ I2 q2) fun fv s3 ⟨z, H3, I3, rz, i, ey, q3⟩ => Calls.spliced_nil ?_))))
  subst ey
  obtain ⟨tk, rfl⟩ := ry
  have M3 := ktab_map (P := X.prog) (w := X.w) I3.kIn hl hk
  have hk1 : (mixKind X.prog X.w).is (.inl i) (.int i tk) = true := keyIs_int i tk
  refine call_meetsIn PySem.F.slot_dict_get M3.typeIs PySem.F.entry_dict_get (PySem.F.args_dict_get_3 _ _ _) (meets_dict_get_default (mixKind X.prog X.w) d hk1 lo fv) ⟨_, M3, ?_⟩
  refine ⟨_, H3, I3.tok _, ?_, q3⟩
  rcases ht i with ⟨h1, h2⟩ | ⟨j, tj, h1, h2⟩
  · rw [h1, h2]; exact rz
  · rw [h1, h2]; exact ⟨tj, rfl⟩⟩
end
section
variable {ca : Nat → Addr} {X : Cx} {W : WW} {pos p : Pos} {e a b o f : Expr} {ma mb mo : ME}
theorem inK_run {t : List (Int × Int)} {d : Addr} {σ : L2.St} {H : Hp} {Q : VK} (h : Tm X.K ca W (Rel X.K) (e1 (fInK t) ma) σ H Q) : tOp (fun x y H Q => ∃ i, x = .int i ∧ y = .ref d ∧ Q (.bl (tabGet t i).isSome) H) (Tm X.K ca W (Rel X.K) ma) (tC (.ref d)) σ H Q := by
  obtain ⟨ρ, φ, S, l, hS, hl, q⟩ := h
  exact bindAt hS hl q fun x1 S1 ρ1 H1 v m1 hS1 e1 rx q1 => by
    unfold fInK at q1
    cases rx <;> first | exact q1.elim | skip
    exact ⟨_, rfl, rfl, AtM.here q1 hS1 (.bl _)⟩
theorem se_inK {x : Str} {t : List (Int × Int)} (T : KTab X.K X.mg x t) (hg : Gl X x) (hdb : (x == ("__debug__" : Str)) = false) (ha : SE ca W X a ma) : SE ca W X (.Compare a [.In] [.Name x p] pos) (e1 (fInK t) ma) := by
  obtain ⟨d, es, n, h1, h2, h3, h4, h5⟩ := T.ex
  exact pe_imp (pe_cmpR (op_inK h2 h3 h4 h5) ha (pe_glob (v := .ref d) hg h1 (show Value.ref d = Value.ref d from rfl) hdb) rfl) fun σ H Q h => inK_run h
theorem st_inK {x : Str} {t : List (Int × Int)} (T : KTab X.K X.mg x t) (hg : Gl X x) (hdb : (x == ("__debug__" : Str)) = false) (ha : SE ca W X a ma) : ST ca W X (.Compare a [.In] [.Name x p] pos) (tOf (e1 (fInK t) ma)) := by
  obtain ⟨d, es, n, h1, h2, h3, h4, h5⟩ := T.ex
  exact st_of (fun _ _ _ h => inK_run h) (pt_cmpR (op_inK h2 h3 h4 h5) ha (pe_glob (v := .ref d) hg h1 (show Value.ref d = Value.ref d from rfl) hdb) rfl)
theorem se_getK {x : Str} {t : List (Int × Int)} {apos : Pos} (T : KTab X.K X.mg x t) (hg : Gl X x) (hdb : (x == ("__debug__" : Str)) = false) (ha : SE ca W X e ma) (hf : SE ca W X f mb) (m : M2 X (.Name x p) "get" apos e f pos) : SE ca W X (.Call (.Attribute (.Name x p) "get" apos) [e, f] [] pos) (eGetK t ma mb) := by
  obtain ⟨d, es, n, h1, h2, h3, h4, h5⟩ := T.ex
  exact pe_imp (pe_getK h2 h3 h4 h5 (pe_glob (v := .ref d) hg h1 (show Value.ref d = Value.ref d from rfl) hdb) ha hf m) fun σ H Q ⟨ρ, φ, S, l, hS, hl, q⟩ => bindAt hS hl q fun x1 S1 ρ1 H1 v m1 hS1 e1 rx q1 => bindAt hS1 (hl.mono e1) q1 fun x2 S2 ρ2 H2 w m2 hS2 e2 ry q2 => by
    unfold fGetK at q2
    cases rx <;> first | exact q2.elim | skip
    rename_i i
    simp only at q2
    cases ht : tabGet t i with
    | none => rw [ht] at q2; exact ⟨i, rfl, by rw [ht]; exact AtM.here q2 hS2 ry⟩
    | some j => rw [ht] at q2; exact ⟨i, rfl, by rw [ht]; exact AtM.here q2 hS2 (.int _)⟩
end
/-! ### an error class whose __init__ keeps its argument: what the text says -/
structure ExI (K : PySem.W.Frag) (mg : Str → Option Value) (ca : Nat → Addr) (c : Nat) (x qual : Str) (st : Stmt) : Prop where
  T : OexC K (ca c)
  g : mg x = some (.ref (ca c))
  no : PySem.W.findIn K (.ref (ca c)) "why" = some none
  ex : ∃ (fI : Addr) (fd : FuncData), Fun K "__init__" qual st fI fd ∧ PySem.W.findIn K (.ref (ca c)) "__init__" = some (some (.ref fI)) ∧ PySem.W.typeIn K (.ref fI) = some (.type "function") ∧ Binds K fd ["self", "why"] []
theorem exN_of {P : Program} {w : World} {K : PySem.W.Frag} {mg : Str → Option Value} {base : Heap} {ca : Nat → Addr} {c : Nat} {x qual : Str} {st : Stmt} {q1 q2 q3 q4 : Pos} (E : ExI K mg ca c x qual st) (S : FnScope ["self", "why"] ["self", "why"] (defScope st))
    (hb : defBody st = [.Assign [.Attribute (.Name "self" q1) "why" q2] (.Name "why" q3) q4]) (v0 : (defScope st).names.lookup ("self" : Str) = some .local) (v1 : (defScope st).names.lookup ("why" : Str) = some .local) : ExN P w K mg base ca 1 c x "why" := by
  obtain ⟨fI, fd, F, h1, h2, hbd⟩ := E.ex
  refine ⟨E.T, E.g, fI, fd, ["self", "why"], h1, h2, ?_, hbd⟩
  refine F.okX S (fun vs H Q E' h => ?_) (fun cdv A outer s H vs Q E' hr h => ⟨_, by rw [hb]; exact pss_one (ps_ost (pe_var (i := 0) rfl (Or.inl v0) (by decide) (by decide)) (pe_var (i := 1) rfl (Or.inl v1) (by decide) (by decide))), ?_⟩)
  · obtain ⟨a, v, rfl, _⟩ := h
    rfl
  · obtain ⟨a, v, rfl, h3, h4⟩ := h
    exact ⟨v, rfl, .ref a, rfl, a, ca c, rfl, E.T, E.no, .inl ⟨h3, fun dx n1 n2 => h4 dx n1 n2⟩⟩
/-- a module's dict of four entries -/
theorem ktab4 {K : PySem.W.Frag} {h : Heap} {mg : Str → Option Value} {x : Str} {D n : Nat} {a b c d p q r s : Int} {t1 t2 t3 t4 u1 u2 u3 u4 : Tok} (g : mg x = some (.ref D))
    (l : K.lookup D = some ⟨.type "dict", none, .dict #[⟨a, .int a t1, .int p u1⟩, ⟨b, .int b t2, .int q u2⟩, ⟨c, .int c t3, .int r u3⟩, ⟨d, .int d t4, .int s u4⟩] n, #[]⟩) (lo : (D == sysModules) = false)
    (h1 : hashInt a = a) (h2 : hashInt b = b) (h3 : hashInt c = c) (h4 : hashInt d = d) : KTab K mg x [(a, p), (b, q), (c, r), (d, s)] := by
  refine ⟨D, _, n, g, l, lo, fun e he => ?_, fun k => ?_⟩
  · simp only [List.mem_cons, List.not_mem_nil, or_false] at he
    rcases he with rfl | rfl | rfl | rfl
    · exact ⟨a, t1, rfl, h1.symm⟩
    · exact ⟨b, t2, rfl, h2.symm⟩
    · exact ⟨c, t3, rfl, h3.symm⟩
    · exact ⟨d, t4, rfl, h4.symm⟩
  · unfold tabGet findBy
    rw [List.find?_toArray]
    simp only [List.find?_cons, List.find?_nil, keyIs, Value.isInt]
    by_cases e1 : a = k
    · have z1 : (a == k) = true := beq_iff_eq.mpr e1
      simp [z1]
    · have z1 : (a == k) = false := beq_eq_false_iff_ne.mpr e1
      by_cases e2 : b = k
      · have z2 : (b == k) = true := beq_iff_eq.mpr e2
        simp [z1, z2]
      · have z2 : (b == k) = false := beq_eq_false_iff_ne.mpr e2
        by_cases e3 : c = k
        · have z3 : (c == k) = true := beq_iff_eq.mpr e3
          simp [z1, z2, z3]
        · have z3 : (c == k) = false := beq_eq_false_iff_ne.mpr e3
          by_cases e4 : d = k
          · have z4 : (d == k) = true := beq_iff_eq.mpr e4
            simp [z1, z2, z3, z4]
          · have z4 : (d == k) = false := beq_eq_false_iff_ne.mpr e4
            simp [z1, z2, z3, z4]
/-! ### room within an except's suite -/
theorem hux0 {k : Nat} {A A' : Around} (r : Room k A) (h : A'.units = A.units := by rfl) : A'.units < cLine := by rw [h]; exact hu0 r
theorem hux1 {k : Nat} {A A' : Around} (r : Room k A) (h : A'.units = A.units := by rfl) : A'.units + 1 < cLine := by rw [h]; exact hu1 r
theorem hux64 {k : Nat} {A A' : Around} (r : Room k A) (h : A'.units = A.units := by rfl) : A'.units + 64 < cLine := by rw [h]; exact hu64 r
theorem hux65 {k : Nat} {A A' : Around} (r : Room k A) (h : A'.units = A.units := by rfl) : A'.units + 65 < cLine := by rw [h]; exact hu65 r
end Sim

namespace Law
open PySem L2 Sim
/-- Frame.__init__ -/
def b_Frame_init : MS :=
  sSeq (sFld 3 (eVar 0) "kind" (eVar 1))
  (sSeq (sFld 3 (eVar 0) "flag" (eVar 2))
  (sSeq (sFld 3 (eVar 0) "talk" (eVar 3))
  (sFld 3 (eVar 0) "numbers" (eA (a1 fList) (aCons (eVar 4) (aNil))))))
def m_Frame_init : List D → M D := fnM 5 5 b_Frame_init
/-- framed -/
def b_framed : MS :=
  sRet (e2 fAdd (eLst (aCons (eA (a1 fLen) (aCons (eVar 3) (aNil))) (aCons (eVar 0) (aCons (eVar 1) (aCons (eVar 2) (aNil)))))) (eA (a1 fList) (aCons (eVar 3) (aNil))))
def m_framed : List D → M D := fnM 4 4 b_framed
/-- Cutter.__init__ -/
def b_Cutter_init : MS :=
  sFld 4 (eVar 0) "held" (eLst (aNil))
def m_Cutter_init : List D → M D := fnM 1 1 b_Cutter_init
/-- Cutter.fed -/
def b_Cutter_fed : MS :=
  sSeq (sFld 4 (eVar 0) "held" (e2 fAdd (e1 (fFld 4 "held") (eVar 0)) (eA (a1 fList) (aCons (eVar 1) (aNil)))))
  (sSeq (sSet 2 (eLstR (aNil)))
  (sSeq (sSet 3 (eC (.int 0)))
  (sSeq (sWhile (tAnd (tOf (e2 fLe (e2 fAdd (eVar 3) (eC (.int 4))) (eA (a1 fLen) (aCons (e1 (fFld 4 "held") (eVar 0)) (aNil))))) (tOf (e2 fLe (e2 fAdd (e2 fAdd (eVar 3) (eC (.int 4))) (e2 fIx (e1 (fFld 4 "held") (eVar 0)) (eVar 3))) (eA (a1 fLen) (aCons (e1 (fFld 4 "held") (eVar 0)) (aNil)))))) (sSeq (sSet 4 (e2 fAdd (e2 fAdd (eVar 3) (eC (.int 4))) (e2 fIx (e1 (fFld 4 "held") (eVar 0)) (eVar 3))))
  (sSeq (sDrop (eBM isL (m1 fAppend) (eVar 2) (aCons (eA (fMake 3 (fun ds => noErr (m_Frame_init ds))) (aCons (e2 fIx (e1 (fFld 4 "held") (eVar 0)) (e2 fAdd (eVar 3) (eC (.int 1)))) (aCons (e2 fIx (e1 (fFld 4 "held") (eVar 0)) (e2 fAdd (eVar 3) (eC (.int 2)))) (aCons (e2 fIx (e1 (fFld 4 "held") (eVar 0)) (e2 fAdd (eVar 3) (eC (.int 3)))) (aCons (eSl (e1 (fFld 4 "held") (eVar 0)) (oSo (e2 fAdd (eVar 3) (eC (.int 4)))) (oSo (eVar 4))) (aNil)))))) (aNil))))
  (sSet 3 (eVar 4)))))
  (sSeq (sFld 4 (eVar 0) "held" (eSl (e1 (fFld 4 "held") (eVar 0)) (oSo (eVar 3)) oNo))
  (sRet (eVar 2))))))
def m_Cutter_fed : List D → M D := fnM 5 2 b_Cutter_fed
/-- _law_row -/
def b__law_row : MS :=
  sSeq (sSet 1 (eC (.int 7)))
  (sSeq (sFor (iL (eVar 0)) (.one 2) (sSet 1 (e2 fMod (e2 fAdd (e2 fAdd (e2 fMul (eVar 1) (eC (.int 48271))) (eVar 2)) (eC (.int 11))) (eC (.int 2147483647)))))
  (sRet (eLstR (aCons (eVar 0) (aCons (eC (.int 0)) (aCons (eC (.int 0)) (aCons (eVar 1) (aNil))))))))
def m__law_row : List D → M D := fnM 3 1 b__law_row
/-- _law_taken -/
def b__law_taken : MS :=
  sSeq (sIf (tOf (e2 fGt (e2 fIx (eVar 0) (eC (.int 2))) (eC (.int 0)))) (sSeq (sSet 2 (e2 fMod (e2 fIx (eVar 0) (eC (.int 2))) (eVar 1)))
  (sSeq (sPut (eVar 0) (eC (.int 2)) (e2 fDiv (e2 fIx (eVar 0) (eC (.int 2))) (eVar 1)))
  (sRet (eVar 2)))) (sNext))
  (sSeq (sIf (tOf (e2 fLt (e2 fIx (eVar 0) (eC (.int 1))) (eA (a1 fLen) (aCons (e2 fIx (eVar 0) (eC (.int 0))) (aNil))))) (sSeq (sSet 3 (e2 fIx (e2 fIx (eVar 0) (eC (.int 0))) (e2 fIx (eVar 0) (eC (.int 1)))))
  (sSeq (sPut (eVar 0) (eC (.int 1)) (e2 fAdd (e2 fIx (eVar 0) (eC (.int 1))) (eC (.int 1))))
  (sSeq (sIf (tOf (e2 fGe (eVar 3) (e2 fPow (eC (.int 10)) (eC (.int 18))))) (sPut (eVar 0) (eC (.int 2)) (e2 fDiv (eVar 3) (eVar 1))) (sNext))
  (sRet (e2 fMod (eVar 3) (eVar 1)))))) (sNext))
  (sSeq (sPut (eVar 0) (eC (.int 3)) (e2 fMod (e2 fAdd (e2 fMul (e2 fIx (eVar 0) (eC (.int 3))) (eC (.int 48271))) (eC (.int 12345))) (eC (.int 2147483647))))
  (sRet (e2 fMod (e2 fDiv (e2 fIx (eVar 0) (eC (.int 3))) (eC (.int 1009))) (eVar 1)))))
def m__law_taken : List D → M D := fnM 4 2 b__law_taken
/-- _law_whole -/
def b__law_whole : MS :=
  sRet (eAnd (e1 (fIsi "int") (eVar 0)) (eNot (e1 (fIsi "bool") (eVar 0))))
def m__law_whole : List D → M D := fnM 1 1 b__law_whole
/-- _law_list -/
def b__law_list : MS :=
  sSeq (sIf (tOr (tNot (tOf (e1 (fIsi "list") (eVar 0)))) (tOf (e2 fNe (eA (a1 fLen) (aCons (eVar 0) (aNil))) (eA (a1 fLen) (aCons (eVar 1) (aNil)))))) (sRet (eC (.bl false))) (sNext))
  (sSeq (sFor (iL (eVar 0)) (.one 2) (sIf (tNot (tOf (eA m__law_whole (aCons (eVar 2) (aNil))))) (sRet (eC (.bl false))) (sNext)))
  (sRet (e2 fEq (eVar 0) (eVar 1))))
def m__law_list : List D → M D := fnM 3 2 b__law_list
/-- _law_frames -/
def b__law_frames : MS :=
  sSeq (sSet 1 (eLstR (aNil)))
  (sSeq (sFor (iR1 (eA m__law_taken (aCons (eVar 0) (aCons (eC (.int 7)) (aNil))))) (.one 2) (sSeq (sSet 3 (eA m__law_taken (aCons (eVar 0) (aCons (e2 fPow (eC (.int 10)) (eC (.int 9))) (aNil)))))
  (sSeq (sSet 4 (e2 fMod (eVar 3) (eC (.int 13))))
  (sSeq (sIf (tOf (e2 fEq (e2 fMod (e2 fDiv (eVar 3) (eC (.int 13))) (eC (.int 6))) (eC (.int 5)))) (sSet 4 (e2 fAdd (eC (.int 200)) (e2 fMod (e2 fDiv (eVar 3) (eC (.int 78))) (eC (.int 56))))) (sNext))
  (sSeq (sSet 5 (eComp [6] (iR1 (eVar 4)) (.one 6) (tYes') (e2 fMod (e2 fAdd (e2 fDiv (eVar 3) (eC (.int 7))) (e2 fMul (eVar 6) (e2 fAdd (eC (.int 1)) (e2 fMod (eVar 3) (eC (.int 11)))))) (eC (.int 256)))))
  (sDrop (eBM isL (m1 fAppend) (eVar 1) (aCons (eTup (aCons (eA m__law_taken (aCons (eVar 0) (aCons (eC (.int 256)) (aNil)))) (aCons (e2 fMod (e2 fDiv (eVar 3) (eC (.int 256))) (eC (.int 256))) (aCons (e2 fMod (e2 fDiv (eVar 3) (eC (.int 65536))) (eC (.int 256))) (aCons (eVar 5) (aNil)))))) (aNil)))))))))
  (sRet (eVar 1)))
def m__law_frames : List D → M D := fnM 7 1 b__law_frames
/-- _law_same -/
def b__law_same : MS :=
  sSeq (sIf (tOr (tNot (tOf (e1 (fIsC 3) (eVar 0)))) (tNot (tOf (eA m__law_list (aCons (eLst (aCons (e1 (fFld 3 "kind") (eVar 0)) (aCons (e1 (fFld 3 "flag") (eVar 0)) (aCons (e1 (fFld 3 "talk") (eVar 0)) (aNil))))) (aCons (eA (a1 fList) (aCons (eSl (eVar 1) oNo (oSo (eC (.int 3)))) (aNil))) (aNil))))))) (sRet (eC (.bl false))) (sNext))
  (sRet (eA m__law_list (aCons (e1 (fFld 3 "numbers") (eVar 0)) (aCons (e2 fIx (eVar 1) (eC (.int 3))) (aNil)))))
def m__law_same : List D → M D := fnM 2 2 b__law_same
/-- law -/
def b_law : MS :=
  sSeq (sSet 1 (eA m__law_row (aCons (eVar 0) (aNil))))
  (sSeq (sSet 2 (eA m__law_taken (aCons (eVar 1) (aCons (eC (.int 4)) (aNil)))))
  (sSeq (sSet 3 (eA m__law_taken (aCons (eVar 1) (aCons (e2 fPow (eC (.int 10)) (eC (.int 9))) (aNil)))))
  (sSeq (sSet 4 (eA m__law_frames (aCons (eVar 1) (aNil))))
  (sSeq (sSet 5 (eLst (aNil)))
  (sSeq (sSet 6 (eLstR (aNil)))
  (sSeq (sFor (iL (eVar 4)) (.one 7) (sSeq (sSet 8 (eA (a1 fList) (aCons (e2 fIx (eVar 7) (eC (.int 3))) (aNil))))
  (sSeq (sSet 9 (eA m_framed (aCons (e2 fIx (eVar 7) (eC (.int 0))) (aCons (e2 fIx (eVar 7) (eC (.int 1))) (aCons (e2 fIx (eVar 7) (eC (.int 2))) (aCons (eVar 8) (aNil)))))))
  (sSeq (sSet 10 (e2 fAdd (eLst (aCons (eA (a1 fLen) (aCons (e2 fIx (eVar 7) (eC (.int 3))) (aNil))) (aCons (e2 fIx (eVar 7) (eC (.int 0))) (aCons (e2 fIx (eVar 7) (eC (.int 1))) (aCons (e2 fIx (eVar 7) (eC (.int 2))) (aNil)))))) (e2 fIx (eVar 7) (eC (.int 3)))))
  (sSeq (sIf (tOr (tNot (tOf (eA m__law_list (aCons (eVar 9) (aCons (eVar 10) (aNil)))))) (tOf (e2 fNe (eVar 8) (e2 fIx (eVar 7) (eC (.int 3)))))) (sRet (eC (.bl false))) (sNext))
  (sSeq (sSet 5 (e2 fAdd (eVar 5) (eVar 10)))
  (sDrop (eBM isL (m1 fAppend) (eVar 6) (aCons (eA (a1 fLen) (aCons (eVar 5) (aNil))) (aNil))))))))))
  (sSeq (sSet 5 (e2 fAdd (eVar 5) (e2 fIx (eLst (aCons (eLst (aNil)) (aCons (eLst (aCons (eC (.int 3)) (aNil))) (aCons (eLst (aCons (eC (.int 2)) (aCons (eC (.int 1)) (aCons (eC (.int 0)) (aNil))))) (aCons (eLst (aCons (eC (.int 2)) (aCons (eC (.int 1)) (aCons (eC (.int 0)) (aCons (eC (.int 5)) (aCons (eC (.int 9)) (aNil))))))) (aNil)))))) (e2 fMod (eVar 3) (eC (.int 4))))))
  (sSeq (sSet 11 (eA (fMake 4 (fun ds => noErr (m_Cutter_init ds))) aNil))
  (sSeq (sSet 12 (eC (.int 0)))
  (sSeq (sSet 13 (eC (.int 0)))
  (sSeq (sFor (iR1 (e2 fAdd (eA (a1 fLen) (aCons (eVar 5) (aNil))) (eC (.int 4)))) (.one 14) (sSeq (sSet 15 (e2 fAdd (e2 fMod (e2 fDiv (eVar 3) (e2 fAdd (eC (.int 1)) (e2 fMod (eVar 14) (eC (.int 5))))) (eC (.int 10))) (eA (a1 fInt) (aCons (e2 fEq (e2 fMod (eVar 14) (eC (.int 7))) (eC (.int 6))) (aNil)))))
  (sSeq (sIf (tOf (e2 fEq (eVar 2) (eC (.int 3)))) (sSet 15 (eC (.int 300))) (sNext))
  (sSeq (sSet 16 (eSl (eVar 5) (oSo (eVar 12)) (oSo (e2 fAdd (eVar 12) (eVar 15)))))
  (sSeq (sSet 17 (eA (a1 fList) (aCons (eVar 16) (aNil))))
  (sSeq (sSet 12 (e2 fAdd (eVar 12) (eA (a1 fLen) (aCons (eVar 16) (aNil)))))
  (sSeq (sSet 10 (eComp [7, 19] (iZ (eVar 4) (eVar 6)) (.many [7, 19]) (tOf (eChain fLt fLe (e2 fSub (eVar 12) (eA (a1 fLen) (aCons (eVar 16) (aNil)))) (eVar 19) (eVar 12))) (eVar 7)))
  (sSeq (sSet 9 (eMeth 4 "fed" m_Cutter_fed (eVar 11) (aCons (eVar 17) (aNil))))
  (sSeq (sIf (tOr (tNot (tOf (e1 (fIsi "list") (eVar 9)))) (tOr (tOf (e2 fNe (eA (a1 fLen) (aCons (eVar 9) (aNil))) (eA (a1 fLen) (aCons (eVar 10) (aNil))))) (tOf (e2 fNe (eVar 17) (eVar 16))))) (sRet (eC (.bl false))) (sNext))
  (sSeq (sFor (iZ (eVar 9) (eVar 10)) (.many [18, 7]) (sIf (tNot (tOf (eA m__law_same (aCons (eVar 18) (aCons (eVar 7) (aNil)))))) (sRet (eC (.bl false))) (sNext)))
  (sSet 13 (e2 fAdd (eVar 13) (eA (a1 fLen) (aCons (eVar 10) (aNil)))))))))))))))
  (sRet (eOr (e2 fLt (eVar 12) (eA (a1 fLen) (aCons (eVar 5) (aNil)))) (e2 fEq (eVar 13) (eA (a1 fLen) (aCons (eVar 4) (aNil)))))))))))))))))
def m_law : List D → M D := fnM 20 1 b_law
end Law

/-! plain facts about the mirror language -/
namespace Sim
open PySem PySem.Spec L2
theorem rangeD_succ (lo : Int) (n : Nat) : rangeD lo (n + 1) = .int lo :: rangeD (lo + 1) n := by
  unfold rangeD
  rw [List.range_succ_eq_map, List.map_cons, List.map_map]
  congr 1
  · simp
  · apply List.map_congr_left
    intro i _
    show D.int (lo + ((i + 1 : Nat) : Int)) = D.int (lo + 1 + (i : Int))
    congr 1
    omega
theorem rangeD_zero (lo : Int) : rangeD lo 0 = [] := rfl
theorem rangeD_len (lo : Int) (n : Nat) : (rangeD lo n).length = n := by unfold rangeD; simp
theorem listOf_fl (ds : List D) : listOf (.fl ds) = fun _ => some ds := rfl
theorem listOf_scr (ns : List Int) : listOf (.scr ns) = fun _ => some (ns.map D.int) := rfl
theorem isL_fl (ds : List D) (S : Store) : isL (.fl ds) S = true := rfl
theorem isL_scr (ns : List Int) (S : Store) : isL (.scr ns) S = true := rfl
theorem bigI_of {i : Int} (h0 : -4611686018427387904 ≤ i) (h1 : i < 4611686018427387904) : bigI i = true := by
  unfold bigI
  exact decide_eq_true ⟨h0, h1⟩
/-! ### data -/
mutual
def toP : D → Option PyData
  | .non => some .none
  | .bl b => some (.bool b)
  | .int i => some (.int i)
  | .str s => some (.str s)
  | .tup ds => (toPs ds).map .tuple
  | .fl ds => (toPs ds).map .list
  | .scr ns => some (.list (ns.map PyData.int))
  | .ref _ => none
def toPs : List D → Option (List PyData)
  | [] => some []
  | d :: ds => match toP d, toPs ds with
    | some x, some xs => some (x :: xs)
    | _, _ => none
end
mutual
def depD : D → Nat
  | .tup ds => depDs ds + 1
  | .fl ds => depDs ds + 1
  | _ => 1
def depDs : List D → Nat
  | [] => 1
  | d :: ds => max (depD d) (depDs ds)
end
theorem mapM_py {S : Store} {k : Nat} (ih : ∀ d x, toP d = some x → depD d ≤ k → pyD S k d = some x) : ∀ (ds : List D) (xs : List PyData), toPs ds = some xs → depDs ds ≤ k → ds.mapM (pyD S k) = some xs
  | [], xs, h, _ => by unfold toPs at h; cases h; rfl
  | d :: ds, xs, h, hd => by
    unfold toPs at h
    unfold depDs at hd
    cases e1 : toP d with
    | none => rw [e1] at h; cases h
    | some x =>
      cases e2 : toPs ds with
      | none => rw [e1, e2] at h; cases h
      | some ys =>
        rw [e1, e2] at h
        cases h
        rw [List.mapM_cons, ih d x e1 (by omega), mapM_py ih ds ys e2 (by omega)]
        rfl
theorem pyD_of {S : Store} : ∀ (k : Nat) (d : D) (x : PyData), toP d = some x → depD d ≤ k → pyD S k d = some x
  | 0, d, x, _, hd => by
    exfalso
    cases d <;> (unfold depD at hd; omega)
  | k + 1, d, x, h, hd => by
    cases d with
    | non => unfold toP at h; cases h; rfl
    | bl b => unfold toP at h; cases h; rfl
    | int i => unfold toP at h; cases h; rfl
    | str s => unfold toP at h; cases h; rfl
    | scr ns => unfold toP at h; cases h; rfl
    | ref n => unfold toP at h; cases h
    | tup ds =>
      unfold toP at h
      unfold depD at hd
      cases e : toPs ds with
      | none => rw [e] at h; cases h
      | some ys =>
        rw [e] at h
        cases h
        unfold pyD
        rw [mapM_py (pyD_of k) ds ys e (by omega)]
        rfl
    | fl ds =>
      unfold toP at h
      unfold depD at hd
      cases e : toPs ds with
      | none => rw [e] at h; cases h
      | some ys =>
        rw [e] at h
        cases h
        unfold pyD
        rw [mapM_py (pyD_of k) ds ys e (by omega)]
        rfl
theorem toPs_ints : ∀ ns : List Int, toPs (ns.map D.int) = some (ns.map PyData.int)
  | [] => rfl
  | n :: ns => by rw [List.map_cons]; unfold toPs; rw [toPs_ints ns]; rfl
theorem depDs_ints : ∀ ns : List Int, depDs (ns.map D.int) = 1
  | [] => rfl
  | n :: ns => by rw [List.map_cons]; unfold depDs; rw [depDs_ints ns]; rfl
theorem lay_ints : ∀ ns : List Int, PyData.canLayAll0 (ns.map PyData.int) = true
  | [] => rfl
  | n :: ns => by rw [List.map_cons]; unfold PyData.canLayAll0; rw [lay_ints ns]; rfl
theorem dep_ints : ∀ ns : List Int, PyData.depthAll (ns.map PyData.int) = 0
  | [] => rfl
  | n :: ns => by rw [List.map_cons]; unfold PyData.depthAll; rw [dep_ints ns]; rfl
theorem shaped_ints (ns : List Int) : SeqAt.shaped (.list (ns.map PyData.int)) = true := by
  unfold SeqAt.shaped
  rw [Bool.and_eq_true]
  refine ⟨?_, ?_⟩
  · unfold PyData.canLay0; exact lay_ints ns
  · unfold PyData.depth; rw [dep_ints]; decide
theorem eqv_ints : ∀ (a b : List Int), PyData.eqvAll (a.map PyData.int) (b.map PyData.int) = decide (a = b)
  | [], [] => rfl
  | [], _ :: _ => rfl
  | _ :: _, [] => rfl
  | x :: xs, y :: ys => by
    rw [List.map_cons, List.map_cons]
    unfold PyData.eqvAll
    rw [eqv_ints xs ys]
    show ((x == y) && decide (xs = ys)) = decide (x :: xs = y :: ys)
    by_cases c : x = y
    · subst c; simp
    · simp [c]
theorem eqD_of {a b : D} {x y : PyData} {S : Store} (ha : toP a = some x) (hb : toP b = some y) (da : depD a ≤ 8) (db : depD b ≤ 8) (sa : SeqAt.shaped x = true) (sb : SeqAt.shaped y = true) : eqD a b S = some (PyData.eqv x y) := by
  unfold eqD
  rw [pyD_of pyDepth a x ha da, pyD_of pyDepth b y hb db]
  simp only [sa, sb, and_self, if_true]
theorem eqD_int (i j : Int) (S : Store) : eqD (.int i) (.int j) S = some (decide (i = j)) := by
  rw [eqD_of (a := .int i) (b := .int j) (x := .int i) (y := .int j) rfl rfl (show 1 ≤ 8 by decide) (show 1 ≤ 8 by decide) rfl rfl]
  show some (i == j) = _
  by_cases c : i = j <;> simp [c]
theorem eqD_ints (a b : List Int) (S : Store) : eqD (.fl (a.map D.int)) (.fl (b.map D.int)) S = some (decide (a = b)) := by
  rw [eqD_of (x := .list (a.map .int)) (y := .list (b.map .int)) (by unfold toP; rw [toPs_ints]; rfl) (by unfold toP; rw [toPs_ints]; rfl) (by unfold depD; rw [depDs_ints]; decide) (by unfold depD; rw [depDs_ints]; decide) (shaped_ints a) (shaped_ints b)]
  show some (PyData.eqvAll _ _) = _
  rw [eqv_ints]
theorem shaped_str {s : Str} (h : PyData.strOk s = true) : SeqAt.shaped (.str s) = true := by
  unfold SeqAt.shaped PyData.canLay0 PyData.depth
  rw [h]; decide
theorem eqD_str {s t : Str} (S : Store) (h1 : PyData.strOk s = true) (h2 : PyData.strOk t = true) : eqD (.str s) (.str t) S = some (decide (s = t)) := by
  rw [eqD_of (a := .str s) (b := .str t) (x := .str s) (y := .str t) rfl rfl (show 1 ≤ 8 by decide) (show 1 ≤ 8 by decide) (shaped_str h1) (shaped_str h2)]
  show some (s == t) = _
  by_cases c : s = t <;> simp [c]
theorem natlit (n : Nat) : ((no_index (OfNat.ofNat n) : Nat) : Int) = (OfNat.ofNat n : Int) := rfl
/-! ### steps -/
theorem seq_nx {a b : MS} {l l' : Sl} {S S' : Store} (h : a l S = some (.nx l', S')) : sSeq a b l S = b l' S' := by unfold sSeq; rw [h]
theorem seq_rt {a b : MS} {l : Sl} {S S' : Store} {d : D} (h : a l S = some (.rt d, S')) : sSeq a b l S = some (.rt d, S') := by unfold sSeq; rw [h]
theorem seq_ex {a b : MS} {l l' : Sl} {S S' : Store} {x : Exn} (h : a l S = some (.ex x l', S')) : sSeq a b l S = some (.ex x l', S') := by unfold sSeq; rw [h]
theorem fn_rt {n np : Nat} {body : MS} {ds : List D} {S S' : Store} {d : D} (hl : ds.length = np) (h : body (ds.map some ++ List.replicate (n - np) none) S = some (.rt d, S')) : fnM n np body ds S = some (.ok d, S') := by unfold fnM; rw [if_pos hl, h]
theorem fn_nx {n np : Nat} {body : MS} {ds : List D} {S S' : Store} {l : Sl} (hl : ds.length = np) (h : body (ds.map some ++ List.replicate (n - np) none) S = some (.nx l, S')) : fnM n np body ds S = some (.ok .non, S') := by unfold fnM; rw [if_pos hl, h]
theorem fn_ex {n np : Nat} {body : MS} {ds : List D} {S S' : Store} {l : Sl} {x : Exn} (hl : ds.length = np) (h : body (ds.map some ++ List.replicate (n - np) none) S = some (.ex x l, S')) : fnM n np body ds S = some (.error x, S') := by unfold fnM; rw [if_pos hl, h]
theorem fMul_l {i j : Int} (h0 : -18446744073709551616 < i) (h1 : i < 18446744073709551616) (S : Store) : fMul (.int i) (.int j) S = some (.ok (.int (i * j)), S) := by unfold fMul; simp only; rw [if_pos (.inl ⟨h0, h1⟩)]
theorem fMul_r {i j : Int} (h0 : -18446744073709551616 < j) (h1 : j < 18446744073709551616) (S : Store) : fMul (.int i) (.int j) S = some (.ok (.int (i * j)), S) := by unfold fMul; simp only; rw [if_pos (.inr ⟨h0, h1⟩)]
theorem fMod_i {i j : Int} (h : 0 < j) (S : Store) : fMod (.int i) (.int j) S = some (.ok (.int (i % j)), S) := by unfold fMod; simp only; rw [if_pos h]
theorem fDiv_i {i j : Int} (h : 0 < j) (h1 : j < 1606938044258990275541962092341162602522202993782792835301376) (S : Store) : fDiv (.int i) (.int j) S = some (.ok (.int (i / j)), S) := by unfold fDiv; simp only; rw [if_pos ⟨h, h1⟩]
theorem fAdd_i (i j : Int) (S : Store) : fAdd (.int i) (.int j) S = some (.ok (.int (i + j)), S) := rfl
theorem fSub_i (i j : Int) (S : Store) : fSub (.int i) (.int j) S = some (.ok (.int (i - j)), S) := rfl
theorem fLt_i (i j : Int) (S : Store) : fLt (.int i) (.int j) S = some (.ok (.bl (decide (i < j))), S) := rfl
theorem fCmp_i (p : Int → Int → Bool) (i j : Int) (S : Store) : fCmpI p (.int i) (.int j) S = some (.ok (.bl (p i j)), S) := rfl
theorem fEq_i (i j : Int) (S : Store) : fEq (.int i) (.int j) S = some (.ok (.bl (decide (i = j))), S) := by unfold fEq; rw [eqD_int]
theorem fNe_i (i j : Int) (S : Store) : fNe (.int i) (.int j) S = some (.ok (.bl (!decide (i = j))), S) := by unfold fNe; rw [eqD_int]
theorem atI_n {α : Type} {xs : List α} {j : Nat} {x : α} (h : xs[j]? = some x) : atI xs (j : Int) = some x := by
  have hj := (List.getElem?_eq_some_iff.mp h).1
  unfold atI ixN
  rw [if_pos (by omega), if_pos (by omega)]
  simpa using h
theorem atI_i {α : Type} {xs : List α} {i : Int} {x : α} (h0 : 0 ≤ i) (h : xs[i.toNat]? = some x) : atI xs i = some x := by
  obtain ⟨j, rfl⟩ := Int.eq_ofNat_of_zero_le h0
  exact atI_n (by simpa using h)
theorem fIx_fl {ds : List D} {i : Int} {d : D} (h0 : 0 ≤ i) (h : ds[i.toNat]? = some d) (S : Store) : fIx (.fl ds) (.int i) S = some (.ok d, S) := by
  unfold fIx dctOf seqOf listOf; simp only [atI_i h0 h]
theorem fIx_tup {ds : List D} {i : Int} {d : D} (h0 : 0 ≤ i) (h : ds[i.toNat]? = some d) (S : Store) : fIx (.tup ds) (.int i) S = some (.ok d, S) := by
  unfold fIx dctOf seqOf; simp only [atI_i h0 h]
theorem fIx_scr {ns : List Int} {i : Int} {n : Int} (h0 : 0 ≤ i) (h : ns[i.toNat]? = some n) (S : Store) : fIx (.scr ns) (.int i) S = some (.ok (.int n), S) := by
  unfold fIx dctOf seqOf listOf
  simp only [atI_i h0 (show (ns.map D.int)[i.toNat]? = some (.int n) by rw [List.getElem?_map, h]; rfl)]
theorem fIx_ref {n : Nat} {ds : List D} {b : Bool} {i : Int} {d : D} {S : Store} (hS : S[n]? = some ⟨.lst ds, b⟩) (h0 : 0 ≤ i) (h : ds[i.toNat]? = some d) : fIx (.ref n) (.int i) S = some (.ok d, S) := by
  unfold fIx dctOf seqOf listOf; simp only [hS, atI_i h0 h]
theorem fIx_str {s : Str} {i : Int} {c : Nat} (hl : s.length ≤ 16777216) (h0 : 0 ≤ i) (h : s.cps.toList[i.toNat]? = some c) (S : Store) : fIx (.str s) (.int i) S = some (.ok (.str ⟨#[c]⟩), S) := by
  unfold fIx
  have e : s.length ≤ lineN := hl
  simp only [e, if_true, atI_i h0 h]
theorem fIx_dct {n : Nat} {kvs : List (Key × D)} {b : Bool} {k : D} {kk : Key} {d : D} {S : Store} (hS : S[n]? = some ⟨.dct kvs, b⟩) (hk : keyOf k = some kk) (h : valD kvs kk = some d) : fIx (.ref n) k S = some (.ok d, S) := by
  unfold fIx dctOf; simp only [hS, hk, h]
theorem putIx_lst {n : Nat} {ds : List D} {i : Int} {d : D} {S : Store} (hS : S[n]? = some ⟨.lst ds, false⟩) (h0 : 0 ≤ i) (h : i < ds.length) : putIxD (.ref n) (.int i) d S = some (S.set n ⟨.lst (ds.set i.toNat d), false⟩) := by
  unfold putIxD ixN
  simp only [hS, h0, h, if_true]
theorem fLen_fl (ds : List D) (S : Store) : fLen (.fl ds) S = some (.ok (.int ds.length), S) := rfl
theorem fLen_tup (ds : List D) (S : Store) : fLen (.tup ds) S = some (.ok (.int ds.length), S) := rfl
theorem fLen_scr (ns : List Int) (S : Store) : fLen (.scr ns) S = some (.ok (.int ns.length), S) := by unfold fLen dctU seqOf listOf; simp
theorem fLen_str {s : Str} (h : s.length ≤ 16777216) (S : Store) : fLen (.str s) S = some (.ok (.int s.length), S) := by unfold fLen; simp only; rw [if_pos (show s.length ≤ lineN from h)]
theorem fLen_ref {n : Nat} {ds : List D} {b : Bool} {S : Store} (hS : S[n]? = some ⟨.lst ds, b⟩) : fLen (.ref n) S = some (.ok (.int ds.length), S) := by unfold fLen dctU seqOf listOf; simp only [hS]
theorem fAdd_fl {xs ys : List D} (h : xs.length + ys.length ≤ 16777216) (S : Store) : fAdd (.fl xs) (.fl ys) S = some (.ok (.fl (xs ++ ys)), S) := by unfold fAdd catOf; simp only; rw [if_pos (show _ ≤ lineN from h)]
theorem fAdd_str {s t : Str} (h : s.length + t.length ≤ 16777216) (S : Store) : fAdd (.str s) (.str t) S = some (.ok (.str (s ++ t)), S) := by unfold fAdd; simp only; rw [if_pos (show _ ≤ lineN from h)]
theorem fIsi_int (T : String) (i : Int) (S : Store) : fIsi T (.int i) S = some (.ok (.bl ("int" == T || ("int" == "bool" && T == "int"))), S) := rfl
theorem sFor_fl {a : ME} {tg : Tg} {body : MS} {l : Sl} {S S1 : Store} {ds : List D} (h : a l S = some (.ok (.fl ds), S1)) : sFor (iL a) tg body l S = forL tg body ds l S1 := by
  have e : iL a l S = some (.ok (fun _ => some ds), S1) := by unfold iL; rw [h]; rfl
  unfold sFor
  rw [e]
  exact forG_all
theorem sFor_scr {a : ME} {tg : Tg} {body : MS} {l : Sl} {S S1 : Store} {ns : List Int} (h : a l S = some (.ok (.scr ns), S1)) : sFor (iL a) tg body l S = forL tg body (ns.map D.int) l S1 := by
  have e : iL a l S = some (.ok (fun _ => some (ns.map D.int)), S1) := by unfold iL; rw [h]; rfl
  unfold sFor
  rw [e]
  exact forG_all
theorem sFor_str {a : ME} {tg : Tg} {body : MS} {l : Sl} {S S1 : Store} {z : Str} (h : a l S = some (.ok (.str z), S1)) : sFor (iS a) tg body l S = forL tg body (signsOf z) l S1 := by
  have e : iS a l S = some (.ok (fun _ => some (signsOf z)), S1) := by unfold iS; rw [h]; rfl
  unfold sFor
  rw [e]
  exact forG_all
theorem iR1_ok {a : ME} {l : Sl} {S S1 : Store} {n : Int} (h : a l S = some (.ok (.int n), S1)) (h0 : -4611686018427387904 ≤ n) (h1 : n < 4611686018427387904) : iR1 a l S = some (.ok (fun _ => some (rangeD 0 n.toNat)), S1) := by
  unfold iR1
  rw [h]
  simp only [bnd]
  rw [if_pos (bigI_of h0 h1)]
theorem sFor_r1 {a : ME} {tg : Tg} {body : MS} {l : Sl} {S S1 : Store} {n : Int} (h : a l S = some (.ok (.int n), S1)) (h0 : -4611686018427387904 ≤ n) (h1 : n < 4611686018427387904) : sFor (iR1 a) tg body l S = forL tg body (rangeD 0 n.toNat) l S1 := by
  unfold sFor
  rw [iR1_ok h h0 h1]
  exact forG_all
theorem eComp_of {vs : List Nat} {mi : Sl → M Src} {tg : Tg} {t : MT} {e : ME} {l : Sl} {S S1 : Store} {ds : List D} (h : mi l S = some (.ok (fun _ => some ds), S1)) : eComp vs mi tg t e l S = compL tg t e (wipeD l vs) [] ds S1 := by
  unfold eComp
  rw [h]
  exact compG_all
theorem eComp_fl {vs : List Nat} {a : ME} {tg : Tg} {t : MT} {e : ME} {l : Sl} {S S1 : Store} {ds : List D} (h : a l S = some (.ok (.fl ds), S1)) : eComp vs (iL a) tg t e l S = compL tg t e (wipeD l vs) [] ds S1 :=
  eComp_of (by unfold iL; rw [h]; rfl)
theorem eComp_str {vs : List Nat} {a : ME} {tg : Tg} {t : MT} {e : ME} {l : Sl} {S S1 : Store} {z : Str} (h : a l S = some (.ok (.str z), S1)) : eComp vs (iS a) tg t e l S = compL tg t e (wipeD l vs) [] (signsOf z) S1 :=
  eComp_of (by unfold iS; rw [h]; rfl)
theorem eComp_r1 {vs : List Nat} {a : ME} {tg : Tg} {t : MT} {e : ME} {l : Sl} {S S1 : Store} {n : Int} (h : a l S = some (.ok (.int n), S1)) (h0 : -4611686018427387904 ≤ n) (h1 : n < 4611686018427387904) : eComp vs (iR1 a) tg t e l S = compL tg t e (wipeD l vs) [] (rangeD 0 n.toNat) S1 :=
  eComp_of (iR1_ok h h0 h1)
theorem compL_map {α : Type} {tg : Tg} {e : ME} {l : Sl} {S : Store} (g f : α → D) : ∀ (xs : List α) (acc : List D), (∀ a ∈ xs, ∃ l1, tgSet tg (g a) l = some l1 ∧ e l1 S = some (.ok (f a), S)) → acc.length + xs.length ≤ 16777216 →
    compL tg tYes' e l acc (xs.map g) S = some (.ok (.fl (acc ++ xs.map f)), S)
  | [], acc, _, _ => by rw [List.map_nil, compL]; simp
  | d :: ds, acc, h, hl => by
    obtain ⟨l1, h1, h2⟩ := h d List.mem_cons_self
    rw [List.length_cons] at hl
    rw [List.map_cons, compL]
    simp only [h1, tYes', bndN, if_true, h2]
    rw [if_pos (show acc.length < lineN by show _ < 16777216; omega), compL_map g f ds (acc ++ [f d]) (fun d hd => h d (List.mem_cons_of_mem _ hd)) (by rw [List.length_append]; simp; omega), List.map_cons, List.append_assoc]
    rfl
theorem sIx_lo {n : Nat} {i : Int} (h0 : 0 ≤ i) (h1 : i ≤ n) {d : Nat} : HT.sIx n d (some i) = i.toNat := by
  obtain ⟨k, rfl⟩ := Int.eq_ofNat_of_zero_le h0
  rw [HT.sIx_nat]
  omega
theorem cut_mid {xs : List D} {i j : Int} (h0 : 0 ≤ i) (h1 : i ≤ j) (h2 : j ≤ xs.length) : cutD xs (some i) (some j) = (xs.drop i.toNat).take (j.toNat - i.toNat) := by
  unfold cutD
  rw [sIx_lo h0 (by omega), sIx_lo (by omega) h2]
theorem cut_lo {xs : List D} {i : Int} (h0 : 0 ≤ i) (h1 : i ≤ xs.length) : cutD xs (some i) none = xs.drop i.toNat := by
  unfold cutD
  rw [sIx_lo h0 h1]
  show (xs.drop i.toNat).take (xs.length - i.toNat) = _
  rw [List.take_of_length_le (by simp)]
theorem cut_hi {xs : List D} {j : Int} (h0 : 0 ≤ j) (h1 : j ≤ xs.length) : cutD xs none (some j) = xs.take j.toNat := by
  unfold cutD
  rw [sIx_lo h0 h1]
  show (xs.drop 0).take (j.toNat - 0) = _
  simp
theorem fIx_t0 (a : D) (r : List D) (S : Store) : fIx (.tup (a :: r)) (.int 0) S = some (.ok a, S) := fIx_tup (by decide) rfl S
theorem fIx_t1 (a b : D) (r : List D) (S : Store) : fIx (.tup (a :: b :: r)) (.int 1) S = some (.ok b, S) := fIx_tup (by decide) rfl S
theorem fIx_t2 (a b c : D) (r : List D) (S : Store) : fIx (.tup (a :: b :: c :: r)) (.int 2) S = some (.ok c, S) := fIx_tup (by decide) rfl S
theorem fIx_t3 (a b c d : D) (r : List D) (S : Store) : fIx (.tup (a :: b :: c :: d :: r)) (.int 3) S = some (.ok d, S) := fIx_tup (by decide) rfl S
theorem fIx_f0 (a : D) (r : List D) (S : Store) : fIx (.fl (a :: r)) (.int 0) S = some (.ok a, S) := fIx_fl (by decide) rfl S
theorem fIx_f1 (a b : D) (r : List D) (S : Store) : fIx (.fl (a :: b :: r)) (.int 1) S = some (.ok b, S) := fIx_fl (by decide) rfl S
theorem fIx_f2 (a b c : D) (r : List D) (S : Store) : fIx (.fl (a :: b :: c :: r)) (.int 2) S = some (.ok c, S) := fIx_fl (by decide) rfl S
theorem fIx_f3 (a b c d : D) (r : List D) (S : Store) : fIx (.fl (a :: b :: c :: d :: r)) (.int 3) S = some (.ok d, S) := fIx_fl (by decide) rfl S
theorem pow17 (S : Store) : fPow (.int 10) (.int 17) S = some (.ok (.int 100000000000000000), S) := by
  unfold fPow
  simp only
  rw [if_pos (by decide +kernel)]
  have : (10 : Int) ^ (17 : Int).toNat = 100000000000000000 := by decide +kernel
  rw [this]
theorem pow9 (S : Store) : fPow (.int 10) (.int 9) S = some (.ok (.int 1000000000), S) := by
  unfold fPow
  simp only
  rw [if_pos (by decide +kernel)]
  have : (10 : Int) ^ (9 : Int).toNat = 1000000000 := by decide +kernel
  rw [this]
theorem pow41 (S : Store) : fPow (.int 10) (.int 41) S = some (.ok (.int 100000000000000000000000000000000000000000), S) := by
  unfold fPow
  simp only
  rw [if_pos (by decide +kernel)]
  have : (10 : Int) ^ (41 : Int).toNat = 100000000000000000000000000000000000000000 := by decide +kernel
  rw [this]
theorem pow18 (S : Store) : fPow (.int 10) (.int 18) S = some (.ok (.int 1000000000000000000), S) := by
  unfold fPow
  simp only
  rw [if_pos (by decide +kernel)]
  have : (10 : Int) ^ (18 : Int).toNat = 1000000000000000000 := by decide +kernel
  rw [this]
/-! ### loops by an invariant -/
theorem forG_rule {src : Src} {tg : Tg} {body : MS} {ds : List D} {Inv : Nat → Sl → Store → Prop} {Q : Fl → Store → Prop}
    (hsrc : ∀ i l S, Inv i l S → src S = some ds)
    (hstep : ∀ i d l S, Inv i l S → ds[i]? = some d → ∃ l1, tgSet tg d l = some l1 ∧ ((∃ l' S', body l1 S = some (.nx l', S') ∧ Inv (i + 1) l' S') ∨ (∃ l' S', body l1 S = some (.ct l', S') ∧ Inv (i + 1) l' S') ∨ (∃ l' S', body l1 S = some (.bk l', S') ∧ Q (.nx l') S') ∨ (∃ d' S', body l1 S = some (.rt d', S') ∧ Q (.rt d') S') ∨ (∃ x l' S', body l1 S = some (.ex x l', S') ∧ Q (.ex x l') S')))
    (hend : ∀ l S, Inv ds.length l S → Q (.nx l) S) : ∀ (k i : Nat) (l : Sl) (S : Store), ds.length < k + i → i ≤ ds.length → Inv i l S → ∃ r S', forG src tg body k i l S = some (r, S') ∧ Q r S'
  | 0, i, l, S, h, h', _ => absurd h (by omega)
  | k + 1, i, l, S, h, h', hI => by
    unfold forG
    simp only [hsrc i l S hI]
    by_cases c : i < ds.length
    · have hd : ds[i]? = some ds[i] := List.getElem?_eq_getElem c
      obtain ⟨l1, e1, hs⟩ := hstep i _ l S hI hd
      rw [hd]
      simp only [e1]
      rcases hs with ⟨l', S', e2, hI'⟩ | ⟨l', S', e2, hI'⟩ | ⟨l', S', e2, hq⟩ | ⟨d', S', e2, hq⟩ | ⟨x, l', S', e2, hq⟩
      · rw [e2]; exact forG_rule hsrc hstep hend k (i + 1) l' S' (by omega) (by omega) hI'
      · rw [e2]; exact forG_rule hsrc hstep hend k (i + 1) l' S' (by omega) (by omega) hI'
      · rw [e2]; exact ⟨_, _, rfl, hq⟩
      · rw [e2]; exact ⟨_, _, rfl, hq⟩
      · rw [e2]; exact ⟨_, _, rfl, hq⟩
    · have e : i = ds.length := by omega
      subst e
      rw [List.getElem?_eq_none (Nat.le_refl _)]
      exact ⟨_, _, rfl, hend l S hI⟩
theorem sFor_rule {items : Sl → M Src} {src : Src} {tg : Tg} {body : MS} {ds : List D} (Inv : Nat → Sl → Store → Prop) (Q : Fl → Store → Prop) {l : Sl} {S S1 : Store}
    (hi : items l S = some (.ok src, S1)) (h0 : Inv 0 l S1)
    (hsrc : ∀ i l S, Inv i l S → src S = some ds)
    (hstep : ∀ i d l S, Inv i l S → ds[i]? = some d → ∃ l1, tgSet tg d l = some l1 ∧ ((∃ l' S', body l1 S = some (.nx l', S') ∧ Inv (i + 1) l' S') ∨ (∃ l' S', body l1 S = some (.ct l', S') ∧ Inv (i + 1) l' S') ∨ (∃ l' S', body l1 S = some (.bk l', S') ∧ Q (.nx l') S') ∨ (∃ d' S', body l1 S = some (.rt d', S') ∧ Q (.rt d') S') ∨ (∃ x l' S', body l1 S = some (.ex x l', S') ∧ Q (.ex x l') S')))
    (hend : ∀ l S, Inv ds.length l S → Q (.nx l) S) : ∃ r S', sFor items tg body l S = some (r, S') ∧ Q r S' := by
  unfold sFor
  rw [hi]
  simp only [bndS, hsrc 0 l S1 h0]
  exact forG_rule hsrc hstep hend _ 0 l S1 (by omega) (by omega) h0
theorem sFor_thru {items : Sl → M Src} {src : Src} {tg : Tg} {body : MS} {ds : List D} (Inv : Nat → Sl → Store → Prop) {l : Sl} {S S1 : Store}
    (hi : items l S = some (.ok src, S1)) (h0 : Inv 0 l S1)
    (hsrc : ∀ i l S, Inv i l S → src S = some ds)
    (hstep : ∀ i d l S, Inv i l S → ds[i]? = some d → ∃ l1, tgSet tg d l = some l1 ∧ ∃ l' S', body l1 S = some (.nx l', S') ∧ Inv (i + 1) l' S') :
    ∃ l' S', sFor items tg body l S = some (.nx l', S') ∧ Inv ds.length l' S' := by
  obtain ⟨r, S', h1, l', h2, h3⟩ := sFor_rule (ds := ds) Inv (fun r S' => ∃ l', r = .nx l' ∧ Inv ds.length l' S') hi h0 hsrc (fun i d l S a b => by
    obtain ⟨l1, h1, h2⟩ := hstep i d l S a b
    exact ⟨l1, h1, .inl h2⟩) (fun l S h => ⟨l, rfl, h⟩)
  subst h2
  exact ⟨l', S', h1, h3⟩
theorem iL_fl {a : ME} {l : Sl} {S S1 : Store} {ds : List D} (h : a l S = some (.ok (.fl ds), S1)) : iL a l S = some (.ok (fun _ => some ds), S1) := by unfold iL; rw [h]; rfl
theorem iL_ref {a : ME} {l : Sl} {S S1 : Store} {n : Nat} {ds : List D} {b : Bool} (h : a l S = some (.ok (.ref n), S1)) (hS : S1[n]? = some ⟨.lst ds, b⟩) : iL a l S = some (.ok (Sim.listOf (.ref n)), S1) := by
  unfold iL
  rw [h]
  simp only [bnd]
  rw [if_pos (by unfold isL Sim.listOf; simp only [hS]; rfl)]
theorem listOf_ref {n : Nat} {ds : List D} {b : Bool} {S : Store} (hS : S[n]? = some ⟨.lst ds, b⟩) : Sim.listOf (.ref n) S = some ds := by unfold Sim.listOf; simp only [hS]
theorem iEn_fl {a : ME} {l : Sl} {S S1 : Store} {ds : List D} (h : a l S = some (.ok (.fl ds), S1)) : iEn a l S = some (.ok (fun _ => some (enumD ds)), S1) := by unfold iEn; rw [h]; rfl
theorem enumD_get {ds : List D} {i : Nat} {d : D} (h : (enumD ds)[i]? = some d) : ∃ x, ds[i]? = some x ∧ d = .tup [.int (i : Nat), x] := by
  unfold enumD at h
  rw [List.getElem?_map, List.getElem?_zipIdx] at h
  cases e : ds[i]? with
  | none => rw [e] at h; cases h
  | some x =>
    rw [e] at h
    refine ⟨x, rfl, ?_⟩
    have h : D.tup [.int ((0 + i : Nat) : Int), x] = d := Option.some.inj h
    rw [← h, Nat.zero_add]
theorem ln0 : decide (0 ≤ lineN) = true := decide_eq_true (by unfold lineN; decide)
theorem ln1 : decide (1 ≤ lineN) = true := decide_eq_true (by unfold lineN; decide)
theorem ln2 : decide (2 ≤ lineN) = true := decide_eq_true (by unfold lineN; decide)
theorem ln3 : decide (3 ≤ lineN) = true := decide_eq_true (by unfold lineN; decide)
theorem ln4 : decide (4 ≤ lineN) = true := decide_eq_true (by unfold lineN; decide)
theorem ln5 : decide (5 ≤ lineN) = true := decide_eq_true (by unfold lineN; decide)
theorem ln6 : decide (6 ≤ lineN) = true := decide_eq_true (by unfold lineN; decide)
theorem ln7 : decide (7 ≤ lineN) = true := decide_eq_true (by unfold lineN; decide)
theorem ln8 : decide (8 ≤ lineN) = true := decide_eq_true (by unfold lineN; decide)
theorem ln9 : decide (9 ≤ lineN) = true := decide_eq_true (by unfold lineN; decide)
theorem ln10 : decide (10 ≤ lineN) = true := decide_eq_true (by unfold lineN; decide)
theorem ln11 : decide (11 ≤ lineN) = true := decide_eq_true (by unfold lineN; decide)
theorem ln12 : decide (12 ≤ lineN) = true := decide_eq_true (by unfold lineN; decide)
theorem nl0 : ((0 : Nat) : Int) = 0 := rfl
theorem nl1 : ((1 : Nat) : Int) = 1 := rfl
theorem nl2 : ((2 : Nat) : Int) = 2 := rfl
theorem nl3 : ((3 : Nat) : Int) = 3 := rfl
theorem nl4 : ((4 : Nat) : Int) = 4 := rfl
theorem nl5 : ((5 : Nat) : Int) = 5 := rfl
theorem nl6 : ((6 : Nat) : Int) = 6 := rfl
theorem nl7 : ((7 : Nat) : Int) = 7 := rfl
theorem nl8 : ((8 : Nat) : Int) = 8 := rfl
theorem nl9 : ((9 : Nat) : Int) = 9 := rfl
theorem nl10 : ((10 : Nat) : Int) = 10 := rfl
theorem nl11 : ((11 : Nat) : Int) = 11 := rfl
theorem nl12 : ((12 : Nat) : Int) = 12 := rfl
theorem nl13 : ((13 : Nat) : Int) = 13 := rfl
theorem nl14 : ((14 : Nat) : Int) = 14 := rfl
theorem nl15 : ((15 : Nat) : Int) = 15 := rfl
theorem nl16 : ((16 : Nat) : Int) = 16 := rfl
theorem nl17 : ((17 : Nat) : Int) = 17 := rfl
theorem nl18 : ((18 : Nat) : Int) = 18 := rfl
theorem nl19 : ((19 : Nat) : Int) = 19 := rfl
theorem nl20 : ((20 : Nat) : Int) = 20 := rfl
theorem nl21 : ((21 : Nat) : Int) = 21 := rfl
theorem nl22 : ((22 : Nat) : Int) = 22 := rfl
theorem nl23 : ((23 : Nat) : Int) = 23 := rfl
theorem nl24 : ((24 : Nat) : Int) = 24 := rfl
theorem nl25 : ((25 : Nat) : Int) = 25 := rfl
/-! ### a comprehension over a stored list -/
theorem compG_at {src : Src} {tg : Tg} {t : MT} {e : ME} {l : Sl} {S : Store} {ds : List D} (hs : src S = some ds) (he : ∀ d ∈ ds, ∃ l1 y, tgSet tg d l = some l1 ∧ t l1 S = some (.ok true, S) ∧ e l1 S = some (.ok y, S)) :
    ∀ (k i : Nat) (acc : List D), compG src tg t e l k i acc S = compG (fun _ => some ds) tg t e l k i acc S
  | 0, _, _ => rfl
  | k + 1, i, acc => by
    unfold compG
    simp only [hs]
    cases hd : ds[i]? with
    | none => rfl
    | some d =>
      obtain ⟨l1, y, h1, h2, h3⟩ := he d (List.mem_of_getElem? hd)
      simp only [h1, h2, h3, bndN, if_true]
      split
      · exact compG_at hs he k (i + 1) _
      · rfl
theorem eComp_ref {α : Type} {vs : List Nat} {a : ME} {tg : Tg} {e : ME} {l : Sl} {S : Store} {n : Nat} {b : Bool} (g f : α → D) (xs : List α) (ha : a l S = some (.ok (.ref n), S)) (hS : S[n]? = some ⟨.lst (xs.map g), b⟩)
    (h : ∀ x ∈ xs, ∃ l1, tgSet tg (g x) (wipeD l vs) = some l1 ∧ e l1 S = some (.ok (f x), S)) (hl : xs.length ≤ 16777216) : eComp vs (iL a) tg tYes' e l S = some (.ok (.fl (xs.map f)), S) := by
  unfold eComp
  rw [iL_ref ha hS]
  simp only [bnd, listOf_ref hS]
  rw [compG_at (listOf_ref hS) (fun d hd => by
    obtain ⟨x, hx, rfl⟩ := List.mem_map.mp hd
    obtain ⟨l1, h1, h2⟩ := h x hx
    exact ⟨l1, f x, h1, rfl, h2⟩), compG_all, compL_map g f xs [] h (by simpa using hl)]
  rfl
theorem fList_ref {n : Nat} {ds : List D} {b : Bool} {S : Store} (hS : S[n]? = some ⟨.lst ds, b⟩) : fList (.ref n) S = some (.ok (.fl ds), S) := by unfold fList seqOf Sim.listOf; simp only [hS]
theorem isS_str (z : Str) (S : Store) : isS (.str z) S = true := rfl
theorem isS_fl (ds : List D) (S : Store) : isS (.fl ds) S = false := rfl
theorem isS_ref (n : Nat) (S : Store) : isS (.ref n) S = false := rfl
end Sim

local macro_rules | `(tactic| walk_at "ev") => `(tactic| try simp only [Sim.sSeq, Sim.sNext, Sim.sIf, Sim.sSet, Sim.sRet, Sim.sRetN, Sim.sDrop, Sim.sFor, Sim.sPut, Sim.sFld, Sim.sWhile, Sim.bndS, Sim.bnd, Sim.bndN, Sim.eVar, Sim.eC, Sim.e1, Sim.e2, Sim.eA, Sim.a1, Sim.a2, Sim.m1, Sim.eTup, Sim.eLst, Sim.eLstR, Sim.eSl, Sim.oNo, Sim.oSo, Sim.iofD, Sim.aNil, Sim.aCons, Sim.tOf, Sim.tAnd, Sim.tOr, Sim.tNot, Sim.blOf, Sim.eAnd, Sim.eOr, Sim.eNot, Sim.eIf, Sim.eComp, Sim.eMeth, Sim.eBM, Sim.fnM, Sim.iL, Sim.iS, Sim.iR1, Sim.iR2, Sim.iEn, Sim.iZ, Sim.okV, Sim.guard, Sim.wipeD, Sim.tYes', Sim.tgSet, Nat.reduceSub, List.replicate, List.getElem?_cons_zero, List.getElem?_cons_succ, List.getElem?_nil, List.set_cons_zero, List.set_cons_succ, List.set_nil, List.map_cons, List.map_nil, List.length_cons, List.length_nil, List.append_nil, List.cons_append, List.nil_append, Nat.reduceAdd, Nat.reduceLeDiff, decide_true, decide_false, if_true, if_false, Bool.false_eq_true, ↓reduceIte, reduceIte, reduceCtorEq, Bool.not_true, Bool.not_false, Sim.forG_all, Sim.compG_all])
local macro_rules | `(tactic| walk_at "ev*") => `(tactic| simp only [Sim.sSeq, Sim.sNext, Sim.sIf, Sim.sSet, Sim.sRet, Sim.sRetN, Sim.sDrop, Sim.sFor, Sim.sPut, Sim.sFld, Sim.sWhile, Sim.bndS, Sim.bnd, Sim.bndN, Sim.eVar, Sim.eC, Sim.e1, Sim.e2, Sim.eA, Sim.a1, Sim.a2, Sim.m1, Sim.eTup, Sim.eLst, Sim.eLstR, Sim.eSl, Sim.oNo, Sim.oSo, Sim.iofD, Sim.aNil, Sim.aCons, Sim.tOf, Sim.tAnd, Sim.tOr, Sim.tNot, Sim.blOf, Sim.eAnd, Sim.eOr, Sim.eNot, Sim.eIf, Sim.eComp, Sim.eMeth, Sim.eBM, Sim.fnM, Sim.iL, Sim.iS, Sim.iR1, Sim.iR2, Sim.iEn, Sim.iZ, Sim.okV, Sim.guard, Sim.wipeD, Sim.tYes', Sim.tgSet, Nat.reduceSub, List.replicate, List.getElem?_cons_zero, List.getElem?_cons_succ, List.getElem?_nil, List.set_cons_zero, List.set_cons_succ, List.set_nil, List.map_cons, List.map_nil, List.length_cons, List.length_nil, List.append_nil, List.cons_append, List.nil_append, Nat.reduceAdd, Nat.reduceLeDiff, decide_true, decide_false, if_true, if_false, Bool.false_eq_true, ↓reduceIte, reduceIte, reduceCtorEq, Bool.not_true, Bool.not_false, Sim.forG_all, Sim.compG_all, Sim.fAdd_i, Sim.fSub_i, Sim.fLt_i, Sim.fCmp_i, Sim.fEq_i, Sim.fNe_i, Sim.fLen_fl, Sim.fLen_tup, Sim.fLen_scr, Sim.listOf_fl, Sim.listOf_scr, Sim.isL_fl, Sim.isL_scr, Sim.sTry, Sim.unsetS, Sim.noEx, Sim.sSetT, Sim.setAll, Sim.sBreak, Sim.sCont, Sim.sRaiseB, Sim.eIndex, Sim.eGet1, Sim.eGet2, Sim.eChain, Sim.isS_str, Sim.isS_fl, Sim.isS_ref, and_true, true_and, and_self, and_false, false_and, List.set_set, Sim.nl0, Sim.nl1, Sim.nl2, Sim.nl3, Sim.nl4, Sim.nl5, Sim.nl6, Sim.nl7, Sim.nl8, Sim.nl9, Sim.nl10, Sim.nl11, Sim.nl12, Sim.nl13, Sim.nl14, Sim.nl15, Sim.nl16, Sim.nl17, Sim.nl18, Sim.nl19, Sim.nl20, Sim.nl21, Sim.nl22, Sim.nl23, Sim.nl24, Sim.nl25, Sim.ln0, Sim.ln1, Sim.ln2, Sim.ln3, Sim.ln4, Sim.ln5, Sim.ln6, Sim.ln7, Sim.ln8, Sim.ln9, Sim.ln10, Sim.ln11, Sim.ln12, Sim.fMod_i, Sim.fDiv_i, Sim.fIx_t0, Sim.fIx_t1, Sim.fIx_t2, Sim.fIx_t3, Sim.fIx_f0, Sim.fIx_f1, Sim.fIx_f2, Sim.fIx_f3, Sim.pow9, Sim.pow17, Sim.pow18, Sim.pow41, Int.reduceEq, Int.reduceLT, Int.reduceLE, Int.reduceAdd, Int.reduceSub, Int.reduceMul, Int.reduceNeg, Int.reduceNe, eq_self, Int.reduceToNat, not_true_eq_false, not_false_eq_true, *])
/-! running a mirror, call by value -/
namespace Sim
open PySem PySem.Spec L2
def nxt (r : OutS) (b : MS) : OutS := match r with
  | some (.nx l, S) => b l S
  | r => r
def gv (o : Option (Option D)) (S : Store) : Out D := match o with
  | some (some d) => some (.ok d, S)
  | _ => none
def fnR (r : OutS) : Out D := match r with
  | some (.nx _, S') => some (.ok .non, S')
  | some (.rt d, S') => some (.ok d, S')
  | some (.ex x _, S') => some (.error x, S')
  | _ => none
def rdF (c : Nat) (f : Str) (o : Option Cell) : Option D := match o with
  | some ⟨.ins c' fs, false⟩ => if c' = c then fs.lookup f else none
  | _ => none
def rdK (o : Option D) (S : Store) : Out D := match o with
  | some d => some (.ok d, S)
  | none => none
def wrF (c : Nat) (f : Str) (d : D) (o : Option Cell) : Option Cell := match o with
  | some ⟨.ins c' fs, false⟩ => if c' = c ∧ fs.length < 1000 then some ⟨.ins c (putFD f d fs), false⟩ else none
  | _ => none
def stK (n : Nat) (o : Option Cell) (S : Store) : Option Store := match o with
  | some c => some (S.set n c)
  | none => none
def fldK (l : Sl) (o : Option Store) : OutS := match o with
  | some S => some (.nx l, S)
  | none => none
def isI (c : Nat) (m : Str) (o : Option Cell) : Bool := match o with
  | some ⟨.ins c' fs, false⟩ => decide (c' = c ∧ fs.lookup m = none)
  | _ => false
def ixC (o : Option Cell) (k : D) : Option D := match o with
  | some ⟨.dct kvs, _⟩ => (keyOf k).bind fun k => valD kvs k
  | some ⟨.lst ds, _⟩ => match k with
    | .int i => atI ds i
    | _ => none
  | _ => none
def wrC (o : Option Cell) (k d : D) : Option Cell := match o with
  | some ⟨.lst ds, false⟩ => match k with
    | .int i => (ixN ds.length i).map fun j => ⟨.lst (ds.set j d), false⟩
    | _ => none
  | some ⟨.dct kvs, false⟩ => match keyOf k with
    | some k => if kvs.length < lineN then some ⟨.dct (putD kvs k d), false⟩ else none
    | none => none
  | _ => none
def inC (k : D) (o : Option Cell) : Option Bool := match o with
  | some ⟨.dct kvs, _⟩ => (keyOf k).map fun k => (valD kvs k).isSome
  | _ => none
def blK (o : Option Bool) (S : Store) : Out D := match o with
  | some b => some (.ok (.bl b), S)
  | none => none
def lenC (o : Option Cell) : Option Int := match o with
  | some ⟨.lst ds, _⟩ => some ds.length
  | some ⟨.dct kvs, false⟩ => some kvs.length
  | _ => none
def inK (o : Option Int) (S : Store) : Out D := match o with
  | some i => some (.ok (.int i), S)
  | none => none
def isLC (o : Option Cell) : Bool := match o with
  | some ⟨.lst _, _⟩ => true
  | _ => false
def apC (d : D) (o : Option Cell) : Option Cell := match o with
  | some ⟨.lst ds, false⟩ => if ds.length < lineN then some ⟨.lst (ds ++ [d]), false⟩ else none
  | _ => none
def apK (o : Option Store) : Out D := match o with
  | some S => some (.ok .non, S)
  | none => none
def getC (k : D) (o : Option Cell) : Option D := match o with
  | some ⟨.dct kvs, _⟩ => (keyOf k).map fun k => (valD kvs k).getD .non
  | _ => none
def isD (o : Option Cell) : Bool := match o with
  | some ⟨.dct _, _⟩ => true
  | _ => false
def hnd (i : Option Nat) (suite : Exn → MS) (x : Exn) (l' : Sl) (S' : Store) : OutS := match i with
  | none => noEx (suite x l' S')
  | some i => if i < l'.length then unsetS i (suite x (l'.set i none) S') else none
def tryC (o : Option Bool) (i : Option Nat) (suite : Exn → MS) (x : Exn) (l' : Sl) (S' : Store) : OutS := match o with
  | some true => hnd i suite x l' S'
  | some false => some (.ex x l', S')
  | none => none
def tryK (catch_ : Nat → Option Bool) (i : Option Nat) (suite : Exn → MS) (r : OutS) : OutS := match r with
  | some (.ex x l', S') => tryC (catch_ x.c) i suite x l' S'
  | r => r

theorem seq_r (a b : MS) (l : Sl) (S : Store) : sSeq a b l S = nxt (a l S) b := by unfold sSeq nxt; cases a l S with | none => rfl | some p => obtain ⟨f, T⟩ := p; cases f <;> rfl
theorem nxt_nx (l : Sl) (S : Store) (b : MS) : nxt (some (.nx l, S)) b = b l S := rfl
theorem nxt_rt (d : D) (S : Store) (b : MS) : nxt (some (.rt d, S)) b = some (.rt d, S) := rfl
theorem nxt_ex (x : Exn) (l : Sl) (S : Store) (b : MS) : nxt (some (.ex x l, S)) b = some (.ex x l, S) := rfl
theorem nxt_bk (l : Sl) (S : Store) (b : MS) : nxt (some (.bk l, S)) b = some (.bk l, S) := rfl
theorem nxt_ct (l : Sl) (S : Store) (b : MS) : nxt (some (.ct l, S)) b = some (.ct l, S) := rfl
theorem bnd_ok {α β : Type} (a : α) (S : Store) (f : α → M β) : bnd (some (.ok a, S)) f = f a S := rfl
theorem bnd_er {α β : Type} (x : Exn) (S : Store) (f : α → M β) : bnd (some (.error x, S)) f = some (.error x, S) := rfl
theorem bndN_ok {α β : Type} (a : α) (S : Store) (f : α → M β) : bndN (some (.ok a, S)) f = f a S := rfl
theorem bndS_ok {α : Type} (l : Sl) (a : α) (S : Store) (f : α → Store → OutS) : bndS l (some (.ok a, S)) f = f a S := rfl
theorem bndS_er {α : Type} (l : Sl) (x : Exn) (S : Store) (f : α → Store → OutS) : bndS l (some (.error x, S)) f = some (.ex x l, S) := rfl
theorem fnM_r {n np : Nat} {body : MS} {ds : List D} (hl : ds.length = np) (S : Store) : fnM n np body ds S = fnR (body (ds.map some ++ List.replicate (n - np) none) S) := by unfold fnM fnR; rw [if_pos hl]; try rfl
theorem fnM_l {n np : Nat} {body : MS} {ds : List D} {l : Sl} (hl : ds.length = np) (hs : ds.map some ++ List.replicate (n - np) none = l) (S : Store) : fnM n np body ds S = fnR (body l S) := by rw [fnM_r hl, hs]
theorem fnR_rt (d : D) (S : Store) : fnR (some (.rt d, S)) = some (.ok d, S) := rfl
theorem fnR_nx (l : Sl) (S : Store) : fnR (some (.nx l, S)) = some (.ok .non, S) := rfl
theorem fnR_ex (x : Exn) (l : Sl) (S : Store) : fnR (some (.ex x l, S)) = some (.error x, S) := rfl
theorem var_r (i : Nat) (l : Sl) (S : Store) : eVar i l S = gv l[i]? S := by unfold eVar gv; rfl
theorem gv_s (d : D) (S : Store) : gv (some (some d)) S = some (.ok d, S) := rfl
theorem c_r (d : D) (l : Sl) (S : Store) : eC d l S = some (.ok d, S) := rfl
theorem e1_r (f : D → M D) (a : ME) (l : Sl) (S : Store) : e1 f a l S = bnd (a l S) f := rfl
def e2K (f : D → D → M D) (b : ME) (l : Sl) (x : D) : M D := fun S1 => bnd (b l S1) (f x)
theorem e2_r (f : D → D → M D) (a b : ME) (l : Sl) (S : Store) : e2 f a b l S = bnd (a l S) (e2K f b l) := rfl
theorem e2K_r (f : D → D → M D) (b : ME) (l : Sl) (x : D) (S : Store) : e2K f b l x S = bnd (b l S) (f x) := rfl
theorem aNil_r (l : Sl) (S : Store) : aNil l S = some (.ok [], S) := rfl
def csK (x : D) (xs : List D) : M (List D) := fun S2 => some (.ok (x :: xs), S2)
def acK (r : MA) (l : Sl) (x : D) : M (List D) := fun S1 => bnd (r l S1) (csK x)
theorem aCons_r (a : ME) (r : MA) (l : Sl) (S : Store) : aCons a r l S = bnd (a l S) (acK r l) := rfl
theorem acK_r (r : MA) (l : Sl) (x : D) (S : Store) : acK r l x S = bnd (r l S) (csK x) := rfl
theorem csK_r (x : D) (xs : List D) (S : Store) : csK x xs S = some (.ok (x :: xs), S) := rfl
theorem eA_r (f : List D → M D) (a : MA) (l : Sl) (S : Store) : eA f a l S = bnd (a l S) f := rfl
theorem a1_r (f : D → M D) (d : D) (S : Store) : a1 f [d] S = f d S := rfl
theorem a2_r (f : D → D → M D) (d e : D) (S : Store) : a2 f [d, e] S = f d e S := rfl
theorem m1_r (f : D → D → M D) (x d : D) (S : Store) : m1 f x [d] S = f x d S := rfl
def mkT (ds : List D) : M D := guard (decide (ds.length ≤ lineN)) (okV (.tup ds))
def mkL (ds : List D) : M D := guard (decide (ds.length ≤ lineN)) (okV (.fl ds))
def mkR (ds : List D) : M D := guard (decide (ds.length ≤ lineN)) (newO (.lst ds))
theorem eTup_r (a : MA) (l : Sl) (S : Store) : eTup a l S = bnd (a l S) mkT := rfl
theorem eLst_r (a : MA) (l : Sl) (S : Store) : eLst a l S = bnd (a l S) mkL := rfl
theorem eLstR_r (a : MA) (l : Sl) (S : Store) : eLstR a l S = bnd (a l S) mkR := rfl
theorem mkT0 (S : Store) : mkT [] S = some (.ok (.tup []), S) := by unfold mkT guard; rw [if_pos (decide_eq_true (by show 0 ≤ 16777216; decide))]; rfl
theorem mkL0 (S : Store) : mkL [] S = some (.ok (.fl []), S) := by unfold mkL guard; rw [if_pos (decide_eq_true (by show 0 ≤ 16777216; decide))]; rfl
theorem mkR0 (S : Store) : mkR [] S = some (.ok (.ref S.length), S ++ [⟨.lst [], false⟩]) := by unfold mkR guard; rw [if_pos (decide_eq_true (by show 0 ≤ 16777216; decide))]; rfl
theorem mkT1 (a : D) (S : Store) : mkT [a] S = some (.ok (.tup [a]), S) := by unfold mkT guard; rw [if_pos (decide_eq_true (by show 1 ≤ 16777216; decide))]; rfl
theorem mkL1 (a : D) (S : Store) : mkL [a] S = some (.ok (.fl [a]), S) := by unfold mkL guard; rw [if_pos (decide_eq_true (by show 1 ≤ 16777216; decide))]; rfl
theorem mkR1 (a : D) (S : Store) : mkR [a] S = some (.ok (.ref S.length), S ++ [⟨.lst [a], false⟩]) := by unfold mkR guard; rw [if_pos (decide_eq_true (by show 1 ≤ 16777216; decide))]; rfl
theorem mkT2 (a b : D) (S : Store) : mkT [a, b] S = some (.ok (.tup [a, b]), S) := by unfold mkT guard; rw [if_pos (decide_eq_true (by show 2 ≤ 16777216; decide))]; rfl
theorem mkL2 (a b : D) (S : Store) : mkL [a, b] S = some (.ok (.fl [a, b]), S) := by unfold mkL guard; rw [if_pos (decide_eq_true (by show 2 ≤ 16777216; decide))]; rfl
theorem mkR2 (a b : D) (S : Store) : mkR [a, b] S = some (.ok (.ref S.length), S ++ [⟨.lst [a, b], false⟩]) := by unfold mkR guard; rw [if_pos (decide_eq_true (by show 2 ≤ 16777216; decide))]; rfl
theorem mkT3 (a b c : D) (S : Store) : mkT [a, b, c] S = some (.ok (.tup [a, b, c]), S) := by unfold mkT guard; rw [if_pos (decide_eq_true (by show 3 ≤ 16777216; decide))]; rfl
theorem mkL3 (a b c : D) (S : Store) : mkL [a, b, c] S = some (.ok (.fl [a, b, c]), S) := by unfold mkL guard; rw [if_pos (decide_eq_true (by show 3 ≤ 16777216; decide))]; rfl
theorem mkR3 (a b c : D) (S : Store) : mkR [a, b, c] S = some (.ok (.ref S.length), S ++ [⟨.lst [a, b, c], false⟩]) := by unfold mkR guard; rw [if_pos (decide_eq_true (by show 3 ≤ 16777216; decide))]; rfl
theorem mkT4 (a b c d : D) (S : Store) : mkT [a, b, c, d] S = some (.ok (.tup [a, b, c, d]), S) := by unfold mkT guard; rw [if_pos (decide_eq_true (by show 4 ≤ 16777216; decide))]; rfl
theorem mkL4 (a b c d : D) (S : Store) : mkL [a, b, c, d] S = some (.ok (.fl [a, b, c, d]), S) := by unfold mkL guard; rw [if_pos (decide_eq_true (by show 4 ≤ 16777216; decide))]; rfl
theorem mkR4 (a b c d : D) (S : Store) : mkR [a, b, c, d] S = some (.ok (.ref S.length), S ++ [⟨.lst [a, b, c, d], false⟩]) := by unfold mkR guard; rw [if_pos (decide_eq_true (by show 4 ≤ 16777216; decide))]; rfl
theorem mkT5 (a b c d e : D) (S : Store) : mkT [a, b, c, d, e] S = some (.ok (.tup [a, b, c, d, e]), S) := by unfold mkT guard; rw [if_pos (decide_eq_true (by show 5 ≤ 16777216; decide))]; rfl
theorem mkL5 (a b c d e : D) (S : Store) : mkL [a, b, c, d, e] S = some (.ok (.fl [a, b, c, d, e]), S) := by unfold mkL guard; rw [if_pos (decide_eq_true (by show 5 ≤ 16777216; decide))]; rfl
theorem mkR5 (a b c d e : D) (S : Store) : mkR [a, b, c, d, e] S = some (.ok (.ref S.length), S ++ [⟨.lst [a, b, c, d, e], false⟩]) := by unfold mkR guard; rw [if_pos (decide_eq_true (by show 5 ≤ 16777216; decide))]; rfl
theorem mkT6 (a b c d e f : D) (S : Store) : mkT [a, b, c, d, e, f] S = some (.ok (.tup [a, b, c, d, e, f]), S) := by unfold mkT guard; rw [if_pos (decide_eq_true (by show 6 ≤ 16777216; decide))]; rfl
theorem mkL6 (a b c d e f : D) (S : Store) : mkL [a, b, c, d, e, f] S = some (.ok (.fl [a, b, c, d, e, f]), S) := by unfold mkL guard; rw [if_pos (decide_eq_true (by show 6 ≤ 16777216; decide))]; rfl
theorem mkR6 (a b c d e f : D) (S : Store) : mkR [a, b, c, d, e, f] S = some (.ok (.ref S.length), S ++ [⟨.lst [a, b, c, d, e, f], false⟩]) := by unfold mkR guard; rw [if_pos (decide_eq_true (by show 6 ≤ 16777216; decide))]; rfl
theorem mkT7 (a b c d e f g : D) (S : Store) : mkT [a, b, c, d, e, f, g] S = some (.ok (.tup [a, b, c, d, e, f, g]), S) := by unfold mkT guard; rw [if_pos (decide_eq_true (by show 7 ≤ 16777216; decide))]; rfl
theorem mkL7 (a b c d e f g : D) (S : Store) : mkL [a, b, c, d, e, f, g] S = some (.ok (.fl [a, b, c, d, e, f, g]), S) := by unfold mkL guard; rw [if_pos (decide_eq_true (by show 7 ≤ 16777216; decide))]; rfl
theorem mkR7 (a b c d e f g : D) (S : Store) : mkR [a, b, c, d, e, f, g] S = some (.ok (.ref S.length), S ++ [⟨.lst [a, b, c, d, e, f, g], false⟩]) := by unfold mkR guard; rw [if_pos (decide_eq_true (by show 7 ≤ 16777216; decide))]; rfl
theorem mkT8 (a b c d e f g h : D) (S : Store) : mkT [a, b, c, d, e, f, g, h] S = some (.ok (.tup [a, b, c, d, e, f, g, h]), S) := by unfold mkT guard; rw [if_pos (decide_eq_true (by show 8 ≤ 16777216; decide))]; rfl
theorem mkL8 (a b c d e f g h : D) (S : Store) : mkL [a, b, c, d, e, f, g, h] S = some (.ok (.fl [a, b, c, d, e, f, g, h]), S) := by unfold mkL guard; rw [if_pos (decide_eq_true (by show 8 ≤ 16777216; decide))]; rfl
theorem mkR8 (a b c d e f g h : D) (S : Store) : mkR [a, b, c, d, e, f, g, h] S = some (.ok (.ref S.length), S ++ [⟨.lst [a, b, c, d, e, f, g, h], false⟩]) := by unfold mkR guard; rw [if_pos (decide_eq_true (by show 8 ≤ 16777216; decide))]; rfl
theorem tOf_r (a : ME) (l : Sl) (S : Store) : tOf a l S = bnd (a l S) blOf := rfl
theorem blOf_r (b : Bool) (S : Store) : blOf (.bl b) S = some (.ok b, S) := rfl
def tAndK (b : MT) (l : Sl) (c : Bool) : M Bool := fun S1 => if c = true then b l S1 else some (.ok false, S1)
theorem tAndK_t (b : MT) (l : Sl) (S1 : Store) : tAndK b l true S1 = b l S1 := rfl
theorem tAndK_f (b : MT) (l : Sl) (S1 : Store) : tAndK b l false S1 = some (.ok false, S1) := rfl
theorem tAnd_r (a b : MT) (l : Sl) (S : Store) : tAnd a b l S = bnd (a l S) (tAndK b l) := rfl
def tOrK (b : MT) (l : Sl) (c : Bool) : M Bool := fun S1 => if c = true then some (.ok true, S1) else b l S1
theorem tOrK_t (b : MT) (l : Sl) (S1 : Store) : tOrK b l true S1 = some (.ok true, S1) := rfl
theorem tOrK_f (b : MT) (l : Sl) (S1 : Store) : tOrK b l false S1 = b l S1 := rfl
theorem tOr_r (a b : MT) (l : Sl) (S : Store) : tOr a b l S = bnd (a l S) (tOrK b l) := rfl
def eAndK (b : ME) (l : Sl) (c : Bool) : M D := fun S1 => if c = true then b l S1 else some (.ok (.bl false), S1)
theorem eAndK_t (b : ME) (l : Sl) (S1 : Store) : eAndK b l true S1 = b l S1 := rfl
theorem eAndK_f (b : ME) (l : Sl) (S1 : Store) : eAndK b l false S1 = some (.ok (.bl false), S1) := rfl
theorem eAnd_r (a b : ME) (l : Sl) (S : Store) : eAnd a b l S = bnd (tOf a l S) (eAndK b l) := rfl
def eOrK (b : ME) (l : Sl) (c : Bool) : M D := fun S1 => if c = true then some (.ok (.bl true), S1) else b l S1
theorem eOrK_t (b : ME) (l : Sl) (S1 : Store) : eOrK b l true S1 = some (.ok (.bl true), S1) := rfl
theorem eOrK_f (b : ME) (l : Sl) (S1 : Store) : eOrK b l false S1 = b l S1 := rfl
theorem eOr_r (a b : ME) (l : Sl) (S : Store) : eOr a b l S = bnd (tOf a l S) (eOrK b l) := rfl
def eIfK (a b : ME) (l : Sl) (c : Bool) : M D := fun S1 => if c = true then a l S1 else b l S1
theorem eIfK_t (a b : ME) (l : Sl) (S1 : Store) : eIfK a b l true S1 = a l S1 := rfl
theorem eIfK_f (a b : ME) (l : Sl) (S1 : Store) : eIfK a b l false S1 = b l S1 := rfl
theorem eIf_r (t : MT) (a b : ME) (l : Sl) (S : Store) : eIf t a b l S = bnd (t l S) (eIfK a b l) := rfl
def tnK (c : Bool) : M Bool := fun S1 => some (.ok (!c), S1)
def enK (c : Bool) : M D := fun S1 => some (.ok (.bl (!c)), S1)
theorem tnK_r (c : Bool) (S1 : Store) : tnK c S1 = some (.ok (!c), S1) := rfl
theorem enK_r (c : Bool) (S1 : Store) : enK c S1 = some (.ok (.bl (!c)), S1) := rfl
theorem tNot_r (a : MT) (l : Sl) (S : Store) : tNot a l S = bnd (a l S) tnK := rfl
theorem eNot_r (a : ME) (l : Sl) (S : Store) : eNot a l S = bnd (tOf a l S) enK := rfl
def chK (g : D → D → M D) (c : ME) (l : Sl) (y : D) (z : D) : M D := fun S3 => match z with
  | .bl true => bnd (c l S3) (g y)
  | .bl false => some (.ok (.bl false), S3)
  | _ => none
def ch2K (f g : D → D → M D) (c : ME) (l : Sl) (x y : D) : M D := fun S2 => bnd (f x y S2) (chK g c l y)
def ch1K (f g : D → D → M D) (b c : ME) (l : Sl) (x : D) : M D := fun S1 => bnd (b l S1) (ch2K f g c l x)
theorem chain_r (f g : D → D → M D) (a b c : ME) (l : Sl) (S : Store) : eChain f g a b c l S = bnd (a l S) (ch1K f g b c l) := rfl
theorem ch1K_r (f g : D → D → M D) (b c : ME) (l : Sl) (x : D) (S : Store) : ch1K f g b c l x S = bnd (b l S) (ch2K f g c l x) := rfl
theorem ch2K_r (f g : D → D → M D) (c : ME) (l : Sl) (x y : D) (S : Store) : ch2K f g c l x y S = bnd (f x y S) (chK g c l y) := rfl
theorem chK_t (g : D → D → M D) (c : ME) (l : Sl) (y : D) (S : Store) : chK g c l y (.bl true) S = bnd (c l S) (g y) := rfl
theorem chK_f (g : D → D → M D) (c : ME) (l : Sl) (y : D) (S : Store) : chK g c l y (.bl false) S = some (.ok (.bl false), S) := rfl
theorem oNo_r (l : Sl) (S : Store) : oNo l S = some (.ok none, S) := rfl
theorem oSo_r (a : ME) (l : Sl) (S : Store) : oSo a l S = bnd (a l S) iofD := rfl
theorem iofD_r (i : Int) (S : Store) : iofD (.int i) S = some (.ok (some i), S) := rfl
def sl3K (x : D) (i : Option Int) (j : Option Int) : M D := fun S3 => fSl x i j S3
def sl2K (hi : Sl → M (Option Int)) (l : Sl) (x : D) (i : Option Int) : M D := fun S2 => bnd (hi l S2) (sl3K x i)
def sl1K (lo hi : Sl → M (Option Int)) (l : Sl) (x : D) : M D := fun S1 => bnd (lo l S1) (sl2K hi l x)
theorem eSl_r (a : ME) (lo hi : Sl → M (Option Int)) (l : Sl) (S : Store) : eSl a lo hi l S = bnd (a l S) (sl1K lo hi l) := rfl
theorem sl1K_r (lo hi : Sl → M (Option Int)) (l : Sl) (x : D) (S : Store) : sl1K lo hi l x S = bnd (lo l S) (sl2K hi l x) := rfl
theorem sl2K_r (hi : Sl → M (Option Int)) (l : Sl) (x : D) (i : Option Int) (S : Store) : sl2K hi l x i S = bnd (hi l S) (sl3K x i) := rfl
theorem sl3K_r (x : D) (i j : Option Int) (S : Store) : sl3K x i j S = fSl x i j S := rfl
def bmK2 (f : D → List D → M D) (a : MA) (l : Sl) (x : D) (c : Bool) : M D := fun S1 => if c = true then bnd (a l S1) (f x) else none
def bmK (chk : D → Store → Bool) (f : D → List D → M D) (a : MA) (l : Sl) (x : D) : M D := fun S1 => bmK2 f a l x (chk x S1) S1
theorem eBM_r (chk : D → Store → Bool) (f : D → List D → M D) (o : ME) (a : MA) (l : Sl) (S : Store) : eBM chk f o a l S = bnd (o l S) (bmK chk f a l) := rfl
theorem bmK_r (chk : D → Store → Bool) (f : D → List D → M D) (a : MA) (l : Sl) (x : D) (S : Store) : bmK chk f a l x S = bmK2 f a l x (chk x S) S := rfl
theorem bmK2_r (f : D → List D → M D) (a : MA) (l : Sl) (x : D) (S : Store) : bmK2 f a l x true S = bnd (a l S) (f x) := rfl
def mtC (g : List D → M D) (x : D) (ds : List D) : M D := fun S => g (x :: ds) S
def methK2 (g : List D → M D) (a : MA) (l : Sl) (x : D) (c : Bool) : M D := fun S1 => if c = true then bnd (a l S1) (mtC g x) else none
def methK (c : Nat) (m : Str) (g : List D → M D) (a : MA) (l : Sl) (x : D) : M D := fun S1 => match x with
  | .ref n => methK2 g a l (.ref n) (isI c m S1[n]?) S1
  | _ => none
theorem meth_r (c : Nat) (m : Str) (g : List D → M D) (o : ME) (a : MA) (l : Sl) (S : Store) : eMeth c m g o a l S = bnd (o l S) (methK c m g a l) := by
  unfold eMeth
  congr 1; funext x S1
  unfold methK
  cases x with
  | ref n =>
    unfold insOf isI methK2
    cases h : S1[n]? with
    | none => simp only [h]; rfl
    | some c =>
      obtain ⟨o, k⟩ := c
      cases o <;> cases k <;> simp only [h, decide_eq_true_eq, Bool.false_eq_true, if_false]
      rfl
  | _ => rfl
theorem methK_r (c : Nat) (m : Str) (g : List D → M D) (a : MA) (l : Sl) (n : Nat) (S : Store) : methK c m g a l (.ref n) S = methK2 g a l (.ref n) (isI c m S[n]?) S := rfl
theorem methK2_r (g : List D → M D) (a : MA) (l : Sl) (x : D) (S : Store) : methK2 g a l x true S = bnd (a l S) (mtC g x) := rfl
theorem mtC_r (g : List D → M D) (x : D) (ds : List D) (S : Store) : mtC g x ds S = g (x :: ds) S := rfl
theorem next_r (l : Sl) (S : Store) : sNext l S = some (.nx l, S) := rfl
theorem break_r (l : Sl) (S : Store) : sBreak l S = some (.bk l, S) := rfl
theorem cont_r (l : Sl) (S : Store) : sCont l S = some (.ct l, S) := rfl
def dropK (l : Sl) (_ : D) (S1 : Store) : OutS := some (.nx l, S1)
def retK (d : D) (S1 : Store) : OutS := some (.rt d, S1)
def setK (i : Nat) (l : Sl) (d : D) (S1 : Store) : OutS := some (.nx (l.set i (some d)), S1)
def ifK (a b : MS) (l : Sl) (c : Bool) (S1 : Store) : OutS := if c = true then a l S1 else b l S1
def par2K (i j : Nat) (l : Sl) (x y : D) (S2 : Store) : OutS := some (.nx ((l.set i (some x)).set j (some y)), S2)
def par1K (i j : Nat) (b : ME) (l : Sl) (x : D) (S1 : Store) : OutS := bndS l (b l S1) (par2K i j l x)
theorem dropK_r (l : Sl) (d : D) (S : Store) : dropK l d S = some (.nx l, S) := rfl
theorem retK_r (d : D) (S : Store) : retK d S = some (.rt d, S) := rfl
theorem setK_r (i : Nat) (l : Sl) (d : D) (S : Store) : setK i l d S = some (.nx (l.set i (some d)), S) := rfl
theorem ifK_t (a b : MS) (l : Sl) (S : Store) : ifK a b l true S = a l S := rfl
theorem ifK_f (a b : MS) (l : Sl) (S : Store) : ifK a b l false S = b l S := rfl
theorem par1K_r (i j : Nat) (b : ME) (l : Sl) (x : D) (S : Store) : par1K i j b l x S = bndS l (b l S) (par2K i j l x) := rfl
theorem par2K_r (i j : Nat) (l : Sl) (x y : D) (S : Store) : par2K i j l x y S = some (.nx ((l.set i (some x)).set j (some y)), S) := rfl
theorem drop_r (a : ME) (l : Sl) (S : Store) : sDrop a l S = bndS l (a l S) (dropK l) := rfl
theorem ret_r (a : ME) (l : Sl) (S : Store) : sRet a l S = bndS l (a l S) retK := rfl
theorem retN_r (l : Sl) (S : Store) : sRetN l S = some (.rt .non, S) := rfl
theorem set_r (i : Nat) (a : ME) (l : Sl) (S : Store) : sSet i a l S = bndS l (a l S) (setK i l) := rfl
theorem if_r (t : MT) (a b : MS) (l : Sl) (S : Store) : sIf t a b l S = bndS l (t l S) (ifK a b l) := rfl
theorem par_r (i j : Nat) (a b : ME) (l : Sl) (S : Store) : sPar i j a b l S = bndS l (a l S) (par1K i j b l) := rfl
def sfK (l : Sl) (c : Nat) (f : Str) (d : D) (x : D) (S : Store) : OutS := match x with
  | .ref n => fldK l (stK n (wrF c f d S[n]?) S)
  | _ => none
def sf1K (l : Sl) (c : Nat) (o : ME) (f : Str) (d : D) (S1 : Store) : OutS := bndS l (o l S1) (sfK l c f d)
theorem sf1K_r (l : Sl) (c : Nat) (o : ME) (f : Str) (d : D) (S : Store) : sf1K l c o f d S = bndS l (o l S) (sfK l c f d) := rfl
theorem fld_r (c : Nat) (o : ME) (f : Str) (e : ME) (l : Sl) (S : Store) : sFld c o f e l S = bndS l (e l S) (sf1K l c o f) := by
  unfold sf1K
  unfold sFld
  congr 1; funext d S1; congr 1; funext x S2
  unfold sfK putFldD fldK stK wrF
  cases x with
  | ref n =>
    simp only
    cases h : S2[n]? with
    | none => simp only
    | some cc =>
      obtain ⟨oo, kk⟩ := cc
      cases oo with
      | ins c' fs =>
        cases kk with
        | true => simp only
        | false =>
          simp only
          by_cases hc : c' = c ∧ fs.length < 1000
          · rw [if_pos hc, if_pos hc]
          · rw [if_neg hc, if_neg hc]
      | _ => cases kk <;> simp only
  | _ => rfl
theorem sfK_r (l : Sl) (c : Nat) (f : Str) (d : D) (n : Nat) (S : Store) : sfK l c f d (.ref n) S = fldK l (stK n (wrF c f d S[n]?) S) := rfl
theorem stK_s (n : Nat) (c : Cell) (S : Store) : stK n (some c) S = some (S.set n c) := rfl
theorem fldK_s (l : Sl) (S : Store) : fldK l (some S) = some (.nx l, S) := rfl
def putK' (l : Sl) (d x k : D) (S : Store) : OutS := match x with
  | .ref n => fldK l (stK n (wrC S[n]? k d) S)
  | _ => none
def put2K (l : Sl) (i : ME) (d x : D) (S2 : Store) : OutS := bndS l (i l S2) (putK' l d x)
def put1K (l : Sl) (o i : ME) (d : D) (S1 : Store) : OutS := bndS l (o l S1) (put2K l i d)
theorem put1K_r (l : Sl) (o i : ME) (d : D) (S : Store) : put1K l o i d S = bndS l (o l S) (put2K l i d) := rfl
theorem put2K_r (l : Sl) (i : ME) (d x : D) (S : Store) : put2K l i d x S = bndS l (i l S) (putK' l d x) := rfl
theorem put_r (o i e : ME) (l : Sl) (S : Store) : sPut o i e l S = bndS l (e l S) (put1K l o i) := by
  unfold put1K put2K
  unfold sPut
  congr 1; funext d S1; congr 1; funext x S2; congr 1; funext k S3
  unfold putK' putIxD fldK stK wrC
  cases x with
  | ref n =>
    simp only
    cases h : S3[n]? with
    | none => simp only
    | some c =>
      obtain ⟨o, b⟩ := c
      cases o with
      | lst ds =>
        cases b with
        | true => simp only
        | false =>
          simp only
          cases k <;> simp only
          rename_i z
          cases ixN ds.length z <;> simp only [Option.map]
      | dct kvs =>
        cases b with
        | true => simp only
        | false =>
          simp only
          cases keyOf k with
          | none => simp only
          | some kk =>
            simp only
            by_cases hc : kvs.length < lineN
            · rw [if_pos hc, if_pos hc]
            · rw [if_neg hc, if_neg hc]
      | ins c' fs => cases b <;> simp only
  | _ => rfl
theorem putK_r (l : Sl) (d k : D) (n : Nat) (S : Store) : putK' l d (.ref n) k S = fldK l (stK n (wrC S[n]? k d) S) := rfl
theorem raiseB_r (c : Nat) (l : Sl) (S : Store) : sRaiseB c l S = some (.ex ⟨c, none⟩ l, S) := rfl
def rnK (c : Nat) (f : Str) (l : Sl) (ds : List D) (S : Store) : OutS := match ds with
  | [d] => some (.ex ⟨c, some [(f, d)]⟩ l, S)
  | _ => none
theorem raiseN_r (c : Nat) (f : Str) (a : MA) (l : Sl) (S : Store) : sRaiseN c f a l S = bndS l (a l S) (rnK c f l) := rfl
theorem rnK_r (c : Nat) (f : Str) (l : Sl) (d : D) (S : Store) : rnK c f l [d] S = some (.ex ⟨c, some [(f, d)]⟩ l, S) := rfl
theorem try_r (b : MS) (k : Nat → Option Bool) (i : Option Nat) (u : Exn → MS) (l : Sl) (S : Store) : sTry b k i u l S = tryK k i u (b l S) := by
  unfold sTry tryK
  cases b l S with
  | none => rfl
  | some p =>
    obtain ⟨f, T⟩ := p
    cases f with
    | ex x l' =>
      simp only
      unfold tryC
      cases k x.c with
      | none => rfl
      | some c => cases c <;> rfl
    | _ => rfl
theorem tryK_nx (k : Nat → Option Bool) (i : Option Nat) (u : Exn → MS) (l : Sl) (S : Store) : tryK k i u (some (.nx l, S)) = some (.nx l, S) := rfl
theorem tryK_rt (k : Nat → Option Bool) (i : Option Nat) (u : Exn → MS) (d : D) (S : Store) : tryK k i u (some (.rt d, S)) = some (.rt d, S) := rfl
theorem tryK_ex (k : Nat → Option Bool) (i : Option Nat) (u : Exn → MS) (x : Exn) (l : Sl) (S : Store) : tryK k i u (some (.ex x l, S)) = tryC (k x.c) i u x l S := rfl
theorem tryC_t (i : Option Nat) (u : Exn → MS) (x : Exn) (l : Sl) (S : Store) : tryC (some true) i u x l S = hnd i u x l S := rfl
theorem tryC_f (i : Option Nat) (u : Exn → MS) (x : Exn) (l : Sl) (S : Store) : tryC (some false) i u x l S = some (.ex x l, S) := rfl
theorem hnd_0 (u : Exn → MS) (x : Exn) (l : Sl) (S : Store) : hnd none u x l S = noEx (u x l S) := rfl
theorem hnd_1 (i : Nat) (u : Exn → MS) (x : Exn) (l : Sl) (S : Store) : hnd (some i) u x l S = if i < l.length then unsetS i (u x (l.set i none) S) else none := rfl
theorem noEx_nx (l : Sl) (S : Store) : noEx (some (.nx l, S)) = some (.nx l, S) := rfl
theorem unset_nx (i : Nat) (l : Sl) (S : Store) : unsetS i (some (.nx l, S)) = some (.nx (l.set i none), S) := rfl
theorem noEx_bk (l : Sl) (S : Store) : noEx (some (.bk l, S)) = some (.bk l, S) := rfl
theorem unset_bk (i : Nat) (l : Sl) (S : Store) : unsetS i (some (.bk l, S)) = some (.bk (l.set i none), S) := rfl
theorem noEx_ct (l : Sl) (S : Store) : noEx (some (.ct l, S)) = some (.ct l, S) := rfl
theorem unset_ct (i : Nat) (l : Sl) (S : Store) : unsetS i (some (.ct l, S)) = some (.ct (l.set i none), S) := rfl
theorem noEx_rt (d : D) (S : Store) : noEx (some (.rt d, S)) = some (.rt d, S) := rfl
theorem unset_rt (i : Nat) (d : D) (S : Store) : unsetS i (some (.rt d, S)) = some (.rt d, S) := rfl
theorem xf_r (c : Nat) (f : Str) (d : D) (l : Sl) (S : Store) : eXF c f ⟨c, some [(f, d)]⟩ l S = some (.ok d, S) := by unfold eXF; simp [List.lookup]
theorem fFld_r (c : Nat) (f : Str) (n : Nat) (S : Store) : fFld c f (.ref n) S = rdK (rdF c f S[n]?) S := by
  unfold fFld insOf rdK rdF
  cases h : S[n]? with
  | none => simp only [h]
  | some x =>
    obtain ⟨o, b⟩ := x
    cases o with
    | ins c' fs =>
      cases b with
      | true => simp only [h]
      | false =>
        simp only [h]
        by_cases hc : c' = c
        · rw [if_pos hc, if_pos hc]; try rfl
        · rw [if_neg hc, if_neg hc]
    | _ => cases b <;> simp only [h]
theorem rdK_s (d : D) (S : Store) : rdK (some d) S = some (.ok d, S) := rfl
theorem fIx_rr (n : Nat) (k : D) (S : Store) : fIx (.ref n) k S = rdK (ixC S[n]? k) S := by
  unfold fIx dctOf seqOf listOf ixC rdK
  cases h : S[n]? with
  | none => simp only [h]
  | some x =>
    obtain ⟨o, b⟩ := x
    cases o with
    | dct kvs =>
      simp only [h]
      cases keyOf k with
      | none => rfl
      | some kk => (try simp only [Option.bind]); (try (cases valD kvs kk <;> rfl))
    | lst ds =>
      simp only [h]
      cases k with
      | int i => (try simp only); (try (cases atI ds i <;> rfl))
      | _ => rfl
    | ins c fs => simp only [h]
theorem fLen_rr (n : Nat) (S : Store) : fLen (.ref n) S = inK (lenC S[n]?) S := by
  unfold fLen dctU seqOf listOf lenC inK
  cases h : S[n]? with
  | none => simp only [h]
  | some x =>
    obtain ⟨o, b⟩ := x
    cases o <;> cases b <;> simp only [h]
theorem inK_s (i : Int) (S : Store) : inK (some i) S = some (.ok (.int i), S) := rfl
theorem isL_rr (n : Nat) (S : Store) : isL (.ref n) S = isLC S[n]? := by
  unfold isL listOf isLC
  cases h : S[n]? with
  | none => simp only [h]; rfl
  | some x =>
    obtain ⟨o, b⟩ := x
    cases o <;> simp only [h] <;> rfl
theorem app_rr (n : Nat) (d : D) (S : Store) : fAppend (.ref n) d S = apK (stK n (apC d S[n]?) S) := by
  unfold fAppend apK stK apC
  cases h : S[n]? with
  | none => simp only [h]
  | some x =>
    obtain ⟨o, b⟩ := x
    cases o with
    | lst ds =>
      cases b with
      | true => simp only [h]
      | false =>
        simp only [h]
        by_cases hc : ds.length < lineN
        · rw [if_pos hc, if_pos hc]
        · rw [if_neg hc, if_neg hc]
    | _ => cases b <;> simp only [h]
theorem apK_s (S : Store) : apK (some S) = some (.ok .non, S) := rfl
theorem in_rr {n : Nat} {kvs : List (Key × D)} {b : Bool} (k : D) (S : Store) (h : S[n]? = some ⟨.dct kvs, b⟩) : fIn k (.ref n) S = blK ((keyOf k).map fun k => (valD kvs k).isSome) S := by
  unfold fIn inD dctOf blK
  simp only [h]
  cases keyOf k <;> rfl
theorem notIn_rr {n : Nat} {kvs : List (Key × D)} {b : Bool} (k : D) (S : Store) (h : S[n]? = some ⟨.dct kvs, b⟩) : fNotIn k (.ref n) S = blK ((keyOf k).map fun k => !(valD kvs k).isSome) S := by
  unfold fNotIn inD dctOf blK
  simp only [h]
  cases keyOf k <;> rfl
theorem blK_s (b : Bool) (S : Store) : blK (some b) S = some (.ok (.bl b), S) := rfl
def gt2K (x : D) (k : D) : M D := fun S2 => fGet1 x k S2
def gt1K (a : ME) (l : Sl) (x : D) : M D := fun S1 => match x with
  | .ref n => if isD S1[n]? = true then bnd (a l S1) (gt2K (.ref n)) else none
  | _ => none
theorem get1_r (o a : ME) (l : Sl) (S : Store) : eGet1 o a l S = bnd (o l S) (gt1K a l) := by
  unfold eGet1
  congr 1; funext x S1
  unfold gt1K
  cases x with
  | ref n =>
    unfold dctOf isD
    cases h : S1[n]? with
    | none => simp only [h]; rfl
    | some c =>
      obtain ⟨o, k⟩ := c
      cases o <;> simp only [h, Bool.false_eq_true, if_false] <;> rfl
  | _ => rfl
theorem gt1K_r (a : ME) (l : Sl) (n : Nat) (S : Store) : gt1K a l (.ref n) S = if isD S[n]? = true then bnd (a l S) (gt2K (.ref n)) else none := rfl
theorem gt2K_r (n : Nat) (k : D) (S : Store) : gt2K (.ref n) k S = rdK (getC k S[n]?) S := by
  unfold gt2K fGet1 dctOf getC rdK
  cases h : S[n]? with
  | none => simp only [h]
  | some c =>
    obtain ⟨o, b⟩ := c
    cases o with
    | dct kvs => simp only [h]; cases keyOf k <;> rfl
    | _ => simp only [h]
theorem gx0 (a0 : Option D) (l : Sl) : (a0 :: l)[0]? = some a0 := rfl
theorem sx0 (a0 v : Option D) (l : Sl) : (a0 :: l).set 0 v = v :: l := rfl
theorem gx1 (a0 a1 : Option D) (l : Sl) : (a0 :: a1 :: l)[1]? = some a1 := rfl
theorem sx1 (a0 a1 v : Option D) (l : Sl) : (a0 :: a1 :: l).set 1 v = a0 :: v :: l := rfl
theorem gx2 (a0 a1 a2 : Option D) (l : Sl) : (a0 :: a1 :: a2 :: l)[2]? = some a2 := rfl
theorem sx2 (a0 a1 a2 v : Option D) (l : Sl) : (a0 :: a1 :: a2 :: l).set 2 v = a0 :: a1 :: v :: l := rfl
theorem gx3 (a0 a1 a2 a3 : Option D) (l : Sl) : (a0 :: a1 :: a2 :: a3 :: l)[3]? = some a3 := rfl
theorem sx3 (a0 a1 a2 a3 v : Option D) (l : Sl) : (a0 :: a1 :: a2 :: a3 :: l).set 3 v = a0 :: a1 :: a2 :: v :: l := rfl
theorem gx4 (a0 a1 a2 a3 a4 : Option D) (l : Sl) : (a0 :: a1 :: a2 :: a3 :: a4 :: l)[4]? = some a4 := rfl
theorem sx4 (a0 a1 a2 a3 a4 v : Option D) (l : Sl) : (a0 :: a1 :: a2 :: a3 :: a4 :: l).set 4 v = a0 :: a1 :: a2 :: a3 :: v :: l := rfl
theorem gx5 (a0 a1 a2 a3 a4 a5 : Option D) (l : Sl) : (a0 :: a1 :: a2 :: a3 :: a4 :: a5 :: l)[5]? = some a5 := rfl
theorem sx5 (a0 a1 a2 a3 a4 a5 v : Option D) (l : Sl) : (a0 :: a1 :: a2 :: a3 :: a4 :: a5 :: l).set 5 v = a0 :: a1 :: a2 :: a3 :: a4 :: v :: l := rfl
theorem gx6 (a0 a1 a2 a3 a4 a5 a6 : Option D) (l : Sl) : (a0 :: a1 :: a2 :: a3 :: a4 :: a5 :: a6 :: l)[6]? = some a6 := rfl
theorem sx6 (a0 a1 a2 a3 a4 a5 a6 v : Option D) (l : Sl) : (a0 :: a1 :: a2 :: a3 :: a4 :: a5 :: a6 :: l).set 6 v = a0 :: a1 :: a2 :: a3 :: a4 :: a5 :: v :: l := rfl
theorem gx7 (a0 a1 a2 a3 a4 a5 a6 a7 : Option D) (l : Sl) : (a0 :: a1 :: a2 :: a3 :: a4 :: a5 :: a6 :: a7 :: l)[7]? = some a7 := rfl
theorem sx7 (a0 a1 a2 a3 a4 a5 a6 a7 v : Option D) (l : Sl) : (a0 :: a1 :: a2 :: a3 :: a4 :: a5 :: a6 :: a7 :: l).set 7 v = a0 :: a1 :: a2 :: a3 :: a4 :: a5 :: a6 :: v :: l := rfl
theorem gx8 (a0 a1 a2 a3 a4 a5 a6 a7 a8 : Option D) (l : Sl) : (a0 :: a1 :: a2 :: a3 :: a4 :: a5 :: a6 :: a7 :: a8 :: l)[8]? = some a8 := rfl
theorem sx8 (a0 a1 a2 a3 a4 a5 a6 a7 a8 v : Option D) (l : Sl) : (a0 :: a1 :: a2 :: a3 :: a4 :: a5 :: a6 :: a7 :: a8 :: l).set 8 v = a0 :: a1 :: a2 :: a3 :: a4 :: a5 :: a6 :: a7 :: v :: l := rfl
theorem gx9 (a0 a1 a2 a3 a4 a5 a6 a7 a8 a9 : Option D) (l : Sl) : (a0 :: a1 :: a2 :: a3 :: a4 :: a5 :: a6 :: a7 :: a8 :: a9 :: l)[9]? = some a9 := rfl
theorem sx9 (a0 a1 a2 a3 a4 a5 a6 a7 a8 a9 v : Option D) (l : Sl) : (a0 :: a1 :: a2 :: a3 :: a4 :: a5 :: a6 :: a7 :: a8 :: a9 :: l).set 9 v = a0 :: a1 :: a2 :: a3 :: a4 :: a5 :: a6 :: a7 :: a8 :: v :: l := rfl
theorem gx10 (a0 a1 a2 a3 a4 a5 a6 a7 a8 a9 a10 : Option D) (l : Sl) : (a0 :: a1 :: a2 :: a3 :: a4 :: a5 :: a6 :: a7 :: a8 :: a9 :: a10 :: l)[10]? = some a10 := rfl
theorem sx10 (a0 a1 a2 a3 a4 a5 a6 a7 a8 a9 a10 v : Option D) (l : Sl) : (a0 :: a1 :: a2 :: a3 :: a4 :: a5 :: a6 :: a7 :: a8 :: a9 :: a10 :: l).set 10 v = a0 :: a1 :: a2 :: a3 :: a4 :: a5 :: a6 :: a7 :: a8 :: a9 :: v :: l := rfl
theorem gx11 (a0 a1 a2 a3 a4 a5 a6 a7 a8 a9 a10 a11 : Option D) (l : Sl) : (a0 :: a1 :: a2 :: a3 :: a4 :: a5 :: a6 :: a7 :: a8 :: a9 :: a10 :: a11 :: l)[11]? = some a11 := rfl
theorem sx11 (a0 a1 a2 a3 a4 a5 a6 a7 a8 a9 a10 a11 v : Option D) (l : Sl) : (a0 :: a1 :: a2 :: a3 :: a4 :: a5 :: a6 :: a7 :: a8 :: a9 :: a10 :: a11 :: l).set 11 v = a0 :: a1 :: a2 :: a3 :: a4 :: a5 :: a6 :: a7 :: a8 :: a9 :: a10 :: v :: l := rfl
theorem gx12 (a0 a1 a2 a3 a4 a5 a6 a7 a8 a9 a10 a11 a12 : Option D) (l : Sl) : (a0 :: a1 :: a2 :: a3 :: a4 :: a5 :: a6 :: a7 :: a8 :: a9 :: a10 :: a11 :: a12 :: l)[12]? = some a12 := rfl
theorem sx12 (a0 a1 a2 a3 a4 a5 a6 a7 a8 a9 a10 a11 a12 v : Option D) (l : Sl) : (a0 :: a1 :: a2 :: a3 :: a4 :: a5 :: a6 :: a7 :: a8 :: a9 :: a10 :: a11 :: a12 :: l).set 12 v = a0 :: a1 :: a2 :: a3 :: a4 :: a5 :: a6 :: a7 :: a8 :: a9 :: a10 :: a11 :: v :: l := rfl
theorem gx13 (a0 a1 a2 a3 a4 a5 a6 a7 a8 a9 a10 a11 a12 a13 : Option D) (l : Sl) : (a0 :: a1 :: a2 :: a3 :: a4 :: a5 :: a6 :: a7 :: a8 :: a9 :: a10 :: a11 :: a12 :: a13 :: l)[13]? = some a13 := rfl
theorem sx13 (a0 a1 a2 a3 a4 a5 a6 a7 a8 a9 a10 a11 a12 a13 v : Option D) (l : Sl) : (a0 :: a1 :: a2 :: a3 :: a4 :: a5 :: a6 :: a7 :: a8 :: a9 :: a10 :: a11 :: a12 :: a13 :: l).set 13 v = a0 :: a1 :: a2 :: a3 :: a4 :: a5 :: a6 :: a7 :: a8 :: a9 :: a10 :: a11 :: a12 :: v :: l := rfl
theorem gx14 (a0 a1 a2 a3 a4 a5 a6 a7 a8 a9 a10 a11 a12 a13 a14 : Option D) (l : Sl) : (a0 :: a1 :: a2 :: a3 :: a4 :: a5 :: a6 :: a7 :: a8 :: a9 :: a10 :: a11 :: a12 :: a13 :: a14 :: l)[14]? = some a14 := rfl
theorem sx14 (a0 a1 a2 a3 a4 a5 a6 a7 a8 a9 a10 a11 a12 a13 a14 v : Option D) (l : Sl) : (a0 :: a1 :: a2 :: a3 :: a4 :: a5 :: a6 :: a7 :: a8 :: a9 :: a10 :: a11 :: a12 :: a13 :: a14 :: l).set 14 v = a0 :: a1 :: a2 :: a3 :: a4 :: a5 :: a6 :: a7 :: a8 :: a9 :: a10 :: a11 :: a12 :: a13 :: v :: l := rfl
theorem gx15 (a0 a1 a2 a3 a4 a5 a6 a7 a8 a9 a10 a11 a12 a13 a14 a15 : Option D) (l : Sl) : (a0 :: a1 :: a2 :: a3 :: a4 :: a5 :: a6 :: a7 :: a8 :: a9 :: a10 :: a11 :: a12 :: a13 :: a14 :: a15 :: l)[15]? = some a15 := rfl
theorem sx15 (a0 a1 a2 a3 a4 a5 a6 a7 a8 a9 a10 a11 a12 a13 a14 a15 v : Option D) (l : Sl) : (a0 :: a1 :: a2 :: a3 :: a4 :: a5 :: a6 :: a7 :: a8 :: a9 :: a10 :: a11 :: a12 :: a13 :: a14 :: a15 :: l).set 15 v = a0 :: a1 :: a2 :: a3 :: a4 :: a5 :: a6 :: a7 :: a8 :: a9 :: a10 :: a11 :: a12 :: a13 :: a14 :: v :: l := rfl
theorem gx16 (a0 a1 a2 a3 a4 a5 a6 a7 a8 a9 a10 a11 a12 a13 a14 a15 a16 : Option D) (l : Sl) : (a0 :: a1 :: a2 :: a3 :: a4 :: a5 :: a6 :: a7 :: a8 :: a9 :: a10 :: a11 :: a12 :: a13 :: a14 :: a15 :: a16 :: l)[16]? = some a16 := rfl
theorem sx16 (a0 a1 a2 a3 a4 a5 a6 a7 a8 a9 a10 a11 a12 a13 a14 a15 a16 v : Option D) (l : Sl) : (a0 :: a1 :: a2 :: a3 :: a4 :: a5 :: a6 :: a7 :: a8 :: a9 :: a10 :: a11 :: a12 :: a13 :: a14 :: a15 :: a16 :: l).set 16 v = a0 :: a1 :: a2 :: a3 :: a4 :: a5 :: a6 :: a7 :: a8 :: a9 :: a10 :: a11 :: a12 :: a13 :: a14 :: a15 :: v :: l := rfl
theorem gx17 (a0 a1 a2 a3 a4 a5 a6 a7 a8 a9 a10 a11 a12 a13 a14 a15 a16 a17 : Option D) (l : Sl) : (a0 :: a1 :: a2 :: a3 :: a4 :: a5 :: a6 :: a7 :: a8 :: a9 :: a10 :: a11 :: a12 :: a13 :: a14 :: a15 :: a16 :: a17 :: l)[17]? = some a17 := rfl
theorem sx17 (a0 a1 a2 a3 a4 a5 a6 a7 a8 a9 a10 a11 a12 a13 a14 a15 a16 a17 v : Option D) (l : Sl) : (a0 :: a1 :: a2 :: a3 :: a4 :: a5 :: a6 :: a7 :: a8 :: a9 :: a10 :: a11 :: a12 :: a13 :: a14 :: a15 :: a16 :: a17 :: l).set 17 v = a0 :: a1 :: a2 :: a3 :: a4 :: a5 :: a6 :: a7 :: a8 :: a9 :: a10 :: a11 :: a12 :: a13 :: a14 :: a15 :: a16 :: v :: l := rfl
theorem gx18 (a0 a1 a2 a3 a4 a5 a6 a7 a8 a9 a10 a11 a12 a13 a14 a15 a16 a17 a18 : Option D) (l : Sl) : (a0 :: a1 :: a2 :: a3 :: a4 :: a5 :: a6 :: a7 :: a8 :: a9 :: a10 :: a11 :: a12 :: a13 :: a14 :: a15 :: a16 :: a17 :: a18 :: l)[18]? = some a18 := rfl
theorem sx18 (a0 a1 a2 a3 a4 a5 a6 a7 a8 a9 a10 a11 a12 a13 a14 a15 a16 a17 a18 v : Option D) (l : Sl) : (a0 :: a1 :: a2 :: a3 :: a4 :: a5 :: a6 :: a7 :: a8 :: a9 :: a10 :: a11 :: a12 :: a13 :: a14 :: a15 :: a16 :: a17 :: a18 :: l).set 18 v = a0 :: a1 :: a2 :: a3 :: a4 :: a5 :: a6 :: a7 :: a8 :: a9 :: a10 :: a11 :: a12 :: a13 :: a14 :: a15 :: a16 :: a17 :: v :: l := rfl
theorem gx19 (a0 a1 a2 a3 a4 a5 a6 a7 a8 a9 a10 a11 a12 a13 a14 a15 a16 a17 a18 a19 : Option D) (l : Sl) : (a0 :: a1 :: a2 :: a3 :: a4 :: a5 :: a6 :: a7 :: a8 :: a9 :: a10 :: a11 :: a12 :: a13 :: a14 :: a15 :: a16 :: a17 :: a18 :: a19 :: l)[19]? = some a19 := rfl
theorem sx19 (a0 a1 a2 a3 a4 a5 a6 a7 a8 a9 a10 a11 a12 a13 a14 a15 a16 a17 a18 a19 v : Option D) (l : Sl) : (a0 :: a1 :: a2 :: a3 :: a4 :: a5 :: a6 :: a7 :: a8 :: a9 :: a10 :: a11 :: a12 :: a13 :: a14 :: a15 :: a16 :: a17 :: a18 :: a19 :: l).set 19 v = a0 :: a1 :: a2 :: a3 :: a4 :: a5 :: a6 :: a7 :: a8 :: a9 :: a10 :: a11 :: a12 :: a13 :: a14 :: a15 :: a16 :: a17 :: a18 :: v :: l := rfl
theorem gx20 (a0 a1 a2 a3 a4 a5 a6 a7 a8 a9 a10 a11 a12 a13 a14 a15 a16 a17 a18 a19 a20 : Option D) (l : Sl) : (a0 :: a1 :: a2 :: a3 :: a4 :: a5 :: a6 :: a7 :: a8 :: a9 :: a10 :: a11 :: a12 :: a13 :: a14 :: a15 :: a16 :: a17 :: a18 :: a19 :: a20 :: l)[20]? = some a20 := rfl
theorem sx20 (a0 a1 a2 a3 a4 a5 a6 a7 a8 a9 a10 a11 a12 a13 a14 a15 a16 a17 a18 a19 a20 v : Option D) (l : Sl) : (a0 :: a1 :: a2 :: a3 :: a4 :: a5 :: a6 :: a7 :: a8 :: a9 :: a10 :: a11 :: a12 :: a13 :: a14 :: a15 :: a16 :: a17 :: a18 :: a19 :: a20 :: l).set 20 v = a0 :: a1 :: a2 :: a3 :: a4 :: a5 :: a6 :: a7 :: a8 :: a9 :: a10 :: a11 :: a12 :: a13 :: a14 :: a15 :: a16 :: a17 :: a18 :: a19 :: v :: l := rfl
theorem gx21 (a0 a1 a2 a3 a4 a5 a6 a7 a8 a9 a10 a11 a12 a13 a14 a15 a16 a17 a18 a19 a20 a21 : Option D) (l : Sl) : (a0 :: a1 :: a2 :: a3 :: a4 :: a5 :: a6 :: a7 :: a8 :: a9 :: a10 :: a11 :: a12 :: a13 :: a14 :: a15 :: a16 :: a17 :: a18 :: a19 :: a20 :: a21 :: l)[21]? = some a21 := rfl
theorem sx21 (a0 a1 a2 a3 a4 a5 a6 a7 a8 a9 a10 a11 a12 a13 a14 a15 a16 a17 a18 a19 a20 a21 v : Option D) (l : Sl) : (a0 :: a1 :: a2 :: a3 :: a4 :: a5 :: a6 :: a7 :: a8 :: a9 :: a10 :: a11 :: a12 :: a13 :: a14 :: a15 :: a16 :: a17 :: a18 :: a19 :: a20 :: a21 :: l).set 21 v = a0 :: a1 :: a2 :: a3 :: a4 :: a5 :: a6 :: a7 :: a8 :: a9 :: a10 :: a11 :: a12 :: a13 :: a14 :: a15 :: a16 :: a17 :: a18 :: a19 :: a20 :: v :: l := rfl
theorem gx22 (a0 a1 a2 a3 a4 a5 a6 a7 a8 a9 a10 a11 a12 a13 a14 a15 a16 a17 a18 a19 a20 a21 a22 : Option D) (l : Sl) : (a0 :: a1 :: a2 :: a3 :: a4 :: a5 :: a6 :: a7 :: a8 :: a9 :: a10 :: a11 :: a12 :: a13 :: a14 :: a15 :: a16 :: a17 :: a18 :: a19 :: a20 :: a21 :: a22 :: l)[22]? = some a22 := rfl
theorem sx22 (a0 a1 a2 a3 a4 a5 a6 a7 a8 a9 a10 a11 a12 a13 a14 a15 a16 a17 a18 a19 a20 a21 a22 v : Option D) (l : Sl) : (a0 :: a1 :: a2 :: a3 :: a4 :: a5 :: a6 :: a7 :: a8 :: a9 :: a10 :: a11 :: a12 :: a13 :: a14 :: a15 :: a16 :: a17 :: a18 :: a19 :: a20 :: a21 :: a22 :: l).set 22 v = a0 :: a1 :: a2 :: a3 :: a4 :: a5 :: a6 :: a7 :: a8 :: a9 :: a10 :: a11 :: a12 :: a13 :: a14 :: a15 :: a16 :: a17 :: a18 :: a19 :: a20 :: a21 :: v :: l := rfl
theorem gx23 (a0 a1 a2 a3 a4 a5 a6 a7 a8 a9 a10 a11 a12 a13 a14 a15 a16 a17 a18 a19 a20 a21 a22 a23 : Option D) (l : Sl) : (a0 :: a1 :: a2 :: a3 :: a4 :: a5 :: a6 :: a7 :: a8 :: a9 :: a10 :: a11 :: a12 :: a13 :: a14 :: a15 :: a16 :: a17 :: a18 :: a19 :: a20 :: a21 :: a22 :: a23 :: l)[23]? = some a23 := rfl
theorem sx23 (a0 a1 a2 a3 a4 a5 a6 a7 a8 a9 a10 a11 a12 a13 a14 a15 a16 a17 a18 a19 a20 a21 a22 a23 v : Option D) (l : Sl) : (a0 :: a1 :: a2 :: a3 :: a4 :: a5 :: a6 :: a7 :: a8 :: a9 :: a10 :: a11 :: a12 :: a13 :: a14 :: a15 :: a16 :: a17 :: a18 :: a19 :: a20 :: a21 :: a22 :: a23 :: l).set 23 v = a0 :: a1 :: a2 :: a3 :: a4 :: a5 :: a6 :: a7 :: a8 :: a9 :: a10 :: a11 :: a12 :: a13 :: a14 :: a15 :: a16 :: a17 :: a18 :: a19 :: a20 :: a21 :: a22 :: v :: l := rfl
theorem gx24 (a0 a1 a2 a3 a4 a5 a6 a7 a8 a9 a10 a11 a12 a13 a14 a15 a16 a17 a18 a19 a20 a21 a22 a23 a24 : Option D) (l : Sl) : (a0 :: a1 :: a2 :: a3 :: a4 :: a5 :: a6 :: a7 :: a8 :: a9 :: a10 :: a11 :: a12 :: a13 :: a14 :: a15 :: a16 :: a17 :: a18 :: a19 :: a20 :: a21 :: a22 :: a23 :: a24 :: l)[24]? = some a24 := rfl
theorem sx24 (a0 a1 a2 a3 a4 a5 a6 a7 a8 a9 a10 a11 a12 a13 a14 a15 a16 a17 a18 a19 a20 a21 a22 a23 a24 v : Option D) (l : Sl) : (a0 :: a1 :: a2 :: a3 :: a4 :: a5 :: a6 :: a7 :: a8 :: a9 :: a10 :: a11 :: a12 :: a13 :: a14 :: a15 :: a16 :: a17 :: a18 :: a19 :: a20 :: a21 :: a22 :: a23 :: a24 :: l).set 24 v = a0 :: a1 :: a2 :: a3 :: a4 :: a5 :: a6 :: a7 :: a8 :: a9 :: a10 :: a11 :: a12 :: a13 :: a14 :: a15 :: a16 :: a17 :: a18 :: a19 :: a20 :: a21 :: a22 :: a23 :: v :: l := rfl
theorem gx25 (a0 a1 a2 a3 a4 a5 a6 a7 a8 a9 a10 a11 a12 a13 a14 a15 a16 a17 a18 a19 a20 a21 a22 a23 a24 a25 : Option D) (l : Sl) : (a0 :: a1 :: a2 :: a3 :: a4 :: a5 :: a6 :: a7 :: a8 :: a9 :: a10 :: a11 :: a12 :: a13 :: a14 :: a15 :: a16 :: a17 :: a18 :: a19 :: a20 :: a21 :: a22 :: a23 :: a24 :: a25 :: l)[25]? = some a25 := rfl
theorem sx25 (a0 a1 a2 a3 a4 a5 a6 a7 a8 a9 a10 a11 a12 a13 a14 a15 a16 a17 a18 a19 a20 a21 a22 a23 a24 a25 v : Option D) (l : Sl) : (a0 :: a1 :: a2 :: a3 :: a4 :: a5 :: a6 :: a7 :: a8 :: a9 :: a10 :: a11 :: a12 :: a13 :: a14 :: a15 :: a16 :: a17 :: a18 :: a19 :: a20 :: a21 :: a22 :: a23 :: a24 :: a25 :: l).set 25 v = a0 :: a1 :: a2 :: a3 :: a4 :: a5 :: a6 :: a7 :: a8 :: a9 :: a10 :: a11 :: a12 :: a13 :: a14 :: a15 :: a16 :: a17 :: a18 :: a19 :: a20 :: a21 :: a22 :: a23 :: a24 :: v :: l := rfl
theorem gx26 (a0 a1 a2 a3 a4 a5 a6 a7 a8 a9 a10 a11 a12 a13 a14 a15 a16 a17 a18 a19 a20 a21 a22 a23 a24 a25 a26 : Option D) (l : Sl) : (a0 :: a1 :: a2 :: a3 :: a4 :: a5 :: a6 :: a7 :: a8 :: a9 :: a10 :: a11 :: a12 :: a13 :: a14 :: a15 :: a16 :: a17 :: a18 :: a19 :: a20 :: a21 :: a22 :: a23 :: a24 :: a25 :: a26 :: l)[26]? = some a26 := rfl
theorem sx26 (a0 a1 a2 a3 a4 a5 a6 a7 a8 a9 a10 a11 a12 a13 a14 a15 a16 a17 a18 a19 a20 a21 a22 a23 a24 a25 a26 v : Option D) (l : Sl) : (a0 :: a1 :: a2 :: a3 :: a4 :: a5 :: a6 :: a7 :: a8 :: a9 :: a10 :: a11 :: a12 :: a13 :: a14 :: a15 :: a16 :: a17 :: a18 :: a19 :: a20 :: a21 :: a22 :: a23 :: a24 :: a25 :: a26 :: l).set 26 v = a0 :: a1 :: a2 :: a3 :: a4 :: a5 :: a6 :: a7 :: a8 :: a9 :: a10 :: a11 :: a12 :: a13 :: a14 :: a15 :: a16 :: a17 :: a18 :: a19 :: a20 :: a21 :: a22 :: a23 :: a24 :: a25 :: v :: l := rfl
theorem gx27 (a0 a1 a2 a3 a4 a5 a6 a7 a8 a9 a10 a11 a12 a13 a14 a15 a16 a17 a18 a19 a20 a21 a22 a23 a24 a25 a26 a27 : Option D) (l : Sl) : (a0 :: a1 :: a2 :: a3 :: a4 :: a5 :: a6 :: a7 :: a8 :: a9 :: a10 :: a11 :: a12 :: a13 :: a14 :: a15 :: a16 :: a17 :: a18 :: a19 :: a20 :: a21 :: a22 :: a23 :: a24 :: a25 :: a26 :: a27 :: l)[27]? = some a27 := rfl
theorem sx27 (a0 a1 a2 a3 a4 a5 a6 a7 a8 a9 a10 a11 a12 a13 a14 a15 a16 a17 a18 a19 a20 a21 a22 a23 a24 a25 a26 a27 v : Option D) (l : Sl) : (a0 :: a1 :: a2 :: a3 :: a4 :: a5 :: a6 :: a7 :: a8 :: a9 :: a10 :: a11 :: a12 :: a13 :: a14 :: a15 :: a16 :: a17 :: a18 :: a19 :: a20 :: a21 :: a22 :: a23 :: a24 :: a25 :: a26 :: a27 :: l).set 27 v = a0 :: a1 :: a2 :: a3 :: a4 :: a5 :: a6 :: a7 :: a8 :: a9 :: a10 :: a11 :: a12 :: a13 :: a14 :: a15 :: a16 :: a17 :: a18 :: a19 :: a20 :: a21 :: a22 :: a23 :: a24 :: a25 :: a26 :: v :: l := rfl
theorem gx28 (a0 a1 a2 a3 a4 a5 a6 a7 a8 a9 a10 a11 a12 a13 a14 a15 a16 a17 a18 a19 a20 a21 a22 a23 a24 a25 a26 a27 a28 : Option D) (l : Sl) : (a0 :: a1 :: a2 :: a3 :: a4 :: a5 :: a6 :: a7 :: a8 :: a9 :: a10 :: a11 :: a12 :: a13 :: a14 :: a15 :: a16 :: a17 :: a18 :: a19 :: a20 :: a21 :: a22 :: a23 :: a24 :: a25 :: a26 :: a27 :: a28 :: l)[28]? = some a28 := rfl
theorem sx28 (a0 a1 a2 a3 a4 a5 a6 a7 a8 a9 a10 a11 a12 a13 a14 a15 a16 a17 a18 a19 a20 a21 a22 a23 a24 a25 a26 a27 a28 v : Option D) (l : Sl) : (a0 :: a1 :: a2 :: a3 :: a4 :: a5 :: a6 :: a7 :: a8 :: a9 :: a10 :: a11 :: a12 :: a13 :: a14 :: a15 :: a16 :: a17 :: a18 :: a19 :: a20 :: a21 :: a22 :: a23 :: a24 :: a25 :: a26 :: a27 :: a28 :: l).set 28 v = a0 :: a1 :: a2 :: a3 :: a4 :: a5 :: a6 :: a7 :: a8 :: a9 :: a10 :: a11 :: a12 :: a13 :: a14 :: a15 :: a16 :: a17 :: a18 :: a19 :: a20 :: a21 :: a22 :: a23 :: a24 :: a25 :: a26 :: a27 :: v :: l := rfl
theorem gx29 (a0 a1 a2 a3 a4 a5 a6 a7 a8 a9 a10 a11 a12 a13 a14 a15 a16 a17 a18 a19 a20 a21 a22 a23 a24 a25 a26 a27 a28 a29 : Option D) (l : Sl) : (a0 :: a1 :: a2 :: a3 :: a4 :: a5 :: a6 :: a7 :: a8 :: a9 :: a10 :: a11 :: a12 :: a13 :: a14 :: a15 :: a16 :: a17 :: a18 :: a19 :: a20 :: a21 :: a22 :: a23 :: a24 :: a25 :: a26 :: a27 :: a28 :: a29 :: l)[29]? = some a29 := rfl
theorem sx29 (a0 a1 a2 a3 a4 a5 a6 a7 a8 a9 a10 a11 a12 a13 a14 a15 a16 a17 a18 a19 a20 a21 a22 a23 a24 a25 a26 a27 a28 a29 v : Option D) (l : Sl) : (a0 :: a1 :: a2 :: a3 :: a4 :: a5 :: a6 :: a7 :: a8 :: a9 :: a10 :: a11 :: a12 :: a13 :: a14 :: a15 :: a16 :: a17 :: a18 :: a19 :: a20 :: a21 :: a22 :: a23 :: a24 :: a25 :: a26 :: a27 :: a28 :: a29 :: l).set 29 v = a0 :: a1 :: a2 :: a3 :: a4 :: a5 :: a6 :: a7 :: a8 :: a9 :: a10 :: a11 :: a12 :: a13 :: a14 :: a15 :: a16 :: a17 :: a18 :: a19 :: a20 :: a21 :: a22 :: a23 :: a24 :: a25 :: a26 :: a27 :: a28 :: v :: l := rfl
end Sim
local macro_rules | `(tactic| simp only [mir, $xs,*]) => `(tactic| simp -implicitDefEqProofs only [↓Sim.seq_r, Sim.nxt_nx, Sim.nxt_rt, Sim.nxt_ex, Sim.nxt_bk, Sim.nxt_ct, Sim.bnd_ok, Sim.bnd_er, Sim.bndN_ok, Sim.bndS_ok, Sim.bndS_er, Sim.fnR_rt, Sim.fnR_nx, Sim.fnR_ex, ↓Sim.var_r, Sim.gv_s, ↓Sim.c_r, ↓Sim.e1_r, ↓Sim.e2_r, Sim.e2K_r, ↓Sim.aNil_r, ↓Sim.aCons_r, Sim.acK_r, Sim.csK_r, ↓Sim.eA_r, Sim.a1_r, Sim.a2_r, Sim.m1_r, ↓Sim.eTup_r, ↓Sim.eLst_r, ↓Sim.eLstR_r, Sim.mkT0, Sim.mkL0, Sim.mkR0, Sim.mkT1, Sim.mkL1, Sim.mkR1, Sim.mkT2, Sim.mkL2, Sim.mkR2, Sim.mkT3, Sim.mkL3, Sim.mkR3, Sim.mkT4, Sim.mkL4, Sim.mkR4, Sim.mkT5, Sim.mkL5, Sim.mkR5, Sim.mkT6, Sim.mkL6, Sim.mkR6, Sim.mkT7, Sim.mkL7, Sim.mkR7, Sim.mkT8, Sim.mkL8, Sim.mkR8, ↓Sim.tOf_r, Sim.blOf_r, Sim.tAndK_t, Sim.tAndK_f, ↓Sim.tAnd_r, Sim.tOrK_t, Sim.tOrK_f, ↓Sim.tOr_r, Sim.eAndK_t, Sim.eAndK_f, ↓Sim.eAnd_r, Sim.eOrK_t, Sim.eOrK_f, ↓Sim.eOr_r, Sim.eIfK_t, Sim.eIfK_f, ↓Sim.eIf_r, Sim.tnK_r, Sim.enK_r, ↓Sim.tNot_r, ↓Sim.eNot_r, ↓Sim.chain_r, Sim.ch1K_r, Sim.ch2K_r, Sim.chK_t, Sim.chK_f, ↓Sim.oNo_r, ↓Sim.oSo_r, Sim.iofD_r, ↓Sim.eSl_r, Sim.sl1K_r, Sim.sl2K_r, Sim.sl3K_r, ↓Sim.eBM_r, Sim.bmK_r, Sim.bmK2_r, ↓Sim.meth_r, Sim.methK_r, Sim.methK2_r, Sim.mtC_r, ↓Sim.next_r, ↓Sim.break_r, ↓Sim.cont_r, Sim.dropK_r, Sim.retK_r, Sim.setK_r, Sim.ifK_t, Sim.ifK_f, Sim.par1K_r, Sim.par2K_r, ↓Sim.drop_r, ↓Sim.ret_r, ↓Sim.retN_r, ↓Sim.set_r, ↓Sim.if_r, ↓Sim.par_r, Sim.sf1K_r, ↓Sim.fld_r, Sim.sfK_r, Sim.stK_s, Sim.fldK_s, Sim.put1K_r, Sim.put2K_r, ↓Sim.put_r, Sim.putK_r, ↓Sim.raiseB_r, ↓Sim.raiseN_r, Sim.rnK_r, ↓Sim.try_r, Sim.tryK_nx, Sim.tryK_rt, Sim.tryK_ex, Sim.tryC_t, Sim.tryC_f, Sim.hnd_0, Sim.hnd_1, Sim.noEx_nx, Sim.unset_nx, Sim.noEx_bk, Sim.unset_bk, Sim.noEx_ct, Sim.unset_ct, Sim.noEx_rt, Sim.unset_rt, Sim.xf_r, Sim.fFld_r, Sim.rdK_s, Sim.fIx_rr, Sim.fLen_rr, Sim.inK_s, Sim.isL_rr, Sim.app_rr, Sim.apK_s, Sim.blK_s, ↓Sim.get1_r, Sim.gt1K_r, Sim.gt2K_r, Sim.gx0, Sim.sx0, Sim.gx1, Sim.sx1, Sim.gx2, Sim.sx2, Sim.gx3, Sim.sx3, Sim.gx4, Sim.sx4, Sim.gx5, Sim.sx5, Sim.gx6, Sim.sx6, Sim.gx7, Sim.sx7, Sim.gx8, Sim.sx8, Sim.gx9, Sim.sx9, Sim.gx10, Sim.sx10, Sim.gx11, Sim.sx11, Sim.gx12, Sim.sx12, Sim.gx13, Sim.sx13, Sim.gx14, Sim.sx14, Sim.gx15, Sim.sx15, Sim.gx16, Sim.sx16, Sim.gx17, Sim.sx17, Sim.gx18, Sim.sx18, Sim.gx19, Sim.sx19, Sim.gx20, Sim.sx20, Sim.gx21, Sim.sx21, Sim.gx22, Sim.sx22, Sim.gx23, Sim.sx23, Sim.gx24, Sim.sx24, Sim.gx25, Sim.sx25, Sim.gx26, Sim.sx26, Sim.gx27, Sim.sx27, Sim.gx28, Sim.sx28, Sim.gx29, Sim.sx29, Sim.fAdd_i, Sim.fSub_i, Sim.fLt_i, Sim.fCmp_i, Sim.fEq_i, Sim.fNe_i, Sim.fLen_fl, Sim.fLen_tup, Sim.fLen_scr, Sim.isL_fl, Sim.isL_scr, Sim.isS_str, Sim.isS_fl, Sim.isS_ref, Sim.fIx_t0, Sim.fIx_t1, Sim.fIx_t2, Sim.fIx_t3, Sim.fIx_f0, Sim.fIx_f1, Sim.fIx_f2, Sim.fIx_f3, Sim.pow9, Sim.pow17, Sim.pow18, Sim.pow41, decide_true, decide_false, Bool.not_true, Bool.not_false, Int.reduceEq, Int.reduceLT, Int.reduceLE, Int.reduceAdd, Int.reduceSub, Int.reduceMul, Int.reduceNeg, Int.reduceNe, eq_self, not_true_eq_false, not_false_eq_true, $xs,*])
local macro_rules | `(tactic| simp only [mir]) => `(tactic| simp -implicitDefEqProofs only [↓Sim.seq_r, Sim.nxt_nx, Sim.nxt_rt, Sim.nxt_ex, Sim.nxt_bk, Sim.nxt_ct, Sim.bnd_ok, Sim.bnd_er, Sim.bndN_ok, Sim.bndS_ok, Sim.bndS_er, Sim.fnR_rt, Sim.fnR_nx, Sim.fnR_ex, ↓Sim.var_r, Sim.gv_s, ↓Sim.c_r, ↓Sim.e1_r, ↓Sim.e2_r, Sim.e2K_r, ↓Sim.aNil_r, ↓Sim.aCons_r, Sim.acK_r, Sim.csK_r, ↓Sim.eA_r, Sim.a1_r, Sim.a2_r, Sim.m1_r, ↓Sim.eTup_r, ↓Sim.eLst_r, ↓Sim.eLstR_r, Sim.mkT0, Sim.mkL0, Sim.mkR0, Sim.mkT1, Sim.mkL1, Sim.mkR1, Sim.mkT2, Sim.mkL2, Sim.mkR2, Sim.mkT3, Sim.mkL3, Sim.mkR3, Sim.mkT4, Sim.mkL4, Sim.mkR4, Sim.mkT5, Sim.mkL5, Sim.mkR5, Sim.mkT6, Sim.mkL6, Sim.mkR6, Sim.mkT7, Sim.mkL7, Sim.mkR7, Sim.mkT8, Sim.mkL8, Sim.mkR8, ↓Sim.tOf_r, Sim.blOf_r, Sim.tAndK_t, Sim.tAndK_f, ↓Sim.tAnd_r, Sim.tOrK_t, Sim.tOrK_f, ↓Sim.tOr_r, Sim.eAndK_t, Sim.eAndK_f, ↓Sim.eAnd_r, Sim.eOrK_t, Sim.eOrK_f, ↓Sim.eOr_r, Sim.eIfK_t, Sim.eIfK_f, ↓Sim.eIf_r, Sim.tnK_r, Sim.enK_r, ↓Sim.tNot_r, ↓Sim.eNot_r, ↓Sim.chain_r, Sim.ch1K_r, Sim.ch2K_r, Sim.chK_t, Sim.chK_f, ↓Sim.oNo_r, ↓Sim.oSo_r, Sim.iofD_r, ↓Sim.eSl_r, Sim.sl1K_r, Sim.sl2K_r, Sim.sl3K_r, ↓Sim.eBM_r, Sim.bmK_r, Sim.bmK2_r, ↓Sim.meth_r, Sim.methK_r, Sim.methK2_r, Sim.mtC_r, ↓Sim.next_r, ↓Sim.break_r, ↓Sim.cont_r, Sim.dropK_r, Sim.retK_r, Sim.setK_r, Sim.ifK_t, Sim.ifK_f, Sim.par1K_r, Sim.par2K_r, ↓Sim.drop_r, ↓Sim.ret_r, ↓Sim.retN_r, ↓Sim.set_r, ↓Sim.if_r, ↓Sim.par_r, Sim.sf1K_r, ↓Sim.fld_r, Sim.sfK_r, Sim.stK_s, Sim.fldK_s, Sim.put1K_r, Sim.put2K_r, ↓Sim.put_r, Sim.putK_r, ↓Sim.raiseB_r, ↓Sim.raiseN_r, Sim.rnK_r, ↓Sim.try_r, Sim.tryK_nx, Sim.tryK_rt, Sim.tryK_ex, Sim.tryC_t, Sim.tryC_f, Sim.hnd_0, Sim.hnd_1, Sim.noEx_nx, Sim.unset_nx, Sim.noEx_bk, Sim.unset_bk, Sim.noEx_ct, Sim.unset_ct, Sim.noEx_rt, Sim.unset_rt, Sim.xf_r, Sim.fFld_r, Sim.rdK_s, Sim.fIx_rr, Sim.fLen_rr, Sim.inK_s, Sim.isL_rr, Sim.app_rr, Sim.apK_s, Sim.blK_s, ↓Sim.get1_r, Sim.gt1K_r, Sim.gt2K_r, Sim.gx0, Sim.sx0, Sim.gx1, Sim.sx1, Sim.gx2, Sim.sx2, Sim.gx3, Sim.sx3, Sim.gx4, Sim.sx4, Sim.gx5, Sim.sx5, Sim.gx6, Sim.sx6, Sim.gx7, Sim.sx7, Sim.gx8, Sim.sx8, Sim.gx9, Sim.sx9, Sim.gx10, Sim.sx10, Sim.gx11, Sim.sx11, Sim.gx12, Sim.sx12, Sim.gx13, Sim.sx13, Sim.gx14, Sim.sx14, Sim.gx15, Sim.sx15, Sim.gx16, Sim.sx16, Sim.gx17, Sim.sx17, Sim.gx18, Sim.sx18, Sim.gx19, Sim.sx19, Sim.gx20, Sim.sx20, Sim.gx21, Sim.sx21, Sim.gx22, Sim.sx22, Sim.gx23, Sim.sx23, Sim.gx24, Sim.sx24, Sim.gx25, Sim.sx25, Sim.gx26, Sim.sx26, Sim.gx27, Sim.sx27, Sim.gx28, Sim.sx28, Sim.gx29, Sim.sx29, Sim.fAdd_i, Sim.fSub_i, Sim.fLt_i, Sim.fCmp_i, Sim.fEq_i, Sim.fNe_i, Sim.fLen_fl, Sim.fLen_tup, Sim.fLen_scr, Sim.isL_fl, Sim.isL_scr, Sim.isS_str, Sim.isS_fl, Sim.isS_ref, Sim.fIx_t0, Sim.fIx_t1, Sim.fIx_t2, Sim.fIx_t3, Sim.fIx_f0, Sim.fIx_f1, Sim.fIx_f2, Sim.fIx_f3, Sim.pow9, Sim.pow17, Sim.pow18, Sim.pow41, decide_true, decide_false, Bool.not_true, Bool.not_false, Int.reduceEq, Int.reduceLT, Int.reduceLE, Int.reduceAdd, Int.reduceSub, Int.reduceMul, Int.reduceNeg, Int.reduceNe, eq_self, not_true_eq_false, not_false_eq_true])
/-! the draws: the row, taken -/
namespace Law
open PySem PySem.Spec L2 Sim
structure Row where
  ns : List Int
  i : Int
  c : Int
  m : Int
def rowD (R : Row) : Cell := ⟨.lst [.scr R.ns, .int R.i, .int R.c, .int R.m], false⟩
structure RowOk (R : Row) : Prop where
  i0 : 0 ≤ R.i
  c0 : 0 ≤ R.c
  m0 : 0 ≤ R.m
  m1 : R.m < 2147483647
def mixL : List Int → Int → Int
  | [], m => m
  | n :: ns, m => mixL ns ((m * 48271 + n + 11) % 2147483647)
theorem mixL_ok : ∀ (ns : List Int) (m : Int), 0 ≤ m → m < 2147483647 → 0 ≤ mixL ns m ∧ mixL ns m < 2147483647
  | [], m, h0, h1 => ⟨h0, h1⟩
  | n :: ns, m, h0, h1 => mixL_ok ns _ (Int.emod_nonneg _ (by decide)) (Int.emod_lt_of_pos _ (by decide))
def row0 (ns : List Int) : Row := ⟨ns, 0, 0, mixL ns 7⟩
theorem row0_ok (ns : List Int) : RowOk (row0 ns) := ⟨Int.le_refl _, Int.le_refl _, (mixL_ok ns 7 (by decide) (by decide)).1, (mixL_ok ns 7 (by decide) (by decide)).2⟩
theorem row_loop {x : Option D} : ∀ (ns : List Int) (m : Int) (c : Option D) (S : Store), 0 ≤ m → m < 2147483647 → ∃ c', forL (.one 2) (sSet 1 (e2 fMod (e2 fAdd (e2 fAdd (e2 fMul (eVar 1) (eC (.int 48271))) (eVar 2)) (eC (.int 11))) (eC (.int 2147483647)))) (ns.map D.int) [x, some (.int m), c] S = some (.nx [x, some (.int (mixL ns m)), c'], S)
  | [], m, c, S, h0, h1 => ⟨c, rfl⟩
  | n :: ns, m, c, S, h0, h1 => by
    obtain ⟨c', h⟩ := row_loop ns ((m * 48271 + n + 11) % 2147483647) (some (.int n)) S (Int.emod_nonneg _ (by decide)) (Int.emod_lt_of_pos _ (by decide))
    refine ⟨c', ?_⟩
    rw [List.map_cons, forL]
    walk_at "ev"
    have e1 : fMul (.int m) (.int 48271) S = some (.ok (.int (m * 48271)), S) := by unfold fMul; simp only; rw [if_pos (by omega)]
    simp only [e1, fAdd, fMod]
    walk_at "ev"
    exact h
theorem row_eq (ns : List Int) (S : Store) : m__law_row [.scr ns] S = some (.ok (.ref S.length), S ++ [rowD (row0 ns)]) := by
  unfold m__law_row b__law_row
  walk_at "ev"
  obtain ⟨c', h⟩ := row_loop (x := some (.scr ns)) ns 7 none S (by decide) (by decide)
  simp only [isL_scr, listOf_scr, if_true, forG_all, h]
  walk_at "ev"
  rfl
def tk (R : Row) (k : Int) : Int × Row :=
  if 0 < R.c then (R.c % k, { R with c := R.c / k })
  else if R.i < R.ns.length then
    let z := R.ns.getD R.i.toNat 0
    (z % k, if 1000000000000000000 ≤ z then { R with i := R.i + 1, c := z / k } else { R with i := R.i + 1 })
  else
    let m := (R.m * 48271 + 12345) % 2147483647
    (m / 1009 % k, { R with m := m })
theorem tk_lo {R : Row} {k : Int} (hk : 0 < k) : 0 ≤ (tk R k).1 := by
  unfold tk
  split
  · exact Int.emod_nonneg _ (by omega)
  · split
    · exact Int.emod_nonneg _ (by omega)
    · exact Int.emod_nonneg _ (by omega)
theorem tk_hi {R : Row} {k : Int} (hk : 0 < k) : (tk R k).1 < k := by
  unfold tk
  split
  · exact Int.emod_lt_of_pos _ hk
  · split
    · exact Int.emod_lt_of_pos _ hk
    · exact Int.emod_lt_of_pos _ hk
theorem tk_ok {R : Row} {k : Int} (h : RowOk R) (hk : 0 < k) : RowOk (tk R k).2 := by
  obtain ⟨h1, h2, h3, h4⟩ := h
  unfold tk
  split
  · exact ⟨h1, Int.ediv_nonneg h2 (by omega), h3, h4⟩
  · split
    · simp only
      split
      · exact ⟨by show 0 ≤ R.i + 1; omega, Int.ediv_nonneg (by omega) (by omega), h3, h4⟩
      · exact ⟨by show 0 ≤ R.i + 1; omega, h2, h3, h4⟩
    · exact ⟨h1, h2, Int.emod_nonneg _ (by decide), Int.emod_lt_of_pos _ (by decide)⟩
theorem taken_eq {R : Row} {n : Nat} {S : Store} {k : Int} (hS : S[n]? = some (rowD R)) (h : RowOk R) (h0 : 0 < k) (h1 : k < 1606938044258990275541962092341162602522202993782792835301376) :
    m__law_taken [.ref n, .int k] S = some (.ok (.int (tk R k).1), S.set n (rowD (tk R k).2)) := by
  obtain ⟨hi, hc, hm0, hm1⟩ := h
  have hn : n < S.length := (List.getElem?_eq_some_iff.mp hS).1
  have hS' : S[n]? = some ⟨.lst [.scr R.ns, .int R.i, .int R.c, .int R.m], false⟩ := hS
  have g0 := fIx_ref (i := 0) hS' (by decide) rfl
  have g1 := fIx_ref (i := 1) hS' (by decide) rfl
  have g2 := fIx_ref (i := 2) hS' (by decide) rfl
  have g3 := fIx_ref (i := 3) hS' (by decide) rfl
  have gp : ∀ S, fPow (.int 10) (.int 18) S = some (.ok (.int 1000000000000000000), S) := fun _ => rfl
  have p1 := fun d => putIx_lst (i := 1) (d := d) hS' (by decide) (by simp)
  have p2 := fun d => putIx_lst (i := 2) (d := d) hS' (by decide) (by simp)
  have p3 := fun d => putIx_lst (i := 3) (d := d) hS' (by decide) (by simp)
  have gm : ∀ i S, fMod (.int i) (.int k) S = some (.ok (.int (i % k)), S) := fun i S => fMod_i h0 S
  have gd : ∀ i S, fDiv (.int i) (.int k) S = some (.ok (.int (i / k)), S) := fun i S => fDiv_i h0 h1 S
  unfold m__law_taken b__law_taken tk
  refine fn_rt rfl ?_
  by_cases c1 : 0 < R.c
  · rw [if_pos c1]
    refine seq_rt ?_
    walk_at "ev*"
    rfl
  · rw [if_neg c1]
    refine Eq.trans (seq_nx (by walk_at "ev*"; rfl)) ?_
    by_cases c2 : R.i < R.ns.length
    · have gz : ∀ S, fIx (.scr R.ns) (.int R.i) S = some (.ok (.int (R.ns.getD R.i.toNat 0)), S) := fun S => fIx_scr hi (by
        rw [List.getElem?_eq_getElem (by omega), List.getD_eq_getElem?_getD, List.getElem?_eq_getElem (by omega)]; rfl) S
      rw [if_pos c2]
      refine seq_rt ?_
      have hS1 : (S.set n ⟨.lst [.scr R.ns, .int (R.i + 1), .int R.c, .int R.m], false⟩)[n]? = some ⟨.lst [.scr R.ns, .int (R.i + 1), .int R.c, .int R.m], false⟩ := List.getElem?_set_self hn
      have p2' := fun d => putIx_lst (i := 2) (d := d) hS1 (by decide) (by simp)
      by_cases c3 : 1000000000000000000 ≤ R.ns.getD R.i.toNat 0
      · walk_at "ev*"
        rfl
      · walk_at "ev*"
        rfl
    · rw [if_neg c2]
      refine Eq.trans (seq_nx (by walk_at "ev*"; rfl)) ?_
      have gmul : ∀ S, fMul (.int R.m) (.int 48271) S = some (.ok (.int (R.m * 48271)), S) := fun S => fMul_l (by omega) (by omega) S
      have gmm : ∀ i S, fMod (.int i) (.int 2147483647) S = some (.ok (.int (i % 2147483647)), S) := fun i S => fMod_i (by decide) S
      have gdd : ∀ i S, fDiv (.int i) (.int 1009) S = some (.ok (.int (i / 1009)), S) := fun i S => fDiv_i (by decide) (by decide) S
      refine Eq.trans (seq_nx (by walk_at "ev*"; rfl)) ?_
      have hS1 := List.getElem?_set_self (l := S) (a := (⟨.lst [.scr R.ns, .int R.i, .int R.c, .int ((R.m * 48271 + 12345) % 2147483647)], false⟩ : Cell)) hn
      have g3' := fIx_ref (i := 3) hS1 (by decide) rfl
      walk_at "ev*"
      rfl
def dr (R : Row) (k : Int) : Nat → List Int × Row
  | 0 => ([], R)
  | n + 1 => ((tk R k).1 :: (dr (tk R k).2 k n).1, (dr (tk R k).2 k n).2)
theorem dr_ok {k : Int} (hk : 0 < k) : ∀ (n : Nat) {R : Row}, RowOk R → RowOk (dr R k n).2
  | 0, _, h => h
  | n + 1, _, h => dr_ok hk n (tk_ok h hk)
theorem dr_len {k : Int} : ∀ (n : Nat) {R : Row}, (dr R k n).1.length = n
  | 0, _ => rfl
  | n + 1, _ => by unfold dr; rw [List.length_cons, dr_len n]
theorem dr_in {k : Int} (hk : 0 < k) : ∀ (n : Nat) {R : Row}, ∀ x ∈ (dr R k n).1, 0 ≤ x ∧ x < k
  | 0, _, _, h => nomatch h
  | n + 1, R, x, h => by
    unfold dr at h
    rcases List.mem_cons.mp h with e | e
    · subst e; exact ⟨tk_lo hk, tk_hi hk⟩
    · exact dr_in hk n x e
theorem set_same {S : Store} {n : Nat} {c : Cell} (h : S[n]? = some c) : S.set n c = S := by
  apply List.ext_getElem?
  intro i
  by_cases e : n = i
  · subst e
    rw [List.getElem?_set_self (List.getElem?_eq_some_iff.mp h).1, h]
  · rw [List.getElem?_set_ne e]
theorem comp_dr {id j : Nat} {k : Int} (hk : 0 < k) {e : ME} {l : Sl} (he : ∀ (d : D) (R : Row) (S : Store), S[id]? = some (rowD R) → RowOk R → e (l.set j (some d)) S = some (.ok (.int (tk R k).1), S.set id (rowD (tk R k).2))) :
    ∀ (n : Nat) (lo : Int) (acc : List D) (R : Row) (S : Store), S[id]? = some (rowD R) → RowOk R → acc.length + n ≤ 16777216 →
      compL (.one j) tYes' e l acc (rangeD lo n) S = some (.ok (.fl (acc ++ (dr R k n).1.map D.int)), S.set id (rowD (dr R k n).2))
  | 0, lo, acc, R, S, hS, hR, hl => by
    rw [rangeD_zero, compL]
    show some _ = some (Except.ok (D.fl (acc ++ [])), S.set id (rowD R))
    rw [List.append_nil, set_same hS]
  | n + 1, lo, acc, R, S, hS, hR, hl => by
    rw [rangeD_succ, compL]
    have hn : id < S.length := (List.getElem?_eq_some_iff.mp hS).1
    simp only [tgSet, tYes', bndN, if_true, he _ R S hS hR]
    rw [if_pos (show acc.length < lineN by show _ < 16777216; omega), comp_dr hk he n (lo + 1) (acc ++ [D.int (tk R k).1]) (tk R k).2 _ (List.getElem?_set_self hn) (tk_ok hR hk) (by rw [List.length_append]; simp; omega), List.append_assoc, List.set_set]
    rfl
theorem draw {R : Row} {n : Nat} {S : Store} (k : Int) (hS : S[n]? = some (rowD R)) (o : RowOk R) (h0 : 0 < k) (h1 : k < 1606938044258990275541962092341162602522202993782792835301376) :
    ∃ r R', m__law_taken [.ref n, .int k] S = some (.ok (.int r), S.set n (rowD R')) ∧ RowOk R' ∧ 0 ≤ r ∧ r < k := ⟨_, _, taken_eq hS o h0 h1, tk_ok o h0, tk_lo h0, tk_hi h0⟩
theorem draw0 {R : Row} (k : Int) (o : RowOk R) (h0 : 0 < k) (h1 : k < 1606938044258990275541962092341162602522202993782792835301376) :
    ∃ r R', m__law_taken [.ref 0, .int k] [rowD R] = some (.ok (.int r), [rowD R']) ∧ RowOk R' ∧ 0 ≤ r ∧ r < k := ⟨_, _, taken_eq (S := [rowD R]) rfl o h0 h1, tk_ok o h0, tk_lo h0, tk_hi h0⟩
end Law

/-! signs and texts -/
namespace Law
open PySem PySem.Spec L2 Sim
def SG : List Nat := [32, 33, 34, 35, 36, 38, 39, 40, 41, 42, 43, 44, 45, 46, 47, 48, 49, 50, 51, 52, 53, 54, 55, 56, 57, 58, 59, 60, 61, 62, 63, 64, 65, 66, 67, 68, 69, 70, 71, 72, 73, 74, 75, 76, 77, 78, 79, 80, 81, 82, 83, 84, 85, 86, 87, 88, 89, 90, 91, 92, 93, 94, 95, 96, 97, 98, 99, 100, 101, 102, 103, 104, 105, 106, 107, 108, 109, 110, 111, 112, 113, 114, 115, 116, 117, 118, 119, 120, 121, 122, 123, 124, 125, 126]
def sg : Str := ⟨SG.toArray⟩
theorem SG_len : SG.length = 94 := by decide +kernel
theorem sg_len : sg.length = 94 := by decide +kernel
theorem sg_list : sg.cps.toList = SG := rfl
theorem SIGNS_eq : (" !\"#$&'()*+,-./0123456789:;<=>?@ABCDEFGHIJKLMNOPQRSTUVWXYZ[\\]^_`abcdefghijklmnopqrstuvwxyz{|}~" : Str) = sg := by decide +kernel
theorem SG_lt : ∀ c ∈ SG, c < 128 := by decide +kernel
theorem SG_nd : SG.Nodup := by decide +kernel
def sgc (i : Nat) : Nat := SG.getD i 0
theorem sgc_get {i : Nat} (h : i < 94) : SG[i]? = some (sgc i) := by
  unfold sgc
  rw [List.getD_eq_getElem?_getD, List.getElem?_eq_getElem (by rw [SG_len]; exact h)]
  rfl
theorem sgc_occ : ∀ i < 94, Builtin.Str.occurrences sg ⟨#[sgc i]⟩ 0 sg.length 1 = [i] := by decide +kernel
theorem sgc_inj {i j : Nat} (hi : i < 94) (hj : j < 94) (h : sgc i = sgc j) : i = j := by
  have e1 := sgc_get hi
  have e2 := sgc_get hj
  rw [h] at e1
  exact nd_ix' SG_nd e1 e2
def tx (l : List Nat) : Str := ⟨(l.map sgc).toArray⟩
def Sig (l : List Nat) : Prop := ∀ i ∈ l, i < 94
theorem tx_len (l : List Nat) : (tx l).length = l.length := by unfold tx Str.length; simp
theorem tx_nil : ("" : Str) = tx [] := by decide +kernel
theorem tx_app (l m : List Nat) : tx l ++ tx m = tx (l ++ m) := by
  show Str.append (tx l) (tx m) = _
  unfold Str.append tx
  simp
theorem tx_one {l : List Nat} {i : Nat} : tx l ++ ⟨#[sgc i]⟩ = tx (l ++ [i]) := tx_app l [i]
theorem tx_inj {l m : List Nat} (hl : Sig l) (hm : Sig m) (h : tx l = tx m) : l = m := by
  unfold tx at h
  have h2 : l.map sgc = m.map sgc := by
    have := congrArg (fun s : Str => s.cps.toList) h
    simpa using this
  clear h
  induction l generalizing m with
  | nil => cases m with
    | nil => rfl
    | cons x xs => simp at h2
  | cons x xs ih => cases m with
    | nil => simp at h2
    | cons y ys =>
      rw [List.map_cons, List.map_cons] at h2
      injection h2 with h3 h4
      rw [sgc_inj (hl x List.mem_cons_self) (hm y List.mem_cons_self) h3, ih (fun i h => hl i (List.mem_cons_of_mem _ h)) (fun i h => hm i (List.mem_cons_of_mem _ h)) h4]
theorem tx_ok {l : List Nat} (h : Sig l) : PyData.strOk (tx l) = true := by
  unfold PyData.strOk tx
  rw [← Array.all_toList]
  simp only [List.all_map, List.all_eq_true]
  intro i hi
  have e := sgc_get (h i hi)
  have := SG_lt _ (List.mem_of_getElem? e)
  simp only [Function.comp, decide_eq_true_eq]
  omega
theorem signs_tx (l : List Nat) : signsOf (tx l) = l.map fun i => D.str ⟨#[sgc i]⟩ := by
  unfold signsOf tx
  simp [Function.comp_def]
theorem fIx_sg {i : Int} (h0 : 0 ≤ i) (h1 : i < 94) (S : Store) : fIx (.str sg) (.int i) S = some (.ok (.str ⟨#[sgc i.toNat]⟩), S) :=
  fIx_str (by rw [sg_len]; decide) h0 (by rw [sg_list]; exact sgc_get (by omega)) S
theorem noErr_ok {α : Type} {m : M α} {S S' : Store} {a : α} (h : m S = some (.ok a, S')) : noErr m S = some (.ok a, S') := by unfold noErr; rw [h]
def txl : Int → Int → Nat → Nat → List Nat
  | _, _, _, 0 => []
  | cell, step, k, n + 1 => ((cell + step * k) % 94).toNat :: txl (cell / 94) step (k + 1) n
theorem txl_succ (cell step : Int) (k n : Nat) : txl cell step k (n + 1) = ((cell + step * k) % 94).toNat :: txl (cell / 94) step (k + 1) n := rfl
theorem txl_len : ∀ (n : Nat) (cell step : Int) (k : Nat), (txl cell step k n).length = n
  | 0, _, _, _ => rfl
  | n + 1, cell, step, k => by unfold txl; rw [List.length_cons, txl_len n]
theorem txl_sig : ∀ (n : Nat) (cell step : Int) (k : Nat), Sig (txl cell step k n)
  | 0, _, _, _ => fun _ h => nomatch h
  | n + 1, cell, step, k => fun i h => by
    unfold txl at h
    rcases List.mem_cons.mp h with e | e
    · have := Int.emod_lt_of_pos (cell + step * k) (show (0 : Int) < 94 by decide)
      have := Int.emod_nonneg (cell + step * k) (show (94 : Int) ≠ 0 by decide)
      omega
    · exact txl_sig n _ _ _ i e
def bT : MS := sSeq (sSet 4 (e2 fAdd (eVar 4) (e2 fIx (eVar 2) (e2 fMod (e2 fAdd (eVar 0) (e2 fMul (eVar 3) (eVar 5))) (eC (.int 94)))))) (sSet 0 (e2 fDiv (eVar 0) (eC (.int 94))))
theorem text_loop {step : Int} (hs : 0 ≤ step ∧ step ≤ 7) {x : Option D} : ∀ (n k : Nat) (cell : Int) (acc : List Nat) (o : Option D) (S : Store), acc.length + n ≤ 1000 →
    ∃ c' o', forL (.one 5) bT (rangeD k n) [some (.int cell), x, some (.str sg), some (.int step), some (.str (tx acc)), o] S = some (.nx [some (.int c'), x, some (.str sg), some (.int step), some (.str (tx (acc ++ txl cell step k n))), o'], S)
  | 0, k, cell, acc, o, S, h => ⟨cell, o, by rw [rangeD_zero]; unfold txl; rw [List.append_nil]; rfl⟩
  | n + 1, k, cell, acc, o, S, h => by
    obtain ⟨c', o', ih⟩ := text_loop hs n (k + 1) (cell / 94) (acc ++ [((cell + step * k) % 94).toNat]) (some (.int k)) S (by rw [List.length_append]; simp; omega)
    refine ⟨c', o', ?_⟩
    rw [rangeD_succ]
    have m1 := Int.emod_nonneg (cell + step * k) (show (94 : Int) ≠ 0 by decide)
    have m2 := Int.emod_lt_of_pos (cell + step * k) (show (0 : Int) < 94 by decide)
    have g1 : ∀ S, fMul (.int step) (.int (k : Int)) S = some (.ok (.int (step * k)), S) := fun S => fMul_l (by omega) (by omega) S
    have g2 : ∀ S, fMod (.int (cell + step * k)) (.int 94) S = some (.ok (.int ((cell + step * k) % 94)), S) := fun S => fMod_i (by decide) S
    have g3 : ∀ S, fIx (.str sg) (.int ((cell + step * k) % 94)) S = some (.ok (.str ⟨#[sgc ((cell + step * k) % 94).toNat]⟩), S) := fun S => fIx_sg m1 m2 S
    have g4 : ∀ S, fAdd (.str (tx acc)) (.str ⟨#[sgc ((cell + step * k) % 94).toNat]⟩) S = some (.ok (.str (tx (acc ++ [((cell + step * k) % 94).toNat]))), S) := fun S => by
      rw [fAdd_str (by rw [tx_len]; show acc.length + 1 ≤ _; omega), tx_one]
    have g5 : ∀ S, fDiv (.int cell) (.int 94) S = some (.ok (.int (cell / 94)), S) := fun S => fDiv_i (by decide) (by decide) S
    have e1 : bT [some (.int cell), x, some (.str sg), some (.int step), some (.str (tx acc)), some (.int k)] S = some (.nx [some (.int (cell / 94)), x, some (.str sg), some (.int step), some (.str (tx (acc ++ [((cell + step * k) % 94).toNat]))), some (.int k)], S) := by
      unfold bT
      clear ih
      walk_at "ev*"
    unfold forL
    simp only [tgSet, List.set_cons_succ, List.set_cons_zero, e1]
    have e2 : ((k : Int) + 1) = ((k + 1 : Nat) : Int) := by omega
    rw [e2, ih, txl_succ, List.append_assoc]
    rfl
def tlx (cell : Int) (n : Nat) : List Nat := txl cell (1 + cell % 7) 0 n
theorem tlx_len (cell : Int) (n : Nat) : (tlx cell n).length = n := txl_len _ _ _ _
theorem tlx_sig (cell : Int) (n : Nat) : Sig (tlx cell n) := txl_sig _ _ _ _
end Law

/-! lists of whole numbers, texts told -/
namespace Law
open PySem PySem.Spec L2 Sim
def nD (l : List Nat) : List D := l.map fun i => D.int (i : Nat)
theorem nD_len (l : List Nat) : (nD l).length = l.length := by unfold nD; simp
theorem nD_ints (l : List Nat) : nD l = (l.map fun i => ((i : Nat) : Int)).map D.int := by unfold nD; rw [List.map_map]; rfl
def tn (l : List Nat) : List Int := (l.length : Int) :: l.map fun i => ((i : Nat) : Int)
theorem tn_len (l : List Nat) : (tn l).length = l.length + 1 := by unfold tn; simp
theorem index_sg {i : Nat} (h : i < 94) (S : Store) : fIndexS (.str sg) (.str ⟨#[sgc i]⟩) S = some (.ok (.int (i : Nat)), S) := by
  unfold fIndexS
  simp only [sgc_occ i h]
theorem told_core {l : List Nat} (h : Sig l) (hl : l.length ≤ 1000) (S : Store) {o : ME} (ho : ∀ l S, o l S = some (.ok (.str sg), S)) :
    sRet (e2 fAdd (eLst (aCons (eA (a1 fLen) (aCons (eVar 0) aNil)) aNil)) (eComp [1] (iS (eVar 0)) (.one 1) tYes' (eIndex o (aCons (eVar 1) aNil)))) [some (.str (tx l)), none] S = some (.rt (.fl ((tn l).map D.int)), S) := by
  have g0 : ∀ S, fLen (.str (tx l)) S = some (.ok (.int l.length), S) := fun S => by rw [fLen_str (by rw [tx_len]; omega), tx_len]
  have g1 : eComp [1] (iS (eVar 0)) (.one 1) tYes' (eIndex o (aCons (eVar 1) aNil)) [some (.str (tx l)), none] S = some (.ok (.fl (nD l)), S) := by
    have lp := compL_map (tg := .one 1) (e := eIndex o (aCons (eVar 1) aNil)) (l := [some (.str (tx l)), none]) (S := S) (fun i => D.str ⟨#[sgc i]⟩) (fun i => D.int (i : Nat)) l [] (fun i hi => by
      refine ⟨_, rfl, ?_⟩
      have g2 := fun S => index_sg (h i hi) S
      walk_at "ev*") (by simp; omega)
    rw [← signs_tx] at lp
    rw [eComp_str (z := tx l) (S1 := S) rfl]
    exact lp
  have g3 : ∀ S, fAdd (.fl [.int (l.length : Nat)]) (.fl (nD l)) S = some (.ok (.fl ((tn l).map D.int)), S) := fun S => by
    rw [fAdd_fl (by rw [nD_len]; show 1 + l.length ≤ _; omega)]
    unfold tn
    rw [List.map_cons, ← nD_ints]
    rfl
  have g4 : eLst (aCons (eA (a1 fLen) (aCons (eVar 0) aNil)) aNil) [some (.str (tx l)), none] S = some (.ok (.fl [.int (l.length : Nat)]), S) := by
    clear g1 g3
    walk_at "ev*"
  simp only [sRet, e2, g1, g4, g3, bnd, bndS]
/-! ### whole numbers, lists of them -/
theorem whole_int (i : Int) (S : Store) : m__law_whole [.int i] S = some (.ok (.bl true), S) := by rfl
theorem whole_loop {x y : Option D} : ∀ (ns : List Int) (o : Option D) (S : Store), ∃ o', forL (.one 2) (sIf (tNot (tOf (eA m__law_whole (aCons (eVar 2) aNil)))) (sRet (eC (.bl false))) sNext) (ns.map D.int) [x, y, o] S = some (.nx [x, y, o'], S)
  | [], o, S => ⟨o, rfl⟩
  | n :: ns, o, S => by
    obtain ⟨o', ih⟩ := whole_loop ns (some (.int n)) S
    refine ⟨o', ?_⟩
    rw [List.map_cons, forL]
    have g := fun S => whole_int n S
    have e : sIf (tNot (tOf (eA m__law_whole (aCons (eVar 2) aNil)))) (sRet (eC (.bl false))) sNext [x, y, some (.int n)] S = some (.nx [x, y, some (.int n)], S) := by
      clear ih
      walk_at "ev*"
    simp only [tgSet, List.set_cons_succ, List.set_cons_zero, e]
    exact ih
theorem list_eq (a b : List Int) (S : Store) : m__law_list [.fl (a.map D.int), .fl (b.map D.int)] S = some (.ok (.bl (decide (a = b))), S) := by
  unfold m__law_list b__law_list
  refine fn_rt rfl ?_
  have g0 : ∀ S, fIsi "list" (.fl (a.map D.int)) S = some (.ok (.bl true), S) := fun _ => rfl
  have g1 : ∀ S, fLen (.fl (a.map D.int)) S = some (.ok (.int a.length), S) := fun _ => by rw [fLen_fl, List.length_map]
  have g2 : ∀ S, fLen (.fl (b.map D.int)) S = some (.ok (.int b.length), S) := fun _ => by rw [fLen_fl, List.length_map]
  by_cases c : a.length = b.length
  · obtain ⟨o', lp⟩ := whole_loop (x := some (.fl (a.map D.int))) (y := some (.fl (b.map D.int))) a none S
    have g3 : ∀ S, fEq (.fl (a.map D.int)) (.fl (b.map D.int)) S = some (.ok (.bl (decide (a = b))), S) := fun S => by unfold fEq; rw [eqD_ints]
    have c' : (a.length : Int) = b.length := by omega
    refine Eq.trans (seq_nx (S' := S) (l' := [some (.fl (a.map D.int)), some (.fl (b.map D.int)), none]) (by clear lp; walk_at "ev*")) ?_
    refine Eq.trans (seq_nx (S' := S) (l' := [some (.fl (a.map D.int)), some (.fl (b.map D.int)), o']) ?_) ?_
    · rw [sFor_fl (ds := a.map D.int) (S1 := S) rfl]
      exact lp
    · clear lp
      walk_at "ev*"
  · have c' : ¬ (a.length : Int) = b.length := by omega
    have c2 : ¬ a = b := fun e => c (by rw [e])
    refine seq_rt ?_
    walk_at "ev*"
def inD1 (ns : List Int) : D := .fl (ns.map D.int)
theorem fAdd_in {a b : List Int} (h : a.length + b.length ≤ 16777216) (S : Store) : fAdd (inD1 a) (inD1 b) S = some (.ok (inD1 (a ++ b)), S) := by
  unfold inD1
  rw [fAdd_fl (by rw [List.length_map, List.length_map]; exact h), List.map_append]
def lsD (ds : List D) : Cell := ⟨.lst ds, false⟩
theorem app_ls {n : Nat} {S : Store} {ds : List D} {d : D} (h : S[n]? = some (lsD ds)) (hl : ds.length < 16777216) : fAppend (.ref n) d S = some (.ok .non, S.set n (lsD (ds ++ [d]))) := by
  unfold fAppend
  simp only [h, lsD]
  rw [if_pos (show ds.length < lineN from hl)]
theorem isL_ls {n : Nat} {S : Store} {ds : List D} (h : S[n]? = some (lsD ds)) : isL (.ref n) S = true := by
  unfold isL Sim.listOf
  simp only [h, lsD]
  rfl
end Law

/-! a text read off a list of numbers -/
namespace Law
open PySem PySem.Spec L2 Sim
def xBad : Exn := ⟨2, none⟩
def txAt (ns : List Int) (at_ : Int) : Option (List Nat × Int) :=
  if at_ ≥ ns.length then none else
  let n := ns.getD at_.toNat 0
  if n > 20 ∨ at_ + 1 + n > ns.length then none else
  let xs := (ns.drop (at_ + 1).toNat).take n.toNat
  if xs.all (fun x => decide (x < 94)) = true then some (xs.map Int.toNat, at_ + 1 + n) else none
theorem getD_mem {ns : List Int} {i : Nat} (h : i < ns.length) : ns[i]? = some (ns.getD i 0) := by
  rw [List.getD_eq_getElem?_getD, List.getElem?_eq_getElem h]; rfl
theorem fIx_in {ns : List Int} {i : Int} (h0 : 0 ≤ i) (h1 : i < ns.length) (S : Store) : fIx (inD1 ns) (.int i) S = some (.ok (.int (ns.getD i.toNat 0)), S) :=
  fIx_fl h0 (by rw [List.getElem?_map, getD_mem (by omega)]; rfl) S
theorem fLen_in (ns : List Int) (S : Store) : fLen (inD1 ns) S = some (.ok (.int ns.length), S) := by unfold inD1; rw [fLen_fl, List.length_map]
end Law

/-! frames, the cutter -/
namespace Law
open PySem PySem.Spec L2 Sim
structure Fr where
  k : Int
  f : Int
  t : Int
  b : List Int
def frD (F : Fr) : Cell := ⟨.ins 3 [("kind", .int F.k), ("flag", .int F.f), ("talk", .int F.t), ("numbers", inD1 F.b)], false⟩
def cuD (H : List Int) : Cell := ⟨.ins 4 [("held", inD1 H)], false⟩
theorem put_end (S : Store) (c : Nat) (fs : List (Str × D)) (f : Str) (d : D) (hl : fs.length < 1000) : putFldD c f (.ref S.length) d (S ++ [⟨.ins c fs, false⟩]) = some (S ++ [⟨.ins c (putFD f d fs), false⟩]) := by
  unfold putFldD
  simp only [List.getElem?_append_right (Nat.le_refl _), Nat.sub_self, List.getElem?_cons_zero]
  rw [if_pos ⟨trivial, hl⟩, List.set_append_right _ _ (Nat.le_refl _), Nat.sub_self]
  rfl
theorem frame_make (F : Fr) (S : Store) : fMake 3 (fun ds => noErr (m_Frame_init ds)) [.int F.k, .int F.f, .int F.t, inD1 F.b] S = some (.ok (.ref S.length), S ++ [frD F]) := by
  have h : m_Frame_init [.ref S.length, .int F.k, .int F.f, .int F.t, inD1 F.b] (S ++ [⟨.ins 3 [], false⟩]) = some (.ok .non, S ++ [frD F]) := by
    unfold m_Frame_init b_Frame_init
    refine fn_nx rfl (l := [some (.ref S.length), some (.int F.k), some (.int F.f), some (.int F.t), some (inD1 F.b)]) ?_
    have p1 := put_end S 3 [] "kind" (.int F.k) (by decide)
    have p2 := put_end S 3 [("kind", .int F.k)] "flag" (.int F.f) (by simp)
    have p3 := put_end S 3 [("kind", .int F.k), ("flag", .int F.f)] "talk" (.int F.t) (by simp)
    have p4 := put_end S 3 [("kind", .int F.k), ("flag", .int F.f), ("talk", .int F.t)] "numbers" (inD1 F.b) (by simp)
    have fi : ∀ S, fList (inD1 F.b) S = some (.ok (inD1 F.b), S) := fun S => rfl
    refine Eq.trans (seq_nx (S' := S ++ [⟨.ins 3 [("kind", .int F.k)], false⟩]) (l' := [some (.ref S.length), some (.int F.k), some (.int F.f), some (.int F.t), some (inD1 F.b)]) ?_) ?_
    · have q : putFD "kind" (.int F.k) [] = [(("kind" : Str), D.int F.k)] := rfl
      rw [q] at p1
      clear p2 p3 p4 fi q
      walk_at "ev*"
    refine Eq.trans (seq_nx (S' := S ++ [⟨.ins 3 [("kind", .int F.k), ("flag", .int F.f)], false⟩]) (l' := [some (.ref S.length), some (.int F.k), some (.int F.f), some (.int F.t), some (inD1 F.b)]) ?_) ?_
    · have q : putFD "flag" (.int F.f) [("kind", .int F.k)] = [(("kind" : Str), D.int F.k), ("flag", .int F.f)] := rfl
      rw [q] at p2
      clear p1 p3 p4 fi q
      walk_at "ev*"
    refine Eq.trans (seq_nx (S' := S ++ [⟨.ins 3 [("kind", .int F.k), ("flag", .int F.f), ("talk", .int F.t)], false⟩]) (l' := [some (.ref S.length), some (.int F.k), some (.int F.f), some (.int F.t), some (inD1 F.b)]) ?_) ?_
    · have q : putFD "talk" (.int F.t) [("kind", .int F.k), ("flag", .int F.f)] = [(("kind" : Str), D.int F.k), ("flag", .int F.f), ("talk", .int F.t)] := rfl
      rw [q] at p3
      clear p1 p2 p4 fi q
      walk_at "ev*"
    have q : putFD "numbers" (inD1 F.b) [("kind", .int F.k), ("flag", .int F.f), ("talk", .int F.t)] = [(("kind" : Str), D.int F.k), ("flag", .int F.f), ("talk", .int F.t), ("numbers", inD1 F.b)] := rfl
    rw [q] at p4
    clear p1 p2 p3 q
    unfold frD
    walk_at "ev*"
  unfold fMake
  simp only [noErr_ok h]
theorem cutter_make (S : Store) : fMake 4 (fun ds => noErr (m_Cutter_init ds)) [] S = some (.ok (.ref S.length), S ++ [cuD []]) := by
  have h : m_Cutter_init [.ref S.length] (S ++ [⟨.ins 4 [], false⟩]) = some (.ok .non, S ++ [cuD []]) := by
    unfold m_Cutter_init b_Cutter_init
    refine fn_nx rfl (l := [some (.ref S.length)]) ?_
    have p1 := put_end S 4 [] "held" (.fl []) (by decide)
    have q : putFD "held" (.fl []) [] = [(("held" : Str), D.fl [])] := rfl
    rw [q] at p1
    clear q
    unfold cuD inD1
    walk_at "ev*"
  unfold fMake
  simp only [noErr_ok h]
theorem fld_cu {n : Nat} {S : Store} {H : List Int} (h : S[n]? = some (cuD H)) : fFld 4 "held" (.ref n) S = some (.ok (inD1 H), S) := by
  unfold fFld insOf
  simp only [h, cuD]
  rfl
theorem put_cu {n : Nat} {S : Store} {H H' : List Int} (h : S[n]? = some (cuD H)) : putFldD 4 "held" (.ref n) (inD1 H') S = some (S.set n (cuD H')) := by
  unfold putFldD
  simp only [h, cuD]
  rfl
def frL (F : Fr) : List Int := [(F.b.length : Int), F.k, F.f, F.t] ++ F.b
theorem framed_eq (F : Fr) (h : F.b.length ≤ 1000) (S : Store) : m_framed [.int F.k, .int F.f, .int F.t, inD1 F.b] S = some (.ok (inD1 (frL F)), S) := by
  have gl := fLen_in F.b
  have fi : ∀ S, fList (inD1 F.b) S = some (.ok (inD1 F.b), S) := fun S => rfl
  have fa : ∀ S, fAdd (.fl [.int (F.b.length : Nat), .int F.k, .int F.f, .int F.t]) (inD1 F.b) S = some (.ok (inD1 (frL F)), S) := fun S => fAdd_in (a := [(F.b.length : Int), F.k, F.f, F.t]) (by show 4 + F.b.length ≤ _; omega) S
  unfold m_framed b_framed
  refine fn_rt rfl ?_
  generalize ((F.b.length : Nat) : Int) = z at *
  generalize inD1 (frL F) = Y at *
  walk_at "ev*"
def cutG (H : List Int) : Nat → Int → List Fr → List Fr × Int
  | 0, i, acc => (acc, i)
  | k + 1, i, acc => if i + 4 ≤ H.length ∧ i + 4 + H.getD i.toNat 0 ≤ H.length then
      cutG H k (i + 4 + H.getD i.toNat 0) (acc ++ [⟨H.getD (i + 1).toNat 0, H.getD (i + 2).toNat 0, H.getD (i + 3).toNat 0, (H.drop (i + 4).toNat).take (H.getD i.toNat 0).toNat⟩])
    else (acc, i)
end Law

/-! the cutter fed -/
namespace Law
open PySem PySem.Spec L2 Sim
def rfD (lo n : Nat) : List D := (List.range n).map fun i => D.ref (lo + i)
theorem rfD_succ (lo n : Nat) : rfD lo (n + 1) = rfD lo n ++ [.ref (lo + n)] := by unfold rfD; rw [List.range_succ, List.map_append]; rfl
theorem rfD_len (lo n : Nat) : (rfD lo n).length = n := by unfold rfD; simp
def WW' (S1 : Store) (fs : List Fr) : Store := S1 ++ lsD (rfD (S1.length + 1) fs.length) :: fs.map frD
theorem WW_len (S1 : Store) (fs : List Fr) : (WW' S1 fs).length = S1.length + 1 + fs.length := by unfold WW'; rw [List.length_append, List.length_cons, List.length_map]; omega
theorem WW_get (S1 : Store) (fs : List Fr) (Z : Store) : (WW' S1 fs ++ Z)[S1.length]? = some (lsD (rfD (S1.length + 1) fs.length)) := by
  unfold WW'
  rw [List.append_assoc, List.getElem?_append_right (Nat.le_refl _), Nat.sub_self]; rfl
theorem WW_get0 (S1 : Store) (fs : List Fr) : (WW' S1 fs)[S1.length]? = some (lsD (rfD (S1.length + 1) fs.length)) := by
  have := WW_get S1 fs []
  rw [List.append_nil] at this
  exact this
theorem WW_base {S1 : Store} {n : Nat} (h : n < S1.length) (fs : List Fr) (Z : Store) : (WW' S1 fs ++ Z)[n]? = S1[n]? := by
  unfold WW'
  rw [List.append_assoc, List.getElem?_append_left h]
theorem WW_snoc (S1 : Store) (fs : List Fr) (F : Fr) : (WW' S1 fs ++ [frD F]).set S1.length (lsD (rfD (S1.length + 1) fs.length ++ [.ref (WW' S1 fs).length])) = WW' S1 (fs ++ [F]) := by
  rw [WW_len]
  unfold WW'
  rw [List.append_assoc, List.set_append_right _ _ (Nat.le_refl _), Nat.sub_self, List.length_append, List.map_append]
  show S1 ++ (lsD _ :: (fs.map frD ++ [frD F])) = S1 ++ lsD (rfD (S1.length + 1) (fs.length + 1)) :: (fs.map frD ++ [frD F])
  rw [rfD_succ]
def tF : MT := tAnd (tOf (e2 fLe (e2 fAdd (eVar 3) (eC (.int 4))) (eA (a1 fLen) (aCons (e1 (fFld 4 "held") (eVar 0)) (aNil))))) (tOf (e2 fLe (e2 fAdd (e2 fAdd (eVar 3) (eC (.int 4))) (e2 fIx (e1 (fFld 4 "held") (eVar 0)) (eVar 3))) (eA (a1 fLen) (aCons (e1 (fFld 4 "held") (eVar 0)) (aNil)))))
def bF : MS := sSeq (sSet 4 (e2 fAdd (e2 fAdd (eVar 3) (eC (.int 4))) (e2 fIx (e1 (fFld 4 "held") (eVar 0)) (eVar 3))))
  (sSeq (sDrop (eBM isL (m1 fAppend) (eVar 2) (aCons (eA (fMake 3 (fun ds => noErr (m_Frame_init ds))) (aCons (e2 fIx (e1 (fFld 4 "held") (eVar 0)) (e2 fAdd (eVar 3) (eC (.int 1)))) (aCons (e2 fIx (e1 (fFld 4 "held") (eVar 0)) (e2 fAdd (eVar 3) (eC (.int 2)))) (aCons (e2 fIx (e1 (fFld 4 "held") (eVar 0)) (e2 fAdd (eVar 3) (eC (.int 3)))) (aCons (eSl (e1 (fFld 4 "held") (eVar 0)) (oSo (e2 fAdd (eVar 3) (eC (.int 4)))) (oSo (eVar 4))) (aNil)))))) (aNil))))
  (sSet 3 (eVar 4)))
def fsl (n m : Nat) (p : Option D) (i : Int) (o : Option D) : Sl := [some (.ref n), p, some (.ref m), some (.int i), o]
theorem tF_eq {n m : Nat} {p o : Option D} {i : Int} {H : List Int} {S : Store} (hS : S[n]? = some (cuD H)) (h0 : 0 ≤ i) : tF (fsl n m p i o) S = some (.ok (decide (i + 4 ≤ H.length ∧ i + 4 + H.getD i.toNat 0 ≤ H.length)), S) := by
  have gf := fld_cu hS
  have gl := fLen_in H
  by_cases c : i + 4 ≤ (H.length : Int)
  · have gx := fIx_in (ns := H) h0 (by omega)
    generalize H.getD i.toNat 0 = k at *
    unfold tF fsl
    clear hS
    generalize ((H.length : Nat) : Int) = z at *
    by_cases c2 : i + 4 + k ≤ z
    · rw [decide_eq_true ⟨c, c2⟩]
      walk_at "ev*"
    · rw [decide_eq_false (fun h => c2 h.2)]
      walk_at "ev*"
  · rw [decide_eq_false (fun h => c h.1)]
    unfold tF fsl
    clear hS
    generalize ((H.length : Nat) : Int) = z at *
    walk_at "ev*"
theorem bF_eq {n : Nat} {p o : Option D} {i : Int} {H : List Int} {S1 : Store} {fs : List Fr} (hn : n < S1.length) (hS : S1[n]? = some (cuD H)) (h0 : 0 ≤ i) (hH : ∀ x ∈ H, 0 ≤ x) (hl : fs.length < 100000) (h1 : i + 4 ≤ H.length) (h2 : i + 4 + H.getD i.toNat 0 ≤ H.length) :
    bF (fsl n S1.length p i o) (WW' S1 fs) = some (.nx (fsl n S1.length p (i + 4 + H.getD i.toNat 0) (some (.int (i + 4 + H.getD i.toNat 0)))), WW' S1 (fs ++ [⟨H.getD (i + 1).toNat 0, H.getD (i + 2).toNat 0, H.getD (i + 3).toNat 0, (H.drop (i + 4).toNat).take (H.getD i.toNat 0).toNat⟩])) := by
  have hS' : (WW' S1 fs)[n]? = some (cuD H) := by
    have := WW_base hn fs []
    rw [List.append_nil] at this
    rw [this, hS]
  have gf := fld_cu hS'
  have gx := fIx_in (ns := H) h0 (by omega)
  have gx1 := fIx_in (ns := H) (i := i + 1) (by omega) (by omega)
  have gx2 := fIx_in (ns := H) (i := i + 2) (by omega) (by omega)
  have gx3 := fIx_in (ns := H) (i := i + 3) (by omega) (by omega)
  have hk := hH _ (List.mem_of_getElem? (getD_mem (ns := H) (i := i.toNat) (by omega)))
  have gs : ∀ S, fSl (inD1 H) (some (i + 4)) (some (i + 4 + H.getD i.toNat 0)) S = some (.ok (inD1 ((H.drop (i + 4).toNat).take (H.getD i.toNat 0).toNat)), S) := fun S => by
    show some (Except.ok (D.fl (cutD (H.map D.int) (some (i + 4)) (some (i + 4 + H.getD i.toNat 0)))), S) = _
    rw [cut_mid (by omega) (by omega) (by rw [List.length_map]; omega), show (i + 4 + H.getD i.toNat 0).toNat - (i + 4).toNat = (H.getD i.toNat 0).toNat by omega, ← List.map_drop, ← List.map_take]
    rfl
  have gm := frame_make ⟨H.getD (i + 1).toNat 0, H.getD (i + 2).toNat 0, H.getD (i + 3).toNat 0, (H.drop (i + 4).toNat).take (H.getD i.toNat 0).toNat⟩ (WW' S1 fs)
  simp only at gm
  have ga := app_ls (d := .ref (WW' S1 fs).length) (WW_get S1 fs [frD ⟨H.getD (i + 1).toNat 0, H.getD (i + 2).toNat 0, H.getD (i + 3).toNat 0, (H.drop (i + 4).toNat).take (H.getD i.toNat 0).toNat⟩]) (by rw [rfD_len]; omega)
  rw [WW_snoc] at ga
  have gi := isL_ls (WW_get0 S1 fs)
  unfold bF
  generalize WW' S1 fs ++ [frD ⟨H.getD (i + 1).toNat 0, H.getD (i + 2).toNat 0, H.getD (i + 3).toNat 0, (H.drop (i + 4).toNat).take (H.getD i.toNat 0).toNat⟩] = W1 at *
  generalize WW' S1 (fs ++ [⟨H.getD (i + 1).toNat 0, H.getD (i + 2).toNat 0, H.getD (i + 3).toNat 0, (H.drop (i + 4).toNat).take (H.getD i.toNat 0).toNat⟩]) = W2 at *
  generalize (WW' S1 fs).length = q at *
  generalize WW' S1 fs = W0' at *
  generalize inD1 ((H.drop (i + 4).toNat).take (H.getD i.toNat 0).toNat) = Y at *
  generalize H.getD i.toNat 0 = k at *
  generalize H.getD (i + 1).toNat 0 = k1 at *
  generalize H.getD (i + 2).toNat 0 = k2 at *
  generalize H.getD (i + 3).toNat 0 = k3 at *
  clear hS hS' hH hn hk hl
  refine Eq.trans (seq_nx (S' := W0') (l' := fsl n S1.length p i (some (.int (i + 4 + k)))) (by unfold fsl; clear gm ga gi gx1 gx2 gx3 gs; walk_at "ev*")) ?_
  refine Eq.trans (seq_nx (S' := W2) (l' := fsl n S1.length p i (some (.int (i + 4 + k)))) (by unfold fsl; clear gx; walk_at "ev*")) ?_
  unfold fsl
  clear gm ga gi gx1 gx2 gx3 gs gx gf
  walk_at "ev*"
end Law

/-! the cutter fed: the whole -/
namespace Law
open PySem PySem.Spec L2 Sim
theorem while_fed {n : Nat} {p : Option D} {H : List Int} {S1 : Store} (hn : n < S1.length) (hS : S1[n]? = some (cuD H)) (hH : ∀ x ∈ H, 0 ≤ x) (hN : H.length ≤ 50000) : ∀ (k' k : Nat) (i : Int) (fs : List Fr) (o : Option D), 0 ≤ i → i ≤ H.length → (H.length : Int) - i < k' → (H.length : Int) - i < k → (fs.length : Int) ≤ i →
    ∃ o', whileF tF bF k (fsl n S1.length p i o) (WW' S1 fs) = some (.nx (fsl n S1.length p (cutG H k' i fs).2 o'), WW' S1 (cutG H k' i fs).1)
  | 0, k, i, fs, o, _, _, h, h', _ => by omega
  | k' + 1, 0, i, fs, o, _, _, h, h', _ => by omega
  | k' + 1, k + 1, i, fs, o, h0, h1, hk', hk, hf => by
    have hS' : (WW' S1 fs)[n]? = some (cuD H) := by
      have := WW_base hn fs []
      rw [List.append_nil] at this
      rw [this, hS]
    unfold whileF
    rw [tF_eq hS' h0]
    simp only [bndS]
    by_cases c : i + 4 ≤ H.length ∧ i + 4 + H.getD i.toNat 0 ≤ H.length
    · have hk0 := hH _ (List.mem_of_getElem? (getD_mem (ns := H) (i := i.toNat) (by omega)))
      rw [decide_eq_true c, if_pos rfl, bF_eq hn hS h0 hH (by omega) c.1 c.2]
      simp only
      have er : cutG H (k' + 1) i fs = cutG H k' (i + 4 + H.getD i.toNat 0) (fs ++ [⟨H.getD (i + 1).toNat 0, H.getD (i + 2).toNat 0, H.getD (i + 3).toNat 0, (H.drop (i + 4).toNat).take (H.getD i.toNat 0).toNat⟩]) := by
        conv => lhs; unfold cutG
        rw [if_pos c]
      rw [er]
      exact while_fed hn hS hH hN k' k _ _ _ (by omega) c.2 (by omega) (by omega) (by rw [List.length_append]; show ((fs.length + 1 : Nat) : Int) ≤ _; omega)
    · rw [decide_eq_false c, if_neg (by decide)]
      have er : cutG H (k' + 1) i fs = (fs, i) := by
        conv => lhs; unfold cutG
        rw [if_neg c]
      rw [er]
      exact ⟨o, rfl⟩
theorem cutG_in {H : List Int} (hH : ∀ x ∈ H, 0 ≤ x) : ∀ (k : Nat) (i : Int) (fs : List Fr), 0 ≤ i → i ≤ H.length → 0 ≤ (cutG H k i fs).2 ∧ (cutG H k i fs).2 ≤ H.length
  | 0, i, fs, h0, h1 => ⟨h0, h1⟩
  | k + 1, i, fs, h0, h1 => by
    unfold cutG
    split
    · rename_i c
      have hk0 := hH _ (List.mem_of_getElem? (getD_mem (ns := H) (i := i.toNat) (by omega)))
      exact cutG_in hH k _ _ (by omega) c.2
    · exact ⟨h0, h1⟩
def cutH (H : List Int) : List Fr × List Int := ((cutG H (H.length + 1) 0 []).1, H.drop (cutG H (H.length + 1) 0 []).2.toNat)
theorem fed_eq {n : Nat} {H0 P : List Int} {S : Store} (hS : S[n]? = some (cuD H0)) (hH : ∀ x ∈ H0 ++ P, 0 ≤ x) (hN : H0.length + P.length ≤ 50000) :
    m_Cutter_fed [.ref n, inD1 P] S = some (.ok (.ref S.length), (WW' (S.set n (cuD (H0 ++ P))) (cutH (H0 ++ P)).1).set n (cuD (cutH (H0 ++ P)).2)) := by
  have hn : n < S.length := (List.getElem?_eq_some_iff.mp hS).1
  have gf := fld_cu hS
  have gp := put_cu (H' := H0 ++ P) hS
  have fi : ∀ S, fList (inD1 P) S = some (.ok (inD1 P), S) := fun S => rfl
  have fa : ∀ S, fAdd (inD1 H0) (inD1 P) S = some (.ok (inD1 (H0 ++ P)), S) := fun S => fAdd_in (by omega) S
  have hNN : (H0 ++ P).length ≤ 50000 := by rw [List.length_append]; exact hN
  generalize H0 ++ P = H at *
  have hl1 : (S.set n (cuD H)).length = S.length := List.length_set
  obtain ⟨o', lp⟩ := while_fed (n := n) (p := some (inD1 P)) (S1 := S.set n (cuD H)) (by rw [hl1]; exact hn) (List.getElem?_set_self hn) hH hNN (H.length + 1) fuelN 0 [] none (by decide) (by omega) (by omega) (by show (H.length : Int) - 0 < (1000000 : Nat); omega) (by decide)
  have ci := cutG_in hH (H.length + 1) 0 [] (by decide) (by omega)
  unfold cutH
  generalize cutG H (H.length + 1) 0 [] = r at *
  obtain ⟨fs, i⟩ := r
  simp only at lp ci ⊢
  rw [hl1] at lp
  have hS2 : (WW' (S.set n (cuD H)) fs)[n]? = some (cuD H) := by
    have := WW_base (S1 := S.set n (cuD H)) (n := n) (by rw [hl1]; exact hn) fs []
    rw [List.append_nil] at this
    rw [this, List.getElem?_set_self hn]
  have g3 := fld_cu hS2
  have g4 := put_cu (H' := H.drop i.toNat) hS2
  have gs : ∀ S, fSl (inD1 H) (some i) none S = some (.ok (inD1 (H.drop i.toNat)), S) := fun S => by
    show some (Except.ok (D.fl (cutD (H.map D.int) (some i) none)), S) = _
    rw [cut_lo ci.1 (by rw [List.length_map]; exact ci.2), ← List.map_drop]
    rfl
  unfold m_Cutter_fed b_Cutter_fed
  refine fn_rt rfl ?_
  refine Eq.trans (seq_nx (S' := S.set n (cuD H)) (l' := [some (.ref n), some (inD1 P), none, none, none]) (by clear lp g3 g4 gs hH hS hS2 ci; walk_at "ev*")) ?_
  refine Eq.trans (seq_nx (S' := WW' (S.set n (cuD H)) []) (l' := [some (.ref n), some (inD1 P), some (.ref S.length), none, none]) (by
    rw [← hl1]
    rfl)) ?_
  refine Eq.trans (seq_nx (S' := WW' (S.set n (cuD H)) []) (l' := fsl n S.length (some (inD1 P)) 0 none) rfl) ?_
  refine Eq.trans (seq_nx lp) ?_
  clear lp gf gp fa fi hH hS hS2 ci
  generalize WW' (S.set n (cuD H)) fs = W at *
  generalize W.set n (cuD (H.drop i.toNat)) = W2 at *
  generalize inD1 (H.drop i.toNat) = Y at *
  unfold fsl
  refine Eq.trans (seq_nx (S' := W2) (l' := [some (.ref n), some (inD1 P), some (.ref S.length), some (.int i), o']) (by walk_at "ev*")) ?_
  clear g3 g4 gs
  walk_at "ev*"
end Law

/-! cutting a line by pieces: the plain law -/
namespace Law
open PySem PySem.Spec L2 Sim
def lineL : List Fr → List Int → List Int
  | [], T => T
  | F :: t, T => frL F ++ lineL t T
def Short (T : List Int) : Prop := T.length < 4 ∨ (T.length : Int) < 4 + T.getD 0 0
def FOk (F : Fr) : Prop := 0 ≤ F.k ∧ 0 ≤ F.f ∧ 0 ≤ F.t ∧ (∀ x ∈ F.b, 0 ≤ x) ∧ F.b.length ≤ 300
theorem frL_len (F : Fr) : (frL F).length = 4 + F.b.length := by unfold frL; rw [List.length_append]; rfl
theorem cutG_one {pre : List Int} {F : Fr} {post : List Int} {k : Nat} {acc : List Fr} : cutG (pre ++ (frL F ++ post)) (k + 1) (pre.length : Nat) acc = cutG (pre ++ (frL F ++ post)) k ((pre.length : Nat) + (4 + F.b.length : Nat)) (acc ++ [F]) := by
  have hg : ∀ j : Nat, (pre ++ (frL F ++ post)).getD (((pre.length : Nat) : Int) + (j : Nat)).toNat 0 = (frL F ++ post).getD j 0 := fun j => by
    rw [show (((pre.length : Nat) : Int) + (j : Nat)).toNat = pre.length + j by omega, List.getD_eq_getElem?_getD, List.getElem?_append_right (by omega), List.getD_eq_getElem?_getD, show pre.length + j - pre.length = j by omega]
  have g0 := hg 0
  have g1 := hg 1
  have g2 := hg 2
  have g3 := hg 3
  have f0 : (frL F ++ post).getD 0 0 = F.b.length := rfl
  have f1 : (frL F ++ post).getD 1 0 = F.k := rfl
  have f2 : (frL F ++ post).getD 2 0 = F.f := rfl
  have f3 : (frL F ++ post).getD 3 0 = F.t := rfl
  rw [f0] at g0; rw [f1] at g1; rw [f2] at g2; rw [f3] at g3
  have hl : (pre ++ (frL F ++ post)).length = pre.length + (4 + F.b.length + post.length) := by rw [List.length_append, List.length_append, frL_len]
  have g0' : (pre ++ (frL F ++ post)).getD ((pre.length : Nat) : Int).toNat 0 = F.b.length := by rw [← g0]; congr 1
  have hb : ((pre ++ (frL F ++ post)).drop (((pre.length : Nat) : Int) + 4).toNat).take ((F.b.length : Nat) : Int).toNat = F.b := by
    rw [show (((pre.length : Nat) : Int) + 4).toNat = pre.length + 4 by omega, Int.toNat_natCast, List.drop_append, List.drop_eq_nil_of_le (by omega), List.nil_append, show pre.length + 4 - pre.length = 4 by omega]
    show (F.b ++ post).take F.b.length = F.b
    exact List.take_left' rfl
  conv => lhs; unfold cutG
  rw [g0', if_pos ⟨by rw [hl]; omega, by rw [hl]; omega⟩]
  have g1' : (pre ++ (frL F ++ post)).getD (((pre.length : Nat) : Int) + 1).toNat 0 = F.k := g1
  have g2' : (pre ++ (frL F ++ post)).getD (((pre.length : Nat) : Int) + 2).toNat 0 = F.f := g2
  have g3' : (pre ++ (frL F ++ post)).getD (((pre.length : Nat) : Int) + 3).toNat 0 = F.t := g3
  rw [g1', g2', g3', hb]
  congr 1
  omega
end Law

/-! cutting a line by pieces: all frames that stand whole -/
namespace Law
open PySem PySem.Spec L2 Sim
def fitF : Nat → List Fr → List Fr
  | _, [] => []
  | q, F :: t => if 4 + F.b.length ≤ q then F :: fitF (q - (4 + F.b.length)) t else []
def lenF : List Fr → Nat
  | [] => 0
  | F :: t => 4 + F.b.length + lenF t
theorem getD_pre (pre H : List Int) : (pre ++ H).getD ((pre.length : Nat) : Int).toNat 0 = H.getD 0 0 := by
  rw [Int.toNat_natCast, List.getD_eq_getElem?_getD, List.getElem?_append_right (Nat.le_refl _), Nat.sub_self, List.getD_eq_getElem?_getD]
theorem cutG_stop {pre H : List Int} {k : Nat} {acc : List Fr} (h : H.length < 4 ∨ (H.length : Int) < 4 + H.getD 0 0) : cutG (pre ++ H) k (pre.length : Nat) acc = (acc, ((pre.length : Nat) : Int)) := by
  cases k with
  | zero => rfl
  | succ k =>
    unfold cutG
    rw [getD_pre, if_neg]
    rw [List.length_append]
    omega
theorem take_getD {H : List Int} {q : Nat} (h : 0 < q) : (H.take q).getD 0 0 = H.getD 0 0 := by
  rw [List.getD_eq_getElem?_getD, List.getElem?_take_of_lt h, List.getD_eq_getElem?_getD]
theorem cutG_fit {T : List Int} (hT : Short T) : ∀ (rs : List Fr) (q k : Nat) (pre : List Int) (acc : List Fr), q < k → cutG (pre ++ (lineL rs T).take q) k (pre.length : Nat) acc = (acc ++ fitF q rs, ((pre.length + lenF (fitF q rs) : Nat) : Int))
  | [], q, k, pre, acc, hk => by
    show cutG (pre ++ T.take q) k (pre.length : Nat) acc = (acc ++ [], ((pre.length + 0 : Nat) : Int))
    rw [List.append_nil, Nat.add_zero]
    refine cutG_stop ?_
    rw [List.length_take]
    by_cases c : q < 4
    · left; omega
    · rw [take_getD (by omega)]
      rcases hT with h | h
      · left; omega
      · right; omega
  | F :: t, q, k, pre, acc, hk => by
    unfold fitF
    by_cases c : 4 + F.b.length ≤ q
    · rw [if_pos c]
      cases k with
      | zero => omega
      | succ k =>
        have e : (lineL (F :: t) T).take q = frL F ++ (lineL t T).take (q - (4 + F.b.length)) := by
          show (frL F ++ lineL t T).take q = _
          rw [List.take_append, frL_len, List.take_of_length_le (by rw [frL_len]; exact c)]
        rw [e, cutG_one]
        have ih := cutG_fit hT t (q - (4 + F.b.length)) k (pre ++ frL F) (acc ++ [F]) (by omega)
        rw [List.append_assoc, List.length_append, frL_len] at ih
        have e2 : ((pre.length : Nat) : Int) + ((4 + F.b.length : Nat) : Int) = ((pre.length + (4 + F.b.length) : Nat) : Int) := by omega
        rw [e2, ih, List.append_assoc]
        show (acc ++ (F :: fitF _ t), _) = (acc ++ (F :: fitF _ t), ((pre.length + (4 + F.b.length + lenF (fitF _ t)) : Nat) : Int))
        congr 1
        omega
    · rw [if_neg c]
      show _ = (acc ++ [], ((pre.length + 0 : Nat) : Int))
      rw [List.append_nil, Nat.add_zero]
      refine cutG_stop ?_
      have hl : ((lineL (F :: t) T).take q).length ≤ q := by rw [List.length_take]; omega
      by_cases c4 : q < 4
      · left; omega
      · right
        rw [take_getD (by omega)]
        show _ < 4 + (F.b.length : Int)
        omega
theorem line_drop (T : List Int) : ∀ (rs : List Fr) (q : Nat), (lineL rs T).drop (lenF (fitF q rs)) = lineL (rs.drop (fitF q rs).length) T
  | [], q => rfl
  | F :: t, q => by
    unfold fitF
    by_cases c : 4 + F.b.length ≤ q
    · rw [if_pos c]
      show (frL F ++ lineL t T).drop (4 + F.b.length + lenF (fitF _ t)) = lineL (t.drop (fitF _ t).length) T
      rw [← List.drop_drop, show (frL F ++ lineL t T).drop (4 + F.b.length) = lineL t T from List.drop_left' (frL_len F)]
      exact line_drop T t _
    · rw [if_neg c]
      rfl
theorem cutH_fit {T : List Int} (hT : Short T) (rs : List Fr) (q : Nat) (hq : q ≤ (lineL rs T).length) : cutH ((lineL rs T).take q) = (fitF q rs, ((lineL rs T).take q).drop (lenF (fitF q rs))) := by
  have h := cutG_fit hT rs q (((lineL rs T).take q).length + 1) [] [] (by rw [List.length_take]; omega)
  rw [List.nil_append, List.nil_append] at h
  unfold cutH
  rw [show (([] : List Int).length : Int) = 0 from rfl] at h
  rw [h]
  simp only [List.length_nil, Nat.zero_add, Int.toNat_natCast]
end Law

/-! the law's frames -/
namespace Law
open PySem PySem.Spec L2 Sim
def tpD (F : Fr) : D := .tup [.int F.k, .int F.f, .int F.t, inD1 F.b]
def FGood (F : Fr) : Prop := (∀ x ∈ F.b, 0 ≤ x) ∧ F.b.length ≤ 300 ∧ 0 ≤ F.k ∧ 0 ≤ F.f ∧ 0 ≤ F.t
theorem same_eq {n : Nat} {F : Fr} {S : Store} (hS : S[n]? = some (frD F)) : m__law_same [.ref n, tpD F] S = some (.ok (.bl true), S) := by
  have gi : fIsC 3 (.ref n) S = some (.ok (.bl true), S) := by
    unfold fIsC insOf
    simp only [hS, frD]
    rfl
  have ff : ∀ f d, List.lookup f [(("kind" : Str), D.int F.k), ("flag", .int F.f), ("talk", .int F.t), ("numbers", inD1 F.b)] = some d → fFld 3 f (.ref n) S = some (.ok d, S) := fun f d h => by
    unfold fFld insOf
    simp only [hS, frD, h, if_true]
  have f1 := ff "kind" (.int F.k) rfl
  have f2 := ff "flag" (.int F.f) rfl
  have f3 := ff "talk" (.int F.t) rfl
  have f4 := ff "numbers" (inD1 F.b) rfl
  have x3 : ∀ S, fIx (tpD F) (.int 3) S = some (.ok (inD1 F.b), S) := fun S => fIx_t3 _ _ _ _ _ S
  have gs : ∀ S, fSl (tpD F) none (some 3) S = some (.ok (.tup [.int F.k, .int F.f, .int F.t]), S) := fun S => rfl
  have gl : ∀ S, fList (.tup [.int F.k, .int F.f, .int F.t]) S = some (.ok (.fl [.int F.k, .int F.f, .int F.t]), S) := fun S => rfl
  have l1 : ∀ S, m__law_list [.fl [.int F.k, .int F.f, .int F.t], .fl [.int F.k, .int F.f, .int F.t]] S = some (.ok (.bl true), S) := fun S => by
    have := list_eq [F.k, F.f, F.t] [F.k, F.f, F.t] S
    simpa using this
  have l2 : ∀ S, m__law_list [inD1 F.b, inD1 F.b] S = some (.ok (.bl true), S) := fun S => by unfold inD1; rw [list_eq]; simp
  unfold m__law_same b__law_same
  refine fn_rt rfl ?_
  clear ff hS
  refine Eq.trans (seq_nx (S' := S) (l' := [some (.ref n), some (tpD F)]) (by clear l2 f4 x3; walk_at "ev*")) ?_
  clear l1 gs gl f1 f2 f3 gi
  walk_at "ev*"
end Law

/-! the law's frames, made -/
namespace Law
open PySem PySem.Spec L2 Sim
theorem rangeD_get {lo : Int} {n i : Nat} {d : D} (h : (rangeD lo n)[i]? = some d) : d = .int (lo + (i : Nat)) ∧ i < n := by
  unfold rangeD at h
  rw [List.getElem?_map] at h
  cases e : (List.range n)[i]? with
  | none => rw [e] at h; cases h
  | some x =>
    rw [e] at h
    obtain ⟨h1, h2⟩ := List.getElem?_eq_some_iff.mp e
    rw [List.length_range] at h1
    rw [List.getElem_range] at h2
    subst h2
    exact ⟨(Option.some.inj h).symm, h1⟩
def bD (x : Int) (i : Int) : Int := (x / 7 + i * (1 + x % 11)) % 256
theorem body_comp {e : ME} {l : Sl} {S : Store} {j : Nat} (x : Int) (he : ∀ i : Int, 0 ≤ i → i < 1000 → e (l.set j (some (.int i))) S = some (.ok (.int (bD x i)), S)) : ∀ (n : Nat) (lo : Int) (acc : List D), 0 ≤ lo → lo + n ≤ 1000 → acc.length + n ≤ 16777216 →
    ∃ b : List Int, b.length = n ∧ (∀ y ∈ b, 0 ≤ y) ∧ compL (.one j) tYes' e l acc (rangeD lo n) S = some (.ok (.fl (acc ++ b.map D.int)), S)
  | 0, lo, acc, _, _, _ => ⟨[], rfl, (fun _ h => nomatch h), by rw [rangeD_zero, compL, List.map_nil, List.append_nil]⟩
  | n + 1, lo, acc, h0, h1, hl => by
    obtain ⟨b, i1, i2, i3⟩ := body_comp x he n (lo + 1) (acc ++ [D.int (bD x lo)]) (by omega) (by omega) (by rw [List.length_append]; simp; omega)
    refine ⟨bD x lo :: b, by rw [List.length_cons, i1], fun y hy => ?_, ?_⟩
    · rcases List.mem_cons.mp hy with h | h
      · rw [h]; exact Int.emod_nonneg _ (by decide)
      · exact i2 y h
    · rw [rangeD_succ, compL]
      simp only [tgSet, tYes', bndN, if_true, he lo h0 (by omega)]
      rw [if_pos (show acc.length < lineN by show _ < 16777216; omega), i3, List.append_assoc]
      rfl
end Law

/-! the law's frames: a turn of the loop -/
namespace Law
open PySem PySem.Spec L2 Sim
def bFr : MS := (sSeq (sSet 3 (eA m__law_taken (aCons (eVar 0) (aCons (e2 fPow (eC (.int 10)) (eC (.int 9))) (aNil)))))
  (sSeq (sSet 4 (e2 fMod (eVar 3) (eC (.int 13))))
  (sSeq (sIf (tOf (e2 fEq (e2 fMod (e2 fDiv (eVar 3) (eC (.int 13))) (eC (.int 6))) (eC (.int 5)))) (sSet 4 (e2 fAdd (eC (.int 200)) (e2 fMod (e2 fDiv (eVar 3) (eC (.int 78))) (eC (.int 56))))) (sNext))
  (sSeq (sSet 5 (eComp [6] (iR1 (eVar 4)) (.one 6) (tYes') (e2 fMod (e2 fAdd (e2 fDiv (eVar 3) (eC (.int 7))) (e2 fMul (eVar 6) (e2 fAdd (eC (.int 1)) (e2 fMod (eVar 3) (eC (.int 11)))))) (eC (.int 256)))))
  (sDrop (eBM isL (m1 fAppend) (eVar 1) (aCons (eTup (aCons (eA m__law_taken (aCons (eVar 0) (aCons (eC (.int 256)) (aNil)))) (aCons (e2 fMod (e2 fDiv (eVar 3) (eC (.int 256))) (eC (.int 256))) (aCons (e2 fMod (e2 fDiv (eVar 3) (eC (.int 65536))) (eC (.int 256))) (aCons (eVar 5) (aNil)))))) (aNil))))))))
def gsl (o2 o3 o4 o5 : Option D) : Sl := [some (.ref 0), some (.ref 1), o2, o3, o4, o5, none]
theorem bFr_eq {R : Row} (hR : RowOk R) {fs : List Fr} (hl : fs.length ≤ 100) (o2 o3 o4 o5 : Option D) : ∃ R' F o3' o4' o5', RowOk R' ∧ FGood F ∧ bFr (gsl o2 o3 o4 o5) [rowD R, lsD (fs.map tpD)] = some (.nx (gsl o2 o3' o4' o5'), [rowD R', lsD ((fs ++ [F]).map tpD)]) := by
  obtain ⟨x, R1, t1, k1, x0, x1⟩ := draw (n := 0) (S := [rowD R, lsD (fs.map tpD)]) 1000000000 rfl hR (by decide) (by decide)
  replace t1 : m__law_taken [.ref 0, .int 1000000000] [rowD R, lsD (fs.map tpD)] = some (.ok (.int x), [rowD R1, lsD (fs.map tpD)]) := t1
  obtain ⟨y, R2, t2, k2, y0, y1⟩ := draw (n := 0) (S := [rowD R1, lsD (fs.map tpD)]) 256 rfl k1 (by decide) (by decide)
  replace t2 : m__law_taken [.ref 0, .int 256] [rowD R1, lsD (fs.map tpD)] = some (.ok (.int y), [rowD R2, lsD (fs.map tpD)]) := t2
  obtain ⟨z, z0, z1, s3⟩ : ∃ z, 0 ≤ z ∧ z < 300 ∧ sIf (tOf (e2 fEq (e2 fMod (e2 fDiv (eVar 3) (eC (.int 13))) (eC (.int 6))) (eC (.int 5)))) (sSet 4 (e2 fAdd (eC (.int 200)) (e2 fMod (e2 fDiv (eVar 3) (eC (.int 78))) (eC (.int 56))))) (sNext) (gsl o2 (some (.int x)) (some (.int (x % 13))) o5) [rowD R1, lsD (fs.map tpD)] = some (.nx (gsl o2 (some (.int x)) (some (.int z)) o5), [rowD R1, lsD (fs.map tpD)]) := by
    have b1 : 0 ≤ x / 78 % 56 := Int.emod_nonneg _ (by decide)
    have b2 : x / 78 % 56 < 56 := Int.emod_lt_of_pos _ (by decide)
    have b3 : 0 ≤ x % 13 := Int.emod_nonneg _ (by decide)
    have b4 : x % 13 < 13 := Int.emod_lt_of_pos _ (by decide)
    by_cases c : x / 13 % 6 = 5
    · refine ⟨200 + x / 78 % 56, by omega, by omega, ?_⟩
      unfold gsl
      clear t1 t2 hR k1 k2 b1 b2 b3 b4
      walk_at "ev*"
    · refine ⟨x % 13, b3, by omega, ?_⟩
      unfold gsl
      clear t1 t2 hR k1 k2 b1 b2 b3 b4
      walk_at "ev*"
  have he : ∀ i : Int, 0 ≤ i → i < 1000 → (e2 fMod (e2 fAdd (e2 fDiv (eVar 3) (eC (.int 7))) (e2 fMul (eVar 6) (e2 fAdd (eC (.int 1)) (e2 fMod (eVar 3) (eC (.int 11)))))) (eC (.int 256))) ((wipeD (gsl o2 (some (.int x)) (some (.int z)) o5) [6]).set 6 (some (.int i))) [rowD R1, lsD (fs.map tpD)] = some (.ok (.int (bD x i)), [rowD R1, lsD (fs.map tpD)]) := fun i h0 h1 => by
    have gm : ∀ w S, fMul (.int i) (.int w) S = some (.ok (.int (i * w)), S) := fun w S => fMul_l (by omega) (by omega) S
    unfold gsl bD
    clear t1 t2 s3 hR k1 k2
    walk_at "ev*"
  obtain ⟨b, i1, i2, i3⟩ := body_comp x he z.toNat 0 [] (by decide) (by omega) (by simp; omega)
  have s4 : sSet 5 (eComp [6] (iR1 (eVar 4)) (.one 6) (tYes') (e2 fMod (e2 fAdd (e2 fDiv (eVar 3) (eC (.int 7))) (e2 fMul (eVar 6) (e2 fAdd (eC (.int 1)) (e2 fMod (eVar 3) (eC (.int 11)))))) (eC (.int 256)))) (gsl o2 (some (.int x)) (some (.int z)) o5) [rowD R1, lsD (fs.map tpD)] = some (.nx (gsl o2 (some (.int x)) (some (.int z)) (some (inD1 b))), [rowD R1, lsD (fs.map tpD)]) := by
    unfold sSet
    rw [eComp_r1 (n := z) (S1 := [rowD R1, lsD (fs.map tpD)]) rfl (by omega) (by omega), i3]
    rfl
  have ga := app_ls (n := 1) (S := [rowD R2, lsD (fs.map tpD)]) (d := .tup [.int y, .int (x / 256 % 256), .int (x / 65536 % 256), inD1 b]) rfl (by rw [List.length_map]; omega)
  replace ga : fAppend (.ref 1) (.tup [.int y, .int (x / 256 % 256), .int (x / 65536 % 256), inD1 b]) [rowD R2, lsD (fs.map tpD)] = some (.ok .non, [rowD R2, lsD ((fs ++ [(⟨y, x / 256 % 256, x / 65536 % 256, b⟩ : Fr)]).map tpD)]) := by
    rw [ga, List.map_append]; rfl
  have gi : isL (.ref 1) [rowD R1, lsD (fs.map tpD)] = true := rfl
  refine ⟨R2, ⟨y, x / 256 % 256, x / 65536 % 256, b⟩, some (.int x), some (.int z), some (inD1 b), k2, ⟨i2, by show b.length ≤ 300; omega, y0, Int.emod_nonneg _ (by decide), Int.emod_nonneg _ (by decide)⟩, ?_⟩
  generalize (fs ++ [(⟨y, x / 256 % 256, x / 65536 % 256, b⟩ : Fr)]).map tpD = L2 at *
  generalize fs.map tpD = L1 at *
  unfold bFr
  clear he i3 hR k1 k2 i2
  refine Eq.trans (seq_nx (S' := [rowD R1, lsD L1]) (l' := gsl o2 (some (.int x)) o4 o5) (by unfold gsl; clear t2 s3 s4 ga gi; walk_at "ev*")) ?_
  clear t1
  refine Eq.trans (seq_nx (S' := [rowD R1, lsD L1]) (l' := gsl o2 (some (.int x)) (some (.int (x % 13))) o5) (by unfold gsl; clear t2 s3 s4 ga gi; walk_at "ev*")) ?_
  rw [seq_nx s3, seq_nx s4]
  unfold gsl
  clear s3 s4
  walk_at "ev*"
end Law

/-! the law's frames: all -/
namespace Law
open PySem PySem.Spec L2 Sim
theorem frames_eq {R : Row} (hR : RowOk R) : ∃ (R' : Row) (fs : List Fr), RowOk R' ∧ (∀ F ∈ fs, FGood F) ∧ fs.length ≤ 6 ∧ m__law_frames [.ref 0] [rowD R] = some (.ok (.ref 1), [rowD R', lsD (fs.map tpD)]) := by
  obtain ⟨n, R1, t1, k1, n0, n1⟩ := draw (n := 0) (S := [rowD R, lsD []]) 7 rfl hR (by decide) (by decide)
  replace t1 : m__law_taken [.ref 0, .int 7] [rowD R, lsD []] = some (.ok (.int n), [rowD R1, lsD []]) := t1
  have hw : eA m__law_taken (aCons (eVar 0) (aCons (eC (.int 7)) (aNil))) (gsl none none none none) [rowD R, lsD []] = some (.ok (.int n), [rowD R1, lsD []]) := by
    unfold gsl
    clear hR k1
    walk_at "ev*"
  obtain ⟨l', S', lp, R2, fs, p2, p3, p4, p5, j1, j2, j3, rfl, rfl⟩ := sFor_thru (tg := .one 2) (body := bFr) (ds := rangeD 0 n.toNat)
    (fun i l S' => ∃ (R : Row) (fs : List Fr) (o2 o3 o4 o5 : Option D), RowOk R ∧ (∀ F ∈ fs, FGood F) ∧ fs.length = i ∧ l = gsl o2 o3 o4 o5 ∧ S' = [rowD R, lsD (fs.map tpD)])
    (iR1_ok hw (by omega) (by omega)) ⟨R1, [], none, none, none, none, k1, (fun _ h => nomatch h), rfl, rfl, rfl⟩ (fun _ _ _ _ => rfl) (by
      rintro i d l S1 ⟨R, fs, o2, o3, o4, o5, h1, h2, h3, rfl, rfl⟩ hd
      obtain ⟨rfl, hi⟩ := rangeD_get hd
      obtain ⟨R', F, q3, q4, q5, i1, i2, e⟩ := bFr_eq h1 (fs := fs) (by omega) (some (.int (0 + (i : Nat)))) o3 o4 o5
      refine ⟨_, rfl, _, _, e, R', fs ++ [F], _, _, _, _, i1, fun G hG => ?_, by rw [List.length_append, h3]; rfl, rfl, rfl⟩
      rcases List.mem_append.mp hG with h | h
      · exact h2 G h
      · rw [List.mem_singleton.mp h]; exact i2)
  rw [rangeD_len] at j3
  refine ⟨R2, fs, j1, j2, by omega, ?_⟩
  unfold m__law_frames b__law_frames
  refine fn_rt rfl ?_
  refine Eq.trans (seq_nx (S' := [rowD R, lsD []]) (l' := gsl none none none none) rfl) ?_
  exact Eq.trans (seq_nx lp) rfl
end Law

/-! the law's line of the frames -/
namespace Law
open PySem PySem.Spec L2 Sim
def endsL : Nat → List Fr → List Int
  | _, [] => []
  | q, F :: t => ((q + (4 + F.b.length) : Nat) : Int) :: endsL (q + (4 + F.b.length)) t
theorem endsL_snoc : ∀ (q : Nat) (fs : List Fr) (F : Fr), endsL q (fs ++ [F]) = endsL q fs ++ [((q + lenF fs + (4 + F.b.length) : Nat) : Int)]
  | q, [], F => rfl
  | q, G :: t, F => by
    show ((q + (4 + G.b.length) : Nat) : Int) :: endsL (q + (4 + G.b.length)) (t ++ [F]) = _
    rw [endsL_snoc]
    show _ = ((q + (4 + G.b.length) : Nat) : Int) :: (endsL (q + (4 + G.b.length)) t ++ [((q + (4 + G.b.length + lenF t) + (4 + F.b.length) : Nat) : Int)])
    rw [show q + (4 + G.b.length) + lenF t = q + (4 + G.b.length + lenF t) by omega]
theorem lineL_snoc : ∀ (fs : List Fr) (F : Fr) (T : List Int), lineL (fs ++ [F]) T = lineL fs (frL F ++ T)
  | [], F, T => rfl
  | G :: t, F, T => by
    show frL G ++ lineL (t ++ [F]) T = frL G ++ lineL t (frL F ++ T)
    rw [lineL_snoc]
theorem lineL_tail : ∀ (fs : List Fr) (T : List Int), lineL fs T = lineL fs [] ++ T
  | [], T => rfl
  | G :: t, T => by
    show frL G ++ lineL t T = frL G ++ lineL t [] ++ T
    rw [lineL_tail t T, List.append_assoc]
theorem lineL_len : ∀ (fs : List Fr) (T : List Int), (lineL fs T).length = lenF fs + T.length
  | [], T => (Nat.zero_add _).symm
  | G :: t, T => by
    show (frL G ++ lineL t T).length = 4 + G.b.length + lenF t + T.length
    rw [List.length_append, frL_len, lineL_len t T]; omega
theorem lenF_le : ∀ (fs : List Fr), (∀ F ∈ fs, FGood F) → lenF fs ≤ 304 * fs.length
  | [], _ => Nat.le_refl _
  | G :: t, h => by
    have h1 := lenF_le t (fun F hF => h F (List.mem_cons_of_mem _ hF))
    have h2 := (h G List.mem_cons_self).2.1
    show 4 + G.b.length + lenF t ≤ 304 * (t.length + 1)
    omega
def bA : MS := (sSeq (sSet 8 (eA (a1 fList) (aCons (e2 fIx (eVar 7) (eC (.int 3))) (aNil))))
  (sSeq (sSet 9 (eA m_framed (aCons (e2 fIx (eVar 7) (eC (.int 0))) (aCons (e2 fIx (eVar 7) (eC (.int 1))) (aCons (e2 fIx (eVar 7) (eC (.int 2))) (aCons (eVar 8) (aNil)))))))
  (sSeq (sSet 10 (e2 fAdd (eLst (aCons (eA (a1 fLen) (aCons (e2 fIx (eVar 7) (eC (.int 3))) (aNil))) (aCons (e2 fIx (eVar 7) (eC (.int 0))) (aCons (e2 fIx (eVar 7) (eC (.int 1))) (aCons (e2 fIx (eVar 7) (eC (.int 2))) (aNil)))))) (e2 fIx (eVar 7) (eC (.int 3)))))
  (sSeq (sIf (tOr (tNot (tOf (eA m__law_list (aCons (eVar 9) (aCons (eVar 10) (aNil)))))) (tOf (e2 fNe (eVar 8) (e2 fIx (eVar 7) (eC (.int 3)))))) (sRet (eC (.bl false))) (sNext))
  (sSeq (sSet 5 (e2 fAdd (eVar 5) (eVar 10)))
  (sDrop (eBM isL (m1 fAppend) (eVar 6) (aCons (eA (a1 fLen) (aCons (eVar 5) (aNil))) (aNil)))))))))
def lsl (ns : List Int) (way cut : Int) (line : List Int) (o7 o8 o9 o10 : Option D) : Sl := [some (.scr ns), some (.ref 0), some (.int way), some (.int cut), some (.ref 1), some (inD1 line), some (.ref 2), o7, o8, o9, o10, none, none, none, none, none, none, none, none, none]
theorem bA_eq {ns : List Int} {way cut : Int} {line es : List Int} {F : Fr} (hF : FGood F) (o8 o9 o10 : Option D) {S : Store} (hS : S[2]? = some (lsD (es.map D.int))) (hl : line.length ≤ 10000) (he : es.length ≤ 100) :
    bA (lsl ns way cut line (some (tpD F)) o8 o9 o10) S = some (.nx (lsl ns way cut (line ++ frL F) (some (tpD F)) (some (inD1 F.b)) (some (inD1 (frL F))) (some (inD1 (frL F)))), S.set 2 (lsD ((es ++ [((line ++ frL F).length : Int)]).map D.int))) := by
  have hb := hF.2.1
  have fr := fun S => framed_eq F (by omega) S
  have gl := fLen_in
  have fi : ∀ S, fList (inD1 F.b) S = some (.ok (inD1 F.b), S) := fun S => rfl
  have fa : ∀ S, fAdd (.fl [.int (F.b.length : Nat), .int F.k, .int F.f, .int F.t]) (inD1 F.b) S = some (.ok (inD1 (frL F)), S) := fun S => fAdd_in (a := [(F.b.length : Int), F.k, F.f, F.t]) (by show 4 + F.b.length ≤ _; omega) S
  have fa2 : ∀ S, fAdd (inD1 line) (inD1 (frL F)) S = some (.ok (inD1 (line ++ frL F)), S) := fun S => fAdd_in (by rw [frL_len]; omega) S
  have lq : ∀ S, m__law_list [inD1 (frL F), inD1 (frL F)] S = some (.ok (.bl true), S) := fun S => by unfold inD1; rw [list_eq]; simp
  have ne : ∀ S, fNe (inD1 F.b) (inD1 F.b) S = some (.ok (.bl false), S) := fun S => by unfold fNe inD1; rw [eqD_ints]; simp
  have il : isLC S[2]? = true := by rw [hS]; rfl
  have ap : ∀ d, apC d S[2]? = some (lsD (es.map D.int ++ [d])) := fun d => by
    rw [hS]
    unfold apC lsD
    simp only
    rw [if_pos (by rw [List.length_map]; show es.length < 16777216; omega)]
  unfold bA lsl tpD
  simp only [mir, fr, gl, fi, fa, fa2, lq, ne, il, ap]
  rw [List.map_append]
  rfl
end Law

/-! the law's line: all frames; what is due of a piece -/
namespace Law
open PySem PySem.Spec L2 Sim
theorem take_succ_get {α : Type} {xs : List α} {i : Nat} {x : α} (h : xs[i]? = some x) : xs.take (i + 1) = xs.take i ++ [x] := by
  rw [List.take_succ, h]; rfl
theorem line_loop {ns : List Int} {way cut : Int} {R : Row} {fs : List Fr} (hG : ∀ F ∈ fs, FGood F) (hn : fs.length ≤ 6) : ∃ o7 o8 o9 o10, sFor (iL (eVar 4)) (.one 7) bA (lsl ns way cut [] none none none none) [rowD R, lsD (fs.map tpD), lsD []] = some (.nx (lsl ns way cut (lineL fs []) o7 o8 o9 o10), [rowD R, lsD (fs.map tpD), lsD ((endsL 0 fs).map D.int)]) := by
  obtain ⟨l', S', lp, h⟩ := sFor_thru (items := iL (eVar 4)) (tg := .one 7) (body := bA) (ds := fs.map tpD) (src := Sim.listOf (.ref 1))
    (fun i l S' => ∃ o7 o8 o9 o10, l = lsl ns way cut (lineL (fs.take i) []) o7 o8 o9 o10 ∧ S' = [rowD R, lsD (fs.map tpD), lsD ((endsL 0 (fs.take i)).map D.int)])
    (l := lsl ns way cut [] none none none none) (S := [rowD R, lsD (fs.map tpD), lsD []]) (iL_ref (n := 1) (ds := fs.map tpD) (b := false) rfl rfl) ⟨none, none, none, none, rfl, rfl⟩
    (by rintro i l S ⟨o7, o8, o9, o10, rfl, rfl⟩; exact listOf_ref (b := false) rfl) (by
      rintro i d l S ⟨o7, o8, o9, o10, rfl, rfl⟩ hd
      rw [List.getElem?_map] at hd
      cases e : fs[i]? with
      | none => rw [e] at hd; cases hd
      | some F =>
        rw [e] at hd
        cases hd
        have hF := hG F (List.mem_of_getElem? e)
        have hi : i < fs.length := (List.getElem?_eq_some_iff.mp e).1
        have hGt : ∀ G ∈ fs.take i, FGood G := fun G h => hG G (List.mem_of_mem_take h)
        have hle := lenF_le (fs.take i) hGt
        rw [List.length_take] at hle
        have hll : (lineL (fs.take i) []).length = lenF (fs.take i) := by rw [lineL_len]; rfl
        have hel : ∀ (q : Nat) (xs : List Fr), (endsL q xs).length = xs.length := by
          intro q xs
          induction xs generalizing q with
          | nil => rfl
          | cons G t ih => show (endsL _ t).length + 1 = t.length + 1; rw [ih]
        have := bA_eq (ns := ns) (way := way) (cut := cut) (line := lineL (fs.take i) []) (es := endsL 0 (fs.take i)) hF o8 o9 o10 (S := [rowD R, lsD (fs.map tpD), lsD ((endsL 0 (fs.take i)).map D.int)]) rfl (by omega) (by rw [hel, List.length_take]; omega)
        refine ⟨_, rfl, _, _, this, some (tpD F), some (inD1 F.b), some (inD1 (frL F)), some (inD1 (frL F)), ?_, ?_⟩
        · rw [take_succ_get e, lineL_snoc, List.append_nil, lineL_tail _ (frL F)]
        · rw [take_succ_get e, endsL_snoc]
          rw [List.length_append, hll, frL_len]
          simp only [Nat.zero_add]
          rfl)
  obtain ⟨o7, o8, o9, o10, rfl, rfl⟩ := h
  rw [List.length_map, List.take_length] at lp
  exact ⟨o7, o8, o9, o10, lp⟩
def selF (a b : Int) : Nat → List Fr → List Fr
  | _, [] => []
  | q, F :: t => if a < ((q + (4 + F.b.length) : Nat) : Int) ∧ ((q + (4 + F.b.length) : Nat) : Int) ≤ b then F :: selF a b (q + (4 + F.b.length)) t else selF a b (q + (4 + F.b.length)) t
theorem selF_skip {a b : Int} : ∀ (fs gs : List Fr) (q : Nat), ((q + lenF fs : Nat) : Int) ≤ a → selF a b q (fs ++ gs) = selF a b (q + lenF fs) gs
  | [], gs, q, h => rfl
  | F :: t, gs, q, h => by
    have h' : ((q + (4 + F.b.length + lenF t) : Nat) : Int) ≤ a := h
    show selF a b q (F :: (t ++ gs)) = selF a b (q + (4 + F.b.length + lenF t)) gs
    rw [selF, if_neg (by omega), selF_skip t gs _ (by omega), Nat.add_assoc]
theorem selF_none {a b : Int} : ∀ (fs : List Fr) (q : Nat), b ≤ (q : Int) → selF a b q fs = []
  | [], _, _ => rfl
  | F :: t, q, h => by
    unfold selF
    rw [if_neg (by omega), selF_none t _ (by omega)]
theorem selF_fit {a b : Int} : ∀ (fs : List Fr) (q : Nat), (∀ F t, fs = F :: t → a < ((q + (4 + F.b.length) : Nat) : Int)) → (q : Int) ≤ b → selF a b q fs = fitF (b - q).toNat fs
  | [], _, _, _ => rfl
  | F :: t, q, h, hb => by
    have h1 := h F t rfl
    unfold selF fitF
    by_cases c : ((q + (4 + F.b.length) : Nat) : Int) ≤ b
    · rw [if_pos ⟨h1, c⟩, if_pos (by omega), selF_fit t _ (fun G u _ => by omega) c, show (b - ((q + (4 + F.b.length) : Nat) : Int)).toNat = (b - q).toNat - (4 + F.b.length) by omega]
    · rw [if_neg (fun z => c z.2), if_neg (by omega), selF_none t _ (by omega)]
end Law

/-! the law's pieces: what is due, a turn -/
namespace Law
open PySem PySem.Spec L2 Sim
theorem compG_st {src : Src} {tg : Tg} {t : MT} {e : ME} {l : Sl} {S : Store} {ds : List D} (hs : src S = some ds) (he : ∀ d ∈ ds, ∃ l1 c y, tgSet tg d l = some l1 ∧ t l1 S = some (.ok c, S) ∧ e l1 S = some (.ok y, S)) :
    ∀ (k i : Nat) (acc : List D), compG src tg t e l k i acc S = compG (fun _ => some ds) tg t e l k i acc S
  | 0, _, _ => rfl
  | k + 1, i, acc => by
    unfold compG
    simp only [hs]
    cases hd : ds[i]? with
    | none => rfl
    | some d =>
      obtain ⟨l1, c, y, h1, h2, h3⟩ := he d (List.mem_of_getElem? hd)
      simp only [h1, h2, h3, bndN]
      cases c with
      | true =>
        simp only [if_true]
        split
        · exact compG_st hs he k (i + 1) _
        · rfl
      | false =>
        simp only [Bool.false_eq_true, if_false]
        exact compG_st hs he k (i + 1) _
theorem comp_sel {a b : Int} {t : MT} {l : Sl} {S : Store} (hl : 20 ≤ l.length)
    (ht : ∀ (F : Fr) (e : Int), t ((l.set 7 (some (tpD F))).set 19 (some (.int e))) S = some (.ok (decide (a < e ∧ e ≤ b)), S)) :
    ∀ (fs : List Fr) (q : Nat) (acc : List D), acc.length + fs.length ≤ 1000 → compL (.many [7, 19]) t (eVar 7) l acc (zipD (fs.map tpD) ((endsL q fs).map D.int)) S = some (.ok (.fl (acc ++ (selF a b q fs).map tpD)), S)
  | [], q, acc, _ => by show some _ = some _; rw [show (selF a b q []).map tpD = [] from rfl, List.append_nil]
  | F :: fs, q, acc, h => by
    show compL (.many [7, 19]) t (eVar 7) l acc (.tup [tpD F, .int ((q + (4 + F.b.length) : Nat) : Int)] :: zipD (fs.map tpD) ((endsL (q + (4 + F.b.length)) fs).map D.int)) S = _
    have hv : eVar 7 ((l.set 7 (some (tpD F))).set 19 (some (.int ((q + (4 + F.b.length) : Nat) : Int)))) S = some (.ok (tpD F), S) := by
      rw [var_r, List.getElem?_set_ne (by decide), List.getElem?_set_self (by omega)]
      rfl
    rw [compL]
    simp only [tgSet, setAll, ht, bndN, hv]
    unfold selF
    by_cases c : a < ((q + (4 + F.b.length) : Nat) : Int) ∧ ((q + (4 + F.b.length) : Nat) : Int) ≤ b
    · rw [if_pos c, decide_eq_true c]
      simp only [if_true]
      rw [if_pos (show acc.length < lineN by show _ < 16777216; omega), comp_sel hl ht fs _ _ (by rw [List.length_append]; simp at h ⊢; omega), List.append_assoc]
      rfl
    · rw [if_neg c, decide_eq_false c]
      simp only [Bool.false_eq_true, if_false]
      exact comp_sel hl ht fs _ _ (by simp at h; omega)
def msl (ns : List Int) (way cut : Int) (line : List Int) (o7 o8 o9 o10 : Option D) (at_ told : Int) (o14 o15 o16 o17 o18 o19 : Option D) (n : Nat) : Sl :=
  [some (.scr ns), some (.ref 0), some (.int way), some (.int cut), some (.ref 1), some (inD1 line), some (.ref 2), o7, o8, o9, o10, some (.ref n), some (.int at_), some (.int told), o14, o15, o16, o17, o18, o19]
def bS : MS := (sIf (tNot (tOf (eA m__law_same (aCons (eVar 18) (aCons (eVar 7) (aNil)))))) (sRet (eC (.bl false))) (sNext))
theorem zip_get {xs ys : List D} {i : Nat} {d : D} (h : (zipD xs ys)[i]? = some d) : ∃ x y, xs[i]? = some x ∧ ys[i]? = some y ∧ d = .tup [x, y] := by
  unfold zipD at h
  rw [List.getElem?_zipWith] at h
  cases e1 : xs[i]? with
  | none => rw [e1] at h; cases h
  | some x =>
    cases e2 : ys[i]? with
    | none => rw [e1, e2] at h; cases h
    | some y =>
      rw [e1, e2] at h
      exact ⟨x, y, rfl, rfl, (Option.some.inj h).symm⟩
theorem same_loop {ns : List Int} {way cut at_ told : Int} {line : List Int} {o7 o8 o14 o15 o16 o17 o18 o19 : Option D} {n m lo : Nat} {S : Store} {gs : List Fr} (hr : S[m]? = some (lsD (rfD lo gs.length))) (hf : ∀ i F, gs[i]? = some F → S[lo + i]? = some (frD F)) :
    ∃ o7' o18', sFor (iZ (eVar 9) (eVar 10)) (.many [18, 7]) bS (msl ns way cut line o7 o8 (some (.ref m)) (some (.fl (gs.map tpD))) at_ told o14 o15 o16 o17 o18 o19 n) S = some (.nx (msl ns way cut line o7' o8 (some (.ref m)) (some (.fl (gs.map tpD))) at_ told o14 o15 o16 o17 o18' o19 n), S) := by
  have hi : iZ (eVar 9) (eVar 10) (msl ns way cut line o7 o8 (some (.ref m)) (some (.fl (gs.map tpD))) at_ told o14 o15 o16 o17 o18 o19 n) S = some (.ok (fun S' => match Sim.listOf (.ref m) S', Sim.listOf (.fl (gs.map tpD)) S' with
      | some xs, some ys => some (zipD xs ys)
      | _, _ => none), S) := by
    unfold iZ msl
    simp only [mir]
    rw [if_pos ⟨by rw [hr]; rfl, trivial⟩]
    try rfl
  obtain ⟨l', S', lp, h⟩ := sFor_thru (tg := .many [18, 7]) (body := bS) (ds := zipD (rfD lo gs.length) (gs.map tpD))
    (fun i l S' => ∃ o7' o18', l = msl ns way cut line o7' o8 (some (.ref m)) (some (.fl (gs.map tpD))) at_ told o14 o15 o16 o17 o18' o19 n ∧ S' = S) hi ⟨o7, o18, rfl, rfl⟩
    (by rintro i l S1 ⟨_, _, rfl, rfl⟩; rw [listOf_ref (b := false) hr]; rfl) (by
      rintro i d l S1 ⟨o7', o18', rfl, rfl⟩ hd
      obtain ⟨x, y, h1, h2, rfl⟩ := zip_get hd
      rw [List.getElem?_map] at h2
      cases e : gs[i]? with
      | none => rw [e] at h2; cases h2
      | some F =>
        rw [e] at h2
        cases h2
        have hx : x = .ref (lo + i) := by
          unfold rfD at h1
          rw [List.getElem?_map] at h1
          cases e2 : (List.range gs.length)[i]? with
          | none => rw [e2] at h1; cases h1
          | some z =>
            rw [e2] at h1
            obtain ⟨g1, g2⟩ := List.getElem?_eq_some_iff.mp e2
            rw [List.getElem_range] at g2
            subst g2
            exact (Option.some.inj h1).symm
        subst hx
        have sm := same_eq (hf i F e)
        refine ⟨msl ns way cut line (some (tpD F)) o8 (some (.ref m)) (some (.fl (gs.map tpD))) at_ told o14 o15 o16 o17 (some (.ref (lo + i))) o19 n, rfl, _, _, ?_, some (tpD F), some (.ref (lo + i)), rfl, rfl⟩
        unfold bS msl
        simp only [mir, sm])
  obtain ⟨o7', o18', rfl, rfl⟩ := h
  exact ⟨o7', o18', lp⟩
end Law

/-! law k03 -/
namespace Law
open PySem PySem.Spec L2 Sim
theorem cut_nat {xs : List D} {i j : Int} (h0 : 0 ≤ i) (h1 : i ≤ j) : cutD xs (some i) (some j) = (xs.drop i.toNat).take (j.toNat - i.toNat) := by
  obtain ⟨a, rfl⟩ := Int.eq_ofNat_of_zero_le h0
  obtain ⟨b, rfl⟩ := Int.eq_ofNat_of_zero_le (show 0 ≤ j by omega)
  unfold cutD
  rw [HT.sIx_nat, HT.sIx_nat, Int.toNat_natCast, Int.toNat_natCast]
  by_cases c : a ≤ xs.length
  · rw [Nat.min_eq_left c]
    by_cases c2 : b ≤ xs.length
    · rw [Nat.min_eq_left c2]
    · rw [Nat.min_eq_right (by omega), List.take_of_length_le (by simp), List.take_of_length_le (by simp; omega)]
  · rw [List.drop_of_length_le (show xs.length ≤ a by omega), List.drop_of_length_le (show xs.length ≤ min a xs.length by omega)]
    simp
def bM : MS := (sSeq (sSet 15 (e2 fAdd (e2 fMod (e2 fDiv (eVar 3) (e2 fAdd (eC (.int 1)) (e2 fMod (eVar 14) (eC (.int 5))))) (eC (.int 10))) (eA (a1 fInt) (aCons (e2 fEq (e2 fMod (eVar 14) (eC (.int 7))) (eC (.int 6))) (aNil)))))
  (sSeq (sIf (tOf (e2 fEq (eVar 2) (eC (.int 3)))) (sSet 15 (eC (.int 300))) (sNext))
  (sSeq (sSet 16 (eSl (eVar 5) (oSo (eVar 12)) (oSo (e2 fAdd (eVar 12) (eVar 15)))))
  (sSeq (sSet 17 (eA (a1 fList) (aCons (eVar 16) (aNil))))
  (sSeq (sSet 12 (e2 fAdd (eVar 12) (eA (a1 fLen) (aCons (eVar 16) (aNil)))))
  (sSeq (sSet 10 (eComp [7, 19] (iZ (eVar 4) (eVar 6)) (.many [7, 19]) (tOf (eChain fLt fLe (e2 fSub (eVar 12) (eA (a1 fLen) (aCons (eVar 16) (aNil)))) (eVar 19) (eVar 12))) (eVar 7)))
  (sSeq (sSet 9 (eMeth 4 "fed" m_Cutter_fed (eVar 11) (aCons (eVar 17) (aNil))))
  (sSeq (sIf (tOr (tNot (tOf (e1 (fIsi "list") (eVar 9)))) (tOr (tOf (e2 fNe (eA (a1 fLen) (aCons (eVar 9) (aNil))) (eA (a1 fLen) (aCons (eVar 10) (aNil))))) (tOf (e2 fNe (eVar 17) (eVar 16))))) (sRet (eC (.bl false))) (sNext))
  (sSeq (sFor (iZ (eVar 9) (eVar 10)) (.many [18, 7]) (sIf (tNot (tOf (eA m__law_same (aCons (eVar 18) (aCons (eVar 7) (aNil)))))) (sRet (eC (.bl false))) (sNext)))
  (sSet 13 (e2 fAdd (eVar 13) (eA (a1 fLen) (aCons (eVar 10) (aNil))))))))))))))
theorem size_eq {way cut k : Int} {ns line : List Int} {o7 o8 o9 o10 o15 o16 o17 o18 o19 : Option D} {at_ told : Int} {S : Store} (hk : 0 ≤ k) : ∃ z, 0 ≤ z ∧ ∀ b : MS,
    sSeq (sSet 15 (e2 fAdd (e2 fMod (e2 fDiv (eVar 3) (e2 fAdd (eC (.int 1)) (e2 fMod (eVar 14) (eC (.int 5))))) (eC (.int 10))) (eA (a1 fInt) (aCons (e2 fEq (e2 fMod (eVar 14) (eC (.int 7))) (eC (.int 6))) (aNil)))))
    (sSeq (sIf (tOf (e2 fEq (eVar 2) (eC (.int 3)))) (sSet 15 (eC (.int 300))) (sNext)) b) (msl ns way cut line o7 o8 o9 o10 at_ told (some (.int k)) o15 o16 o17 o18 o19 3) S = b (msl ns way cut line o7 o8 o9 o10 at_ told (some (.int k)) (some (.int z)) o16 o17 o18 o19 3) S := by
  have h5 : 0 ≤ k % 5 := Int.emod_nonneg _ (by decide)
  have h6 : k % 5 < 5 := Int.emod_lt_of_pos _ (by decide)
  have h7 := fun S => fMod_i (i := k) (j := 5) (by decide) S
  have h8 := fun S => fDiv_i (i := cut) (j := 1 + k % 5) (by omega) (by omega) S
  have h9 := fun i S => fMod_i (i := i) (j := 10) (by decide) S
  have h10 := fun S => fMod_i (i := k) (j := 7) (by decide) S
  have fi : ∀ (c : Bool) S, fInt (.bl c) S = some (.ok (.int (if c then 1 else 0)), S) := fun _ _ => rfl
  have hm := Int.emod_nonneg (cut / (1 + k % 5)) (show (10 : Int) ≠ 0 by decide)
  by_cases c : way = 3
  · refine ⟨300, by decide, fun b => ?_⟩
    unfold msl
    simp only [mir, h7, h8, h9, h10, fi, c]
  · refine ⟨cut / (1 + k % 5) % 10 + (if decide (k % 7 = 6) then 1 else 0), by split <;> omega, fun b => ?_⟩
    unfold msl
    simp only [mir, h7, h8, h9, h10, fi, c]
theorem turn_eq {ns : List Int} {way cut k : Int} {fs : List Fr} {T : List Int} {R : Row} {G : Store} {o7 o8 o9 o10 o15 o16 o17 o18 o19 : Option D} {m at_ : Nat} (hG : ∀ F ∈ fs, FGood F) (hn : fs.length ≤ 6) (hT : Short T) (hTl : T.length ≤ 5) (hT0 : ∀ x ∈ T, 0 ≤ x) (hk : 0 ≤ k)
    (hm : m ≤ fs.length) (ha : at_ ≤ (lineL fs T).length) (hp : lenF (fs.take m) ≤ at_) (hf : fitF (at_ - lenF (fs.take m)) (fs.drop m) = []) :
    ∃ m' at' G' o7' o9' o10' o15' o16' o17' o18' o19', m' ≤ fs.length ∧ at' ≤ (lineL fs T).length ∧ lenF (fs.take m') ≤ at' ∧ fitF (at' - lenF (fs.take m')) (fs.drop m') = [] ∧
      bM (msl ns way cut (lineL fs T) o7 o8 o9 o10 (at_ : Nat) (m : Nat) (some (.int k)) o15 o16 o17 o18 o19 3) ([rowD R, lsD (fs.map tpD), lsD ((endsL 0 fs).map D.int), cuD ((lineL (fs.drop m) T).take (at_ - lenF (fs.take m)))] ++ G) =
      some (.nx (msl ns way cut (lineL fs T) o7' o8 o9' o10' (at' : Nat) (m' : Nat) (some (.int k)) o15' o16' o17' o18' o19' 3), [rowD R, lsD (fs.map tpD), lsD ((endsL 0 fs).map D.int), cuD ((lineL (fs.drop m') T).take (at' - lenF (fs.take m')))] ++ G') := by
  obtain ⟨z, hz, hsz⟩ := size_eq (way := way) (cut := cut) (k := k) (ns := ns) (line := lineL fs T) (o7 := o7) (o8 := o8) (o9 := o9) (o10 := o10) (o15 := o15) (o16 := o16) (o17 := o17) (o18 := o18) (o19 := o19) (at_ := (at_ : Nat)) (told := (m : Nat))
    (S := [rowD R, lsD (fs.map tpD), lsD ((endsL 0 fs).map D.int), cuD ((lineL (fs.drop m) T).take (at_ - lenF (fs.take m)))] ++ G) hk
  -- plain facts
  have hdec : lineL fs T = lineL (fs.take m) [] ++ lineL (fs.drop m) T := by
    have : ∀ (xs ys : List Fr) (U : List Int), lineL (xs ++ ys) U = lineL xs [] ++ lineL ys U := by
      intro xs ys U
      induction xs with
      | nil => rfl
      | cons X xs ih => show frL X ++ lineL (xs ++ ys) U = frL X ++ lineL xs [] ++ lineL ys U; rw [ih, List.append_assoc]
    rw [← this, List.take_append_drop]
  have hpl : (lineL (fs.take m) []).length = lenF (fs.take m) := by rw [lineL_len]; rfl
  have hlen : (lineL fs T).length = lenF fs + T.length := lineL_len fs T
  have hle := lenF_le fs hG
  have hposL : ∀ (xs : List Fr) (U : List Int), (∀ F ∈ xs, FGood F) → (∀ x ∈ U, 0 ≤ x) → ∀ x ∈ lineL xs U, 0 ≤ x := by
    intro xs U h1 h2
    induction xs with
    | nil => exact h2
    | cons X xs ih =>
      intro x hx
      rcases List.mem_append.mp (show x ∈ frL X ++ lineL xs U from hx) with h | h
      · obtain ⟨g1, g2, g3, g4, g5⟩ := h1 X List.mem_cons_self
        rcases List.mem_append.mp (show x ∈ [(X.b.length : Int), X.k, X.f, X.t] ++ X.b from h) with h | h
        · simp only [List.mem_cons, List.not_mem_nil, or_false] at h
          rcases h with rfl | rfl | rfl | rfl <;> omega
        · exact g1 x h
      · exact ih (fun F hF => h1 F (List.mem_cons_of_mem _ hF)) x h
  generalize hP : ((lineL fs T).drop at_).take z.toNat = P
  have hPl : P.length ≤ (lineL fs T).length - at_ := by rw [← hP, List.length_take, List.length_drop]; omega
  have hrl : (lineL (fs.drop m) T).length = (lineL fs T).length - lenF (fs.take m) := by rw [hdec, List.length_append, hpl]; omega
  have hHP : (lineL (fs.drop m) T).take (at_ - lenF (fs.take m)) ++ P = (lineL (fs.drop m) T).take (at_ + P.length - lenF (fs.take m)) := by
    have e1 : (lineL fs T).drop at_ = (lineL (fs.drop m) T).drop (at_ - lenF (fs.take m)) := by
      rw [hdec, List.drop_append, hpl, List.drop_of_length_le (by omega), List.nil_append]
    have e2 : P = ((lineL (fs.drop m) T).drop (at_ - lenF (fs.take m))).take P.length := by
      rw [← e1, ← hP, List.length_take, List.length_drop]
      by_cases c : z.toNat ≤ (lineL fs T).length - at_
      · rw [Nat.min_eq_left c]
      · rw [Nat.min_eq_right (by omega), List.take_of_length_le (by rw [List.length_drop]; omega), List.take_of_length_le (by rw [List.length_drop]; omega)]
    rw [show at_ + P.length - lenF (fs.take m) = (at_ - lenF (fs.take m)) + P.length by omega, List.take_add, ← e2]
  have hfed := cutH_fit hT (fs.drop m) (at_ + P.length - lenF (fs.take m)) (by omega)
  generalize hg : fitF (at_ + P.length - lenF (fs.take m)) (fs.drop m) = gs at hfed
  -- what stands behind the piece
  have hsplit : ∀ (q : Nat) (xs : List Fr), fitF q xs = xs.take (fitF q xs).length ∧ lenF (fitF q xs) ≤ q ∧ fitF (q - lenF (fitF q xs)) (xs.drop (fitF q xs).length) = [] := by
    intro q xs
    induction xs generalizing q with
    | nil => exact ⟨rfl, Nat.zero_le _, rfl⟩
    | cons X xs ih =>
      by_cases c : 4 + X.b.length ≤ q
      · have e : fitF q (X :: xs) = X :: fitF (q - (4 + X.b.length)) xs := by rw [fitF, if_pos c]
        obtain ⟨i1, i2, i3⟩ := ih (q - (4 + X.b.length))
        rw [e]
        refine ⟨?_, ?_, ?_⟩
        · show X :: fitF _ xs = X :: xs.take (fitF _ xs).length
          rw [← i1]
        · show 4 + X.b.length + lenF (fitF _ xs) ≤ q
          omega
        · show fitF (q - (4 + X.b.length + lenF (fitF _ xs))) (xs.drop (fitF _ xs).length) = []
          rw [show q - (4 + X.b.length + lenF (fitF (q - (4 + X.b.length)) xs)) = q - (4 + X.b.length) - lenF (fitF (q - (4 + X.b.length)) xs) by omega]
          exact i3
      · have e : fitF q (X :: xs) = [] := by rw [fitF, if_neg c]
        rw [e]
        exact ⟨rfl, Nat.zero_le _, by show fitF (q - 0) (X :: xs) = []; rw [Nat.sub_zero, e]⟩
  obtain ⟨s1, s2, s3⟩ := hsplit (at_ + P.length - lenF (fs.take m)) (fs.drop m)
  rw [hg] at s1 s2 s3
  have hgl : gs.length ≤ fs.length - m := by rw [s1, List.length_take, List.length_drop]; omega
  have htk : fs.take (m + gs.length) = fs.take m ++ gs := by rw [List.take_add, ← s1]
  have hlt : lenF (fs.take (m + gs.length)) = lenF (fs.take m) + lenF gs := by
    have : ∀ xs ys : List Fr, lenF (xs ++ ys) = lenF xs + lenF ys := by
      intro xs ys
      induction xs with
      | nil => exact (Nat.zero_add _).symm
      | cons X xs ih => show 4 + X.b.length + lenF (xs ++ ys) = 4 + X.b.length + lenF xs + lenF ys; rw [ih]; omega
    rw [htk, this]
  have hdr : fs.drop (m + gs.length) = (fs.drop m).drop gs.length := (List.drop_drop).symm
  -- what is due
  have hsel : selF (at_ : Nat) ((at_ : Nat) + (P.length : Nat)) 0 fs = gs := by
    have e : fs = fs.take m ++ fs.drop m := (List.take_append_drop m fs).symm
    rw [e, selF_skip (fs.take m) (fs.drop m) 0 (by omega), Nat.zero_add, selF_fit _ _ (fun F t hF => ?_) (by omega)]
    · rw [← hg]
      congr 1
      omega
    · rw [hF] at hf
      rw [fitF] at hf
      split at hf
      · cases hf
      · omega
  refine ⟨m + gs.length, at_ + P.length, ?_⟩
  have hH0 : ∀ x ∈ (lineL (fs.drop m) T).take (at_ - lenF (fs.take m)) ++ P, 0 ≤ x := fun x hx => by
    rw [hHP] at hx
    exact hposL (fs.drop m) T (fun F hF => hG F (List.mem_of_mem_drop hF)) hT0 x (List.mem_of_mem_take hx)
  generalize hH : (lineL (fs.drop m) T).take (at_ - lenF (fs.take m)) = H at *
  have hHl : H.length ≤ 5000 := by rw [← hH, List.length_take]; omega
  have fd := fed_eq (n := 3) (H0 := H) (P := P) (S := [rowD R, lsD (fs.map tpD), lsD ((endsL 0 fs).map D.int), cuD H] ++ G) rfl hH0 (by omega)
  rw [hHP, hfed] at fd
  simp only at fd
  have hset : ([rowD R, lsD (fs.map tpD), lsD ((endsL 0 fs).map D.int), cuD H] ++ G).set 3 (cuD ((lineL (fs.drop m) T).take (at_ + P.length - lenF (fs.take m)))) = [rowD R, lsD (fs.map tpD), lsD ((endsL 0 fs).map D.int), cuD ((lineL (fs.drop m) T).take (at_ + P.length - lenF (fs.take m)))] ++ G := rfl
  rw [hset] at fd
  have hrest : (lineL (fs.drop (m + gs.length)) T).take (at_ + P.length - lenF (fs.take (m + gs.length))) = ((lineL (fs.drop m) T).take (at_ + P.length - lenF (fs.take m))).drop (lenF gs) := by
    have := line_drop T (fs.drop m) (at_ + P.length - lenF (fs.take m))
    rw [hg] at this
    rw [hdr, ← this, List.drop_take, hlt]
    congr 1
    omega
  rw [← hrest] at fd
  -- the run
  have gsl : ∀ S, fSl (inD1 (lineL fs T)) (some ((at_ : Nat) : Int)) (some ((at_ : Nat) + z)) S = some (.ok (inD1 P), S) := fun S => by
    show some (Except.ok (D.fl (cutD ((lineL fs T).map D.int) (some _) (some _))), S) = _
    rw [cut_nat (by omega) (by omega), ← List.map_drop, ← List.map_take, ← hP]
    rw [show (((at_ : Nat) : Int) + z).toNat - ((at_ : Nat) : Int).toNat = z.toNat by omega, Int.toNat_natCast]
    rfl
  have gli : ∀ S, fList (inD1 P) S = some (.ok (inD1 P), S) := fun _ => rfl
  have gle := fLen_in P
  have gne : ∀ S, fNe (inD1 P) (inD1 P) S = some (.ok (.bl false), S) := fun S => by unfold fNe inD1; rw [eqD_ints]; simp
  generalize hS0 : [rowD R, lsD (fs.map tpD), lsD ((endsL 0 fs).map D.int), cuD H] ++ G = S0 at *
  have hS01 : S0[1]? = some (lsD (fs.map tpD)) := by rw [← hS0]; rfl
  have hS02 : S0[2]? = some (lsD ((endsL 0 fs).map D.int)) := by rw [← hS0]; rfl
  have hS03 : S0[3]? = some (cuD H) := by rw [← hS0]; rfl
  have hiz : iZ (eVar 4) (eVar 6) (msl ns way cut (lineL fs T) o7 o8 o9 o10 (at_ + P.length : Nat) (m : Nat) (some (.int k)) (some (.int z)) (some (inD1 P)) (some (inD1 P)) o18 o19 3) S0 = some (.ok (fun S' => match Sim.listOf (.ref 1) S', Sim.listOf (.ref 2) S' with
      | some xs, some ys => some (zipD xs ys)
      | _, _ => none), S0) := by
    unfold iZ msl
    simp only [mir]
    rw [if_pos ⟨by rw [hS01]; rfl, by rw [hS02]; rfl⟩]
    try rfl
  have hcomp : eComp [7, 19] (iZ (eVar 4) (eVar 6)) (.many [7, 19]) (tOf (eChain fLt fLe (e2 fSub (eVar 12) (eA (a1 fLen) (aCons (eVar 16) (aNil)))) (eVar 19) (eVar 12))) (eVar 7) (msl ns way cut (lineL fs T) o7 o8 o9 o10 (at_ + P.length : Nat) (m : Nat) (some (.int k)) (some (.int z)) (some (inD1 P)) (some (inD1 P)) o18 o19 3) S0 = some (.ok (.fl (gs.map tpD)), S0) := by
    have hsrc : (fun S' : Store => match Sim.listOf (.ref 1) S', Sim.listOf (.ref 2) S' with
      | some xs, some ys => some (zipD xs ys)
      | _, _ => none) S0 = some (zipD (fs.map tpD) ((endsL 0 fs).map D.int)) := by
      simp only [listOf_ref (b := false) hS01, listOf_ref (b := false) hS02]
    have hti : ∀ (F : Fr) (e : Int), (tOf (eChain fLt fLe (e2 fSub (eVar 12) (eA (a1 fLen) (aCons (eVar 16) (aNil)))) (eVar 19) (eVar 12))) (((wipeD (msl ns way cut (lineL fs T) o7 o8 o9 o10 (at_ + P.length : Nat) (m : Nat) (some (.int k)) (some (.int z)) (some (inD1 P)) (some (inD1 P)) o18 o19 3) [7, 19]).set 7 (some (tpD F))).set 19 (some (.int e))) S0 = some (.ok (decide ((at_ : Nat) < e ∧ e ≤ (at_ : Nat) + (P.length : Nat))), S0) := fun F e => by
      unfold msl
      simp only [Sim.wipeD]
      by_cases c : ((at_ : Nat) : Int) < e
      · have c2 : (((at_ + P.length : Nat) : Int) - (P.length : Nat) < e) = True := eq_true (by omega)
        by_cases d : e ≤ (at_ : Nat) + (P.length : Nat)
        · have d2 : (e ≤ ((at_ + P.length : Nat) : Int)) = True := eq_true (by omega)
          simp only [mir, gle, c2, d2, c, d, and_self]
        · have d2 : (e ≤ ((at_ + P.length : Nat) : Int)) = False := eq_false (by omega)
          simp only [mir, gle, c2, d2, c, d, and_false]
      · have c2 : (((at_ + P.length : Nat) : Int) - (P.length : Nat) < e) = False := eq_false (by omega)
        simp only [mir, gle, c2, c, false_and]
    unfold eComp
    rw [hiz]
    simp only [bnd, hsrc]
    rw [compG_st hsrc (fun d hd => by
      obtain ⟨i, hi⟩ := List.mem_iff_getElem?.mp hd
      obtain ⟨x, y, h1, h2, rfl⟩ := zip_get hi
      rw [List.getElem?_map] at h1 h2
      cases e1 : fs[i]? with
      | none => rw [e1] at h1; cases h1
      | some F =>
        rw [e1] at h1
        cases h1
        cases e2 : (endsL 0 fs)[i]? with
        | none => rw [e2] at h2; cases h2
        | some e =>
          rw [e2] at h2
          cases h2
          refine ⟨_, _, tpD F, rfl, hti F e, ?_⟩
          unfold msl
          simp only [Sim.wipeD]
          simp only [mir]), compG_all, comp_sel (a := (at_ : Nat)) (b := (at_ : Nat) + (P.length : Nat)) (by unfold msl; simp [Sim.wipeD]) hti fs 0 [] (by simp; omega), hsel]
    rfl
  have isF : isI 4 "fed" S0[3]? = true := by rw [hS03]; rfl
  generalize hW : (WW' ([rowD R, lsD (fs.map tpD), lsD ((endsL 0 fs).map D.int), cuD ((lineL (fs.drop m) T).take (at_ + P.length - lenF (fs.take m)))] ++ G) gs).set 3 (cuD ((lineL (fs.drop (m + gs.length)) T).take (at_ + P.length - lenF (fs.take (m + gs.length))))) = W at fd
  have hS0l : S0.length = ([rowD R, lsD (fs.map tpD), lsD ((endsL 0 fs).map D.int), cuD ((lineL (fs.drop m) T).take (at_ + P.length - lenF (fs.take m)))] ++ G).length := by rw [← hS0]; rfl
  have h3l : 3 < S0.length := by rw [← hS0]; simp
  have hr : W[S0.length]? = some (lsD (rfD (S0.length + 1) gs.length)) := by
    rw [← hW, List.getElem?_set_ne (by omega), hS0l]
    exact WW_get0 _ gs
  have hfr : ∀ i F, gs[i]? = some F → W[S0.length + 1 + i]? = some (frD F) := fun i F hi => by
    rw [← hW, List.getElem?_set_ne (by omega), hS0l]
    unfold WW'
    rw [List.getElem?_append_right (by omega), show ∀ a b : Nat, a + 1 + b - a = b + 1 by intro a b; omega, List.getElem?_cons_succ, List.getElem?_map, hi]
    rfl
  have hWf : ∃ G', W = [rowD R, lsD (fs.map tpD), lsD ((endsL 0 fs).map D.int), cuD ((lineL (fs.drop (m + gs.length)) T).take (at_ + P.length - lenF (fs.take (m + gs.length))))] ++ G' := ⟨_, by rw [← hW]; rfl⟩
  obtain ⟨G', hG'⟩ := hWf
  have isl : ∀ T', T' = "list" → fIsi T' (.ref S0.length) W = some (.ok (.bl true), W) := fun T' e => by
    subst e
    unfold fIsi tyD
    simp only [hr, lsD]
    rfl
  have fle : lenC W[S0.length]? = some ((gs.length : Nat) : Int) := by
    rw [hr]
    show some (((rfD _ _).length : Nat) : Int) = _
    rw [rfD_len]
  obtain ⟨o7', o18', lps⟩ := same_loop (ns := ns) (way := way) (cut := cut) (at_ := ((at_ + P.length : Nat) : Int)) (told := (m : Nat)) (line := lineL fs T) (o7 := o7) (o8 := o8) (o14 := some (.int k)) (o15 := some (.int z)) (o16 := some (inD1 P)) (o17 := some (inD1 P)) (o18 := o18) (o19 := o19) (n := 3) hr hfr
  refine ⟨G', o7', some (.ref S0.length), some (.fl (gs.map tpD)), some (.int z), some (inD1 P), some (inD1 P), o18', o19, by omega, by omega, by omega, ?_, ?_⟩
  · rw [hdr, hlt, show at_ + P.length - (lenF (fs.take m) + lenF gs) = at_ + P.length - lenF (fs.take m) - lenF gs by omega]
    exact s3
  rw [← hG']
  unfold bM
  have e12 : ((at_ : Nat) : Int) + (P.length : Nat) = ((at_ + P.length : Nat) : Int) := by omega
  have e13 : ((m : Nat) : Int) + (gs.length : Nat) = ((m + gs.length : Nat) : Int) := by omega
  have gln : ∀ S, fLen (.fl (gs.map tpD)) S = some (.ok (.int (gs.length : Nat)), S) := fun S => by rw [fLen_fl, List.length_map]
  refine Eq.trans (hsz _) ?_
  unfold msl at hcomp lps ⊢
  unfold bS at lps
  simp only [mir, gsl, gli, gle, e12, hcomp, isF, fd, isl, fle, gln, gne, lps, e13]
theorem law_true : LawTrue m_law := fun ns hn => by
  obtain ⟨way, R1, t1, k1, w0, w1⟩ := draw (n := 0) (S := [rowD (row0 ns)]) 4 rfl (row0_ok ns) (by decide) (by decide)
  replace t1 : m__law_taken [.ref 0, .int 4] [rowD (row0 ns)] = some (.ok (.int way), [rowD R1]) := t1
  obtain ⟨cut, R2, t2, k2, c0, c1⟩ := draw (n := 0) (S := [rowD R1]) 1000000000 rfl k1 (by decide) (by decide)
  replace t2 : m__law_taken [.ref 0, .int 1000000000] [rowD R1] = some (.ok (.int cut), [rowD R2]) := t2
  obtain ⟨R3, fs, k3, hG, hfn, t3⟩ := frames_eq k2
  have gr : m__law_row [.scr ns] [] = some (.ok (.ref 0), [rowD (row0 ns)]) := row_eq ns []
  obtain ⟨a7, a8, a9, a10, lp1⟩ := line_loop (ns := ns) (way := way) (cut := cut) (R := R3) hG hfn
  have m0 : 0 ≤ cut % 4 := Int.emod_nonneg _ (by decide)
  have m1 : cut % 4 < 4 := Int.emod_lt_of_pos _ (by decide)
  obtain ⟨T, hT, hTl, hT0, hix⟩ : ∃ T : List Int, Short T ∧ T.length ≤ 5 ∧ (∀ x ∈ T, 0 ≤ x) ∧ ∀ S, fIx (.fl [.fl [], .fl [.int 3], .fl [.int 2, .int 1, .int 0], .fl [.int 2, .int 1, .int 0, .int 5, .int 9]]) (.int (cut % 4)) S = some (.ok (inD1 T), S) := by
    rcases (show cut % 4 = 0 ∨ cut % 4 = 1 ∨ cut % 4 = 2 ∨ cut % 4 = 3 by omega) with h | h | h | h <;> rw [h]
    · exact ⟨[], .inl (by decide), by decide, (fun _ h => nomatch h), fun S => rfl⟩
    · exact ⟨[3], .inl (by decide), by decide, by decide, fun S => rfl⟩
    · exact ⟨[2, 1, 0], .inl (by decide), by decide, by decide, fun S => rfl⟩
    · exact ⟨[2, 1, 0, 5, 9], .inr (by decide), by decide, by decide, fun S => rfl⟩
  have hle := lenF_le fs hG
  have hlen : (lineL fs T).length = lenF fs + T.length := lineL_len fs T
  have fad : ∀ S, fAdd (inD1 (lineL fs [])) (inD1 T) S = some (.ok (inD1 (lineL fs T)), S) := fun S => by
    rw [fAdd_in (by rw [lineL_len]; simp; omega), ← lineL_tail]
  have gle := fLen_in (lineL fs T)
  have cm := cutter_make [rowD R3, lsD (fs.map tpD), lsD ((endsL 0 fs).map D.int)]
  have fm := fun S => fMod_i (i := cut) (j := 4) (by decide) S
  obtain ⟨l', S', lp2, h⟩ := sFor_thru (items := iR1 (e2 fAdd (eA (a1 fLen) (aCons (eVar 5) (aNil))) (eC (.int 4)))) (tg := .one 14) (body := bM) (ds := rangeD 0 (((lineL fs T).length : Int) + 4).toNat)
    (fun i l S' => ∃ m at_ G o7 o9 o10 o14 o15 o16 o17 o18 o19, m ≤ fs.length ∧ at_ ≤ (lineL fs T).length ∧ lenF (fs.take m) ≤ at_ ∧ fitF (at_ - lenF (fs.take m)) (fs.drop m) = [] ∧
      l = msl ns way cut (lineL fs T) o7 a8 o9 o10 (at_ : Nat) (m : Nat) o14 o15 o16 o17 o18 o19 3 ∧ S' = [rowD R3, lsD (fs.map tpD), lsD ((endsL 0 fs).map D.int), cuD ((lineL (fs.drop m) T).take (at_ - lenF (fs.take m)))] ++ G)
    (l := msl ns way cut (lineL fs T) a7 a8 a9 a10 0 0 none none none none none none 3) (S := [rowD R3, lsD (fs.map tpD), lsD ((endsL 0 fs).map D.int), cuD []]) (S1 := [rowD R3, lsD (fs.map tpD), lsD ((endsL 0 fs).map D.int), cuD []])
    (iR1_ok (n := ((lineL fs T).length : Int) + 4) (by unfold msl; simp only [mir, gle]) (by omega) (by omega))
    ⟨0, 0, [], a7, a9, a10, none, none, none, none, none, none, Nat.zero_le _, Nat.zero_le _, Nat.le_refl _, (by
      show fitF 0 fs = []
      cases fs with
      | nil => rfl
      | cons F t => rw [fitF, if_neg (by omega)]), rfl, rfl⟩ (fun _ _ _ _ => rfl) (by
      rintro i d l S ⟨m, at_, G, o7, o9, o10, o14, o15, o16, o17, o18, o19, h1, h2, h3, h4, rfl, rfl⟩ hd
      obtain ⟨rfl, hi⟩ := rangeD_get hd
      obtain ⟨m', at', G', p7, p9, p10, p15, p16, p17, p18, p19, q1, q2, q3, q4, e⟩ := turn_eq (ns := ns) (way := way) (cut := cut) (k := 0 + (i : Nat)) (R := R3) (G := G) (o7 := o7) (o8 := a8) (o9 := o9) (o10 := o10) (o15 := o15) (o16 := o16) (o17 := o17) (o18 := o18) (o19 := o19) hG hfn hT hTl hT0 (by omega) h1 h2 h3 h4
      exact ⟨_, rfl, _, _, e, m', at', G', p7, p9, p10, _, p15, p16, p17, p18, p19, q1, q2, q3, q4, rfl, rfl⟩)
  obtain ⟨m, at_, G, o7, o9, o10, o14, o15, o16, o17, o18, o19, h1, h2, h3, h4, rfl, rfl⟩ := h
  have hend : ¬ at_ < (lineL fs T).length → m = fs.length := fun hc => by
    have e1 : at_ = (lineL fs T).length := by omega
    cases hd : fs.drop m with
    | nil =>
      have := congrArg List.length hd
      rw [List.length_drop] at this
      simp at this
      omega
    | cons F t =>
      exfalso
      have hx : lenF fs = lenF (fs.take m) + (4 + F.b.length + lenF t) := by
        have e : fs = fs.take m ++ fs.drop m := (List.take_append_drop m fs).symm
        have : ∀ xs ys : List Fr, lenF (xs ++ ys) = lenF xs + lenF ys := by
          intro xs ys
          induction xs with
          | nil => exact (Nat.zero_add _).symm
          | cons X xs ih => show 4 + X.b.length + lenF (xs ++ ys) = 4 + X.b.length + lenF xs + lenF ys; rw [ih]; omega
        rw [hd] at e
        conv => lhs; rw [e]
        rw [this]
        rfl
      rw [hd, fitF, if_pos (by omega)] at h4
      cases h4
  refine ⟨[rowD R3, lsD (fs.map tpD), lsD ((endsL 0 fs).map D.int), cuD ((lineL (fs.drop m) T).take (at_ - lenF (fs.take m)))] ++ G, ?_⟩
  have glf : ∀ S : Store, S[1]? = some (lsD (fs.map tpD)) → lenC S[1]? = some ((fs.length : Nat) : Int) := fun S h => by rw [h]; show some (((fs.map tpD).length : Nat) : Int) = _; rw [List.length_map]
  have glf' := glf ([rowD R3, lsD (fs.map tpD), lsD ((endsL 0 fs).map D.int), cuD ((lineL (fs.drop m) T).take (at_ - lenF (fs.take m)))] ++ G) rfl
  unfold m_law b_law; refine Eq.trans (fnM_l (l := [_, none, none, none, none, none, none, none, none, none, none, none, none, none, none, none, none, none, none, none]) rfl rfl _) ?_
  unfold lsl bA at lp1
  unfold msl bM at lp2
  generalize [rowD R3, lsD (fs.map tpD), lsD ((endsL 0 fs).map D.int), cuD ((lineL (fs.drop m) T).take (at_ - lenF (fs.take m)))] ++ G = S9 at *
  have lz : (⟨.lst [], false⟩ : Cell) = lsD [] := rfl
  have iz : D.fl [] = inD1 [] := rfl
  simp only [iz] at hix
  by_cases c : at_ < (lineL fs T).length
  · have c' : (((at_ : Nat) : Int) < ((lineL fs T).length : Nat)) = True := eq_true (by omega)
    simp only [mir, gr, t1, t2, t3, lz, iz, List.cons_append, List.nil_append, List.length_cons, List.length_nil, Nat.reduceAdd, lp1, hix, fm, fad, cm, lp2, gle, c']
  · have c' : (((at_ : Nat) : Int) < ((lineL fs T).length : Nat)) = False := eq_false (by omega)
    have c2 := hend c
    simp only [mir, gr, t1, t2, t3, lz, iz, List.cons_append, List.nil_append, List.length_cons, List.length_nil, Nat.reduceAdd, lp1, hix, fm, fad, cm, lp2, gle, c', glf', c2]
end Law

namespace Law
open PySem PySem.Spec L2 Sim
def topS (i : Nat) : Stmt := PySem.Challenge.pw_oneline_k03_frames_cut_anyhow.main.body.getD i (.Pass ⟨0, 0, 0, 0⟩)
abbrev s_Frame_init : Stmt := inClass (topS 2) 0
abbrev N_Frame_init : List Str := ["self", "kind", "flag", "talk", "numbers"]
abbrev s_framed : Stmt := topS 3
abbrev N_framed : List Str := ["kind", "flag", "talk", "numbers"]
abbrev s_Cutter_init : Stmt := inClass (topS 4) 0
abbrev N_Cutter_init : List Str := ["self"]
abbrev s_Cutter_fed : Stmt := inClass (topS 4) 1
abbrev N_Cutter_fed : List Str := ["self", "numbers", "found", "at", "behind"]
abbrev s__law_row : Stmt := topS 6
abbrev N__law_row : List Str := ["_law_script", "_law_mixed", "_law_cell"]
abbrev s__law_taken : Stmt := topS 7
abbrev N__law_taken : List Str := ["_law_row_here", "_law_many", "_law_found", "_law_cell"]
abbrev s__law_whole : Stmt := topS 8
abbrev N__law_whole : List Str := ["_law_found"]
abbrev s__law_list : Stmt := topS 9
abbrev N__law_list : List Str := ["_law_found", "_law_due", "_law_number"]
abbrev s__law_frames : Stmt := topS 10
abbrev N__law_frames : List Str := ["_law_row_here", "_law_found", "_law_k", "_law_cell", "_law_size", "_law_numbers", "_law_j"]
abbrev s__law_same : Stmt := topS 11
abbrev N__law_same : List Str := ["_law_frame", "_law_due"]
abbrev s_law : Stmt := topS 12
abbrev N_law : List Str := ["_law_script", "_law_row_here", "_law_way", "_law_cut", "_law_frames_here", "_law_line", "_law_ends", "_law_one", "_law_numbers", "_law_found", "_law_due", "_law_cutter", "_law_at", "_law_told", "_law_k", "_law_size", "_law_piece", "_law_handed", "_law_frame", "_law_behind"]
structure Txt (K : PySem.W.Frag) (mg : Str → Option Value) (ca : Nat → Addr) : Prop where
  std : Std mg
  cl_Frame : Cls K (ca 3)
  n_Frame_flag : NoAttr K (ca 3) "flag"
  n_Frame_kind : NoAttr K (ca 3) "kind"
  n_Frame_numbers : NoAttr K (ca 3) "numbers"
  n_Frame_talk : NoAttr K (ca 3) "talk"
  cl_Cutter : Cls K (ca 4)
  n_Cutter_held : NoAttr K (ca 4) "held"
  d_Frame_init : MakF K mg (ca 3) "Frame" "Frame.__init__" s_Frame_init ["self", "kind", "flag", "talk", "numbers"]
  d_framed : DefF K mg "framed" s_framed ["kind", "flag", "talk", "numbers"]
  d_Cutter_init : MakF K mg (ca 4) "Cutter" "Cutter.__init__" s_Cutter_init ["self"]
  d_Cutter_fed : MetF K (ca 4) "fed" "Cutter.fed" s_Cutter_fed ["self", "numbers"]
  d__law_row : DefF K mg "_law_row" s__law_row ["_law_script"]
  d__law_taken : DefF K mg "_law_taken" s__law_taken ["_law_row_here", "_law_many"]
  d__law_whole : DefF K mg "_law_whole" s__law_whole ["_law_found"]
  d__law_list : DefF K mg "_law_list" s__law_list ["_law_found", "_law_due"]
  d__law_frames : DefF K mg "_law_frames" s__law_frames ["_law_row_here"]
  d__law_same : DefF K mg "_law_same" s__law_same ["_law_frame", "_law_due"]
  d_law : DefF K mg "law" s_law ["_law_script"]
  ci_Frame : ClsI K mg ca 3 "Frame"
  g_AHEAD : ∃ t : Tok, mg "AHEAD" = some (.int 4 t)
section
variable {P : Program} {w : World} {K : PySem.W.Frag} {mg : Str → Option Value} {base : Heap} {ca : Nat → Addr}
theorem sc_Frame_init : FnScope N_Frame_init ["self", "kind", "flag", "talk", "numbers"] (defScope s_Frame_init) := ⟨rfl, rfl, rfl, by decide +kernel, rfl, by decide +kernel, by decide +kernel⟩
theorem body_Frame_init (T : Txt K mg ca) : BodyOk P w K mg base ca N_Frame_init "Frame.__init__" s_Frame_init 0 b_Frame_init := fun f cdv A outer s H E hr tk =>
  ss_cons (ss_fld ⟨T.cl_Frame, T.n_Frame_kind⟩ (sv 0) (sv 1) rfl)
  (ss_cons (ss_fld ⟨T.cl_Frame, T.n_Frame_flag⟩ (sv 0) (sv 2) rfl)
  (ss_cons (ss_fld ⟨T.cl_Frame, T.n_Frame_talk⟩ (sv 0) (sv 3) rfl)
  (ss_one (ss_fld ⟨T.cl_Frame, T.n_Frame_numbers⟩ (sv 0) (se_list T.std rfl (sa_cons (sv 4) (sa_nil) rfl) ⟨rfl, rfl⟩) rfl))))
theorem ok_Frame_init (T : Txt K mg ca) : MkS P w K mg base ca 1 3 "Frame" m_Frame_init := fn_mak T.d_Frame_init sc_Frame_init rfl (by decide) (body_Frame_init T)
theorem sc_framed : FnScope N_framed ["kind", "flag", "talk", "numbers"] (defScope s_framed) := ⟨rfl, rfl, rfl, by decide +kernel, rfl, by decide +kernel, by decide +kernel⟩
theorem body_framed (T : Txt K mg ca) : BodyOk P w K mg base ca N_framed "framed" s_framed 0 b_framed := fun f cdv A outer s H E hr tk =>
  ss_one (ss_ret (se_add (se_lst (sa_cons (se_len T.std rfl (sa_cons (sv 3) (sa_nil) rfl) ⟨rfl, rfl⟩) (sa_cons (sv 0) (sa_cons (sv 1) (sa_cons (sv 2) (sa_nil) rfl) rfl) rfl) rfl)) (se_list T.std rfl (sa_cons (sv 3) (sa_nil) rfl) ⟨rfl, rfl⟩)))
theorem ok_framed (T : Txt K mg ca) : FnS P w K mg base ca 1 "framed" m_framed := fn_def T.d_framed sc_framed rfl (by decide) (body_framed T)
theorem sc_Cutter_init : FnScope N_Cutter_init ["self"] (defScope s_Cutter_init) := ⟨rfl, rfl, rfl, by decide +kernel, rfl, by decide +kernel, by decide +kernel⟩
theorem body_Cutter_init (T : Txt K mg ca) : BodyOk P w K mg base ca N_Cutter_init "Cutter.__init__" s_Cutter_init 0 b_Cutter_init := fun f cdv A outer s H E hr tk =>
  ss_one (ss_fld ⟨T.cl_Cutter, T.n_Cutter_held⟩ (sv 0) (se_lst (sa_nil)) rfl)
theorem ok_Cutter_init (T : Txt K mg ca) : MkS P w K mg base ca 1 4 "Cutter" m_Cutter_init := fn_mak T.d_Cutter_init sc_Cutter_init rfl (by decide) (body_Cutter_init T)
theorem sc_Cutter_fed : FnScope N_Cutter_fed ["self", "numbers"] (defScope s_Cutter_fed) := ⟨rfl, rfl, rfl, by decide +kernel, rfl, by decide +kernel, by decide +kernel⟩
theorem body_Cutter_fed (T : Txt K mg ca) : BodyOk P w K mg base ca N_Cutter_fed "Cutter.fed" s_Cutter_fed 2 b_Cutter_fed := fun f cdv A outer s H E hr tk =>
  ss_cons (ss_fld ⟨T.cl_Cutter, T.n_Cutter_held⟩ (sv 0) (se_add (se_fld ⟨T.cl_Cutter, T.n_Cutter_held⟩ (sv 0) rfl) (se_list T.std rfl (sa_cons (sv 1) (sa_nil) rfl) ⟨rfl, rfl⟩)) rfl)
  (ss_cons (ss_set (i := 2) sc_Cutter_fed.nd rfl (.inl rfl) freeS.none (se_lstR (sa_nil)) rfl (by first | exact .inl rfl | exact .inr rfl))
  (ss_cons (ss_set (i := 3) sc_Cutter_fed.nd rfl (.inl rfl) freeS.none (se_int) rfl (by first | exact .inl rfl | exact .inr rfl))
  (ss_cons (ss_while (passes_of rfl) (st_w (sw_and (st_le  (se_add (sv 3) (se_globI T.g_AHEAD rfl (by decide))) (se_len T.std rfl (sa_cons (se_fld ⟨T.cl_Cutter, T.n_Cutter_held⟩ (sv 0) rfl) (sa_nil) rfl) ⟨rfl, rfl⟩)) (sw_and1 (st_le  (se_add (se_add (sv 3) (se_globI T.g_AHEAD rfl (by decide))) (se_ix (hu1 hr) (se_fld ⟨T.cl_Cutter, T.n_Cutter_held⟩ (sv 0) rfl) (sv 3) (fun _ _ => rfl))) (se_len T.std rfl (sa_cons (se_fld ⟨T.cl_Cutter, T.n_Cutter_held⟩ (sv 0) rfl) (sa_nil) rfl) ⟨rfl, rfl⟩))))) (ss_cons (ss_set (i := 4) sc_Cutter_fed.nd rfl (.inl rfl) freeS.none (se_add (se_add (sv 3) (se_globI T.g_AHEAD rfl (by decide))) (se_ix (hu1 hr) (se_fld ⟨T.cl_Cutter, T.n_Cutter_held⟩ (sv 0) rfl) (sv 3) (fun _ _ => rfl))) rfl (by first | exact .inl rfl | exact .inr rfl))
  (ss_cons (ss_drop (se_append (sv 2) (sa_cons (se_make (ok_Frame_init T) (hr.mono (by decide)) rfl (by decide) (sa_cons (se_ix (hu1 hr) (se_fld ⟨T.cl_Cutter, T.n_Cutter_held⟩ (sv 0) rfl) (se_add (sv 3) (se_int)) (fun _ _ => rfl)) (sa_cons (se_ix (hu1 hr) (se_fld ⟨T.cl_Cutter, T.n_Cutter_held⟩ (sv 0) rfl) (se_add (sv 3) (se_int)) (fun _ _ => rfl)) (sa_cons (se_ix (hu1 hr) (se_fld ⟨T.cl_Cutter, T.n_Cutter_held⟩ (sv 0) rfl) (se_add (sv 3) (se_int)) (fun _ _ => rfl)) (sa_cons (se_sl (se_fld ⟨T.cl_Cutter, T.n_Cutter_held⟩ (sv 0) rfl) (so_so (se_add (sv 3) (se_globI T.g_AHEAD rfl (by decide)))) (so_so (sv 4))) (sa_nil) rfl) rfl) rfl) rfl) ⟨rfl, rfl⟩) (sa_nil) rfl) ⟨rfl, rfl, rfl⟩ ⟨rfl, rfl⟩) rfl)
  (ss_one (ss_set (i := 3) sc_Cutter_fed.nd rfl (.inl rfl) freeS.none (sv 4) rfl (by first | exact .inl rfl | exact .inr rfl))))))
  (ss_cons (ss_fld ⟨T.cl_Cutter, T.n_Cutter_held⟩ (sv 0) (se_sl (se_fld ⟨T.cl_Cutter, T.n_Cutter_held⟩ (sv 0) rfl) (so_so (sv 3)) so_no) rfl)
  (ss_one (ss_ret (sv 2)))))))
theorem ok_Cutter_fed (T : Txt K mg ca) : MeS P w K mg base ca 3 4 "fed" m_Cutter_fed := fn_met T.cl_Cutter T.d_Cutter_fed sc_Cutter_fed rfl (by decide) (body_Cutter_fed T)
theorem sc__law_row : FnScope N__law_row ["_law_script"] (defScope s__law_row) := ⟨rfl, rfl, rfl, by decide +kernel, rfl, by decide +kernel, by decide +kernel⟩
theorem body__law_row (T : Txt K mg ca) : BodyOk P w K mg base ca N__law_row "_law_row" s__law_row 0 b__law_row := fun f cdv A outer s H E hr tk =>
  ss_cons (ss_set (i := 1) sc__law_row.nd rfl (.inl rfl) freeS.none (se_int) rfl (by first | exact .inl rfl | exact .inr rfl))
  (ss_cons (ss_for (tgd := .one 2) (passes_of rfl) rfl (tg_one freeS.none) (pg_name (i := 2) sc__law_row.nd rfl (.inl rfl)) (si_list (sv 0)) (ss_one (ss_set (i := 1) sc__law_row.nd rfl (.inl rfl) freeS.none (se_mod (se_add (se_add (se_mul (sv 1) (se_int)) (sv 2)) (se_int)) (se_int)) rfl (by first | exact .inl rfl | exact .inr rfl))) (fun _ => rfl))
  (ss_one (ss_ret (se_lstR (sa_cons (sv 0) (sa_cons (se_int) (sa_cons (se_int) (sa_cons (sv 1) (sa_nil) rfl) rfl) rfl) rfl)))))
theorem ok__law_row (T : Txt K mg ca) : FnS P w K mg base ca 1 "_law_row" m__law_row := fn_def T.d__law_row sc__law_row rfl (by decide) (body__law_row T)
theorem sc__law_taken : FnScope N__law_taken ["_law_row_here", "_law_many"] (defScope s__law_taken) := ⟨rfl, rfl, rfl, by decide +kernel, rfl, by decide +kernel, by decide +kernel⟩
theorem body__law_taken (T : Txt K mg ca) : BodyOk P w K mg base ca N__law_taken "_law_taken" s__law_taken 0 b__law_taken := fun f cdv A outer s H E hr tk =>
  ss_cons (ss_if (st_gt  (se_ix (hu1 hr) (sv 0) (se_int) (fun _ _ => rfl)) (se_int)) (ss_cons (ss_set (i := 2) sc__law_taken.nd rfl (.inl rfl) freeS.none (se_mod (se_ix (hu1 hr) (sv 0) (se_int) (fun _ _ => rfl)) (sv 1)) rfl (by first | exact .inl rfl | exact .inr rfl))
  (ss_cons (ss_put (hu1 hr) (sv 0) (se_int) (se_div (se_ix (hu1 hr) (sv 0) (se_int) (fun _ _ => rfl)) (sv 1)) rfl rfl rfl rfl (fun _ => rfl))
  (ss_one (ss_ret (sv 2))))) (ss_nil))
  (ss_cons (ss_if (st_lt (hu0 hr) (se_ix (hu1 hr) (sv 0) (se_int) (fun _ _ => rfl)) (se_len T.std rfl (sa_cons (se_ix (hu1 hr) (sv 0) (se_int) (fun _ _ => rfl)) (sa_nil) rfl) ⟨rfl, rfl⟩)) (ss_cons (ss_set (i := 3) sc__law_taken.nd rfl (.inl rfl) freeS.none (se_ix (hu1 hr) (se_ix (hu1 hr) (sv 0) (se_int) (fun _ _ => rfl)) (se_ix (hu1 hr) (sv 0) (se_int) (fun _ _ => rfl)) (fun _ _ => rfl)) rfl (by first | exact .inl rfl | exact .inr rfl))
  (ss_cons (ss_put (hu1 hr) (sv 0) (se_int) (se_add (se_ix (hu1 hr) (sv 0) (se_int) (fun _ _ => rfl)) (se_int)) rfl rfl rfl rfl (fun _ => rfl))
  (ss_cons (ss_if (st_ge  (sv 3) (se_pow (se_int) (se_int))) (ss_one (ss_put (hu1 hr) (sv 0) (se_int) (se_div (sv 3) (sv 1)) rfl rfl rfl rfl (fun _ => rfl))) (ss_nil))
  (ss_one (ss_ret (se_mod (sv 3) (sv 1))))))) (ss_nil))
  (ss_cons (ss_put (hu1 hr) (sv 0) (se_int) (se_mod (se_add (se_mul (se_ix (hu1 hr) (sv 0) (se_int) (fun _ _ => rfl)) (se_int)) (se_int)) (se_int)) rfl rfl rfl rfl (fun _ => rfl))
  (ss_one (ss_ret (se_mod (se_div (se_ix (hu1 hr) (sv 0) (se_int) (fun _ _ => rfl)) (se_int)) (sv 1))))))
theorem ok__law_taken (T : Txt K mg ca) : FnS P w K mg base ca 1 "_law_taken" m__law_taken := fn_def T.d__law_taken sc__law_taken rfl (by decide) (body__law_taken T)
theorem sc__law_whole : FnScope N__law_whole ["_law_found"] (defScope s__law_whole) := ⟨rfl, rfl, rfl, by decide +kernel, rfl, by decide +kernel, by decide +kernel⟩
theorem body__law_whole (T : Txt K mg ca) : BodyOk P w K mg base ca N__law_whole "_law_whole" s__law_whole 0 b__law_whole := fun f cdv A outer s H E hr tk =>
  ss_one (ss_ret (se_and (se_isI T.std rfl rfl (sv 0) ⟨rfl, rfl⟩ ⟨rfl, rfl⟩) (se_one (se_not (se_isB T.std rfl rfl (sv 0) ⟨rfl, rfl⟩ ⟨rfl, rfl⟩)))))
theorem ok__law_whole (T : Txt K mg ca) : FnS P w K mg base ca 1 "_law_whole" m__law_whole := fn_def T.d__law_whole sc__law_whole rfl (by decide) (body__law_whole T)
theorem sc__law_list : FnScope N__law_list ["_law_found", "_law_due"] (defScope s__law_list) := ⟨rfl, rfl, rfl, by decide +kernel, rfl, by decide +kernel, by decide +kernel⟩
theorem body__law_list (T : Txt K mg ca) : BodyOk P w K mg base ca N__law_list "_law_list" s__law_list 1 b__law_list := fun f cdv A outer s H E hr tk =>
  ss_cons (ss_if (st_w (sw_or (st_not (st_val (se_isL T.std rfl rfl (sv 0) ⟨rfl, rfl⟩ ⟨rfl, rfl⟩) (by intro _; rfl))) (sw_or1 (st_ne (hu64 hr) (se_len T.std rfl (sa_cons (sv 0) (sa_nil) rfl) ⟨rfl, rfl⟩) (se_len T.std rfl (sa_cons (sv 1) (sa_nil) rfl) ⟨rfl, rfl⟩))))) (ss_one (ss_ret (se_bl))) (ss_nil))
  (ss_cons (ss_for (tgd := .one 2) (passes_of rfl) rfl (tg_one freeS.none) (pg_name (i := 2) sc__law_list.nd rfl (.inl rfl)) (si_list (sv 0)) (ss_one (ss_if (st_not (st_val (se_call (ok__law_whole T) (hr.mono (by decide)) tk rfl (by decide) (sa_cons (sv 2) (sa_nil) rfl) ⟨rfl, rfl⟩) (by intro _; rfl))) (ss_one (ss_ret (se_bl))) (ss_nil))) (fun _ => rfl))
  (ss_one (ss_ret (se_eq (hu64 hr) (sv 0) (sv 1)))))
theorem ok__law_list (T : Txt K mg ca) : FnS P w K mg base ca 2 "_law_list" m__law_list := fn_def T.d__law_list sc__law_list rfl (by decide) (body__law_list T)
theorem sc__law_frames : FnScope N__law_frames ["_law_row_here"] (defScope s__law_frames) := ⟨rfl, rfl, rfl, by decide +kernel, rfl, by decide +kernel, by decide +kernel⟩
theorem body__law_frames (T : Txt K mg ca) : BodyOk P w K mg base ca N__law_frames "_law_frames" s__law_frames 1 b__law_frames := fun f cdv A outer s H E hr tk =>
  ss_cons (ss_set (i := 1) sc__law_frames.nd rfl (.inl rfl) freeS.none (se_lstR (sa_nil)) rfl (by first | exact .inl rfl | exact .inr rfl))
  (ss_cons (ss_for (tgd := .one 2) (passes_of rfl) rfl (tg_one freeS.none) (pg_name (i := 2) sc__law_frames.nd rfl (.inl rfl)) (si_r1 T.std.range rfl (se_call (ok__law_taken T) (hr.mono (by decide)) tk rfl (by decide) (sa_cons (sv 0) (sa_cons (se_int) (sa_nil) rfl) rfl) ⟨rfl, rfl⟩) rfl rfl) (ss_cons (ss_set (i := 3) sc__law_frames.nd rfl (.inr rfl) freeS.none (se_call (ok__law_taken T) (hr.mono (by decide)) tk rfl (by decide) (sa_cons (sv 0) (sa_cons (se_pow (se_int) (se_int)) (sa_nil) rfl) rfl) ⟨rfl, rfl⟩) rfl (by first | exact .inl rfl | exact .inr rfl))
  (ss_cons (ss_set (i := 4) sc__law_frames.nd rfl (.inl rfl) freeS.none (se_mod (sv 3) (se_int)) rfl (by first | exact .inl rfl | exact .inr rfl))
  (ss_cons (ss_if (st_eq (hu64 hr) (se_mod (se_div (sv 3) (se_int)) (se_int)) (se_int)) (ss_one (ss_set (i := 4) sc__law_frames.nd rfl (.inl rfl) freeS.none (se_add (se_int) (se_mod (se_div (sv 3) (se_int)) (se_int))) rfl (by first | exact .inl rfl | exact .inr rfl))) (ss_nil))
  (ss_cons (ss_setLc (own := [("_law_j", 6)]) (tgd := .one 6) (i := 5) ⟨rfl, sc__law_frames.nd, blkOk_by (own := [("_law_j", 6)]) (N := N__law_frames) (sc := defScope s__law_frames) (by decide +kernel), tg_one freeS.none, by decide, fun _ _ _ _ _ => pg_name (i := 6) sc__law_frames.nd rfl (.inl rfl), fun _ _ _ _ _ => ts_nil, fun _ _ _ _ _ => se_mod (se_add (se_div (sv 3) (se_int)) (se_mul (sv 6) (se_add (se_int) (se_mod (sv 3) (se_int))))) (se_int), fun _ => rfl⟩ rfl rfl freeS.none (sw_true rfl rfl rfl (by decide +kernel)) (si_r1 T.std.range rfl (sv 4) rfl rfl))
  (ss_one (ss_drop (se_append (sv 1) (sa_cons (se_tup (sa_cons (se_call (ok__law_taken T) (hr.mono (by decide)) tk rfl (by decide) (sa_cons (sv 0) (sa_cons (se_int) (sa_nil) rfl) rfl) ⟨rfl, rfl⟩) (sa_cons (se_mod (se_div (sv 3) (se_int)) (se_int)) (sa_cons (se_mod (se_div (sv 3) (se_int)) (se_int)) (sa_cons (sv 5) (sa_nil) rfl) rfl) rfl) rfl)) (sa_nil) rfl) ⟨rfl, rfl, rfl⟩ ⟨rfl, rfl⟩) rfl)))))) (fun _ => rfl))
  (ss_one (ss_ret (sv 1))))
theorem ok__law_frames (T : Txt K mg ca) : FnS P w K mg base ca 2 "_law_frames" m__law_frames := fn_def T.d__law_frames sc__law_frames rfl (by decide) (body__law_frames T)
theorem sc__law_same : FnScope N__law_same ["_law_frame", "_law_due"] (defScope s__law_same) := ⟨rfl, rfl, rfl, by decide +kernel, rfl, by decide +kernel, by decide +kernel⟩
theorem body__law_same (T : Txt K mg ca) : BodyOk P w K mg base ca N__law_same "_law_same" s__law_same 2 b__law_same := fun f cdv A outer s H E hr tk =>
  ss_cons (ss_if (st_w (sw_or (st_not (st_val (se_isC T.ci_Frame T.std.isinstance rfl rfl (by decide) (sv 0) ⟨rfl, rfl⟩ ⟨rfl, rfl⟩) (by intro _; rfl))) (sw_or1 (st_not (st_val (se_call (ok__law_list T) (hr.mono (by decide)) tk rfl (by decide) (sa_cons (se_lst (sa_cons (se_fld ⟨T.cl_Frame, T.n_Frame_kind⟩ (sv 0) rfl) (sa_cons (se_fld ⟨T.cl_Frame, T.n_Frame_flag⟩ (sv 0) rfl) (sa_cons (se_fld ⟨T.cl_Frame, T.n_Frame_talk⟩ (sv 0) rfl) (sa_nil) rfl) rfl) rfl)) (sa_cons (se_list T.std rfl (sa_cons (se_sl (sv 1) so_no (so_so (se_int))) (sa_nil) rfl) ⟨rfl, rfl⟩) (sa_nil) rfl) rfl) ⟨rfl, rfl⟩) (by intro _; rfl)))))) (ss_one (ss_ret (se_bl))) (ss_nil))
  (ss_one (ss_ret (se_call (ok__law_list T) (hr.mono (by decide)) tk rfl (by decide) (sa_cons (se_fld ⟨T.cl_Frame, T.n_Frame_numbers⟩ (sv 0) rfl) (sa_cons (se_ix (hu1 hr) (sv 1) (se_int) (fun _ _ => rfl)) (sa_nil) rfl) rfl) ⟨rfl, rfl⟩)))
theorem ok__law_same (T : Txt K mg ca) : FnS P w K mg base ca 3 "_law_same" m__law_same := fn_def T.d__law_same sc__law_same rfl (by decide) (body__law_same T)
theorem sc_law : FnScope N_law ["_law_script"] (defScope s_law) := ⟨rfl, rfl, rfl, by decide +kernel, rfl, by decide +kernel, by decide +kernel⟩
theorem body_law (T : Txt K mg ca) : BodyOk P w K mg base ca N_law "law" s_law 3 b_law := fun f cdv A outer s H E hr tk =>
  ss_cons (ss_set (i := 1) sc_law.nd rfl (.inl rfl) freeS.none (se_call (ok__law_row T) (hr.mono (by decide)) tk rfl (by decide) (sa_cons (sv 0) (sa_nil) rfl) ⟨rfl, rfl⟩) rfl (by first | exact .inl rfl | exact .inr rfl))
  (ss_cons (ss_set (i := 2) sc_law.nd rfl (.inl rfl) freeS.none (se_call (ok__law_taken T) (hr.mono (by decide)) tk rfl (by decide) (sa_cons (sv 1) (sa_cons (se_int) (sa_nil) rfl) rfl) ⟨rfl, rfl⟩) rfl (by first | exact .inl rfl | exact .inr rfl))
  (ss_cons (ss_set (i := 3) sc_law.nd rfl (.inl rfl) freeS.none (se_call (ok__law_taken T) (hr.mono (by decide)) tk rfl (by decide) (sa_cons (sv 1) (sa_cons (se_pow (se_int) (se_int)) (sa_nil) rfl) rfl) ⟨rfl, rfl⟩) rfl (by first | exact .inl rfl | exact .inr rfl))
  (ss_cons (ss_set (i := 4) sc_law.nd rfl (.inl rfl) freeS.none (se_call (ok__law_frames T) (hr.mono (by decide)) tk rfl (by decide) (sa_cons (sv 1) (sa_nil) rfl) ⟨rfl, rfl⟩) rfl (by first | exact .inl rfl | exact .inr rfl))
  (ss_cons (ss_set (i := 5) sc_law.nd rfl (.inl rfl) freeS.none (se_lst (sa_nil)) rfl (by first | exact .inl rfl | exact .inr rfl))
  (ss_cons (ss_set (i := 6) sc_law.nd rfl (.inl rfl) freeS.none (se_lstR (sa_nil)) rfl (by first | exact .inl rfl | exact .inr rfl))
  (ss_cons (ss_for (tgd := .one 7) (passes_of rfl) rfl (tg_one freeS.none) (pg_name (i := 7) sc_law.nd rfl (.inl rfl)) (si_list (sv 4)) (ss_cons (ss_set (i := 8) sc_law.nd rfl (.inl rfl) freeS.none (se_list T.std rfl (sa_cons (se_ix (hu1 hr) (sv 7) (se_int) (fun _ _ => rfl)) (sa_nil) rfl) ⟨rfl, rfl⟩) rfl (by first | exact .inl rfl | exact .inr rfl))
  (ss_cons (ss_set (i := 9) sc_law.nd rfl (.inl rfl) freeS.none (se_call (ok_framed T) (hr.mono (by decide)) tk rfl (by decide) (sa_cons (se_ix (hu1 hr) (sv 7) (se_int) (fun _ _ => rfl)) (sa_cons (se_ix (hu1 hr) (sv 7) (se_int) (fun _ _ => rfl)) (sa_cons (se_ix (hu1 hr) (sv 7) (se_int) (fun _ _ => rfl)) (sa_cons (sv 8) (sa_nil) rfl) rfl) rfl) rfl) ⟨rfl, rfl⟩) rfl (by first | exact .inl rfl | exact .inr rfl))
  (ss_cons (ss_set (i := 10) sc_law.nd rfl (.inl rfl) freeS.none (se_add (se_lst (sa_cons (se_len T.std rfl (sa_cons (se_ix (hu1 hr) (sv 7) (se_int) (fun _ _ => rfl)) (sa_nil) rfl) ⟨rfl, rfl⟩) (sa_cons (se_ix (hu1 hr) (sv 7) (se_int) (fun _ _ => rfl)) (sa_cons (se_ix (hu1 hr) (sv 7) (se_int) (fun _ _ => rfl)) (sa_cons (se_ix (hu1 hr) (sv 7) (se_int) (fun _ _ => rfl)) (sa_nil) rfl) rfl) rfl) rfl)) (se_ix (hu1 hr) (sv 7) (se_int) (fun _ _ => rfl))) rfl (by first | exact .inl rfl | exact .inr rfl))
  (ss_cons (ss_if (st_w (sw_or (st_not (st_val (se_call (ok__law_list T) (hr.mono (by decide)) tk rfl (by decide) (sa_cons (sv 9) (sa_cons (sv 10) (sa_nil) rfl) rfl) ⟨rfl, rfl⟩) (by intro _; rfl))) (sw_or1 (st_ne (hu64 hr) (sv 8) (se_ix (hu1 hr) (sv 7) (se_int) (fun _ _ => rfl)))))) (ss_one (ss_ret (se_bl))) (ss_nil))
  (ss_cons (ss_set (i := 5) sc_law.nd rfl (.inl rfl) freeS.none (se_add (sv 5) (sv 10)) rfl (by first | exact .inl rfl | exact .inr rfl))
  (ss_one (ss_drop (se_append (sv 6) (sa_cons (se_len T.std rfl (sa_cons (sv 5) (sa_nil) rfl) ⟨rfl, rfl⟩) (sa_nil) rfl) ⟨rfl, rfl, rfl⟩ ⟨rfl, rfl⟩) rfl))))))) (fun _ => rfl))
  (ss_cons (ss_set (i := 5) sc_law.nd rfl (.inl rfl) freeS.none (se_add (sv 5) (se_ix (hu1 hr) (se_lst (sa_cons (se_lst (sa_nil)) (sa_cons (se_lst (sa_cons (se_int) (sa_nil) rfl)) (sa_cons (se_lst (sa_cons (se_int) (sa_cons (se_int) (sa_cons (se_int) (sa_nil) rfl) rfl) rfl)) (sa_cons (se_lst (sa_cons (se_int) (sa_cons (se_int) (sa_cons (se_int) (sa_cons (se_int) (sa_cons (se_int) (sa_nil) rfl) rfl) rfl) rfl) rfl)) (sa_nil) rfl) rfl) rfl) rfl)) (se_mod (sv 3) (se_int)) (fun _ _ => rfl))) rfl (by first | exact .inl rfl | exact .inr rfl))
  (ss_cons (ss_set (i := 11) sc_law.nd rfl (.inl rfl) freeS.none (se_make0 (ok_Cutter_init T) (hr.mono (by decide)) rfl (by decide)) rfl (by first | exact .inl rfl | exact .inr rfl))
  (ss_cons (ss_set (i := 12) sc_law.nd rfl (.inr rfl) freeS.none (se_int) rfl (by first | exact .inl rfl | exact .inr rfl))
  (ss_cons (ss_set (i := 13) sc_law.nd rfl (.inl rfl) freeS.none (se_int) rfl (by first | exact .inl rfl | exact .inr rfl))
  (ss_cons (ss_for (tgd := .one 14) (passes_of rfl) rfl (tg_one freeS.none) (pg_name (i := 14) sc_law.nd rfl (.inl rfl)) (si_r1 T.std.range rfl (se_add (se_len T.std rfl (sa_cons (sv 5) (sa_nil) rfl) ⟨rfl, rfl⟩) (se_int)) rfl rfl) (ss_cons (ss_set (i := 15) sc_law.nd rfl (.inl rfl) freeS.none (se_add (se_mod (se_div (sv 3) (se_add (se_int) (se_mod (sv 14) (se_int)))) (se_int)) (se_intC T.std rfl (sa_cons (se_eq (hu64 hr) (se_mod (sv 14) (se_int)) (se_int)) (sa_nil) rfl) ⟨rfl, rfl⟩)) rfl (by first | exact .inl rfl | exact .inr rfl))
  (ss_cons (ss_if (st_eq (hu64 hr) (sv 2) (se_int)) (ss_one (ss_set (i := 15) sc_law.nd rfl (.inl rfl) freeS.none (se_int) rfl (by first | exact .inl rfl | exact .inr rfl))) (ss_nil))
  (ss_cons (ss_set (i := 16) sc_law.nd rfl (.inr rfl) freeS.none (se_sl (sv 5) (so_so (sv 12)) (so_so (se_add (sv 12) (sv 15)))) rfl (by first | exact .inl rfl | exact .inr rfl))
  (ss_cons (ss_set (i := 17) sc_law.nd rfl (.inl rfl) freeS.none (se_list T.std rfl (sa_cons (sv 16) (sa_nil) rfl) ⟨rfl, rfl⟩) rfl (by first | exact .inl rfl | exact .inr rfl))
  (ss_cons (ss_set (i := 12) sc_law.nd rfl (.inr rfl) freeS.none (se_add (sv 12) (se_len T.std rfl (sa_cons (sv 16) (sa_nil) rfl) ⟨rfl, rfl⟩)) rfl (by first | exact .inl rfl | exact .inr rfl))
  (ss_cons (ss_setLc (own := [("_law_one", 7), ("_law_behind", 19)]) (tgd := .many [7, 19]) (i := 10) ⟨rfl, sc_law.nd, blkOk_by (own := [("_law_one", 7), ("_law_behind", 19)]) (N := N_law) (sc := defScope s_law) (by decide +kernel), tg_many (is := [7, 19]) (by intro i _; exact freeS.none), by decide, fun _ _ _ _ _ => pg_tup rfl (pgs_cons (pg_name (i := 7) sc_law.nd rfl (.inl rfl)) (pgs_cons (pg_name (i := 19) sc_law.nd rfl (.inl rfl)) (pgs_nil))), fun _ _ _ _ _ => ts_one (st_ltle (hu0 hr) (se_sub (sv 12) (se_len T.std rfl (sa_cons (sv 16) (sa_nil) rfl) ⟨rfl, rfl⟩)) (sv 19) (sv 12) rfl), fun _ _ _ _ _ => sv 7, fun _ => rfl⟩ rfl rfl freeS.none (sw_true rfl rfl rfl (by decide +kernel)) (si_zip T.std.zip rfl (sv 4) (sv 6) rfl rfl rfl))
  (ss_cons (ss_set (i := 9) sc_law.nd rfl (.inl rfl) freeS.none (se_meth (ok_Cutter_fed T) (hr.mono (by decide)) tk (sv 11) (sa_cons (sv 17) (sa_nil) rfl) ⟨rfl, rfl⟩ ⟨⟨_, rfl⟩⟩) rfl (by first | exact .inl rfl | exact .inr rfl))
  (ss_cons (ss_if (st_w (sw_or (st_not (st_val (se_isL T.std rfl rfl (sv 9) ⟨rfl, rfl⟩ ⟨rfl, rfl⟩) (by intro _; rfl))) (sw_or (st_ne (hu64 hr) (se_len T.std rfl (sa_cons (sv 9) (sa_nil) rfl) ⟨rfl, rfl⟩) (se_len T.std rfl (sa_cons (sv 10) (sa_nil) rfl) ⟨rfl, rfl⟩)) (sw_or1 (st_ne (hu64 hr) (sv 17) (sv 16)))))) (ss_one (ss_ret (se_bl))) (ss_nil))
  (ss_cons (ss_for (tgd := .many [18, 7]) (passes_of rfl) rfl (tg_many (is := [18, 7]) (by intro i _; exact freeS.none)) (pg_tup rfl (pgs_cons (pg_name (i := 18) sc_law.nd rfl (.inl rfl)) (pgs_cons (pg_name (i := 7) sc_law.nd rfl (.inl rfl)) (pgs_nil)))) (si_zip T.std.zip rfl (sv 9) (sv 10) rfl rfl rfl) (ss_one (ss_if (st_not (st_val (se_call (ok__law_same T) (hr.mono (by decide)) tk rfl (by decide) (sa_cons (sv 18) (sa_cons (sv 7) (sa_nil) rfl) rfl) ⟨rfl, rfl⟩) (by intro _; rfl))) (ss_one (ss_ret (se_bl))) (ss_nil))) (fun _ => rfl))
  (ss_one (ss_set (i := 13) sc_law.nd rfl (.inl rfl) freeS.none (se_add (sv 13) (se_len T.std rfl (sa_cons (sv 10) (sa_nil) rfl) ⟨rfl, rfl⟩)) rfl (by first | exact .inl rfl | exact .inr rfl)))))))))))) (fun _ => rfl))
  (ss_one (ss_ret (se_or (se_lt (hu0 hr) (sv 12) (se_len T.std rfl (sa_cons (sv 5) (sa_nil) rfl) ⟨rfl, rfl⟩)) (se_one (se_eq (hu64 hr) (sv 13) (se_len T.std rfl (sa_cons (sv 4) (sa_nil) rfl) ⟨rfl, rfl⟩)))))))))))))))))
theorem ok_law (T : Txt K mg ca) : FnS P w K mg base ca 4 "law" m_law := fn_def T.d_law sc_law rfl (by decide) (body_law T)
end
theorem all_mk {K : PySem.W.Frag} {h : Heap} {mg : Str → Option Value} (X : K.In h) (G : h.Ns mainGlobals mg)
  {C_Frame : Addr}
  {C_Cutter : Addr}
  {f_Frame_init : Addr} {od_Frame_init an_Frame_init : Option Addr} {sl_Frame_init : Array (Option Value)} {oc_Frame_init kV_Frame_init dc_Frame_init pm_Frame_init cd_Frame_init ct_Frame_init : Value}
  {f_framed : Addr} {od_framed an_framed : Option Addr} {sl_framed : Array (Option Value)} {oc_framed kV_framed dc_framed pm_framed cd_framed ct_framed : Value}
  {f_Cutter_init : Addr} {od_Cutter_init an_Cutter_init : Option Addr} {sl_Cutter_init : Array (Option Value)} {oc_Cutter_init kV_Cutter_init dc_Cutter_init pm_Cutter_init cd_Cutter_init ct_Cutter_init : Value}
  {f_Cutter_fed : Addr} {od_Cutter_fed an_Cutter_fed : Option Addr} {sl_Cutter_fed : Array (Option Value)} {oc_Cutter_fed kV_Cutter_fed dc_Cutter_fed pm_Cutter_fed cd_Cutter_fed ct_Cutter_fed : Value}
  {f__law_row : Addr} {od__law_row an__law_row : Option Addr} {sl__law_row : Array (Option Value)} {oc__law_row kV__law_row dc__law_row pm__law_row cd__law_row ct__law_row : Value}
  {f__law_taken : Addr} {od__law_taken an__law_taken : Option Addr} {sl__law_taken : Array (Option Value)} {oc__law_taken kV__law_taken dc__law_taken pm__law_taken cd__law_taken ct__law_taken : Value}
  {f__law_whole : Addr} {od__law_whole an__law_whole : Option Addr} {sl__law_whole : Array (Option Value)} {oc__law_whole kV__law_whole dc__law_whole pm__law_whole cd__law_whole ct__law_whole : Value}
  {f__law_list : Addr} {od__law_list an__law_list : Option Addr} {sl__law_list : Array (Option Value)} {oc__law_list kV__law_list dc__law_list pm__law_list cd__law_list ct__law_list : Value}
  {f__law_frames : Addr} {od__law_frames an__law_frames : Option Addr} {sl__law_frames : Array (Option Value)} {oc__law_frames kV__law_frames dc__law_frames pm__law_frames cd__law_frames ct__law_frames : Value}
  {f__law_same : Addr} {od__law_same an__law_same : Option Addr} {sl__law_same : Array (Option Value)} {oc__law_same kV__law_same dc__law_same pm__law_same cd__law_same ct__law_same : Value}
  {f_law : Addr} {od_law an_law : Option Addr} {sl_law : Array (Option Value)} {oc_law kV_law dc_law pm_law cd_law ct_law : Value}
  {t_AHEAD : Tok}
  (g_Frame : PySem.W.nsIn K mainGlobals "Frame" = some (some (.ref C_Frame)))
  (g_Cutter : PySem.W.nsIn K mainGlobals "Cutter" = some (some (.ref C_Cutter)))
  (std_len : PySem.W.nsIn K mainGlobals "len" = some none)
  (std_list : PySem.W.nsIn K mainGlobals "list" = some none)
  (std_int : PySem.W.nsIn K mainGlobals "int" = some none)
  (std_bool : PySem.W.nsIn K mainGlobals "bool" = some none)
  (std_str : PySem.W.nsIn K mainGlobals "str" = some none)
  (std_tuple : PySem.W.nsIn K mainGlobals "tuple" = some none)
  (std_sum : PySem.W.nsIn K mainGlobals "sum" = some none)
  (std_max : PySem.W.nsIn K mainGlobals "max" = some none)
  (std_min : PySem.W.nsIn K mainGlobals "min" = some none)
  (std_isinstance : PySem.W.nsIn K mainGlobals "isinstance" = some none)
  (std_range : PySem.W.nsIn K mainGlobals "range" = some none)
  (std_enumerate : PySem.W.nsIn K mainGlobals "enumerate" = some none)
  (std_zip : PySem.W.nsIn K mainGlobals "zip" = some none)
  (std_sorted : PySem.W.nsIn K mainGlobals "sorted" = some none)
  (std_ValueError : PySem.W.nsIn K mainGlobals "ValueError" = some none)
  (pg_Frame : PySem.W.plainGet K C_Frame Str.empty = true)
  (hd_Frame : PySem.W.hasDictIn K C_Frame = true)
  (po_Frame : PySem.W.plainOver K C_Frame = true)
  (sa_Frame : PySem.W.findIn K (.ref C_Frame) "__setattr__" = some (some (.builtin "object.__setattr__")))
  (n_Frame_flag : PySem.W.findIn K (.ref C_Frame) "flag" = some none)
  (n_Frame_kind : PySem.W.findIn K (.ref C_Frame) "kind" = some none)
  (n_Frame_numbers : PySem.W.findIn K (.ref C_Frame) "numbers" = some none)
  (n_Frame_talk : PySem.W.findIn K (.ref C_Frame) "talk" = some none)
  (pg_Cutter : PySem.W.plainGet K C_Cutter Str.empty = true)
  (hd_Cutter : PySem.W.hasDictIn K C_Cutter = true)
  (po_Cutter : PySem.W.plainOver K C_Cutter = true)
  (sa_Cutter : PySem.W.findIn K (.ref C_Cutter) "__setattr__" = some (some (.builtin "object.__setattr__")))
  (n_Cutter_held : PySem.W.findIn K (.ref C_Cutter) "held" = some none)
  (mk_Frame_init : PySem.W.makesIn K C_Frame = true)
  (kc_Frame_init : PySem.W.keepIn K (.ref C_Frame) = true)
  (a_Frame_init : PySem.W.findIn K (.ref C_Frame) "__init__" = some (some (.ref f_Frame_init)))
  (i_Frame_init : PySem.W.isFn K (.ref f_Frame_init) = true)
  (l_Frame_init : K.lookup f_Frame_init = some ⟨oc_Frame_init, od_Frame_init, .func (PySem.W.fnOf "__init__" "Frame.__init__" (defArgs s_Frame_init) (defBody s_Frame_init) (defScope s_Frame_init) .none kV_Frame_init dc_Frame_init pm_Frame_init an_Frame_init cd_Frame_init ct_Frame_init), sl_Frame_init⟩)
  (c_Frame_init : PySem.W.codeIn K cd_Frame_init "Frame.__init__" = true)
  (k_Frame_init : PySem.W.keepIn K (.ref f_Frame_init) = true)
  (a_framed : PySem.W.nsIn K mainGlobals "framed" = some (some (.ref f_framed)))
  (l_framed : K.lookup f_framed = some ⟨oc_framed, od_framed, .func (PySem.W.fnOf "framed" "framed" (defArgs s_framed) (defBody s_framed) (defScope s_framed) .none kV_framed dc_framed pm_framed an_framed cd_framed ct_framed), sl_framed⟩)
  (c_framed : PySem.W.codeIn K cd_framed "framed" = true)
  (k_framed : PySem.W.keepIn K (.ref f_framed) = true)
  (mk_Cutter_init : PySem.W.makesIn K C_Cutter = true)
  (kc_Cutter_init : PySem.W.keepIn K (.ref C_Cutter) = true)
  (a_Cutter_init : PySem.W.findIn K (.ref C_Cutter) "__init__" = some (some (.ref f_Cutter_init)))
  (i_Cutter_init : PySem.W.isFn K (.ref f_Cutter_init) = true)
  (l_Cutter_init : K.lookup f_Cutter_init = some ⟨oc_Cutter_init, od_Cutter_init, .func (PySem.W.fnOf "__init__" "Cutter.__init__" (defArgs s_Cutter_init) (defBody s_Cutter_init) (defScope s_Cutter_init) .none kV_Cutter_init dc_Cutter_init pm_Cutter_init an_Cutter_init cd_Cutter_init ct_Cutter_init), sl_Cutter_init⟩)
  (c_Cutter_init : PySem.W.codeIn K cd_Cutter_init "Cutter.__init__" = true)
  (k_Cutter_init : PySem.W.keepIn K (.ref f_Cutter_init) = true)
  (a_Cutter_fed : PySem.W.findIn K (.ref C_Cutter) "fed" = some (some (.ref f_Cutter_fed)))
  (i_Cutter_fed : PySem.W.isFn K (.ref f_Cutter_fed) = true)
  (l_Cutter_fed : K.lookup f_Cutter_fed = some ⟨oc_Cutter_fed, od_Cutter_fed, .func (PySem.W.fnOf "fed" "Cutter.fed" (defArgs s_Cutter_fed) (defBody s_Cutter_fed) (defScope s_Cutter_fed) .none kV_Cutter_fed dc_Cutter_fed pm_Cutter_fed an_Cutter_fed cd_Cutter_fed ct_Cutter_fed), sl_Cutter_fed⟩)
  (c_Cutter_fed : PySem.W.codeIn K cd_Cutter_fed "Cutter.fed" = true)
  (k_Cutter_fed : PySem.W.keepIn K (.ref f_Cutter_fed) = true)
  (a__law_row : PySem.W.nsIn K mainGlobals "_law_row" = some (some (.ref f__law_row)))
  (l__law_row : K.lookup f__law_row = some ⟨oc__law_row, od__law_row, .func (PySem.W.fnOf "_law_row" "_law_row" (defArgs s__law_row) (defBody s__law_row) (defScope s__law_row) .none kV__law_row dc__law_row pm__law_row an__law_row cd__law_row ct__law_row), sl__law_row⟩)
  (c__law_row : PySem.W.codeIn K cd__law_row "_law_row" = true)
  (k__law_row : PySem.W.keepIn K (.ref f__law_row) = true)
  (a__law_taken : PySem.W.nsIn K mainGlobals "_law_taken" = some (some (.ref f__law_taken)))
  (l__law_taken : K.lookup f__law_taken = some ⟨oc__law_taken, od__law_taken, .func (PySem.W.fnOf "_law_taken" "_law_taken" (defArgs s__law_taken) (defBody s__law_taken) (defScope s__law_taken) .none kV__law_taken dc__law_taken pm__law_taken an__law_taken cd__law_taken ct__law_taken), sl__law_taken⟩)
  (c__law_taken : PySem.W.codeIn K cd__law_taken "_law_taken" = true)
  (k__law_taken : PySem.W.keepIn K (.ref f__law_taken) = true)
  (a__law_whole : PySem.W.nsIn K mainGlobals "_law_whole" = some (some (.ref f__law_whole)))
  (l__law_whole : K.lookup f__law_whole = some ⟨oc__law_whole, od__law_whole, .func (PySem.W.fnOf "_law_whole" "_law_whole" (defArgs s__law_whole) (defBody s__law_whole) (defScope s__law_whole) .none kV__law_whole dc__law_whole pm__law_whole an__law_whole cd__law_whole ct__law_whole), sl__law_whole⟩)
  (c__law_whole : PySem.W.codeIn K cd__law_whole "_law_whole" = true)
  (k__law_whole : PySem.W.keepIn K (.ref f__law_whole) = true)
  (a__law_list : PySem.W.nsIn K mainGlobals "_law_list" = some (some (.ref f__law_list)))
  (l__law_list : K.lookup f__law_list = some ⟨oc__law_list, od__law_list, .func (PySem.W.fnOf "_law_list" "_law_list" (defArgs s__law_list) (defBody s__law_list) (defScope s__law_list) .none kV__law_list dc__law_list pm__law_list an__law_list cd__law_list ct__law_list), sl__law_list⟩)
  (c__law_list : PySem.W.codeIn K cd__law_list "_law_list" = true)
  (k__law_list : PySem.W.keepIn K (.ref f__law_list) = true)
  (a__law_frames : PySem.W.nsIn K mainGlobals "_law_frames" = some (some (.ref f__law_frames)))
  (l__law_frames : K.lookup f__law_frames = some ⟨oc__law_frames, od__law_frames, .func (PySem.W.fnOf "_law_frames" "_law_frames" (defArgs s__law_frames) (defBody s__law_frames) (defScope s__law_frames) .none kV__law_frames dc__law_frames pm__law_frames an__law_frames cd__law_frames ct__law_frames), sl__law_frames⟩)
  (c__law_frames : PySem.W.codeIn K cd__law_frames "_law_frames" = true)
  (k__law_frames : PySem.W.keepIn K (.ref f__law_frames) = true)
  (a__law_same : PySem.W.nsIn K mainGlobals "_law_same" = some (some (.ref f__law_same)))
  (l__law_same : K.lookup f__law_same = some ⟨oc__law_same, od__law_same, .func (PySem.W.fnOf "_law_same" "_law_same" (defArgs s__law_same) (defBody s__law_same) (defScope s__law_same) .none kV__law_same dc__law_same pm__law_same an__law_same cd__law_same ct__law_same), sl__law_same⟩)
  (c__law_same : PySem.W.codeIn K cd__law_same "_law_same" = true)
  (k__law_same : PySem.W.keepIn K (.ref f__law_same) = true)
  (a_law : PySem.W.nsIn K mainGlobals "law" = some (some (.ref f_law)))
  (l_law : K.lookup f_law = some ⟨oc_law, od_law, .func (PySem.W.fnOf "law" "law" (defArgs s_law) (defBody s_law) (defScope s_law) .none kV_law dc_law pm_law an_law cd_law ct_law), sl_law⟩)
  (c_law : PySem.W.codeIn K cd_law "law" = true)
  (k_law : PySem.W.keepIn K (.ref f_law) = true)
  (ci1_Frame : PySem.W.findIn K (.ref C_Frame) "__class__" = some (some (.builtin "object.__class__")))
  (ci2_Frame : PySem.W.specialIn K (.builtin "object.__class__") "__get__" = some (some (.builtin "getset_descriptor.__get__")))
  (ci3_Frame : PySem.W.takesIn K (.builtin "object.__class__") = some true)
  (ci4_Frame : PySem.W.mroIn K C_Frame (.type "object") = some true)
  (g_AHEAD : PySem.W.nsIn K mainGlobals "AHEAD" = some (some (.int 4 t_AHEAD))) : Txt K mg (caL [(3, C_Frame), (4, C_Cutter)]) :=
  ⟨⟨PySem.W.mg_none_of X G std_len, PySem.W.mg_none_of X G std_list, PySem.W.mg_none_of X G std_int, PySem.W.mg_none_of X G std_bool, PySem.W.mg_none_of X G std_str, PySem.W.mg_none_of X G std_tuple, PySem.W.mg_none_of X G std_sum, PySem.W.mg_none_of X G std_max, PySem.W.mg_none_of X G std_min, PySem.W.mg_none_of X G std_isinstance, PySem.W.mg_none_of X G std_range, PySem.W.mg_none_of X G std_enumerate, PySem.W.mg_none_of X G std_zip, PySem.W.mg_none_of X G std_sorted, PySem.W.mg_none_of X G std_ValueError⟩,
   ⟨pg_Frame, hd_Frame, po_Frame, sa_Frame⟩,
   n_Frame_flag,
   n_Frame_kind,
   n_Frame_numbers,
   n_Frame_talk,
   ⟨pg_Cutter, hd_Cutter, po_Cutter, sa_Cutter⟩,
   n_Cutter_held,
   makF_of X G g_Frame mk_Frame_init kc_Frame_init a_Frame_init i_Frame_init l_Frame_init c_Frame_init k_Frame_init (fun _ _ _ _ _ _ us hl => match us, hl with | [_, _, _, _, _], _ => rfl),
   defF_of X G a_framed l_framed c_framed k_framed (fun _ _ _ _ _ _ us hl => match us, hl with | [_, _, _, _], _ => rfl),
   makF_of X G g_Cutter mk_Cutter_init kc_Cutter_init a_Cutter_init i_Cutter_init l_Cutter_init c_Cutter_init k_Cutter_init (fun _ _ _ _ _ _ us hl => match us, hl with | [_], _ => rfl),
   metF_of a_Cutter_fed i_Cutter_fed l_Cutter_fed c_Cutter_fed k_Cutter_fed (fun _ _ _ _ _ _ us hl => match us, hl with | [_, _], _ => rfl),
   defF_of X G a__law_row l__law_row c__law_row k__law_row (fun _ _ _ _ _ _ us hl => match us, hl with | [_], _ => rfl),
   defF_of X G a__law_taken l__law_taken c__law_taken k__law_taken (fun _ _ _ _ _ _ us hl => match us, hl with | [_, _], _ => rfl),
   defF_of X G a__law_whole l__law_whole c__law_whole k__law_whole (fun _ _ _ _ _ _ us hl => match us, hl with | [_], _ => rfl),
   defF_of X G a__law_list l__law_list c__law_list k__law_list (fun _ _ _ _ _ _ us hl => match us, hl with | [_, _], _ => rfl),
   defF_of X G a__law_frames l__law_frames c__law_frames k__law_frames (fun _ _ _ _ _ _ us hl => match us, hl with | [_], _ => rfl),
   defF_of X G a__law_same l__law_same c__law_same k__law_same (fun _ _ _ _ _ _ us hl => match us, hl with | [_, _], _ => rfl),
   defF_of X G a_law l_law c_law k_law (fun _ _ _ _ _ _ us hl => match us, hl with | [_], _ => rfl),
   ⟨PySem.W.mg_of X G g_Frame, ⟨pg_Frame, hd_Frame, po_Frame, sa_Frame⟩, ci1_Frame, ci2_Frame, ci3_Frame, ci4_Frame, kit_self _⟩,
   ⟨t_AHEAD, PySem.W.mg_of X G g_AHEAD⟩⟩
theorem law_at {P : Program} {w : World} {K : PySem.W.Frag} {mg : Str → Option Value} {ca : Nat → Addr} (T : Txt K mg ca) {fa : Addr} (hm : mg "law" = some (.ref fa)) (hg : LawTrue m_law) :
    ∃ fd : FuncData, (∀ (s : Shared) (u : Value), BindsTo s fd ⟨[u], []⟩ [("_law_script", u)]) ∧ ∀ base : Heap, FnOk P w K mg base (L2.CX P w) 4 fa fd ["_law_script"] (spLaw K) := by
  obtain ⟨f, fd, F, h1, hb⟩ := T.d_law
  have e : fa = f := by
    have z := hm.symm.trans h1
    cases z
    rfl
  subst e
  obtain ⟨oc, od, kV, doc, pm, an, cdv, ct, osl, e, lk, hcd⟩ := id F.ex
  refine ⟨fd, fun s u => ?_, fun base => (fn_sound F sc_law rfl (by decide) (body_law T fa)).imp fun vs H Q E h => law_sp hg vs H Q E h⟩
  rw [e]
  exact .of_eq rfl
theorem walk {l : PySem.W.OpenLaw} {q : Program} {loose : List Str} {XP : (Str → Option Value) → Heap → Prop} {YP : World → Heap → Prop} {d : DefRec} {K : Params → PySem.W.Frag} (hg : LawTrue m_law) (hn : l.most = some 63) (hdf : d.params.defaults = []) (hd : d.name = "law")
    (hY : ∀ (w : World) (h : Heap), YP w h → (K w.params).In h)
    (F : ∀ (w : World) (mg : Str → Option Value) (h : Heap), (K w.params).In h → h.Ns mainGlobals mg → ∃ ca, Txt (K w.params) mg ca) :
    PySem.W.WalkO q loose XP YP l.row.toRowW d [] (fun f vs => PySem.call f vs) :=
  L2.walk_of (n := 63) (k := 4) (x := "_law_script") (CX := fun w => L2.CX l.prog w) (sp := fun w => spLaw (K w.params)) hn (by decide) hdf ⟨rfl, by decide, by decide⟩ hY
    (fun w mg fa h KX G hm => by
      obtain ⟨ca, T⟩ := F w mg h KX G
      rw [hd] at hm
      obtain ⟨fd, h1, h2⟩ := law_at (P := l.prog) (w := w) T hm hg
      exact ⟨fd, h1, fun base _ _ => h2 base⟩)
    (fun _ _ a ns hl _ hS => ⟨a, ns, rfl, hS, hl, fun _ => rfl⟩) fun _ _ _ _ _ z => cx_false z
end Law

open PySem PySem.W PyProof.Rows
set_option maxRecDepth 100000 in
set_option maxHeartbeats 0 in
theorem PySem.Challenge.cw_oneline_k03_frames_cut_anyhow_holds : PySem.Challenge.rw_oneline_k03_frames_cut_anyhow.Holds := by
  w_on; o_law; k_head; (case hw => w_witness2)
  k_fill
  refine Law.walk (l := PySem.Challenge.rw_oneline_k03_frames_cut_anyhow) Law.law_true rfl rfl rfl (fun w h Y => PySem.W.kIn_of Y) ?F
  case F =>
    intro w mg h KX G
    refine' ⟨_, Law.all_mk KX G ?h_g_Frame ?h_g_Cutter ?h_std_len ?h_std_list ?h_std_int ?h_std_bool ?h_std_str ?h_std_tuple ?h_std_sum ?h_std_max ?h_std_min ?h_std_isinstance ?h_std_range ?h_std_enumerate ?h_std_zip ?h_std_sorted ?h_std_ValueError ?h_pg_Frame ?h_hd_Frame ?h_po_Frame ?h_sa_Frame ?h_n_Frame_flag ?h_n_Frame_kind ?h_n_Frame_numbers ?h_n_Frame_talk ?h_pg_Cutter ?h_hd_Cutter ?h_po_Cutter ?h_sa_Cutter ?h_n_Cutter_held ?h_mk_Frame_init ?h_kc_Frame_init ?h_a_Frame_init ?h_i_Frame_init ?h_l_Frame_init ?h_c_Frame_init ?h_k_Frame_init ?h_a_framed ?h_l_framed ?h_c_framed ?h_k_framed ?h_mk_Cutter_init ?h_kc_Cutter_init ?h_a_Cutter_init ?h_i_Cutter_init ?h_l_Cutter_init ?h_c_Cutter_init ?h_k_Cutter_init ?h_a_Cutter_fed ?h_i_Cutter_fed ?h_l_Cutter_fed ?h_c_Cutter_fed ?h_k_Cutter_fed ?h_a__law_row ?h_l__law_row ?h_c__law_row ?h_k__law_row ?h_a__law_taken ?h_l__law_taken ?h_c__law_taken ?h_k__law_taken ?h_a__law_whole ?h_l__law_whole ?h_c__law_whole ?h_k__law_whole ?h_a__law_list ?h_l__law_list ?h_c__law_list ?h_k__law_list ?h_a__law_frames ?h_l__law_frames ?h_c__law_frames ?h_k__law_frames ?h_a__law_same ?h_l__law_same ?h_c__law_same ?h_k__law_same ?h_a_law ?h_l_law ?h_c_law ?h_k_law ?h_ci1_Frame ?h_ci2_Frame ?h_ci3_Frame ?h_ci4_Frame ?h_g_AHEAD⟩
    (case h_g_Frame => k_is)
    (case h_g_Cutter => k_is)
    (case h_std_len => k_is)
    (case h_std_list => k_is)
    (case h_std_int => k_is)
    (case h_std_bool => k_is)
    (case h_std_str => k_is)
    (case h_std_tuple => k_is)
    (case h_std_sum => k_is)
    (case h_std_max => k_is)
    (case h_std_min => k_is)
    (case h_std_isinstance => k_is)
    (case h_std_range => k_is)
    (case h_std_enumerate => k_is)
    (case h_std_zip => k_is)
    (case h_std_sorted => k_is)
    (case h_std_ValueError => k_is)
    (case h_pg_Frame => k_is)
    (case h_hd_Frame => k_is)
    (case h_po_Frame => k_is)
    (case h_sa_Frame => k_is)
    (case h_n_Frame_flag => k_is)
    (case h_n_Frame_kind => k_is)
    (case h_n_Frame_numbers => k_is)
    (case h_n_Frame_talk => k_is)
    (case h_pg_Cutter => k_is)
    (case h_hd_Cutter => k_is)
    (case h_po_Cutter => k_is)
    (case h_sa_Cutter => k_is)
    (case h_n_Cutter_held => k_is)
    (case h_mk_Frame_init => k_is)
    (case h_kc_Frame_init => k_is)
    (case h_a_Frame_init => k_is)
    (case h_i_Frame_init => k_is)
    (case h_l_Frame_init => k_is)
    (case h_c_Frame_init => k_is)
    (case h_k_Frame_init => k_is)
    (case h_a_framed => k_is)
    (case h_l_framed => k_is)
    (case h_c_framed => k_is)
    (case h_k_framed => k_is)
    (case h_mk_Cutter_init => k_is)
    (case h_kc_Cutter_init => k_is)
    (case h_a_Cutter_init => k_is)
    (case h_i_Cutter_init => k_is)
    (case h_l_Cutter_init => k_is)
    (case h_c_Cutter_init => k_is)
    (case h_k_Cutter_init => k_is)
    (case h_a_Cutter_fed => k_is)
    (case h_i_Cutter_fed => k_is)
    (case h_l_Cutter_fed => k_is)
    (case h_c_Cutter_fed => k_is)
    (case h_k_Cutter_fed => k_is)
    (case h_a__law_row => k_is)
    (case h_l__law_row => k_is)
    (case h_c__law_row => k_is)
    (case h_k__law_row => k_is)
    (case h_a__law_taken => k_is)
    (case h_l__law_taken => k_is)
    (case h_c__law_taken => k_is)
    (case h_k__law_taken => k_is)
    (case h_a__law_whole => k_is)
    (case h_l__law_whole => k_is)
    (case h_c__law_whole => k_is)
    (case h_k__law_whole => k_is)
    (case h_a__law_list => k_is)
    (case h_l__law_list => k_is)
    (case h_c__law_list => k_is)
    (case h_k__law_list => k_is)
    (case h_a__law_frames => k_is)
    (case h_l__law_frames => k_is)
    (case h_c__law_frames => k_is)
    (case h_k__law_frames => k_is)
    (case h_a__law_same => k_is)
    (case h_l__law_same => k_is)
    (case h_c__law_same => k_is)
    (case h_k__law_same => k_is)
    (case h_a_law => k_is)
    (case h_l_law => k_is)
    (case h_c_law => k_is)
    (case h_k_law => k_is)
    (case h_ci1_Frame => k_is)
    (case h_ci2_Frame => k_is)
    (case h_ci3_Frame => k_is)
    (case h_ci4_Frame => k_is)
    (case h_g_AHEAD => k_is)
