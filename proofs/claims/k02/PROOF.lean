import PyProof.Rows.All
import Wide.All
import OpenK.AllK
import Wide.FinOn
import HandS.ForMost
import HandS.ForSpec
import HandS.Wide
import HandS.Deep
import HandS.IsInst
import HandS.Replace
import HandS.Style
import HandS.SortInts
import HandS.Conv
import HandS.Zip
import HandS.CallSlots
import HandS.ExcInit
import HandS.ExcField
import HandS.ExcIs
import HandS.TryOnly
import HandS.Text
import PySem.Challenge.RW_oneline_k02_texts_that_are_none
set_option Elab.async false
set_option linter.all false
set_option maxRecDepth 100000
set_option maxHeartbeats 4000000
/-! Sim: a deterministic reading of the fragment over plain data, and what it promises of the layer's readings. -/
namespace Sim
open PySem PySem.Spec L2

/-! ### data -/
inductive D where
  | non | bl (b : Bool) | int (i : Int) | str (s : Str) | tup (ds : List D) | fl (ds : List D) | scr (ns : List Int) | ref (n : Nat)
  deriving Inhabited
inductive SO where
  | lst (ds : List D) | dct (kvs : List (Key × D)) | ins (c : Nat) (fs : List (Str × D))
  deriving Inhabited
structure Cell where
  o : SO
  lk : Bool
  deriving Inhabited
abbrev Store := List Cell
/-- an error in the air: its class' code, its fields (none: it has no dict) -/
structure Exn where
  c : Nat
  fs : Option (List (Str × D))
abbrev Sl := List (Option D)
abbrev Out (α : Type) := Option (Except Exn α × Store)
abbrev M (α : Type) := Store → Out α
inductive Fl where
  | nx (l : Sl) | bk (l : Sl) | ct (l : Sl) | rt (d : D) | ex (x : Exn) (l : Sl)
abbrev OutS := Option (Fl × Store)
abbrev ME := Sl → M D
abbrev MT := Sl → M Bool
abbrev MA := Sl → M (List D)
abbrev MS := Sl → Store → OutS

/-! ### the relation -/
section
variable (K : PySem.W.Frag) (ca : Nat → Addr)
/-- the script: readable as these ints, untouched by stores -/
def Scr (ρ φ : List Addr) (H : Hp) (p : Addr) (ns : List Int) : Prop :=
  (Rd H p (.lst (ns.map V.int)) ∧ p ∉ ρ ∧ p ∉ φ) ∨ ∀ H' : Hp, SqL K H' p (ns.map V.int)
mutual
inductive Rel (ρ φ : List Addr) (H : Hp) : V → D → Prop
  | non : Rel ρ φ H .non .non
  | bl (b : Bool) : Rel ρ φ H (.bl b) (.bl b)
  | int (i : Int) : Rel ρ φ H (.int i) (.int i)
  | str (s : Str) : Rel ρ φ H (.str s) (.str s)
  | tup {p : Addr} {xs : List V} {ds : List D} (h : H p = some (.tup xs)) (n : p ∉ ρ) (m : p ∉ φ) (r : Rels ρ φ H xs ds) : Rel ρ φ H (.ref p) (.tup ds)
  | fl {p : Addr} {xs : List V} {ds : List D} (h : H p = some (.lst xs)) (n : p ∉ ρ) (m : p ∉ φ) (r : Rels ρ φ H xs ds) : Rel ρ φ H (.ref p) (.fl ds)
  | scr {p : Addr} {ns : List Int} (h : Scr K ρ φ H p ns) : Rel ρ φ H (.ref p) (.scr ns)
  | ref {a : Addr} {n : Nat} (h : ρ[n]? = some a) : Rel ρ φ H (.ref a) (.ref n)
inductive Rels (ρ φ : List Addr) (H : Hp) : List V → List D → Prop
  | nil : Rels ρ φ H [] []
  | cons {v : V} {d : D} {vs : List V} {ds : List D} (r : Rel ρ φ H v d) (rs : Rels ρ φ H vs ds) : Rels ρ φ H (v :: vs) (d :: ds)
end
/-- pairs of names and values -/
inductive RelK {κ : Type} (ρ φ : List Addr) (H : Hp) : List (κ × V) → List (κ × D) → Prop
  | nil : RelK ρ φ H [] []
  | cons {k : κ} {v : V} {d : D} {vs : List (κ × V)} {ds : List (κ × D)} (r : Rel K ρ φ H v d) (rs : RelK ρ φ H vs ds) : RelK ρ φ H ((k, v) :: vs) ((k, d) :: ds)
def RelO (ρ φ : List Addr) (H : Hp) : HO → SO → Prop
  | .lst xs, .lst ds => Rels K ρ φ H xs ds
  | .dK kvs, .dct ks => RelK K ρ φ H kvs ks
  | .ins C _ fs, .ins c gs => C = ca c ∧ RelK K ρ φ H fs gs
  | _, _ => False
def At (H : Hp) (a : Addr) (ho : HO) (lk : Bool) : Prop := if lk = true then ∃ o, H a = some (.frz o ho) else H a = some ho
structure SR (ρ φ : List Addr) (S : Store) (H : Hp) : Prop where
  nd : ρ.Nodup
  len : ρ.length = S.length
  dj : ∀ a ∈ φ, a ∉ ρ
  ph : ∀ a ∈ φ, H a ≠ none
  ob : ∀ (n : Nat) (a : Addr) (c : Cell), ρ[n]? = some a → S[n]? = some c → ∃ ho, At H a ho c.lk ∧ RelO K ca ρ φ H ho c.o
/-- later: more of the store, the frozen things stand -/
structure Ext (ρ : List Addr) (H : Hp) (ρ' : List Addr) (H' : Hp) : Prop where
  pre : ∃ t, ρ' = ρ ++ t ∧ ∀ q ∈ t, H q = none
  keep : ∀ b o, H b = some o → b ∉ ρ → H' b = some o
  trk : ∀ b, H b ≠ none → H' b ≠ none
inductive SlR (ρ φ : List Addr) (H : Hp) : St → Sl → Prop
  | nil : SlR ρ φ H [] []
  | no {o : Option V} {σ : St} {l : Sl} (r : SlR ρ φ H σ l) : SlR ρ φ H (o :: σ) (Option.none :: l)
  | so {v : V} {d : D} {σ : St} {l : Sl} (h : Rel K ρ φ H v d) (r : SlR ρ φ H σ l) : SlR ρ φ H (Option.some v :: σ) (Option.some d :: l)
end

section
variable {K : PySem.W.Frag} {ca : Nat → Addr} {ρ ρ' ρ'' φ : List Addr} {S S' : Store} {H H' H'' : Hp}
theorem Ext.refl (ρ : List Addr) (H : Hp) : Ext ρ H ρ H := ⟨⟨[], by simp, by simp⟩, fun _ _ h _ => h, fun _ h => h⟩
theorem Ext.notin (e : Ext ρ H ρ' H') {b : Addr} (h : H b ≠ none) (n : b ∉ ρ) : b ∉ ρ' := by
  obtain ⟨t, rfl, ht⟩ := e.pre
  intro hm
  rcases List.mem_append.mp hm with q | q
  · exact n q
  · exact h (ht b q)
theorem Ext.trans (a : Ext ρ H ρ' H') (b : Ext ρ' H' ρ'' H'') : Ext ρ H ρ'' H'' := by
  refine ⟨?_, fun c o h n => b.keep c o (a.keep c o h n) (a.notin (by rw [h]; simp) n), fun c h => b.trk c (a.trk c h)⟩
  obtain ⟨t, rfl, ht⟩ := a.pre
  obtain ⟨u, rfl, hu⟩ := b.pre
  refine ⟨t ++ u, by simp, fun q hq => ?_⟩
  rcases List.mem_append.mp hq with h | h
  · exact ht q h
  · cases e : H q with
    | none => rfl
    | some o => exact absurd (hu q h) (a.trk q (by rw [e]; simp))
theorem Ext.at (e : Ext ρ H ρ' H') {n : Nat} {a : Addr} (h : ρ[n]? = some a) : ρ'[n]? = some a := by
  obtain ⟨t, rfl, _⟩ := e.pre
  rw [List.getElem?_append_left (List.getElem?_eq_some_iff.mp h).1]
  exact h
theorem Scr.mono (e : Ext ρ H ρ' H') {p : Addr} {ns : List Int} (h : Scr K ρ φ H p ns) : Scr K ρ' φ H' p ns := by
  rcases h with ⟨h, n, m⟩ | h
  · refine .inl ⟨?_, ?_, m⟩
    · rcases h with h | ⟨o, h⟩
      · exact .inl (e.keep _ _ h n)
      · exact .inr ⟨o, e.keep _ _ h n⟩
    · refine e.notin ?_ n
      rcases h with h | ⟨o, h⟩ <;> (rw [h]; simp)
  · exact .inr h
mutual
theorem Rel.mono (e : Ext ρ H ρ' H') : ∀ {v : V} {d : D}, Rel K ρ φ H v d → Rel K ρ' φ H' v d
  | _, _, .non => .non
  | _, _, .bl b => .bl b
  | _, _, .int i => .int i
  | _, _, .str s => .str s
  | _, _, .tup h n m r => .tup (e.keep _ _ h n) (e.notin (by rw [h]; simp) n) m (Rels.mono e r)
  | _, _, .fl h n m r => .fl (e.keep _ _ h n) (e.notin (by rw [h]; simp) n) m (Rels.mono e r)
  | _, _, .scr h => .scr (h.mono e)
  | _, _, .ref h => .ref (e.at h)
theorem Rels.mono (e : Ext ρ H ρ' H') : ∀ {vs : List V} {ds : List D}, Rels K ρ φ H vs ds → Rels K ρ' φ H' vs ds
  | _, _, .nil => .nil
  | _, _, .cons r rs => .cons (Rel.mono e r) (Rels.mono e rs)
end
theorem RelK.mono {κ : Type} (e : Ext ρ H ρ' H') : ∀ {vs : List (κ × V)} {ds : List (κ × D)}, RelK K ρ φ H vs ds → RelK K ρ' φ H' vs ds
  | _, _, .nil => .nil
  | _, _, .cons r rs => .cons (r.mono e) (RelK.mono e rs)
theorem RelO.mono (e : Ext ρ H ρ' H') {ho : HO} {so : SO} (h : RelO K ca ρ φ H ho so) : RelO K ca ρ' φ H' ho so := by
  unfold RelO at h ⊢
  split at h
  · exact h.mono e
  · exact h.mono e
  · exact ⟨h.1, h.2.mono e⟩
  · exact h.elim
theorem SlR.mono (e : Ext ρ H ρ' H') : ∀ {σ : St} {l : Sl}, SlR K ρ φ H σ l → SlR K ρ' φ H' σ l
  | _, _, .nil => .nil
  | _, _, .no r => .no (SlR.mono e r)
  | _, _, .so h r => .so (h.mono e) (SlR.mono e r)
theorem Rels.length : ∀ {vs : List V} {ds : List D}, Rels K ρ φ H vs ds → vs.length = ds.length
  | _, _, .nil => rfl
  | _, _, .cons _ rs => by rw [List.length_cons, List.length_cons, Rels.length rs]
theorem Rels.get : ∀ {vs : List V} {ds : List D} {i : Nat} {d : D}, Rels K ρ φ H vs ds → ds[i]? = some d → ∃ v, vs[i]? = some v ∧ Rel K ρ φ H v d
  | _, _, _, _, .nil, h => by simp at h
  | _, _, 0, _, .cons r _, h => by
    have e := Option.some.inj h
    subst e
    exact ⟨_, rfl, r⟩
  | _, _, i + 1, _, .cons _ rs, h => Rels.get (i := i) rs h
theorem Rels.getV : ∀ {vs : List V} {ds : List D} {i : Nat} {v : V}, Rels K ρ φ H vs ds → vs[i]? = some v → ∃ d, ds[i]? = some d ∧ Rel K ρ φ H v d
  | _, _, _, _, .nil, h => by simp at h
  | _, _, 0, _, .cons r _, h => by
    have e := Option.some.inj h
    subst e
    exact ⟨_, rfl, r⟩
  | _, _, i + 1, _, .cons _ rs, h => Rels.getV (i := i) rs h
theorem Rels.append : ∀ {vs ws : List V} {ds es : List D}, Rels K ρ φ H vs ds → Rels K ρ φ H ws es → Rels K ρ φ H (vs ++ ws) (ds ++ es)
  | _, _, _, _, .nil, s => s
  | _, _, _, _, .cons r rs, s => .cons r (Rels.append rs s)
theorem Rels.take : ∀ {vs : List V} {ds : List D} (n : Nat), Rels K ρ φ H vs ds → Rels K ρ φ H (vs.take n) (ds.take n)
  | _, _, 0, _ => .nil
  | _, _, _ + 1, .nil => .nil
  | _, _, n + 1, .cons r rs => .cons r (Rels.take n rs)
theorem Rels.drop : ∀ {vs : List V} {ds : List D} (n : Nat), Rels K ρ φ H vs ds → Rels K ρ φ H (vs.drop n) (ds.drop n)
  | _, _, 0, r => r
  | _, _, _ + 1, .nil => .nil
  | _, _, n + 1, .cons _ rs => Rels.drop n rs
theorem Rels.set {v : V} {d : D} (q : Rel K ρ φ H v d) : ∀ {vs : List V} {ds : List D} (n : Nat), Rels K ρ φ H vs ds → Rels K ρ φ H (vs.set n v) (ds.set n d)
  | _, _, _, .nil => .nil
  | _, _, 0, .cons _ rs => .cons q rs
  | _, _, n + 1, .cons r rs => .cons r (Rels.set q n rs)
theorem Rels.eraseIdx : ∀ {vs : List V} {ds : List D} (n : Nat), Rels K ρ φ H vs ds → Rels K ρ φ H (vs.eraseIdx n) (ds.eraseIdx n)
  | _, _, _, .nil => .nil
  | _, _, 0, .cons _ rs => rs
  | _, _, n + 1, .cons r rs => .cons r (Rels.eraseIdx n rs)
theorem Rels.ints : ∀ {vs : List V} {ns : List Int}, Rels K ρ φ H vs (ns.map D.int) → vs = ns.map V.int
  | _, [], h => by cases h; rfl
  | _, n :: ns, h => by
    cases h with
    | cons r rs => cases r; rw [Rels.ints rs]; rfl
theorem Rels.ofInts : ∀ (ns : List Int), Rels K ρ φ H (ns.map V.int) (ns.map D.int)
  | [] => .nil
  | n :: ns => .cons (.int n) (Rels.ofInts ns)
theorem SlR.get : ∀ {σ : St} {l : Sl} {i : Nat} {d : D}, SlR K ρ φ H σ l → l[i]? = some (some d) → ∃ v, σ[i]? = some (some v) ∧ Rel K ρ φ H v d
  | _, _, _, _, .nil, h => by simp at h
  | _, _, 0, _, .no r, h => by cases h
  | _, _, 0, _, .so q r, h => by cases h; exact ⟨_, rfl, q⟩
  | _, _, i + 1, _, .no r, h => SlR.get (i := i) r h
  | _, _, i + 1, _, .so q r, h => SlR.get (i := i) r h
theorem SlR.set {v : V} {d : D} (q : Rel K ρ φ H v d) : ∀ {σ : St} {l : Sl} (i : Nat), SlR K ρ φ H σ l → SlR K ρ φ H (σ.set i (some v)) (l.set i (some d))
  | _, _, _, .nil => .nil
  | _, _, 0, .no r => .so q r
  | _, _, 0, .so _ r => .so q r
  | _, _, i + 1, .no r => .no (SlR.set q i r)
  | _, _, i + 1, .so h r => .so h (SlR.set q i r)
theorem SlR.unset {o : Option V} : ∀ {σ : St} {l : Sl} (i : Nat), SlR K ρ φ H σ l → SlR K ρ φ H (σ.set i o) (l.set i none)
  | _, _, _, .nil => .nil
  | _, _, 0, .no r => .no r
  | _, _, 0, .so _ r => .no r
  | _, _, i + 1, .no r => .no (SlR.unset i r)
  | _, _, i + 1, .so h r => .so h (SlR.unset i r)
theorem SlR.start : ∀ {vs : List V} {ds : List D} (k : Nat), Rels K ρ φ H vs ds → SlR K ρ φ H (vs.map some ++ List.replicate k none) (ds.map some ++ List.replicate k none)
  | _, _, 0, .nil => .nil
  | _, _, k + 1, .nil => .no (SlR.start (vs := []) (ds := []) k .nil)
  | _, _, k, .cons r rs => .so r (SlR.start k rs)
theorem RelK.lookup {f : Str} : ∀ {vs : List (Str × V)} {ds : List (Str × D)} {d : D}, RelK K ρ φ H vs ds → ds.lookup f = some d → ∃ v, vs.lookup f = some v ∧ Rel K ρ φ H v d
  | _, _, _, .nil, h => by cases h
  | (k, v) :: vs, (_, d) :: ds, e, .cons r rs, h => by
    rw [List.lookup_cons] at h ⊢
    cases c : (f == k) with
    | true => rw [c] at h; cases h; exact ⟨v, rfl, r⟩
    | false => rw [c] at h; exact RelK.lookup rs h
theorem RelK.lookup_none {f : Str} : ∀ {vs : List (Str × V)} {ds : List (Str × D)}, RelK K ρ φ H vs ds → ds.lookup f = none → vs.lookup f = none
  | _, _, .nil, h => rfl
  | (k, v) :: vs, (_, d) :: ds, .cons r rs, h => by
    rw [List.lookup_cons] at h ⊢
    cases c : (f == k) with
    | true => rw [c] at h; cases h
    | false => rw [c] at h; exact RelK.lookup_none rs h
theorem RelK.length {κ : Type} : ∀ {vs : List (κ × V)} {ds : List (κ × D)}, RelK K ρ φ H vs ds → vs.length = ds.length
  | _, _, .nil => rfl
  | _, _, .cons _ rs => by rw [List.length_cons, List.length_cons, RelK.length rs]
/-- fewer private addresses -/
theorem Scr.less {ψ : List Addr} (h : ∀ a ∈ ψ, a ∈ φ) {p : Addr} {ns : List Int} (q : Scr K ρ φ H p ns) : Scr K ρ ψ H p ns := by
  rcases q with ⟨a, b, c⟩ | q
  · exact .inl ⟨a, b, fun z => c (h _ z)⟩
  · exact .inr q
mutual
theorem Rel.less {ψ : List Addr} (h : ∀ a ∈ ψ, a ∈ φ) : ∀ {v : V} {d : D}, Rel K ρ φ H v d → Rel K ρ ψ H v d
  | _, _, .non => .non
  | _, _, .bl b => .bl b
  | _, _, .int i => .int i
  | _, _, .str s => .str s
  | _, _, .tup a n m r => .tup a n (fun z => m (h _ z)) (Rels.less h r)
  | _, _, .fl a n m r => .fl a n (fun z => m (h _ z)) (Rels.less h r)
  | _, _, .scr a => .scr (a.less h)
  | _, _, .ref a => .ref a
theorem Rels.less {ψ : List Addr} (h : ∀ a ∈ ψ, a ∈ φ) : ∀ {vs : List V} {ds : List D}, Rels K ρ φ H vs ds → Rels K ρ ψ H vs ds
  | _, _, .nil => .nil
  | _, _, .cons r rs => .cons (Rel.less h r) (Rels.less h rs)
end
theorem RelK.less {κ : Type} {ψ : List Addr} (h : ∀ a ∈ ψ, a ∈ φ) : ∀ {vs : List (κ × V)} {ds : List (κ × D)}, RelK K ρ φ H vs ds → RelK K ρ ψ H vs ds
  | _, _, .nil => .nil
  | _, _, .cons r rs => .cons (r.less h) (RelK.less h rs)
theorem RelO.less {ψ : List Addr} (h : ∀ a ∈ ψ, a ∈ φ) {ho : HO} {so : SO} (q : RelO K ca ρ φ H ho so) : RelO K ca ρ ψ H ho so := by
  unfold RelO at q ⊢
  split at q
  · exact q.less h
  · exact q.less h
  · exact ⟨q.1, q.2.less h⟩
  · exact q.elim
theorem SlR.less {ψ : List Addr} (h : ∀ a ∈ ψ, a ∈ φ) : ∀ {σ : St} {l : Sl}, SlR K ρ φ H σ l → SlR K ρ ψ H σ l
  | _, _, .nil => .nil
  | _, _, .no r => .no (SlR.less h r)
  | _, _, .so q r => .so (q.less h) (SlR.less h r)
/-- a general change of the ground -/
structure Move (ρ φ : List Addr) (H : Hp) (ρ' φ' : List Addr) (H' : Hp) : Prop where
  keep : ∀ p o, H p = some o → p ∉ ρ → p ∉ φ → H' p = some o ∧ p ∉ ρ' ∧ p ∉ φ'
  at_ : ∀ (n : Nat) (a : Addr), ρ[n]? = some a → ρ'[n]? = some a
section
variable {φ' : List Addr}
theorem Scr.move (e : Move ρ φ H ρ' φ' H') {p : Addr} {ns : List Int} (h : Scr K ρ φ H p ns) : Scr K ρ' φ' H' p ns := by
  rcases h with ⟨h, n, m⟩ | h
  · rcases h with h | ⟨o, h⟩
    · obtain ⟨a, b, c⟩ := e.keep _ _ h n m
      exact .inl ⟨.inl a, b, c⟩
    · obtain ⟨a, b, c⟩ := e.keep _ _ h n m
      exact .inl ⟨.inr ⟨o, a⟩, b, c⟩
  · exact .inr h
mutual
theorem Rel.move (e : Move ρ φ H ρ' φ' H') : ∀ {v : V} {d : D}, Rel K ρ φ H v d → Rel K ρ' φ' H' v d
  | _, _, .non => .non
  | _, _, .bl b => .bl b
  | _, _, .int i => .int i
  | _, _, .str s => .str s
  | _, _, .tup h n m r => .tup (e.keep _ _ h n m).1 (e.keep _ _ h n m).2.1 (e.keep _ _ h n m).2.2 (Rels.move e r)
  | _, _, .fl h n m r => .fl (e.keep _ _ h n m).1 (e.keep _ _ h n m).2.1 (e.keep _ _ h n m).2.2 (Rels.move e r)
  | _, _, .scr h => .scr (h.move e)
  | _, _, .ref h => .ref (e.at_ _ _ h)
theorem Rels.move (e : Move ρ φ H ρ' φ' H') : ∀ {vs : List V} {ds : List D}, Rels K ρ φ H vs ds → Rels K ρ' φ' H' vs ds
  | _, _, .nil => .nil
  | _, _, .cons r rs => .cons (Rel.move e r) (Rels.move e rs)
end
theorem RelK.move {κ : Type} (e : Move ρ φ H ρ' φ' H') : ∀ {vs : List (κ × V)} {ds : List (κ × D)}, RelK K ρ φ H vs ds → RelK K ρ' φ' H' vs ds
  | _, _, .nil => .nil
  | _, _, .cons r rs => .cons (r.move e) (RelK.move e rs)
theorem RelO.move (e : Move ρ φ H ρ' φ' H') {ho : HO} {so : SO} (h : RelO K ca ρ φ H ho so) : RelO K ca ρ' φ' H' ho so := by
  unfold RelO at h ⊢
  split at h
  · exact h.move e
  · exact h.move e
  · exact ⟨h.1, h.2.move e⟩
  · exact h.elim
theorem SlR.move (e : Move ρ φ H ρ' φ' H') : ∀ {σ : St} {l : Sl}, SlR K ρ φ H σ l → SlR K ρ' φ' H' σ l
  | _, _, .nil => .nil
  | _, _, .no r => .no (SlR.move e r)
  | _, _, .so h r => .so (h.move e) (SlR.move e r)
end
end
/-- in an except suite: the slot of the error, its address, its dict, its fields -/
structure XI where
  i : Nat
  a : Addr
  d : Option Addr
  fs : Option (List (Str × D))
/-- the error's fields stand -/
def XF (K : PySem.W.Frag) (ρ φ : List Addr) (H : Hp) (d : Option Addr) (fs : Option (List (Str × D))) : Prop := match fs with
  | none => d = none
  | some gs => ∃ dd hs, d = some dd ∧ H dd = some (.xd hs) ∧ dd ∉ ρ ∧ dd ∉ φ ∧ RelK K ρ φ H hs gs
/-- what a code's run is asked beside: the wish of errors; the error that a suite holds -/
structure WW where
  f : WX
  x : Option XI
/-- the slots; the error's slot holds it -/
structure SlX (ξ : Option XI) (K : PySem.W.Frag) (ρ φ : List Addr) (H : Hp) (σ : St) (l : Sl) : Prop where
  sl : SlR K ρ φ H σ l
  er : ∀ z, ξ = some z → σ[z.i]? = some (some (.ref z.a)) ∧ XF K ρ φ H z.d z.fs
section
variable {ξ : Option XI} {K : PySem.W.Frag} {ρ φ ρ' φ' : List Addr} {H H' : Hp} {σ : St} {l : Sl}
theorem XF.move {d : Option Addr} {fs : Option (List (Str × D))} (h : XF K ρ φ H d fs) (e : Move ρ φ H ρ' φ' H') : XF K ρ' φ' H' d fs := by
  cases fs with
  | none => exact h
  | some gs =>
    obtain ⟨dd, hs, h1, h2, h3, h4, h5⟩ := h
    exact ⟨dd, hs, h1, (e.keep _ _ h2 h3 h4).1, (e.keep _ _ h2 h3 h4).2.1, (e.keep _ _ h2 h3 h4).2.2, h5.move e⟩
theorem XF.mono {d : Option Addr} {fs : Option (List (Str × D))} (h : XF K ρ φ H d fs) (e : Ext ρ H ρ' H') : XF K ρ' φ H' d fs := by
  cases fs with
  | none => exact h
  | some gs =>
    obtain ⟨dd, hs, h1, h2, h3, h4, h5⟩ := h
    exact ⟨dd, hs, h1, e.keep _ _ h2 h3, e.notin (by rw [h2]; simp) h3, h4, h5.mono e⟩
theorem SlX.mono (h : SlX ξ K ρ φ H σ l) (e : Ext ρ H ρ' H') : SlX ξ K ρ' φ H' σ l := ⟨h.sl.mono e, fun z hz => ⟨(h.er z hz).1, (h.er z hz).2.mono e⟩⟩
theorem SlX.move (h : SlX ξ K ρ φ H σ l) (e : Move ρ φ H ρ' φ' H') : SlX ξ K ρ' φ' H' σ l := ⟨h.sl.move e, fun z hz => ⟨(h.er z hz).1, (h.er z hz).2.move e⟩⟩
theorem SlX.get (h : SlX ξ K ρ φ H σ l) {i : Nat} {d : D} (e : l[i]? = some (some d)) : ∃ v, σ[i]? = some (some v) ∧ Rel K ρ φ H v d := h.sl.get e
/-- the slot i is not the error's -/
def freeS (ξ : Option XI) (i : Nat) : Prop := ∀ z, ξ = some z → z.i ≠ i
theorem SlX.set (h : SlX ξ K ρ φ H σ l) {v : V} {d : D} (q : Rel K ρ φ H v d) {i : Nat} (hi : freeS ξ i) : SlX ξ K ρ φ H (σ.set i (some v)) (l.set i (some d)) :=
  ⟨h.sl.set q i, fun z e => ⟨by rw [List.getElem?_set_ne (hi z e).symm]; exact (h.er z e).1, (h.er z e).2⟩⟩
theorem SlX.none (h : SlX ξ K ρ φ H σ l) : SlX Option.none K ρ φ H σ l := ⟨h.sl, fun _ z => nomatch z⟩
theorem SlX.of (h : SlR K ρ φ H σ l) : SlX Option.none K ρ φ H σ l := ⟨h, fun _ z => nomatch z⟩
theorem freeS.none {i : Nat} : freeS Option.none i := fun _ z => nomatch z
theorem SlR.len : ∀ {σ : St} {l : Sl}, SlR K ρ φ H σ l → σ.length = l.length
  | _, _, .nil => rfl
  | _, _, .no r => by rw [List.length_cons, List.length_cons, SlR.len r]
  | _, _, .so _ r => by rw [List.length_cons, List.length_cons, SlR.len r]
end
end Sim

/-! Sim: the operations on plain data, and the constructs. -/
namespace Sim
open PySem PySem.Spec L2

/-! ### reading -/
def listOf (d : D) (S : Store) : Option (List D) :=
  match d with
  | .fl ds => some ds
  | .scr ns => some (ns.map D.int)
  | .ref n => match S[n]? with
    | some ⟨.lst ds, _⟩ => some ds
    | _ => none
  | _ => none
/-- a list that may be joined: no script, not locked -/
def catOf (d : D) (S : Store) : Option (List D) :=
  match d with
  | .fl ds => some ds
  | .ref n => match S[n]? with
    | some ⟨.lst ds, false⟩ => some ds
    | _ => none
  | _ => none
def seqOf (d : D) (S : Store) : Option (List D) :=
  match d with
  | .tup ds => some ds
  | d => listOf d S
def dctOf (d : D) (S : Store) : Option (List (Key × D)) :=
  match d with
  | .ref n => match S[n]? with
    | some ⟨.dct kvs, _⟩ => some kvs
    | _ => none
  | _ => none
def dctU (d : D) (S : Store) : Option (List (Key × D)) :=
  match d with
  | .ref n => match S[n]? with
    | some ⟨.dct kvs, false⟩ => some kvs
    | _ => none
  | _ => none
def insOf (d : D) (S : Store) : Option (Nat × List (Str × D)) :=
  match d with
  | .ref n => match S[n]? with
    | some ⟨.ins c fs, false⟩ => some (c, fs)
    | _ => none
  | _ => none
def keyOf : D → Option Key
  | .int i => some (.inl i)
  | .str s => some (.inr s)
  | _ => none
def valD (kvs : List (Key × D)) (k : Key) : Option D := (kvs.find? fun kv => decide (kv.1 = k)).map (·.2)
def putD (kvs : List (Key × D)) (k : Key) (v : D) : List (Key × D) :=
  if (kvs.any fun kv => decide (kv.1 = k)) = true then kvs.map (fun kv => if kv.1 = k then (kv.1, v) else kv) else kvs ++ [(k, v)]
def putFD (f : Str) (v : D) : List (Str × D) → List (Str × D)
  | [] => [(f, v)]
  | (g, x) :: r => if g = f then (g, v) :: r else (g, x) :: putFD f v r
/-- as data of any depth -/
def pyD (S : Store) : Nat → D → Option PyData
  | 0, _ => none
  | _ + 1, .non => some .none
  | _ + 1, .bl b => some (.bool b)
  | _ + 1, .int i => some (.int i)
  | _ + 1, .str s => some (.str s)
  | k + 1, .tup ds => (ds.mapM (pyD S k)).map .tuple
  | k + 1, .fl ds => (ds.mapM (pyD S k)).map .list
  | k + 1, .scr ns => some (.list (ns.map PyData.int))
  | k + 1, .ref n => match S[n]? with
    | some ⟨.lst ds, _⟩ => (ds.mapM (pyD S k)).map .list
    | _ => none
def okV {α : Type} (a : α) : M α := fun S => some (.ok a, S)
def stuck {α : Type} : M α := fun _ => none
def ofOpt {α : Type} (o : Option α) : M α := fun S => match o with
  | some a => some (.ok a, S)
  | none => none
def guard (c : Bool) {α : Type} (m : M α) : M α := fun S => if c = true then m S else none

/-! ### two-place operations -/
def lineN : Nat := 16777216
def fAdd (a b : D) : M D := fun S =>
  match a, b with
  | .int i, .int j => some (.ok (.int (i + j)), S)
  | .str s, .str t => if s.length + t.length ≤ lineN then some (.ok (.str (s ++ t)), S) else none
  | a, b => match catOf a S, catOf b S with
    | some xs, some ys => if xs.length + ys.length ≤ lineN then some (.ok (.fl (xs ++ ys)), S) else none
    | _, _ => none
def fSub (a b : D) : M D := fun S =>
  match a, b with
  | .int i, .int j => some (.ok (.int (i - j)), S)
  | _, _ => none
def fMul (a b : D) : M D := fun S =>
  match a, b with
  | .int i, .int j => if (-18446744073709551616 < i ∧ i < 18446744073709551616) ∨ (-18446744073709551616 < j ∧ j < 18446744073709551616) then some (.ok (.int (i * j)), S) else none
  | a, .int k => match catOf a S with
    | some xs => if -1000000 ≤ k ∧ k ≤ 1000000 ∧ xs.length * k.toNat ≤ lineN then some (.ok (.fl (List.replicate k.toNat xs).flatten), S) else none
    | none => none
  | _, _ => none
def fDiv (a b : D) : M D := fun S =>
  match a, b with
  | .int i, .int j => if 0 < j ∧ j < 1606938044258990275541962092341162602522202993782792835301376 then some (.ok (.int (i / j)), S) else none
  | _, _ => none
def fMod (a b : D) : M D := fun S =>
  match a, b with
  | .int i, .int j => if 0 < j then some (.ok (.int (i % j)), S) else none
  | _, _ => none
def fPow (a b : D) : M D := fun S =>
  match a, b with
  | .int i, .int j => if 0 ≤ j ∧ j ≤ 1000 ∧ i.natAbs < 18446744073709551616 then some (.ok (.int (i ^ j.toNat)), S) else none
  | _, _ => none
def fCmpI (p : Int → Int → Bool) (a b : D) : M D := fun S =>
  match a, b with
  | .int i, .int j => some (.ok (.bl (p i j)), S)
  | _, _ => none
def intsOf : List D → Option (List Int)
  | [] => some []
  | .int i :: r => (intsOf r).map (i :: ·)
  | _ :: _ => none
def fLt (a b : D) : M D := fun S =>
  match a, b with
  | .int i, .int j => some (.ok (.bl (decide (i < j))), S)
  | .tup xs, .tup ys => match intsOf xs, intsOf ys with
    | some ns, some ms => some (.ok (.bl (HT.lexLt ns ms)), S)
    | _, _ => none
  | _, _ => none
abbrev fLe := fCmpI fun i j => decide (i ≤ j)
abbrev fGt := fCmpI fun i j => decide (j < i)
abbrev fGe := fCmpI fun i j => decide (j ≤ i)
def pyDepth : Nat := 8
def eqD (a b : D) (S : Store) : Option Bool :=
  match pyD S pyDepth a, pyD S pyDepth b with
  | some x, some y => if SeqAt.shaped x = true ∧ SeqAt.shaped y = true then some (PyData.eqv x y) else none
  | _, _ => none
def fEq (a b : D) : M D := fun S => match eqD a b S with
  | some k => some (.ok (.bl k), S)
  | none => none
def fNe (a b : D) : M D := fun S => match eqD a b S with
  | some k => some (.ok (.bl (!k)), S)
  | none => none
def isNon : D → Bool
  | .non => true
  | _ => false
def fIs (a b : D) : M D := fun S => match b with
  | .non => some (.ok (.bl (isNon a)), S)
  | _ => none
def fIsNot (a b : D) : M D := fun S => match b with
  | .non => some (.ok (.bl (!isNon a)), S)
  | _ => none
def inD (a b : D) (S : Store) : Option Bool :=
  match b with
  | .str z => match a with
    | .str w => match w.cps with
      | ⟨[c]⟩ => some (decide (c ∈ z.cps.toList))
      | _ => none
    | _ => none
  | b => match dctOf b S with
    | some kvs => match keyOf a with
      | some k => some (valD kvs k).isSome
      | none => none
    | none => match pyD S pyDepth a, pyD S pyDepth b with
      | some x, some (.list ys) => if SeqAt.shaped x = true ∧ SeqAt.shaped (.list ys) = true then some (ys.any fun z => PyData.eqv z x) else none
      | _, _ => none
def fIn (a b : D) : M D := fun S => match inD a b S with
  | some k => some (.ok (.bl k), S)
  | none => none
def fNotIn (a b : D) : M D := fun S => match inD a b S with
  | some k => some (.ok (.bl (!k)), S)
  | none => none
/-- a[b] -/
def fIx (a b : D) : M D := fun S =>
  match a with
  | .str z => match b with
    | .int i => match (if z.length ≤ lineN then atI z.cps.toList i else none) with
      | some c => some (.ok (.str ⟨#[c]⟩), S)
      | none => none
    | _ => none
  | a => match dctOf a S with
    | some kvs => match keyOf b with
      | some k => match valD kvs k with
        | some d => some (.ok d, S)
        | none => none
      | none => none
    | none => match seqOf a S, b with
      | some ds, .int i => match atI ds i with
        | some d => some (.ok d, S)
        | none => none
      | _, _ => none
def cutD (xs : List D) (lo hi : Option Int) : List D := (xs.drop (HT.sIx xs.length 0 lo)).take (HT.sIx xs.length xs.length hi - HT.sIx xs.length 0 lo)
/-- a[lo:hi] of a list -/
def fSl (a : D) (lo hi : Option Int) : M D := fun S =>
  match a with
  | .tup ds => if HT.sIx ds.length 0 lo = 0 ∧ HT.sIx ds.length ds.length hi = ds.length then none else some (.ok (.tup (cutD ds lo hi)), S)
  | a => match listOf a S with
    | some ds => some (.ok (.fl (cutD ds lo hi)), S)
    | none => none

/-! ### one-place operations -/
def fNeg (a : D) : M D := fun S => match a with
  | .int i => some (.ok (.int (-i)), S)
  | _ => none
def fFld (c : Nat) (f : Str) (a : D) : M D := fun S => match insOf a S with
  | some (c', fs) => if c' = c then (match fs.lookup f with
    | some d => some (.ok d, S)
    | none => none) else none
  | none => none
def fLen (a : D) : M D := fun S => match a with
  | .str z => if z.length ≤ lineN then some (.ok (.int z.length), S) else none
  | a => match dctU a S with
    | some kvs => some (.ok (.int kvs.length), S)
    | none => match seqOf a S with
      | some ds => some (.ok (.int ds.length), S)
      | none => none
/-- list(a), frozen | stored -/
def fList (a : D) : M D := fun S => match seqOf a S with
  | some ds => some (.ok (.fl ds), S)
  | none => none
def newO (o : SO) : M D := fun S => some (.ok (.ref S.length), S ++ [⟨o, false⟩])
def fListR (a : D) : M D := fun S => match seqOf a S with
  | some ds => newO (.lst ds) S
  | none => none
def fInt (a : D) : M D := fun S => match a with
  | .int i => some (.ok (.int i), S)
  | .bl k => some (.ok (.int (if k then 1 else 0)), S)
  | _ => none
def fSum (a : D) : M D := fun S => match listOf a S with
  | some ds => match intsOf ds with
    | some ns => some (.ok (.int ns.sum), S)
    | none => none
  | none => none
def tyD (a : D) (S : Store) : Option String := match a with
  | .non => some "NoneType"
  | .bl _ => some "bool"
  | .int _ => some "int"
  | .str _ => some "str"
  | .tup _ => some "tuple"
  | .fl _ => some "list"
  | .scr _ => none
  | .ref n => match S[n]? with
    | some ⟨.lst _, false⟩ => some "list"
    | some ⟨.dct _, false⟩ => some "dict"
    | _ => none
/-- isinstance(a, T), T a built-in class -/
def fIsi (T : String) (a : D) : M D := fun S => match tyD a S with
  | some t => some (.ok (.bl (t == T || (t == "bool" && T == "int"))), S)
  | none => none
/-- s.index(t), l.index(x) -/
def fIndexS (a b : D) : M D := fun S => match a, b with
  | .str z, .str w => match Builtin.Str.occurrences z w 0 z.length 1 with
    | i :: _ => some (.ok (.int (i : Nat)), S)
    | [] => none
  | _, _ => none
def fIndexL (a b : D) : M D := fun S => match pyD S pyDepth a, pyD S pyDepth b with
  | some (.list ys), some x => if SeqAt.shaped x = true ∧ SeqAt.shaped (.list ys) = true then (match ys.findIdx? (fun z => PyData.eqv z x) with
    | some j => some (.ok (.int (j : Nat)), S)
    | none => none) else none
  | _, _ => none

def a1 (f : D → M D) (ds : List D) : M D := match ds with
  | [a] => f a
  | _ => stuck
def a2 (f : D → D → M D) (ds : List D) : M D := match ds with
  | [a, b] => f a b
  | _ => stuck
def fMax2 (a b : D) : M D := fun S => match a, b with
  | .int i, .int j => some (.ok (.int (if j > i then j else i)), S)
  | _, _ => none
def fMin2 (a b : D) : M D := fun S => match a, b with
  | .int i, .int j => some (.ok (.int (if j < i then j else i)), S)
  | _, _ => none
/-- isinstance(x, C), C an own class -/
def fIsC (c : Nat) (d : D) : M D := fun S => match insOf d S with
  | some (c', _) => if c' = c then some (.ok (.bl true), S) else none
  | none => none

/-! ### sequencing -/
def bnd {α β : Type} (m : Out α) (f : α → M β) : Out β := match m with
  | some (.ok a, S) => f a S
  | some (.error x, S) => some (.error x, S)
  | none => none
def eVar (i : Nat) : ME := fun l S => match l[i]? with
  | some (some d) => some (.ok d, S)
  | _ => none
def eC (d : D) : ME := fun _ S => some (.ok d, S)
def e1 (f : D → M D) (a : ME) : ME := fun l S => bnd (a l S) f
def e2 (f : D → D → M D) (a b : ME) : ME := fun l S => bnd (a l S) fun x S1 => bnd (b l S1) fun y => f x y
def aNil : MA := fun _ S => some (.ok [], S)
def aCons (a : ME) (r : MA) : MA := fun l S => bnd (a l S) fun x S1 => bnd (r l S1) fun xs S2 => some (.ok (x :: xs), S2)
def eA (f : List D → M D) (a : MA) : ME := fun l S => bnd (a l S) f
def eTup (a : MA) : ME := eA (fun ds => guard (decide (ds.length ≤ lineN)) (okV (.tup ds))) a
def eLst (a : MA) : ME := eA (fun ds => guard (decide (ds.length ≤ lineN)) (okV (.fl ds))) a
def eLstR (a : MA) : ME := eA (fun ds => guard (decide (ds.length ≤ lineN)) (newO (.lst ds))) a
def blOf (d : D) : M Bool := fun S => match d with
  | .bl b => some (.ok b, S)
  | _ => none
def tOf (a : ME) : MT := fun l S => bnd (a l S) blOf
def tAnd (a b : MT) : MT := fun l S => bnd (a l S) fun c S1 => if c = true then b l S1 else some (.ok false, S1)
def tOr (a b : MT) : MT := fun l S => bnd (a l S) fun c S1 => if c = true then some (.ok true, S1) else b l S1
def tNot (a : MT) : MT := fun l S => bnd (a l S) fun c S1 => some (.ok (!c), S1)
def eAnd (a b : ME) : ME := fun l S => bnd (tOf a l S) fun c S1 => if c = true then b l S1 else some (.ok (.bl false), S1)
def eOr (a b : ME) : ME := fun l S => bnd (tOf a l S) fun c S1 => if c = true then some (.ok (.bl true), S1) else b l S1
def eNot (a : ME) : ME := fun l S => bnd (tOf a l S) fun c S1 => some (.ok (.bl (!c)), S1)
def eIf (t : MT) (a b : ME) : ME := fun l S => bnd (t l S) fun c S1 => if c = true then a l S1 else b l S1
/-- a < b < c: two comparisons, b asked once -/
def eChain (f g : D → D → M D) (a b c : ME) : ME := fun l S => bnd (a l S) fun x S1 => bnd (b l S1) fun y S2 => bnd (f x y S2) fun z S3 => match z with
  | .bl true => bnd (c l S3) fun w S4 => g y w S4
  | .bl false => some (.ok (.bl false), S3)
  | _ => none
def iofD (d : D) : M (Option Int) := fun S => match d with
  | .int i => some (.ok (some i), S)
  | _ => none
def oNo : Sl → M (Option Int) := fun _ S => some (.ok none, S)
def oSo (a : ME) : Sl → M (Option Int) := fun l S => bnd (a l S) iofD
def eSl (a : ME) (lo hi : Sl → M (Option Int)) : ME := fun l S => bnd (a l S) fun x S1 => bnd (lo l S1) fun i S2 => bnd (hi l S2) fun j S3 => fSl x i j S3
/-- o.m(..) of a built-in thing: chk is asked of o ahead of the arguments -/
def eBM (chk : D → Store → Bool) (f : D → List D → M D) (o : ME) (a : MA) : ME := fun l S => bnd (o l S) fun x S1 => if chk x S1 = true then bnd (a l S1) fun ds S2 => f x ds S2 else none
def isL (d : D) (S : Store) : Bool := (listOf d S).isSome
def isS (d : D) (_ : Store) : Bool := match d with
  | .str _ => true
  | _ => false
def m1 (f : D → D → M D) (x : D) (ds : List D) : M D := match ds with
  | [a] => f x a
  | _ => stuck
def eIndex (o : ME) (a : MA) : ME := fun l S => bnd (o l S) fun x S1 => if isS x S1 = true then (bnd (a l S1) fun ds S2 => m1 fIndexS x ds S2) else if isL x S1 = true then bnd (a l S1) fun ds S2 => m1 fIndexL x ds S2 else none
/-- o.m(..) of an instance of the class c -/
def eMeth (c : Nat) (m : Str) (g : List D → M D) (o : ME) (a : MA) : ME := fun l S => bnd (o l S) fun x S1 => match insOf x S1 with
  | some (c', fs) => if c' = c ∧ fs.lookup m = none then bnd (a l S1) fun ds S2 => g (x :: ds) S2 else none
  | none => none
/-- a new instance of the class c, its __init__ -/
def fMake (c : Nat) (init : List D → M D) (ds : List D) : M D := fun S => match init (.ref S.length :: ds) (S ++ [⟨.ins c [], false⟩]) with
  | some (.ok .non, S') => some (.ok (.ref S.length), S')
  | some (.error x, S') => some (.error x, S')
  | _ => none
/-- a new dict with written keys -/
def newDct (ks : List Key) (ds : List D) : M D := fun S => if ks.length = ds.length ∧ ks.length ≤ 15 then newO (.dct ((ks.zip ds).foldl (fun acc kv => putD acc kv.1 kv.2) [])) S else none

/-! ### statements -/
def sNext : MS := fun l S => some (.nx l, S)
def sSeq (a b : MS) : MS := fun l S => match a l S with
  | some (.nx l', S') => b l' S'
  | r => r
def bndS {α : Type} (l : Sl) (m : Out α) (f : α → Store → OutS) : OutS := match m with
  | some (.ok a, S) => f a S
  | some (.error x, S) => some (.ex x l, S)
  | none => none
def sBreak : MS := fun l S => some (.bk l, S)
def sCont : MS := fun l S => some (.ct l, S)
def sDrop (a : ME) : MS := fun l S => bndS l (a l S) fun _ S' => some (.nx l, S')
def sRet (a : ME) : MS := fun l S => bndS l (a l S) fun d S' => some (.rt d, S')
def sRetN : MS := fun _ S => some (.rt .non, S)
def sSet (i : Nat) (a : ME) : MS := fun l S => bndS l (a l S) fun d S' => some (.nx (l.set i (some d)), S')
def sIf (t : MT) (a b : MS) : MS := fun l S => bndS l (t l S) fun c S' => if c = true then a l S' else b l S'
/-- targets: a name, names of a tuple -/
def setAll : List Nat → List D → Sl → Option Sl
  | [], [], l => some l
  | i :: is, d :: ds, l => setAll is ds (l.set i (some d))
  | _, _, _ => none
inductive Tg where
  | one (i : Nat) | many (is : List Nat)
def tgIx : Tg → List Nat
  | .one i => [i]
  | .many is => is
def tgSet (t : Tg) (d : D) (l : Sl) : Option Sl := match t with
  | .one i => some (l.set i (some d))
  | .many is => match d with
    | .tup ds => setAll is ds l
    | _ => none
def sSetT (is : List Nat) (a : ME) : MS := fun l S => bndS l (a l S) fun d S' => match tgSet (.many is) d l with
  | some l' => some (.nx l', S')
  | none => none
def putFldD (c : Nat) (f : Str) (x d : D) : Store → Option Store := fun S => match x with
  | .ref n => match S[n]? with
    | some ⟨.ins c' fs, false⟩ => if c' = c ∧ fs.length < 1000 then some (S.set n ⟨.ins c (putFD f d fs), false⟩) else none
    | _ => none
  | _ => none
/-- o.f = e: e first -/
def sFld (c : Nat) (o : ME) (f : Str) (e : ME) : MS := fun l S => bndS l (e l S) fun d S1 => bndS l (o l S1) fun x S2 => match putFldD c f x d S2 with
  | some S3 => some (.nx l, S3)
  | none => none
def putIxD (x i d : D) : Store → Option Store := fun S => match x with
  | .ref n => match S[n]? with
    | some ⟨.lst ds, false⟩ => match i with
      | .int k => match ixN ds.length k with
        | some j => some (S.set n ⟨.lst (ds.set j d), false⟩)
        | none => none
      | _ => none
    | some ⟨.dct kvs, false⟩ => match keyOf i with
      | some k => if kvs.length < lineN then some (S.set n ⟨.dct (putD kvs k d), false⟩) else none
      | none => none
    | _ => none
  | _ => none
/-- o[i] = e: e first, then o, then i -/
def sPut (o i e : ME) : MS := fun l S => bndS l (e l S) fun d S1 => bndS l (o l S1) fun x S2 => bndS l (i l S2) fun k S3 => match putIxD x k d S3 with
  | some S4 => some (.nx l, S4)
  | none => none
def fAppend (x d : D) : M D := fun S => match x with
  | .ref n => match S[n]? with
    | some ⟨.lst ds, false⟩ => if ds.length < lineN then some (.ok .non, S.set n ⟨.lst (ds ++ [d]), false⟩) else none
    | _ => none
  | _ => none
def fPopAt (x i : D) : M D := fun S => match x with
  | .ref n => match S[n]? with
    | some ⟨.lst ds, false⟩ => match i with
      | .int 0 => match ds with
        | d :: r => if ds.length ≤ lineN then some (.ok d, S.set n ⟨.lst r, false⟩) else none
        | [] => none
      | _ => none
    | _ => none
  | _ => none
/-- d.get(k), d.get(k, x) -/
def fGet1 (x k : D) : M D := fun S => match dctOf x S, keyOf k with
  | some kvs, some k => some (.ok ((valD kvs k).getD .non), S)
  | _, _ => none
def fGet2 (x k d : D) : M D := fun S => match dctOf x S, keyOf k with
  | some kvs, some k => some (.ok ((valD kvs k).getD d), S)
  | _, _ => none
def eGet1 (o a : ME) : ME := fun l S => bnd (o l S) fun x S1 => match dctOf x S1 with
  | some _ => bnd (a l S1) fun k S2 => fGet1 x k S2
  | none => none
def eGet2 (o a b : ME) : ME := fun l S => bnd (o l S) fun x S1 => match dctOf x S1 with
  | some _ => bnd (a l S1) fun k S2 => bnd (b l S2) fun d S3 => fGet2 x k d S3
  | none => none

/-! ### loops -/
/-- the body at each item -/
def forL (tg : Tg) (body : MS) : List D → Sl → Store → OutS
  | [], l, S => some (.nx l, S)
  | d :: ds, l, S => match tgSet tg d l with
    | none => none
    | some l1 => match body l1 S with
      | some (.nx l', S') => forL tg body ds l' S'
      | some (.ct l', S') => forL tg body ds l' S'
      | some (.bk l', S') => some (.nx l', S')
      | r => r
/-- what is walked, as the store stands -/
abbrev Src := Store → Option (List D)
def forG (src : Src) (tg : Tg) (body : MS) : Nat → Nat → Sl → Store → OutS
  | 0, _, _, _ => none
  | k + 1, i, l, S => match src S with
    | none => none
    | some ds => match ds[i]? with
      | none => some (.nx l, S)
      | some d => match tgSet tg d l with
        | none => none
        | some l1 => match body l1 S with
          | some (.nx l', S') => forG src tg body k (i + 1) l' S'
          | some (.ct l', S') => forG src tg body k (i + 1) l' S'
          | some (.bk l', S') => some (.nx l', S')
          | r => r
def sFor (items : Sl → M Src) (tg : Tg) (body : MS) : MS := fun l S => bndS l (items l S) fun src S1 => match src S1 with
  | none => none
  | some ds => forG src tg body (ds.length + 1) 0 l S1
/-- a list -/
def iL (a : ME) : Sl → M Src := fun l S => bnd (a l S) fun x S1 => if isL x S1 = true then some (.ok (listOf x), S1) else none
def signsOf (z : Str) : List D := z.cps.toList.map fun c => D.str ⟨#[c]⟩
/-- a text, sign by sign -/
def iS (a : ME) : Sl → M Src := fun l S => bnd (a l S) fun x S1 => match x with
  | .str z => some (.ok (fun _ => some (signsOf z)), S1)
  | _ => none
def rangeD (lo : Int) (n : Nat) : List D := (List.range n).map fun (i : Nat) => D.int (lo + (i : Int))
def bigI (i : Int) : Bool := decide (-4611686018427387904 ≤ i ∧ i < 4611686018427387904)
def iR1 (a : ME) : Sl → M Src := fun l S => bnd (a l S) fun x S1 => match x with
  | .int n => if bigI n = true then some (.ok (fun _ => some (rangeD 0 n.toNat)), S1) else none
  | _ => none
def iR2 (a b : ME) : Sl → M Src := fun l S => bnd (a l S) fun x S1 => bnd (b l S1) fun y S2 => match x, y with
  | .int lo, .int hi => if bigI lo = true ∧ bigI hi = true then some (.ok (fun _ => some (rangeD lo (hi - lo).toNat)), S2) else none
  | _, _ => none
def enumD (ds : List D) : List D := ds.zipIdx.map fun p => D.tup [.int (p.2 : Nat), p.1]
def iEn (a : ME) : Sl → M Src := fun l S => bnd (a l S) fun x S1 => if isL x S1 = true then some (.ok (fun S' => (listOf x S').map enumD), S1) else none
def zipD (xs ys : List D) : List D := List.zipWith (fun x y => D.tup [x, y]) xs ys
def iZ (a b : ME) : Sl → M Src := fun l S => bnd (a l S) fun x S1 => bnd (b l S1) fun y S2 => if isL x S2 = true ∧ isL y S2 = true then some (.ok (fun S' => match listOf x S', listOf y S' with
  | some xs, some ys => some (zipD xs ys)
  | _, _ => none), S2) else none
def fuelN : Nat := 1000000
def whileF (t : MT) (body : MS) : Nat → Sl → Store → OutS
  | 0, _, _ => none
  | k + 1, l, S => bndS l (t l S) fun c S1 => if c = true then (match body l S1 with
      | some (.nx l', S') => whileF t body k l' S'
      | some (.ct l', S') => whileF t body k l' S'
      | some (.bk l', S') => some (.nx l', S')
      | r => r) else some (.nx l, S1)
def sWhile (t : MT) (body : MS) : MS := whileF t body fuelN
/-- what a comprehension's block sees -/
def wipeD (l : Sl) : List Nat → Sl
  | [] => l
  | v :: vs => (wipeD l vs).set v none
/-- no error leaves -/
def bndN {α β : Type} (m : Out α) (f : α → M β) : Out β := match m with
  | some (.ok a, S) => f a S
  | _ => none
def compG (src : Src) (tg : Tg) (t : MT) (e : ME) (l : Sl) : Nat → Nat → List D → M D
  | 0, _, _, _ => none
  | k + 1, i, acc, S => match src S with
    | none => none
    | some ds => match ds[i]? with
      | none => some (.ok (.fl acc), S)
      | some d => match tgSet tg d l with
        | none => none
        | some l1 => bndN (t l1 S) fun c S1 => if c = true then (bndN (e l1 S1) fun x S2 => if acc.length < lineN then compG src tg t e l k (i + 1) (acc ++ [x]) S2 else none) else compG src tg t e l k (i + 1) acc S1
def tYes' : MT := fun _ S => some (.ok true, S)
def eComp (vs : List Nat) (items : Sl → M Src) (tg : Tg) (t : MT) (e : ME) : ME := fun l S => bnd (items l S) fun src S1 => match src S1 with
  | none => none
  | some ds => compG src tg t e (wipeD l vs) (ds.length + 1) 0 [] S1
/-- .. of a list, all items kept -/
def compL (tg : Tg) (t : MT) (e : ME) (l : Sl) : List D → List D → M D
  | acc, [], S => some (.ok (.fl acc), S)
  | acc, d :: ds, S => match tgSet tg d l with
    | none => none
    | some l1 => bndN (t l1 S) fun c S1 => if c = true then (bndN (e l1 S1) fun x S2 => if acc.length < lineN then compL tg t e l (acc ++ [x]) ds S2 else none) else compL tg t e l acc ds S1
theorem forG_const {tg : Tg} {body : MS} (ds : List D) : ∀ (k i : Nat) (l : Sl) (S : Store), ds.length < k + i → i ≤ ds.length → forG (fun _ => some ds) tg body k i l S = forL tg body (ds.drop i) l S
  | 0, i, l, S, h, h' => absurd h (by omega)
  | k + 1, i, l, S, h, h' => by
    unfold forG
    cases e : ds[i]? with
    | none =>
      rw [List.drop_eq_nil_of_le (List.getElem?_eq_none_iff.mp e)]
      simp only [e]
      rfl
    | some d =>
      obtain ⟨hi, e2⟩ := List.getElem?_eq_some_iff.mp e
      rw [List.drop_eq_getElem_cons hi, e2]
      simp only [e]
      unfold forL
      cases tgSet tg d l with
      | none => rfl
      | some l1 =>
        simp only
        cases body l1 S with
        | none => rfl
        | some p =>
          obtain ⟨f, S'⟩ := p
          cases f with
          | nx l' => exact forG_const ds k (i + 1) l' S' (by omega) (by omega)
          | ct l' => exact forG_const ds k (i + 1) l' S' (by omega) (by omega)
          | bk l' => rfl
          | rt d => rfl
          | ex x l' => rfl
theorem forG_all {tg : Tg} {body : MS} {ds : List D} {l : Sl} {S : Store} : forG (fun _ => some ds) tg body (ds.length + 1) 0 l S = forL tg body ds l S := forG_const ds _ 0 l S (by omega) (by omega)
theorem compG_const {tg : Tg} {t : MT} {e : ME} {l : Sl} (ds : List D) : ∀ (k i : Nat) (acc : List D) (S : Store), ds.length < k + i → i ≤ ds.length → compG (fun _ => some ds) tg t e l k i acc S = compL tg t e l acc (ds.drop i) S
  | 0, i, acc, S, h, h' => absurd h (by omega)
  | k + 1, i, acc, S, h, h' => by
    unfold compG
    cases q : ds[i]? with
    | none =>
      rw [List.drop_eq_nil_of_le (List.getElem?_eq_none_iff.mp q)]
      simp only [q]
      rfl
    | some d =>
      obtain ⟨hi, e2⟩ := List.getElem?_eq_some_iff.mp q
      rw [List.drop_eq_getElem_cons hi, e2]
      simp only [q]
      unfold compL
      cases tgSet tg d l with
      | none => rfl
      | some l1 =>
        simp only
        have ih := fun acc S => compG_const (tg := tg) (t := t) (e := e) (l := l) ds k (i + 1) acc S (by omega) (by omega)
        simp only [ih]
theorem compG_all {tg : Tg} {t : MT} {e : ME} {l : Sl} {ds acc : List D} {S : Store} : compG (fun _ => some ds) tg t e l (ds.length + 1) 0 acc S = compL tg t e l acc ds S := compG_const ds _ 0 acc S (by omega) (by omega)
/-- a def: its slots, its body -/
def fnM (n : Nat) (np : Nat) (body : MS) : List D → M D := fun ds S => if ds.length = np then (match body (ds.map some ++ List.replicate (n - np) none) S with
  | some (.nx _, S') => some (.ok .non, S')
  | some (.rt d, S') => some (.ok d, S')
  | some (.ex x _, S') => some (.error x, S')
  | _ => none) else none
/-- raise C(..) -/
def sRaise (c : Nat) (fs : Option (List Str)) (a : MA) : MS := fun l S => bndS l (a l S) fun ds S' => match fs with
  | none => some (.ex ⟨c, none⟩ l, S')
  | some ns => if ns.length = ds.length then some (.ex ⟨c, some (ns.zip ds)⟩ l, S') else none
def noEx (r : OutS) : OutS := match r with
  | some (.ex _ _, _) => none
  | r => r
def unsetS (i : Nat) (r : OutS) : OutS := match r with
  | some (.nx l, S) => some (.nx (l.set i none), S)
  | some (.bk l, S) => some (.bk (l.set i none), S)
  | some (.ct l, S) => some (.ct (l.set i none), S)
  | some (.rt d, S) => some (.rt d, S)
  | _ => none
/-- try: body / except C [as slot i]: suite -/
def sTry (body : MS) (catch_ : Nat → Option Bool) (i : Option Nat) (suite : Exn → MS) : MS := fun l S => match body l S with
  | some (.ex x l', S') => match catch_ x.c with
    | some true => (match i with
      | none => noEx (suite x l' S')
      | some i => if i < l'.length then unsetS i (suite x (l'.set i none) S') else none)
    | some false => some (.ex x l', S')
    | none => none
  | r => r
/-- a field of the error that a suite holds -/
def eXF (c : Nat) (f : Str) (x : Exn) : ME := fun _ S => if x.c = c then (match x.fs with
  | some gs => match gs.lookup f with
    | some d => some (.ok d, S)
    | none => none
  | none => none) else none
/-- isinstance of that error -/
def eIsE (tab : Nat → Option Bool) (x : Exn) : ME := fun _ S => match x.fs with
  | some _ => none
  | none => match tab x.c with
    | some b => some (.ok (.bl b), S)
    | none => none
/-- raise C('..'), raise C(e) -/
def sRaiseB (c : Nat) : MS := fun l S => some (.ex ⟨c, none⟩ l, S)
def sRaiseN (c : Nat) (f : Str) (a : MA) : MS := fun l S => bndS l (a l S) fun ds S' => match ds with
  | [d] => some (.ex ⟨c, some [(f, d)]⟩ l, S')
  | _ => none
/-- no error comes out -/
def noErr {α : Type} (m : M α) : M α := fun S => match m S with
  | some (.ok a, S') => some (.ok a, S')
  | _ => none
end Sim

/-! Sim: what a run of the constructs promises of the layer's readings. -/
namespace Sim
open PySem PySem.Spec L2

section
variable (K : PySem.W.Frag) (ca : Nat → Addr)
/-- an error in the air -/
def XR (ρ φ : List Addr) (H : Hp) (cls : Value) (d : Option Addr) (x : Exn) : Prop := cls = .ref (ca x.c) ∧ XF K ρ φ H d x.fs
def AtM {α β : Type} (W : WW) (R : List Addr → List Addr → Hp → β → α → Prop) (ρ φ : List Addr) (H : Hp) (σ : St) (c : Out α) (Q : β → Hp → Prop) : Prop :=
  match c with
  | some (.ok a, S') => ∀ (ρ' : List Addr) (H' : Hp) (b : β), SR K ca ρ' φ S' H' → Ext ρ H ρ' H' → R ρ' φ H' b a → Q b H'
  | some (.error x, S') => ∀ (ρ' : List Addr) (H' : Hp) (C : Value) (d : Option Addr), SR K ca ρ' φ S' H' → Ext ρ H ρ' H' → XR K ca ρ' φ H' C d x → W.f C d σ H'
  | none => False
def Tm {α β : Type} (W : WW) (R : List Addr → List Addr → Hp → β → α → Prop) (m : Sl → M α) : St → Hp → (β → Hp → Prop) → Prop := fun σ H Q =>
  ∃ (ρ φ : List Addr) (S : Store) (l : Sl), SR K ca ρ φ S H ∧ SlX W.x K ρ φ H σ l ∧ AtM K ca W R ρ φ H σ (m l S) Q
def AtS (W : WW) (ρ φ : List Addr) (H : Hp) (c : OutS) (D : Ends) : Prop :=
  match c with
  | some (.nx l', S') => ∀ (ρ' : List Addr) (H' : Hp) (σ' : St), SR K ca ρ' φ S' H' → Ext ρ H ρ' H' → SlX W.x K ρ' φ H' σ' l' → D.nx σ' H'
  | some (.bk l', S') => ∀ (ρ' : List Addr) (H' : Hp) (σ' : St), SR K ca ρ' φ S' H' → Ext ρ H ρ' H' → SlX W.x K ρ' φ H' σ' l' → D.bk σ' H'
  | some (.ct l', S') => ∀ (ρ' : List Addr) (H' : Hp) (σ' : St), SR K ca ρ' φ S' H' → Ext ρ H ρ' H' → SlX W.x K ρ' φ H' σ' l' → D.ct σ' H'
  | some (.rt d, S') => ∀ (ρ' : List Addr) (H' : Hp) (v : V), SR K ca ρ' φ S' H' → Ext ρ H ρ' H' → Rel K ρ' φ H' v d → D.rt v H'
  | some (.ex x l', S') => ∀ (ρ' : List Addr) (H' : Hp) (σ' : St) (C : Value) (d : Option Addr), SR K ca ρ' φ S' H' → Ext ρ H ρ' H' → SlX W.x K ρ' φ H' σ' l' → XR K ca ρ' φ H' C d x → W.f C d σ' H'
  | none => False
def TmS (W : WW) (m : MS) : TS := fun D σ H => ∃ (ρ φ : List Addr) (S : Store) (l : Sl), SR K ca ρ φ S H ∧ SlX W.x K ρ φ H σ l ∧ AtS K ca W ρ φ H (m l S) D
/-- equal, whatever the heap -/
def REq {α : Type} (_ _ : List Addr) (_ : Hp) (b a : α) : Prop := b = a
end

section
variable (ca : Nat → Addr) (W : WW) (X : Cx)
def SE (e : Expr) (m : ME) : Prop := PE X e (Tm X.K ca W (Rel X.K) m)
def ST (e : Expr) (m : MT) : Prop := PT X e (Tm X.K ca W REq m)
def SW (e : Expr) (m : MT) : Prop := PW X e (Tm X.K ca W REq m)
def SA (es : List Expr) (m : MA) : Prop := PA X es (Tm X.K ca W (Rels X.K) m)
def SO' (e : Option Expr) (m : Sl → M (Option Int)) : Prop := PO X e (Tm X.K ca W REq m)
def SS (st : Stmt) (m : MS) : Prop := PS X st (TmS X.K ca W m)
def SSs (st : List Stmt) (m : MS) : Prop := PSs X st (TmS X.K ca W m)
end

section
variable {X : Cx}
theorem pe_imp {e : Expr} {t t' : TE} (h : PE X e t) (i : ∀ σ H Q, t' σ H Q → t σ H Q) : PE X e t' := ⟨fun pins s σ H Q I q => h.run pins s σ H Q I (i σ H Q q)⟩
theorem pt_imp {e : Expr} {t t' : TT} (h : PT X e t) (i : ∀ σ H Q, t' σ H Q → t σ H Q) : PT X e t' := ⟨fun pins s σ H Q I q => h.run pins s σ H Q I (i σ H Q q)⟩
theorem pw_imp {e : Expr} {t t' : TT} (h : PW X e t) (i : ∀ σ H Q, t' σ H Q → t σ H Q) : PW X e t' := ⟨fun wh pins s σ H Q I q => h.run wh pins s σ H Q I (i σ H Q q)⟩
theorem pa_imp {e : List Expr} {t t' : TA} (h : PA X e t) (i : ∀ σ H Q, t' σ H Q → t σ H Q) : PA X e t' := ⟨fun pos pins s σ H Q I q => h.run pos pins s σ H Q I (i σ H Q q)⟩
theorem ps_imp {e : Stmt} {t t' : TS} (h : PS X e t) (i : ∀ D σ H, t' D σ H → t D σ H) : PS X e t' := ⟨fun pins s σ H D I q => h.run pins s σ H D I (i D σ H q)⟩
theorem pss_imp {e : List Stmt} {t t' : TS} (h : PSs X e t) (i : ∀ D σ H, t' D σ H → t D σ H) : PSs X e t' := ⟨fun pins s σ H D I q => h.run pins s σ H D I (i D σ H q)⟩
/-- one or the other -/
theorem pe_or2 {e : Expr} {t u : TE} (h : PE X e t) (k : PE X e u) : PE X e (fun σ H Q => t σ H Q ∨ u σ H Q) := ⟨fun pins s σ H Q I q => q.elim (h.run pins s σ H Q I) (k.run pins s σ H Q I)⟩
theorem ps_or2 {e : Stmt} {t u : TS} (h : PS X e t) (k : PS X e u) : PS X e (fun D σ H => t D σ H ∨ u D σ H) := ⟨fun pins s σ H D I q => q.elim (h.run pins s σ H D I) (k.run pins s σ H D I)⟩
theorem opR_or {f : Value → Value → Sem Value} {r r' : R2} (h : OpR X f r) (k : OpR X f r') : OpR X f (fun x y H Q => r x y H Q ∨ r' x y H Q) := by
  intro pins s σ H x y v u Q I rx ry q
  exact q.elim (h pins s σ H x y v u Q I rx ry) (k pins s σ H x y v u Q I rx ry)
theorem callR_or {f : Value} {r r' : List V → Hp → VK → Prop} (h : CallR X f r) (k : CallR X f r') : CallR X f (fun xs H Q => r xs H Q ∨ r' xs H Q) := by
  intro pins s σ H xs us Q I rx q
  exact q.elim (h pins s σ H xs us Q I rx) (k pins s σ H xs us Q I rx)
end

section
variable {K : PySem.W.Frag} {ca : Nat → Addr} {ρ ρ' φ : List Addr} {S S' : Store} {H H' : Hp}
theorem XR.mono {C : Value} {d : Option Addr} {x : Exn} (e : Ext ρ H ρ' H') (h : XR K ca ρ φ H C d x) : XR K ca ρ' φ H' C d x := ⟨h.1, h.2.mono e⟩
theorem SR.trk (h : SR K ca ρ φ S H) {a : Addr} (ha : a ∈ ρ) : H a ≠ none := by
  obtain ⟨n, hn⟩ := List.mem_iff_getElem?.mp ha
  have hl : n < S.length := by rw [← h.len]; exact (List.getElem?_eq_some_iff.mp hn).1
  obtain ⟨ho, q, _⟩ := h.ob n a (S[n]) hn (List.getElem?_eq_getElem hl)
  unfold At at q
  split at q
  · obtain ⟨o, q⟩ := q; rw [q]; simp
  · rw [q]; simp
theorem SR.fresh (h : SR K ca ρ φ S H) {p : Addr} (hp : H p = none) : p ∉ ρ ∧ p ∉ φ := ⟨fun z => h.trk z hp, fun z => h.ph p z hp⟩
theorem Ext.lay {p : Addr} {o : HO} (hp : H p = none) : Ext ρ H ρ (upd H p o) :=
  ⟨⟨[], by simp, by simp⟩, fun b u hb _ => by rw [upd_ne (ne_of_none hb hp)]; exact hb, fun b hb => by
    by_cases c : b = p
    · subst c; rw [upd_same]; simp
    · rw [upd_ne c]; exact hb⟩
theorem At.lay {a p : Addr} {ho o : HO} {k : Bool} (h : At H a ho k) (hp : H p = none) : At (upd H p o) a ho k := by
  cases k with
  | true =>
    obtain ⟨u, h⟩ := (show ∃ u, H a = some (.frz u ho) from h)
    exact (show ∃ u, upd H p o a = some (.frz u ho) from ⟨u, by rw [upd_ne (ne_of_none h hp)]; exact h⟩)
  | false =>
    have h' : H a = some ho := h
    show upd H p o a = some ho
    rw [upd_ne (ne_of_none h' hp)]; exact h'
theorem At.put {a p : Addr} {ho o : HO} {k : Bool} (h : At H a ho k) (hp : a ≠ p) : At (upd H p o) a ho k := by
  cases k with
  | true =>
    obtain ⟨u, h⟩ := (show ∃ u, H a = some (.frz u ho) from h)
    exact (show ∃ u, upd H p o a = some (.frz u ho) from ⟨u, by rw [upd_ne hp]; exact h⟩)
  | false =>
    have h' : H a = some ho := h
    show upd H p o a = some ho
    rw [upd_ne hp]; exact h'
/-- a new frozen thing -/
theorem SR.lay (h : SR K ca ρ φ S H) {p : Addr} {o : HO} (hp : H p = none) : SR K ca ρ φ S (upd H p o) :=
  ⟨h.nd, h.len, h.dj, fun a ha => Ext.trk (Ext.lay (ρ := ρ) hp) a (h.ph a ha), fun n a c h1 h2 => by
    obtain ⟨ho, q1, q2⟩ := h.ob n a c h1 h2
    exact ⟨ho, q1.lay hp, q2.mono (Ext.lay hp)⟩⟩
/-- a new stored thing -/
theorem SR.grow (h : SR K ca ρ φ S H) {p : Addr} {ho : HO} {so : SO} (hp : H p = none) (r : RelO K ca (ρ ++ [p]) φ (upd H p ho) ho so) : SR K ca (ρ ++ [p]) φ (S ++ [⟨so, false⟩]) (upd H p ho) := by
  obtain ⟨f1, f2⟩ := h.fresh hp
  have e : Ext ρ H (ρ ++ [p]) (upd H p ho) := ⟨⟨[p], rfl, fun q hq => by rw [List.mem_singleton.mp hq]; exact hp⟩, (Ext.lay (ρ := ρ) hp).keep, (Ext.lay (ρ := ρ) hp).trk⟩
  refine ⟨?_, by simp [h.len], fun a ha hm => ?_, fun a ha => e.trk a (h.ph a ha), fun n a c h1 h2 => ?_⟩
  · rw [List.nodup_append]
    exact ⟨h.nd, by simp, fun a ha b hb z => by rw [List.mem_singleton.mp hb] at z; subst z; exact f1 ha⟩
  · rcases List.mem_append.mp hm with z | z
    · exact h.dj a ha z
    · rw [List.mem_singleton.mp z] at ha; exact f2 ha
  · by_cases hn : n < ρ.length
    · rw [List.getElem?_append_left hn] at h1
      rw [List.getElem?_append_left (by rw [← h.len]; exact hn)] at h2
      obtain ⟨ho', q1, q2⟩ := h.ob n a c h1 h2
      exact ⟨ho', q1.lay hp, q2.mono e⟩
    · rw [List.getElem?_append_right (by omega)] at h1
      rw [List.getElem?_append_right (by rw [← h.len]; omega)] at h2
      have hz : n - ρ.length = 0 := by
        have := (List.getElem?_eq_some_iff.mp h1).1
        simpa using this
      rw [hz] at h1
      rw [← h.len, hz] at h2
      cases h1; cases h2
      exact ⟨ho, upd_same, r⟩
theorem Ext.grow {p : Addr} {ho : HO} (hp : H p = none) : Ext ρ H (ρ ++ [p]) (upd H p ho) :=
  ⟨⟨[p], rfl, fun q hq => by rw [List.mem_singleton.mp hq]; exact hp⟩, (Ext.lay (ρ := ρ) hp).keep, (Ext.lay (ρ := ρ) hp).trk⟩
theorem Ext.put {p : Addr} {ho : HO} (hp : p ∈ ρ) (ht : H p ≠ none) : Ext ρ H ρ (upd H p ho) :=
  ⟨⟨[], by simp, by simp⟩, fun b u hb n => by rw [upd_ne (fun z => n (by rw [z]; exact hp))]; exact hb, fun b hb => by
    by_cases c : b = p
    · subst c; rw [upd_same]; simp
    · rw [upd_ne c]; exact hb⟩
theorem nd_ix' {α : Type} {l : List α} (hN : l.Nodup) {i j : Nat} {x : α} (a : l[i]? = some x) (b : l[j]? = some x) : i = j := by
  obtain ⟨h1, e1⟩ := List.getElem?_eq_some_iff.mp a
  obtain ⟨h2, e2⟩ := List.getElem?_eq_some_iff.mp b
  exact (List.getElem_inj hN).mp (e1.trans e2.symm)
/-- a stored thing changes -/
theorem SR.put (h : SR K ca ρ φ S H) {n : Nat} {p : Addr} {c : Cell} {ho : HO} {so : SO} (hn : ρ[n]? = some p) (r : RelO K ca ρ φ (upd H p ho) ho so) : SR K ca ρ φ (S.set n ⟨so, false⟩) (upd H p ho) := by
  have hp : p ∈ ρ := List.mem_of_getElem? hn
  have e : Ext ρ H ρ (upd H p ho) := Ext.put hp (h.trk hp)
  refine ⟨h.nd, by rw [List.length_set]; exact h.len, h.dj, fun a ha => e.trk a (h.ph a ha), fun m a c' h1 h2 => ?_⟩
  by_cases hm : n = m
  · subst hm
    have z : p = a := Option.some.inj (hn.symm.trans h1)
    subst z
    rw [List.getElem?_set_self (by rw [← h.len]; exact (List.getElem?_eq_some_iff.mp hn).1)] at h2
    cases h2
    exact ⟨ho, upd_same, r⟩
  · rw [List.getElem?_set_ne hm] at h2
    obtain ⟨ho', q1, q2⟩ := h.ob m a c' h1 h2
    exact ⟨ho', q1.put (fun z => hm (nd_ix' h.nd hn (z ▸ h1))), q2.mono e⟩

/-! ### outcomes -/
section
variable {α β γ δ : Type} {W : WW} {R : List Addr → List Addr → Hp → β → α → Prop} {R' : List Addr → List Addr → Hp → δ → γ → Prop} {σ : St} {l : Sl} {Q : β → Hp → Prop} {Q' : δ → Hp → Prop}
theorem AtM.mono {c : Out α} (e : Ext ρ H ρ' H') (h : AtM K ca W R ρ φ H σ c Q) : AtM K ca W R ρ' φ H' σ c Q := by
  unfold AtM at h ⊢
  split at h
  · exact fun ρ2 H2 b hS e2 r => h ρ2 H2 b hS (e.trans e2) r
  · exact fun ρ2 H2 C d hS e2 r => h ρ2 H2 C d hS (e.trans e2) r
  · exact h
theorem AtM.here {a : α} {b : β} (h : AtM K ca W R ρ φ H σ (some (.ok a, S)) Q) (hS : SR K ca ρ φ S H) (r : R ρ φ H b a) : Q b H := h ρ H b hS (Ext.refl ρ H) r
theorem bindAt {m : Sl → M α} {k : α → M γ} (hS : SR K ca ρ φ S H) (hl : SlX W.x K ρ φ H σ l) (h : AtM K ca W R' ρ φ H σ (bnd (m l S) k) Q')
    (q : ∀ a S1 ρ1 H1 b, m l S = some (.ok a, S1) → SR K ca ρ1 φ S1 H1 → Ext ρ H ρ1 H1 → R ρ1 φ H1 b a → AtM K ca W R' ρ1 φ H1 σ (k a S1) Q' → Q b H1) : Tm K ca W R m σ H Q := by
  refine ⟨ρ, φ, S, l, hS, hl, ?_⟩
  cases hm : m l S with
  | none => rw [hm] at h; exact h
  | some p =>
    obtain ⟨r, S1⟩ := p
    rw [hm] at h
    cases r with
    | error x => exact h
    | ok a => exact fun ρ1 H1 b hS1 e1 r1 => q a S1 ρ1 H1 b hm hS1 e1 r1 (h.mono e1)
theorem bindC {c : Out α} {k : α → M γ} (h : AtM K ca W R' ρ φ H σ (bnd c k) Q')
    (q : ∀ a S1 ρ1 H1 b, SR K ca ρ1 φ S1 H1 → Ext ρ H ρ1 H1 → R ρ1 φ H1 b a → AtM K ca W R' ρ1 φ H1 σ (k a S1) Q' → Q b H1) : AtM K ca W R ρ φ H σ c Q := by
  cases c with
  | none => exact h
  | some p =>
    obtain ⟨r, S1⟩ := p
    cases r with
    | error x => exact h
    | ok a => exact fun ρ1 H1 b hS1 e1 r1 => q a S1 ρ1 H1 b hS1 e1 r1 (h.mono e1)
theorem bindAtS {m : Sl → M α} {k : α → Store → OutS} {D : Ends} (hS : SR K ca ρ φ S H) (hl : SlX W.x K ρ φ H σ l) (h : AtS K ca W ρ φ H (bndS l (m l S) k) D)
    (mono : ∀ {ρ1 H1 c}, Ext ρ H ρ1 H1 → AtS K ca W ρ φ H c D → AtS K ca W ρ1 φ H1 c D)
    (q : ∀ a S1 ρ1 H1 b, m l S = some (.ok a, S1) → SR K ca ρ1 φ S1 H1 → Ext ρ H ρ1 H1 → R ρ1 φ H1 b a → AtS K ca W ρ1 φ H1 (k a S1) D → Q b H1) : Tm K ca W R m σ H Q := by
  refine ⟨ρ, φ, S, l, hS, hl, ?_⟩
  cases hm : m l S with
  | none => rw [hm] at h; exact h
  | some p =>
    obtain ⟨r, S1⟩ := p
    rw [hm] at h
    cases r with
    | error x => exact fun ρ1 H1 C d hS1 e1 r1 => h ρ1 H1 σ C d hS1 e1 (hl.mono e1) r1
    | ok a => exact fun ρ1 H1 b hS1 e1 r1 => q a S1 ρ1 H1 b hm hS1 e1 r1 (mono e1 h)
end
theorem AtS.mono {W : WW} {c : OutS} {D : Ends} (e : Ext ρ H ρ' H') (h : AtS K ca W ρ φ H c D) : AtS K ca W ρ' φ H' c D := by
  unfold AtS at h ⊢
  split at h
  · exact fun ρ2 H2 b hS e2 r => h ρ2 H2 b hS (e.trans e2) r
  · exact fun ρ2 H2 b hS e2 r => h ρ2 H2 b hS (e.trans e2) r
  · exact fun ρ2 H2 b hS e2 r => h ρ2 H2 b hS (e.trans e2) r
  · exact fun ρ2 H2 b hS e2 r => h ρ2 H2 b hS (e.trans e2) r
  · exact fun ρ2 H2 b C d hS e2 r => h ρ2 H2 b C d hS (e.trans e2) r
  · exact h
end

section
variable {K : PySem.W.Frag} {ca : Nat → Addr} {ρ ρ' φ : List Addr} {S S' : Store} {H H' : Hp} {v : V} {d : D}
/-! ### reading data -/
theorem SR.obj (h : SR K ca ρ φ S H) {n : Nat} {a : Addr} {so : SO} {k : Bool} (hn : ρ[n]? = some a) (hs : S[n]? = some ⟨so, k⟩) : ∃ ho, At H a ho k ∧ RelO K ca ρ φ H ho so := h.ob n a ⟨so, k⟩ hn hs
theorem At.rd {a : Addr} {ho : HO} {k : Bool} (h : At H a ho k) : Rd H a ho := by
  unfold At at h
  split at h
  · exact .inr h
  · exact .inl h
theorem At.tr {a : Addr} {ho : HO} (h : At H a ho false) : H a = some ho := h
theorem scr_sq {p : Addr} {ns : List Int} (h : Scr K ρ φ H p ns) : SqL K H p (ns.map V.int) := by
  rcases h with ⟨h, _, _⟩ | h
  · exact .inl h
  · exact h H
theorem list_rel (hS : SR K ca ρ φ S H) (r : Rel K ρ φ H v d) {ds : List D} (h : listOf d S = some ds) : ∃ p xs, v = .ref p ∧ SqL K H p xs ∧ Rels K ρ φ H xs ds := by
  cases r with
  | fl h1 n m r =>
    rename_i p xs es
    cases h
    exact ⟨p, xs, rfl, .inl (.inl h1), r⟩
  | scr h1 =>
    rename_i p ns
    cases h
    exact ⟨p, _, rfl, scr_sq h1, Rels.ofInts ns⟩
  | ref h1 =>
    rename_i a n
    unfold listOf at h
    simp only at h
    split at h
    · rename_i es k hs
      cases h
      obtain ⟨ho, q1, q2⟩ := hS.obj h1 hs
      unfold RelO at q2
      split at q2
      · rename_i xs es' e; cases e; exact ⟨a, xs, rfl, .inl q1.rd, q2⟩
      · rename_i e; cases e
      · rename_i e; cases e
      · exact q2.elim
    · cases h
  | _ => cases h
theorem cat_rel (hS : SR K ca ρ φ S H) (r : Rel K ρ φ H v d) {ds : List D} (h : catOf d S = some ds) : ∃ p xs, v = .ref p ∧ H p = some (.lst xs) ∧ Rels K ρ φ H xs ds := by
  cases r with
  | fl h1 n m r =>
    rename_i p xs es
    cases h
    exact ⟨p, xs, rfl, h1, r⟩
  | ref h1 =>
    rename_i a n
    unfold catOf at h
    simp only at h
    split at h
    · rename_i es hs
      cases h
      obtain ⟨ho, q1, q2⟩ := hS.obj h1 hs
      unfold RelO at q2
      split at q2
      · rename_i xs es' e; cases e; exact ⟨a, xs, rfl, q1, q2⟩
      · rename_i e; cases e
      · rename_i e; cases e
      · exact q2.elim
    · cases h
  | _ => cases h
theorem seq_rel (hS : SR K ca ρ φ S H) (r : Rel K ρ φ H v d) {ds : List D} (h : seqOf d S = some ds) : ∃ p xs, v = .ref p ∧ (SqL K H p xs ∨ SqT K H p xs) ∧ Rels K ρ φ H xs ds := by
  unfold seqOf at h
  split at h
  · cases h
    cases r with
    | tup h1 n m r => exact ⟨_, _, rfl, .inr (.inl (.inl h1)), r⟩
  · obtain ⟨p, xs, e, q, r⟩ := list_rel hS r h
    exact ⟨p, xs, e, .inl q, r⟩
theorem dct_rel (hS : SR K ca ρ φ S H) (r : Rel K ρ φ H v d) {ks : List (Key × D)} (h : dctOf d S = some ks) : ∃ p kvs, v = .ref p ∧ Rd H p (.dK kvs) ∧ RelK K ρ φ H kvs ks := by
  cases r with
  | ref h1 =>
    rename_i a n
    unfold dctOf at h
    simp only at h
    split at h
    · rename_i es k hs
      cases h
      obtain ⟨ho, q1, q2⟩ := hS.obj h1 hs
      unfold RelO at q2
      split at q2
      · rename_i e; cases e
      · rename_i xs es' e; cases e; exact ⟨a, xs, rfl, q1.rd, q2⟩
      · rename_i e; cases e
      · exact q2.elim
    · cases h
  | _ => cases h
theorem ins_rel (hS : SR K ca ρ φ S H) (r : Rel K ρ φ H v d) {c : Nat} {gs : List (Str × D)} (h : insOf d S = some (c, gs)) : ∃ n p dx fs, d = .ref n ∧ v = .ref p ∧ ρ[n]? = some p ∧ S[n]? = some ⟨.ins c gs, false⟩ ∧ H p = some (.ins (ca c) dx fs) ∧ RelK K ρ φ H fs gs := by
  cases r with
  | ref h1 =>
    rename_i a n
    unfold insOf at h
    simp only at h
    split at h
    · rename_i c' es hs
      cases h
      obtain ⟨ho, q1, q2⟩ := hS.obj h1 hs
      unfold RelO at q2
      split at q2
      · rename_i e; cases e
      · rename_i e; cases e
      · rename_i C dx fs c2 gs2 e
        cases e
        obtain ⟨q3, q4⟩ := q2
        subst q3
        exact ⟨n, a, dx, fs, rfl, rfl, h1, hs, q1, q4⟩
      · exact q2.elim
    · cases h
  | _ => cases h
theorem dctU_rel (hS : SR K ca ρ φ S H) (r : Rel K ρ φ H v d) {ks : List (Key × D)} (h : dctU d S = some ks) : ∃ p kvs, v = .ref p ∧ H p = some (.dK kvs) ∧ RelK K ρ φ H kvs ks := by
  cases r with
  | ref h1 =>
    rename_i a n
    unfold dctU at h
    simp only at h
    split at h
    · rename_i es hs
      cases h
      obtain ⟨ho, q1, q2⟩ := hS.obj h1 hs
      unfold RelO at q2
      split at q2
      · rename_i e; cases e
      · rename_i xs es' e; cases e; exact ⟨a, xs, rfl, q1, q2⟩
      · rename_i e; cases e
      · exact q2.elim
    · cases h
  | _ => cases h
theorem relK_val {k : Key} : ∀ {vs : List (Key × V)} {ds : List (Key × D)}, RelK K ρ φ H vs ds → (valV vs k = none ∧ valD ds k = none) ∨ ∃ v d, valV vs k = some v ∧ valD ds k = some d ∧ Rel K ρ φ H v d
  | _, _, .nil => .inl ⟨rfl, rfl⟩
  | (k', v) :: vs, (_, d) :: ds, .cons r rs => by
    by_cases c : k' = k
    · exact .inr ⟨v, d, by simp [valV, List.find?_cons, c], by simp [valD, List.find?_cons, c], r⟩
    · have e1 : valV ((k', v) :: vs) k = valV vs k := by simp [valV, List.find?_cons, c]
      have e2 : valD ((k', d) :: ds) k = valD ds k := by simp [valD, List.find?_cons, c]
      rw [e1, e2]
      exact relK_val rs
theorem relK_any {k : Key} : ∀ {vs : List (Key × V)} {ds : List (Key × D)}, RelK K ρ φ H vs ds → (vs.any fun kv => decide (kv.1 = k)) = (ds.any fun kv => decide (kv.1 = k))
  | _, _, .nil => rfl
  | _, _, .cons r rs => by rw [List.any_cons, List.any_cons, relK_any rs]
theorem relK_append {κ : Type} : ∀ {vs ws : List (κ × V)} {ds es : List (κ × D)}, RelK K ρ φ H vs ds → RelK K ρ φ H ws es → RelK K ρ φ H (vs ++ ws) (ds ++ es)
  | _, _, _, _, .nil, s => s
  | _, _, _, _, .cons r rs, s => .cons r (relK_append rs s)
theorem relK_put {k : Key} (q : Rel K ρ φ H v d) {vs : List (Key × V)} {ds : List (Key × D)} (h : RelK K ρ φ H vs ds) : RelK K ρ φ H (putK vs k v) (putD ds k d) := by
  have hm : ∀ {vs : List (Key × V)} {ds : List (Key × D)}, RelK K ρ φ H vs ds → RelK K ρ φ H (vs.map (fun kv => if kv.1 = k then (kv.1, v) else kv)) (ds.map (fun kv => if kv.1 = k then (kv.1, d) else kv)) := by
    intro vs ds h
    induction h with
    | nil => exact .nil
    | cons r rs ih =>
      rename_i k' v' d' vs' ds'
      rw [List.map_cons, List.map_cons]
      by_cases c : k' = k
      · rw [if_pos c, if_pos c]; exact .cons q ih
      · rw [if_neg c, if_neg c]; exact .cons r ih
  unfold putK putD
  rw [relK_any h]
  split
  · exact hm h
  · exact relK_append h (.cons q .nil)
theorem relK_putF {f : Str} (q : Rel K ρ φ H v d) : ∀ {vs : List (Str × V)} {ds : List (Str × D)}, RelK K ρ φ H vs ds → RelK K ρ φ H (putF f v vs) (putFD f d ds)
  | _, _, .nil => .cons q .nil
  | (g, x) :: vs, (_, y) :: ds, .cons r rs => by
    unfold putF putFD
    by_cases c : g = f
    · rw [if_pos c, if_pos c]; exact .cons q rs
    · rw [if_neg c, if_neg c]; exact .cons r (relK_putF q rs)
theorem putF_len {f : Str} {v : V} : ∀ {fs : List (Str × V)} , (putF f v fs).length ≤ fs.length + 1
  | [] => Nat.le_refl _
  | (g, x) :: r => by
    unfold putF
    split
    · exact Nat.le_succ _
    · simpa using putF_len (fs := r)
theorem ints_rel : ∀ {vs : List V} {ds : List D} {ns : List Int}, Rels K ρ φ H vs ds → intsOf ds = some ns → vs = ns.map V.int
  | _, _, _, .nil, h => by cases h; rfl
  | _, _, _, .cons r rs, h => by
    cases r <;> first | (cases h; done) | skip
    rename_i i
    unfold intsOf at h
    rename_i ds
    cases e : intsOf ds with
    | none => rw [e] at h; cases h
    | some ms => rw [e] at h; cases h; rw [ints_rel rs e]; rfl
theorem dp_ints : ∀ (ns : List Int), DpAll K H (ns.map V.int) (ns.map PyData.int)
  | [] => .nil
  | n :: ns => .cons (.int n) (dp_ints ns)
theorem py_all {k : Nat} (ih : ∀ {v : V} {d : D} {x : PyData}, Rel K ρ φ H v d → pyD S k d = some x → Dp K H v x) : ∀ {vs : List V} {ds : List D} {xs : List PyData}, Rels K ρ φ H vs ds → ds.mapM (pyD S k) = some xs → DpAll K H vs xs
  | _, _, xs, .nil, h => by
    rw [List.mapM_nil] at h
    cases h
    exact .nil
  | _, d :: ds, xs, .cons r rs, h => by
    rw [List.mapM_cons] at h
    cases e : pyD S k d with
    | none => rw [e] at h; cases h
    | some x =>
      rw [e] at h
      cases e2 : ds.mapM (pyD S k) with
      | none => rw [e2] at h; cases h
      | some ys => rw [e2] at h; cases h; exact .cons (ih r e) (py_all ih rs e2)
theorem py_rel (hS : SR K ca ρ φ S H) : ∀ (k : Nat) {v : V} {d : D} {x : PyData}, Rel K ρ φ H v d → pyD S k d = some x → Dp K H v x
  | 0, _, _, _, _, h => by unfold pyD at h; cases h
  | k + 1, v, d, x, r, h => by
    cases r with
    | non => unfold pyD at h; cases h; exact .non
    | bl b => unfold pyD at h; cases h; exact .bl b
    | int i => unfold pyD at h; cases h; exact .int i
    | str s => unfold pyD at h; cases h; exact .str s
    | tup h1 n m r =>
      rename_i p xs ds
      unfold pyD at h
      cases e : ds.mapM (pyD S k) with
      | none => rw [e] at h; cases h
      | some ys => rw [e] at h; cases h; exact .tup (.inl (.inl h1)) (py_all (py_rel hS k) r e)
    | fl h1 n m r =>
      rename_i p xs ds
      unfold pyD at h
      cases e : ds.mapM (pyD S k) with
      | none => rw [e] at h; cases h
      | some ys => rw [e] at h; cases h; exact .lst (.inl (.inl h1)) (py_all (py_rel hS k) r e)
    | scr h1 =>
      unfold pyD at h
      cases h
      exact .lst (scr_sq h1) (dp_ints _)
    | ref h1 =>
      rename_i a n
      unfold pyD at h
      split at h
      · rename_i ds b hs
        cases e : ds.mapM (pyD S k) with
        | none => rw [e] at h; cases h
        | some ys =>
          rw [e] at h
          cases h
          obtain ⟨ho, q1, q2⟩ := hS.obj h1 hs
          unfold RelO at q2
          split at q2
          · rename_i xs es' e'; cases e'; exact .lst (.inl q1.rd) (py_all (py_rel hS k) q2 e)
          · rename_i e'; cases e'
          · rename_i e'; cases e'
          · exact q2.elim
      · cases h
end
end Sim

/-! Sim: rules for expressions. -/
namespace Sim
open PySem PySem.Spec L2 PyProof.Rows

theorem line_le {n : Nat} (h : n ≤ lineN) : n ≤ sizeLine := by rw [sizeLine_eq]; exact h
theorem line_lt {n : Nat} (h : n < lineN) : n < sizeLine := by rw [sizeLine_eq]; exact h

section
variable {X : Cx} {ca : Nat → Addr} {W : WW} {e a b c : Expr} {ma mb mc : ME} {pos : Pos}

/-! ### names and constants -/
theorem se_var {i : Nat} {x : Str} (hN : X.N[i]? = some x) (hv : Vis X.env.scope x) (hd : (x == ("__debug__" : Str)) = false) (hcd : (x == ("__classdict__" : Str)) = false) : SE ca W X (.Name x pos) (eVar i) :=
  pe_imp (pe_var hN hv hd hcd) fun σ H Q ⟨ρ, φ, S, l, hS, hl, h⟩ => by
    unfold eVar at h
    split at h
    · rename_i d hd
      obtain ⟨v, hv, r⟩ := hl.get hd
      exact ⟨v, hv, h.here hS r⟩
    · exact h.elim
/-- constants -/
inductive Cst : V → D → Prop
  | non : Cst .non .non
  | bl (b : Bool) : Cst (.bl b) (.bl b)
  | int (i : Int) : Cst (.int i) (.int i)
  | str (s : Str) : Cst (.str s) (.str s)
theorem Cst.rel {K : PySem.W.Frag} {ρ φ : List Addr} {H : Hp} {v : V} {d : D} (h : Cst v d) : Rel K ρ φ H v d := by
  cases h with
  | non => exact .non
  | bl b => exact .bl b
  | int i => exact .int i
  | str s => exact .str s
theorem se_tc {v : V} {d : D} (h : PE X e (tC v)) (c : Cst v d) : SE ca W X e (eC d) :=
  pe_imp h fun σ H Q ⟨ρ, φ, S, l, hS, hl, h⟩ => AtM.here (b := v) h hS c.rel
theorem se_int {i : Int} {j : Tok} : SE ca W X (.Constant (.int i) j pos) (eC (.int i)) := se_tc pe_int (.int i)
theorem se_bl {b : Bool} {j : Tok} : SE ca W X (.Constant (.bool b) j pos) (eC (.bl b)) := se_tc pe_bl (.bl b)
theorem se_non {j : Tok} : SE ca W X (.Constant .none j pos) (eC .non) := se_tc pe_non .non
theorem se_str {s : Str} {j : Tok} : SE ca W X (.Constant (.str s) j pos) (eC (.str s)) := se_tc pe_str (.str s)
theorem se_globI {x : Str} {i : Int} (hm : ∃ t : Tok, X.mg x = some (.int i t)) (hg : Gl X x) (hd : (x == ("__debug__" : Str)) = false) : SE ca W X (.Name x pos) (eC (.int i)) := by
  obtain ⟨t, hm⟩ := hm
  exact se_tc (pe_glob (v := .int i) hg hm (show ∃ t', Value.int i t = Value.int i t' from ⟨t, rfl⟩) hd) (.int i)
theorem se_globS {x : Str} {s : Str} (hm : ∃ t : Tok, X.mg x = some (.str s t)) (hg : Gl X x) (hd : (x == ("__debug__" : Str)) = false) : SE ca W X (.Name x pos) (eC (.str s)) := by
  obtain ⟨t, hm⟩ := hm
  exact se_tc (pe_glob (v := .str s) hg hm (show ∃ t', Value.str s t = Value.str s t' from ⟨t, rfl⟩) hd) (.str s)

/-! ### two-place operations -/
/-- the reading r is met by the operation f -/
def OpS (K : PySem.W.Frag) (ca : Nat → Addr) (r : R2) (f : D → D → M D) : Prop := ∀ (W : WW) (ρ φ : List Addr) (S : Store) (H : Hp) (σ : L2.St) (x y : V) (a b : D) (Q : VK),
  SR K ca ρ φ S H → Rel K ρ φ H x a → Rel K ρ φ H y b → AtM K ca W (Rel K) ρ φ H σ (f a b S) Q → r x y H Q
theorem op_run {r : R2} {f : D → D → M D} (hs : OpS X.K ca r f) {σ : L2.St} {H : Hp} {Q : VK} (h : Tm X.K ca W (Rel X.K) (e2 f ma mb) σ H Q) : tOp r (Tm X.K ca W (Rel X.K) ma) (Tm X.K ca W (Rel X.K) mb) σ H Q := by
  obtain ⟨ρ, φ, S, l, hS, hl, h⟩ := h
  exact bindAt hS hl h fun a S1 ρ1 H1 x m1 hS1 e1 rx h1 => bindAt hS1 (hl.mono e1) h1 fun b S2 ρ2 H2 y m2 hS2 e2 ry h2 => hs _ _ _ _ _ _ _ _ _ _ _ hS2 (rx.mono e2) ry h2
theorem se_bin {op : Operator} {r : R2} {f : D → D → M D} (ho : OpR X (binaryOp op) r) (hs : OpS X.K ca r f) (ha : SE ca W X a ma) (hb : SE ca W X b mb) : SE ca W X (.BinOp a op b pos) (e2 f ma mb) :=
  pe_imp (pe_op ho ha hb) fun _ _ _ h => op_run hs h
theorem se_cmp {op : CmpOp} {r : R2} {f : D → D → M D} (ho : OpR X (compareOp op) r) (hs : OpS X.K ca r f) (ha : SE ca W X a ma) (hb : SE ca W X b mb) (hm : behindInMarks op b = false) : SE ca W X (.Compare a [op] [b] pos) (e2 f ma mb) :=
  pe_imp (pe_cmpR ho ha hb hm) fun _ _ _ h => op_run hs h
theorem st_of {t : TE} {m : ME} (h : ∀ σ H Q, Tm X.K ca W (Rel X.K) m σ H Q → t σ H Q) (p : PT X e (tTest t)) : ST ca W X e (tOf m) :=
  pt_imp p fun σ H Q ⟨ρ, φ, S, l, hS, hl, q⟩ => h _ _ _ (bindAt hS hl q fun d S1 ρ1 H1 x m1 hS1 e1 rx h1 => by
    cases rx <;> first | exact h1.elim | skip
    rename_i k
    exact ⟨k, rfl, AtM.here (b := k) h1 hS1 rfl⟩)
theorem st_cmp {op : CmpOp} {r : R2} {f : D → D → M D} (ho : OpR X (compareOp op) r) (hs : OpS X.K ca r f) (ha : SE ca W X a ma) (hb : SE ca W X b mb) (hm : behindInMarks op b = false) : ST ca W X (.Compare a [op] [b] pos) (tOf (e2 f ma mb)) :=
  st_of (fun _ _ _ h => op_run hs h) (pt_cmpR ho ha hb hm)
theorem chain_run {r r' : R2} {f g : D → D → M D} (hf : OpS X.K ca r f) (hg : OpS X.K ca r' g) {σ : L2.St} {H : Hp} {Q : VK} (h : Tm X.K ca W (Rel X.K) (eChain f g ma mb mc) σ H Q) :
    tChain r r' (Tm X.K ca W (Rel X.K) ma) (Tm X.K ca W (Rel X.K) mb) (Tm X.K ca W (Rel X.K) mc) σ H Q := by
  obtain ⟨ρ, φ, S, l, hS, hl, h⟩ := h
  refine bindAt hS hl h fun a S1 ρ1 H1 x m1 hS1 e1 rx h1 => bindAt hS1 (hl.mono e1) h1 fun b S2 ρ2 H2 y m2 hS2 e2 ry h2 => ?_
  refine hf W ρ2 φ S2 H2 σ x y a b _ hS2 (rx.mono e2) ry (bindC h2 fun d S3 ρ3 H3 z hS3 e3 r3 h3 => ?_)
  cases r3 <;> first | exact h3.elim | skip
  rename_i k
  refine ⟨k, rfl, ?_⟩
  cases k with
  | true =>
    rw [if_pos rfl]
    exact bindAt hS3 ((hl.mono (e1.trans e2)).mono e3) h3 fun w S4 ρ4 H4 u m4 hS4 e4 ru h4 => hg _ _ _ _ _ _ _ _ _ _ _ hS4 ((ry.mono e3).mono e4) ru h4
  | false =>
    rw [if_neg Bool.false_ne_true]
    exact AtM.here (b := V.bl false) h3 hS3 (.bl false)
theorem se_chain {op op' : CmpOp} {r r' : R2} {f g : D → D → M D} (ho : OpR X (compareOp op) r) (ho' : OpR X (compareOp op') r') (hf : OpS X.K ca r f) (hg : OpS X.K ca r' g) (ha : SE ca W X a ma) (hb : SE ca W X b mb) (hc : SE ca W X c mc) (hm : lastMarks [op, op'] [b, c] = false) :
    SE ca W X (.Compare a [op, op'] [b, c] pos) (eChain f g ma mb mc) := pe_imp (pe_chain ho ho' ha hb hc hm) fun _ _ _ h => chain_run hf hg h
theorem st_chain {op op' : CmpOp} {r r' : R2} {f g : D → D → M D} (ho : OpR X (compareOp op) r) (ho' : OpR X (compareOp op') r') (hf : OpS X.K ca r f) (hg : OpS X.K ca r' g) (ha : SE ca W X a ma) (hb : SE ca W X b mb) (hc : SE ca W X c mc) (hm : lastMarks [op, op'] [b, c] = false) :
    ST ca W X (.Compare a [op, op'] [b, c] pos) (tOf (eChain f g ma mb mc)) := st_of (fun _ _ _ h => chain_run hf hg h) (pt_chain ho ho' ha hb hc hm)

/-! ### the operations -/
theorem opI_S {f : D → D → M D} {g : Int → Int → V} {g' : Int → Int → D} (hg : ∀ i j, Cst (g i j) (g' i j)) (hf : ∀ a b S r, f a b S = some r → ∃ i j, a = .int i ∧ b = .int j ∧ r = (.ok (g' i j), S)) : OpS X.K ca (rI0 g) f := by
  intro W ρ φ S H σ x y a b Q hS rx ry h
  cases hm : f a b S with
  | none => rw [hm] at h; exact h.elim
  | some r =>
    obtain ⟨i, j, rfl, rfl, rfl⟩ := hf a b S r hm
    rw [hm] at h
    cases rx; cases ry
    exact ⟨i, j, rfl, rfl, AtM.here h hS (hg i j).rel⟩
theorem opIC_S {C : Int → Int → Prop} {f : D → D → M D} {g : Int → Int → V} {g' : Int → Int → D} (hg : ∀ i j, Cst (g i j) (g' i j)) (hf : ∀ a b S r, f a b S = some r → ∃ i j, a = .int i ∧ b = .int j ∧ C i j ∧ r = (.ok (g' i j), S)) : OpS X.K ca (rI C g) f := by
  intro W ρ φ S H σ x y a b Q hS rx ry h
  cases hm : f a b S with
  | none => rw [hm] at h; exact h.elim
  | some r =>
    obtain ⟨i, j, rfl, rfl, hc, rfl⟩ := hf a b S r hm
    rw [hm] at h
    cases rx; cases ry
    exact ⟨i, j, rfl, rfl, hc, AtM.here h hS (hg i j).rel⟩
/-- a new frozen list -/
theorem new_fl {ρ φ : List Addr} {S : Store} {H : Hp} {σ : L2.St} {xs : List V} {ds : List D} {Q : VK} (hS : SR X.K ca ρ φ S H) (r : Rels X.K ρ φ H xs ds) (h : AtM X.K ca W (Rel X.K) ρ φ H σ (some (.ok (.fl ds), S)) Q) : ∀ p, H p = none → Q (.ref p) (upd H p (.lst xs)) :=
  fun p hp => h ρ _ (.ref p) (hS.lay hp) (Ext.lay hp) (.fl upd_same (hS.fresh hp).1 (hS.fresh hp).2 (r.mono (Ext.lay hp)))
theorem new_tup {ρ φ : List Addr} {S : Store} {H : Hp} {σ : L2.St} {xs : List V} {ds : List D} {Q : VK} (hS : SR X.K ca ρ φ S H) (r : Rels X.K ρ φ H xs ds) (h : AtM X.K ca W (Rel X.K) ρ φ H σ (some (.ok (.tup ds), S)) Q) : ∀ p, H p = none → Q (.ref p) (upd H p (.tup xs)) :=
  fun p hp => h ρ _ (.ref p) (hS.lay hp) (Ext.lay hp) (.tup upd_same (hS.fresh hp).1 (hS.fresh hp).2 (r.mono (Ext.lay hp)))
/-- a new stored list -/
theorem new_lst {ρ φ : List Addr} {S : Store} {H : Hp} {σ : L2.St} {xs : List V} {ds : List D} {Q : VK} (hS : SR X.K ca ρ φ S H) (r : Rels X.K ρ φ H xs ds) (h : AtM X.K ca W (Rel X.K) ρ φ H σ (newO (.lst ds) S) Q) : ∀ p, H p = none → Q (.ref p) (upd H p (.lst xs)) :=
  fun p hp => h (ρ ++ [p]) _ (.ref p) (hS.grow hp (r.mono (Ext.grow hp))) (Ext.grow hp) (.ref (by rw [hS.len.symm]; simp))
def rStr : R2 := fun x y H Q => ∃ i j, x = .str i ∧ y = .str j ∧ i.length + j.length ≤ sizeLine ∧ Q (.str (i ++ j)) H
def rAddA : R2 := fun x y H Q => rI0 (fun i j => .int (i + j)) x y H Q ∨ (rStr x y H Q ∨ rCat x y H Q)
theorem op_addA : OpR X (binaryOp .Add) rAddA := opR_or op_add (opR_or op_add_str op_cat)
theorem add_S : OpS X.K ca rAddA fAdd := by
  intro W ρ φ S H σ x y a b Q hS rx ry h
  unfold fAdd at h
  split at h
  · cases rx; cases ry
    exact .inl ⟨_, _, rfl, rfl, AtM.here h hS (.int _)⟩
  · cases rx; cases ry
    split at h
    · rename_i hl
      exact .inr (.inl ⟨_, _, rfl, rfl, line_le hl, AtM.here h hS (.str _)⟩)
    · exact h.elim
  · split at h
    · rename_i xs ys h1 h2
      split at h
      · rename_i hl
        obtain ⟨p, vs, rfl, q1, r1⟩ := cat_rel hS rx h1
        obtain ⟨q, ws, rfl, q2, r2⟩ := cat_rel hS ry h2
        exact .inr (.inr ⟨p, q, vs, ws, rfl, rfl, q1, q2, line_le (by rw [r1.length, r2.length]; exact hl), new_fl hS (r1.append r2) h⟩)
      · exact h.elim
    · exact h.elim
theorem sub_S : OpS X.K ca (rI0 fun i j => .int (i - j)) fSub := opI_S (g' := fun i j => .int (i - j)) (fun _ _ => .int _) fun a b S r h => by
  unfold fSub at h
  split at h
  · cases h; exact ⟨_, _, rfl, rfl, rfl⟩
  · cases h
theorem div_S : OpS X.K ca (rI CDivW fun i j => .int (i / j)) fDiv := opIC_S (g' := fun i j => .int (i / j)) (fun _ _ => .int _) fun a b S r h => by
  unfold fDiv at h
  split at h
  · rename_i i j
    split at h
    · rename_i hc
      cases h
      refine ⟨_, _, rfl, rfl, wide_div (b := 200) hc.1 ?_ (by decide) (by decide), rfl⟩
      have e : (2 : Nat) ^ 200 = 1606938044258990275541962092341162602522202993782792835301376 := by decide +kernel
      rw [e]; omega
    · cases h
  · cases h
theorem mod_S : OpS X.K ca (rI (fun _ j => 0 < j) fun i j => .int (i % j)) fMod := opIC_S (g' := fun i j => .int (i % j)) (fun _ _ => .int _) fun a b S r h => by
  unfold fMod at h
  split at h
  · split at h
    · rename_i hc; cases h; exact ⟨_, _, rfl, rfl, hc, rfl⟩
    · cases h
  · cases h
theorem pow_S : OpS X.K ca (rI CPow fun i j => .int (i ^ j.toNat)) fPow := opIC_S (g' := fun i j => .int (i ^ j.toNat)) (fun _ _ => .int _) fun a b S r h => by
  unfold fPow at h
  split at h
  · split at h
    · rename_i hc; cases h; exact ⟨_, _, rfl, rfl, ⟨hc.1, by omega, hc.2.2⟩, rfl⟩
    · cases h
  · cases h
theorem cmpI_S {p : Int → Int → Bool} : OpS X.K ca (rI0 fun i j => .bl (p i j)) (fCmpI p) := opI_S (g' := fun i j => .bl (p i j)) (fun _ _ => .bl _) fun a b S r h => by
  unfold fCmpI at h
  split at h
  · cases h; exact ⟨_, _, rfl, rfl, rfl⟩
  · cases h
def rLtA (K : PySem.W.Frag) : R2 := fun x y H Q => rI0 (fun i j => .bl (decide (i < j))) x y H Q ∨ rLtT K x y H Q
theorem op_ltA (hu : X.A.units < cLine) : OpR X (compareOp .Lt) (rLtA X.K) := opR_or op_lt (op_ltT hu)
theorem lt_S : OpS X.K ca (rLtA X.K) fLt := by
  intro W ρ φ S H σ x y a b Q hS rx ry h
  unfold fLt at h
  split at h
  · cases rx; cases ry
    exact .inl ⟨_, _, rfl, rfl, AtM.here h hS (.bl _)⟩
  · split at h
    · rename_i ns ms h1 h2
      cases rx with
      | tup a1 a2 a3 a4 =>
        cases ry with
        | tup b1 b2 b3 b4 =>
          have z1 := ints_rel a4 h1
          have z2 := ints_rel b4 h2
          subst z1 z2
          exact .inr ⟨_, _, ns, ms, rfl, rfl, .inl (.inl a1), .inl (.inl b1), AtM.here h hS (.bl _)⟩
    · exact h.elim
  · exact h.elim
theorem eq_S : OpS X.K ca (rEqD X.K) fEq := by
  intro W ρ φ S H σ x y a b Q hS rx ry h
  unfold fEq eqD at h
  split at h
  · rename_i k hk
    split at hk
    · rename_i u w h1 h2
      split at hk
      · rename_i hc
        cases hk
        exact ⟨u, w, py_rel hS _ rx h1, py_rel hS _ ry h2, hc.1, hc.2, AtM.here h hS (.bl _)⟩
      · cases hk
    · cases hk
  · exact h.elim
theorem ne_S : OpS X.K ca (rNeD X.K) fNe := by
  intro W ρ φ S H σ x y a b Q hS rx ry h
  unfold fNe eqD at h
  split at h
  · rename_i k hk
    split at hk
    · rename_i u w h1 h2
      split at hk
      · rename_i hc
        cases hk
        exact ⟨u, w, py_rel hS _ rx h1, py_rel hS _ ry h2, hc.1, hc.2, AtM.here h hS (.bl _)⟩
      · cases hk
    · cases hk
  · exact h.elim
theorem isNon_rel {K : PySem.W.Frag} {ρ φ : List Addr} {H : Hp} {v : V} {d : D} (r : Rel K ρ φ H v d) : decide (v = .non) = isNon d := by
  cases r <;> rfl
def rIsNo : R2 := fun x y H Q => y = .non ∧ Q (.bl (decide (x = .non))) H
def rIsNotNo : R2 := fun x y H Q => y = .non ∧ Q (.bl (!decide (x = .non))) H
theorem is_S : OpS X.K ca rIsNo fIs := by
  intro W ρ φ S H σ x y a b Q hS rx ry h
  unfold fIs at h
  split at h
  · cases ry
    refine ⟨rfl, ?_⟩
    rw [isNon_rel rx]
    exact AtM.here h hS (.bl _)
  · exact h.elim
theorem isNot_S : OpS X.K ca rIsNotNo fIsNot := by
  intro W ρ φ S H σ x y a b Q hS rx ry h
  unfold fIsNot at h
  split at h
  · cases ry
    refine ⟨rfl, ?_⟩
    rw [isNon_rel rx]
    exact AtM.here h hS (.bl _)
  · exact h.elim
def rMulA : R2 := fun x y H Q => rI CMul (fun i j => .int (i * j)) x y H Q ∨ rRep x y H Q
theorem op_mulA : OpR X (binaryOp .Mult) rMulA := opR_or op_mul op_rep
end
end Sim

/-! Sim: further rules for expressions. -/
namespace Sim
open PySem PySem.Spec L2 PyProof.Rows
section
variable {X : Cx} {ca : Nat → Addr} {W : WW} {e a b c o : Expr} {ma mb mc mo : ME} {pos : Pos}
theorem mul_S : OpS X.K ca rMulA fMul := by
  intro W ρ φ S H σ x y a b Q hS rx ry h
  unfold fMul at h
  split at h
  · cases rx; cases ry
    split at h
    · rename_i hc
      exact .inl ⟨_, _, rfl, rfl, by unfold CMul; omega, AtM.here h hS (.int _)⟩
    · exact h.elim
  · cases ry
    split at h
    · rename_i xs h1
      split at h
      · rename_i hc
        obtain ⟨p, vs, rfl, q1, r1⟩ := cat_rel hS rx h1
        refine .inr ⟨p, _, vs, rfl, rfl, q1, by omega, by omega, line_le (by rw [r1.length]; exact hc.2.2), new_fl hS ?_ h⟩
        generalize Int.toNat _ = k
        induction k with
        | zero => exact .nil
        | succ k ih =>
          rw [List.replicate_succ, List.flatten_cons, List.replicate_succ, List.flatten_cons]
          exact r1.append ih
      · exact h.elim
    · exact h.elim
  · exact h.elim
/-! ### in -/
def rInS : R2 := fun x y H Q => ∃ (c : Nat) (z : Str), x = .str ⟨#[c]⟩ ∧ y = .str z ∧ Q (.bl (decide (c ∈ z.cps.toList))) H
def rNotInS : R2 := fun x y H Q => ∃ (c : Nat) (z : Str), x = .str ⟨#[c]⟩ ∧ y = .str z ∧ Q (.bl (!decide (c ∈ z.cps.toList))) H
def rInA (K : PySem.W.Frag) : R2 := fun x y H Q => rInS x y H Q ∨ rInD K x y H Q
def rNotInA (K : PySem.W.Frag) : R2 := fun x y H Q => rNotInS x y H Q ∨ rNotInD K x y H Q
theorem key_rel {K : PySem.W.Frag} {ρ φ : List Addr} {H : Hp} {v : V} {d : D} {k : Key} (r : Rel K ρ φ H v d) (h : keyOf d = some k) : v = kV k := by
  cases r <;> first | (cases h; done) | (cases h; rfl)
theorem dget_rel {K : PySem.W.Frag} {ca : Nat → Addr} {ρ φ : List Addr} {S : Store} {H : Hp} {x y : V} {d e : D} {ks : List (Key × D)} {k : Key} (hS : SR K ca ρ φ S H) (rd : Rel K ρ φ H x d) (rk : Rel K ρ φ H y e) (h1 : dctOf d S = some ks) (h2 : keyOf e = some k) :
    ∃ p o, x = .ref p ∧ IsD H p ∧ DGet H p y o ∧ ((o = none ∧ valD ks k = none) ∨ ∃ v u, o = some v ∧ valD ks k = some u ∧ Rel K ρ φ H v u) := by
  obtain ⟨p, kvs, rfl, q1, q2⟩ := dct_rel hS rd h1
  have e2 := key_rel rk h2
  subst e2
  rcases relK_val (k := k) q2 with ⟨z1, z2⟩ | ⟨v, u, z1, z2, z3⟩
  · exact ⟨p, none, rfl, .inl ⟨kvs, q1⟩, .inl ⟨kvs, k, q1, rfl, z1.symm⟩, .inl ⟨rfl, z2⟩⟩
  · exact ⟨p, some v, rfl, .inl ⟨kvs, q1⟩, .inl ⟨kvs, k, q1, rfl, z1.symm⟩, .inr ⟨v, u, rfl, z2, z3⟩⟩
theorem str1 {w : Str} {c : Nat} (h : w.cps = ⟨[c]⟩) : w = ⟨#[c]⟩ := by
  cases w with
  | mk cps => cases h; rfl
theorem in_seq {W : WW} {ρ φ : List Addr} {S : Store} {H : Hp} {σ : L2.St} {x y : V} {a b : D} {Q : VK} (hS : SR X.K ca ρ φ S H) (rx : Rel X.K ρ φ H x a) (ry : Rel X.K ρ φ H y b) (hd : dctOf b S = none)
    (h : AtM X.K ca W (Rel X.K) ρ φ H σ (fIn a b S) Q) : rInA X.K x y H Q := by
  unfold fIn at h
  split at h
  · rename_i k hk
    unfold inD at hk
    split at hk
    · cases ry
      split at hk
      · cases rx
        split at hk
        · rename_i c hc
          cases hk
          exact .inl ⟨c, _, by rw [str1 hc], rfl, AtM.here h hS (.bl _)⟩
        · cases hk
      · cases hk
    · rw [hd] at hk
      simp only at hk
      split at hk
      · rename_i u ys h1 h2
        split at hk
        · rename_i hc
          cases hk
          exact .inr ⟨u, ys, py_rel hS _ rx h1, py_rel hS _ ry h2, hc.1, hc.2, AtM.here h hS (.bl _)⟩
        · cases hk
      · cases hk
  · exact h.elim
theorem notIn_seq {W : WW} {ρ φ : List Addr} {S : Store} {H : Hp} {σ : L2.St} {x y : V} {a b : D} {Q : VK} (hS : SR X.K ca ρ φ S H) (rx : Rel X.K ρ φ H x a) (ry : Rel X.K ρ φ H y b) (hd : dctOf b S = none)
    (h : AtM X.K ca W (Rel X.K) ρ φ H σ (fNotIn a b S) Q) : rNotInA X.K x y H Q := by
  unfold fNotIn at h
  split at h
  · rename_i k hk
    unfold inD at hk
    split at hk
    · cases ry
      split at hk
      · cases rx
        split at hk
        · rename_i c hc
          cases hk
          exact .inl ⟨c, _, by rw [str1 hc], rfl, AtM.here h hS (.bl _)⟩
        · cases hk
      · cases hk
    · rw [hd] at hk
      simp only at hk
      split at hk
      · rename_i u ys h1 h2
        split at hk
        · rename_i hc
          cases hk
          exact .inr ⟨u, ys, py_rel hS _ rx h1, py_rel hS _ ry h2, hc.1, hc.2, AtM.here h hS (.bl _)⟩
        · cases hk
      · cases hk
  · exact h.elim
theorem in_dct {W : WW} {ρ φ : List Addr} {S : Store} {H : Hp} {σ : L2.St} {x y : V} {a b : D} {ks : List (Key × D)} {Q : VK} (hS : SR X.K ca ρ φ S H) (rx : Rel X.K ρ φ H x a) (ry : Rel X.K ρ φ H y b) (hd : dctOf b S = some ks)
    (h : AtM X.K ca W (Rel X.K) ρ φ H σ (fIn a b S) Q) : ∃ p o, y = .ref p ∧ DGet H p x o ∧ Q (.bl o.isSome) H := by
  unfold fIn inD at h
  cases ry <;> first | (cases hd; done) | skip
  rename_i p n hn
  simp only [hd] at h
  cases hk : keyOf a with
  | none => rw [hk] at h; exact h.elim
  | some k =>
    rw [hk] at h
    simp only at h
    obtain ⟨p', o, e, _, q1, q2⟩ := dget_rel hS (.ref hn) rx hd hk
    cases e
    refine ⟨p, o, rfl, q1, ?_⟩
    rcases q2 with ⟨rfl, z⟩ | ⟨v, u, rfl, z, _⟩
    · rw [z] at h; exact AtM.here h hS (.bl _)
    · rw [z] at h; exact AtM.here h hS (.bl _)
theorem notIn_dct {W : WW} {ρ φ : List Addr} {S : Store} {H : Hp} {σ : L2.St} {x y : V} {a b : D} {ks : List (Key × D)} {Q : VK} (hS : SR X.K ca ρ φ S H) (rx : Rel X.K ρ φ H x a) (ry : Rel X.K ρ φ H y b) (hd : dctOf b S = some ks)
    (h : AtM X.K ca W (Rel X.K) ρ φ H σ (fNotIn a b S) Q) : ∃ p o, y = .ref p ∧ DGet H p x o ∧ Q (.bl (!o.isSome)) H := by
  unfold fNotIn inD at h
  cases ry <;> first | (cases hd; done) | skip
  rename_i p n hn
  simp only [hd] at h
  cases hk : keyOf a with
  | none => rw [hk] at h; exact h.elim
  | some k =>
    rw [hk] at h
    simp only at h
    obtain ⟨p', o, e, _, q1, q2⟩ := dget_rel hS (.ref hn) rx hd hk
    cases e
    refine ⟨p, o, rfl, q1, ?_⟩
    rcases q2 with ⟨rfl, z⟩ | ⟨v, u, rfl, z, _⟩
    · rw [z] at h; exact AtM.here h hS (.bl _)
    · rw [z] at h; exact AtM.here h hS (.bl _)
/-- which of two roads: by what the second part gives -/
theorem e2_road {f : D → D → M D} {σ : L2.St} {H : Hp} {Q : VK} (P : D → Store → Prop) {A B : Prop}
    (h : Tm X.K ca W (Rel X.K) (e2 f ma mb) σ H Q)
    (hA : (∀ (ρ φ : List Addr) (S : Store) (l : Sl), SR X.K ca ρ φ S H → SlX W.x X.K ρ φ H σ l → AtM X.K ca W (Rel X.K) ρ φ H σ (e2 f ma mb l S) Q → (∀ x S1 y S2, ma l S = some (.ok x, S1) → mb l S1 = some (.ok y, S2) → P y S2) → A))
    (hB : (∀ (ρ φ : List Addr) (S : Store) (l : Sl), SR X.K ca ρ φ S H → SlX W.x X.K ρ φ H σ l → AtM X.K ca W (Rel X.K) ρ φ H σ (e2 f ma mb l S) Q → (∀ x S1 y S2, ma l S = some (.ok x, S1) → mb l S1 = some (.ok y, S2) → ¬ P y S2) → B)) : A ∨ B := by
  obtain ⟨ρ, φ, S, l, hS, hl, h⟩ := h
  by_cases c : ∀ x S1 y S2, ma l S = some (.ok x, S1) → mb l S1 = some (.ok y, S2) → P y S2
  · exact .inl (hA ρ φ S l hS hl h c)
  · refine .inr (hB ρ φ S l hS hl h fun x S1 y S2 m1 m2 hp => c fun x' S1' y' S2' n1 n2 => ?_)
    rw [m1] at n1
    cases n1
    rw [m2] at n2
    cases n2
    exact hp
theorem in_run {σ : L2.St} {H : Hp} {Q : VK} (h : Tm X.K ca W (Rel X.K) (e2 fIn ma mb) σ H Q) :
    tOp (rInA X.K) (Tm X.K ca W (Rel X.K) ma) (Tm X.K ca W (Rel X.K) mb) σ H Q ∨ tDIn (Tm X.K ca W (Rel X.K) ma) (Tm X.K ca W (Rel X.K) mb) σ H Q :=
  e2_road (fun y S => dctOf y S = none) h
    (fun ρ φ S l hS hl h c => bindAt hS hl h fun a S1 ρ1 H1 x m1 hS1 e1 rx h1 => bindAt hS1 (hl.mono e1) h1 fun b S2 ρ2 H2 y m2 hS2 e2 ry h2 => in_seq hS2 (rx.mono e2) ry (c _ _ _ _ m1 m2) h2)
    (fun ρ φ S l hS hl h c => bindAt hS hl h fun a S1 ρ1 H1 x m1 hS1 e1 rx h1 => bindAt hS1 (hl.mono e1) h1 fun b S2 ρ2 H2 y m2 hS2 e2 ry h2 => by
      obtain ⟨ks, hk⟩ := Option.ne_none_iff_exists'.mp (c _ _ _ _ m1 m2)
      exact in_dct hS2 (rx.mono e2) ry hk h2)
theorem notIn_run {σ : L2.St} {H : Hp} {Q : VK} (h : Tm X.K ca W (Rel X.K) (e2 fNotIn ma mb) σ H Q) :
    tOp (rNotInA X.K) (Tm X.K ca W (Rel X.K) ma) (Tm X.K ca W (Rel X.K) mb) σ H Q ∨ tDNotIn (Tm X.K ca W (Rel X.K) ma) (Tm X.K ca W (Rel X.K) mb) σ H Q :=
  e2_road (fun y S => dctOf y S = none) h
    (fun ρ φ S l hS hl h c => bindAt hS hl h fun a S1 ρ1 H1 x m1 hS1 e1 rx h1 => bindAt hS1 (hl.mono e1) h1 fun b S2 ρ2 H2 y m2 hS2 e2 ry h2 => notIn_seq hS2 (rx.mono e2) ry (c _ _ _ _ m1 m2) h2)
    (fun ρ φ S l hS hl h c => bindAt hS hl h fun a S1 ρ1 H1 x m1 hS1 e1 rx h1 => bindAt hS1 (hl.mono e1) h1 fun b S2 ρ2 H2 y m2 hS2 e2 ry h2 => by
      obtain ⟨ks, hk⟩ := Option.ne_none_iff_exists'.mp (c _ _ _ _ m1 m2)
      exact notIn_dct hS2 (rx.mono e2) ry hk h2)
theorem op_inA (hu : X.A.units + 65 < cLine) : OpR X (compareOp .In) (rInA X.K) := opR_or op_in_sign (op_inD hu)
theorem op_notInA (hu : X.A.units + 65 < cLine) : OpR X (compareOp .NotIn) (rNotInA X.K) := opR_or op_notIn_sign (op_notInD hu)
theorem se_in (hu : X.A.units + 65 < cLine) (ha : SE ca W X a ma) (hb : SE ca W X b mb) (hm : behindInMarks .In b = false) : SE ca W X (.Compare a [.In] [b] pos) (e2 fIn ma mb) :=
  pe_imp (pe_or2 (pe_cmpR (op_inA hu) ha hb hm) (pe_cmp (pc_din (by omega) ha hb) hm)) fun _ _ _ h => in_run h
theorem se_notIn (hu : X.A.units + 65 < cLine) (ha : SE ca W X a ma) (hb : SE ca W X b mb) (hm : behindInMarks .NotIn b = false) : SE ca W X (.Compare a [.NotIn] [b] pos) (e2 fNotIn ma mb) :=
  pe_imp (pe_or2 (pe_cmpR (op_notInA hu) ha hb hm) (pe_cmp (pc_dnotin (by omega) ha hb) hm)) fun _ _ _ h => notIn_run h
theorem pt_or2 {e : Expr} {t u : TT} (h : PT X e t) (k : PT X e u) : PT X e (fun σ H Q => t σ H Q ∨ u σ H Q) := ⟨fun pins s σ H Q I q => q.elim (h.run pins s σ H Q I) (k.run pins s σ H Q I)⟩
theorem tof_push {m : ME} {σ : L2.St} {H : Hp} {Q : Bool → Hp → Prop} (h : Tm X.K ca W REq (tOf m) σ H Q) : Tm X.K ca W (Rel X.K) m σ H (fun x H' => ∃ k, x = .bl k ∧ Q k H') := by
  obtain ⟨ρ, φ, S, l, hS, hl, q⟩ := h
  exact bindAt hS hl q fun d S1 ρ1 H1 x m1 hS1 e1 rx h1 => by
    cases rx <;> first | exact h1.elim | skip
    rename_i k
    exact ⟨k, rfl, AtM.here (b := k) h1 hS1 rfl⟩
theorem st_in (hu : X.A.units + 65 < cLine) (ha : SE ca W X a ma) (hb : SE ca W X b mb) (hm : behindInMarks .In b = false) : ST ca W X (.Compare a [.In] [b] pos) (tOf (e2 fIn ma mb)) :=
  pt_imp (pt_or2 (pt_cmpR (op_inA hu) ha hb hm) (pt_cmp (pc_din (by omega) ha hb) hm)) fun σ H Q h => in_run (tof_push h)
theorem st_notIn (hu : X.A.units + 65 < cLine) (ha : SE ca W X a ma) (hb : SE ca W X b mb) (hm : behindInMarks .NotIn b = false) : ST ca W X (.Compare a [.NotIn] [b] pos) (tOf (e2 fNotIn ma mb)) :=
  pt_imp (pt_or2 (pt_cmpR (op_notInA hu) ha hb hm) (pt_cmp (pc_dnotin (by omega) ha hb) hm)) fun σ H Q h => notIn_run (tof_push h)

/-! ### tests and truth values -/
theorem st_val (h : SE ca W X e ma) (he : ∀ whole, isTrue e X.env whole = (do let v ← whole; standAt e.pos; holding [v] (truthy v))) : ST ca W X e (tOf ma) :=
  pt_imp (pt_val h he) fun σ H Q h => tof_push h
theorem st_not {t : MT} (h : ST ca W X a t) : ST ca W X (.UnaryOp .Not a pos) (tNot t) := pt_imp (pt_not h) fun σ H Q ⟨ρ, φ, S, l, hS, hl, q⟩ =>
  bindAt hS hl q fun k S1 ρ1 H1 x m1 hS1 e1 rx h1 => by
    cases rx
    exact AtM.here (b := !k) h1 hS1 rfl
theorem sw_and1 {t : MT} (h : ST ca W X a t) : SW ca W X (.BoolOp .And [a] pos) t := pw_and1 h
theorem sw_or1 {t : MT} (h : ST ca W X a t) : SW ca W X (.BoolOp .Or [a] pos) t := pw_or1 h
theorem sw_and {t u : MT} {rest : List Expr} (h : ST ca W X a t) (k : SW ca W X (.BoolOp .And (b :: rest) pos) u) : SW ca W X (.BoolOp .And (a :: b :: rest) pos) (tAnd t u) :=
  pw_imp (pw_and h k) fun σ H Q ⟨ρ, φ, S, l, hS, hl, q⟩ => bindAt hS hl q fun k S1 ρ1 H1 x m1 hS1 e1 rx h1 => by
    cases rx
    cases k with
    | true => exact (show Tm X.K ca W REq u σ H1 Q from ⟨ρ1, φ, S1, l, hS1, hl.mono e1, h1⟩)
    | false => exact AtM.here (b := false) h1 hS1 rfl
theorem sw_or {t u : MT} {rest : List Expr} (h : ST ca W X a t) (k : SW ca W X (.BoolOp .Or (b :: rest) pos) u) : SW ca W X (.BoolOp .Or (a :: b :: rest) pos) (tOr t u) :=
  pw_imp (pw_or h k) fun σ H Q ⟨ρ, φ, S, l, hS, hl, q⟩ => bindAt hS hl q fun k S1 ρ1 H1 x m1 hS1 e1 rx h1 => by
    cases rx
    cases k with
    | false => exact (show Tm X.K ca W REq u σ H1 Q from ⟨ρ1, φ, S1, l, hS1, hl.mono e1, h1⟩)
    | true => exact AtM.here (b := true) h1 hS1 rfl
theorem st_w {t : MT} (h : SW ca W X e t) : ST ca W X e t := PW.pt h
theorem se_one {op : BoolOp} (h : SE ca W X a ma) : SE ca W X (.BoolOp op [a] pos) ma := pe_one h
theorem se_and {rest : List Expr} (h : SE ca W X a ma) (k : SE ca W X (.BoolOp .And (b :: rest) pos) mb) : SE ca W X (.BoolOp .And (a :: b :: rest) pos) (eAnd ma mb) :=
  pe_imp (pe_and h k) fun σ H Q ⟨ρ, φ, S, l, hS, hl, q⟩ => by
    have q' : AtM X.K ca W (Rel X.K) ρ φ H σ (bnd (ma l S) fun d S1 => bnd (blOf d S1) fun c S1 => if c = true then mb l S1 else some (.ok (.bl false), S1)) Q := by
      unfold eAnd tOf at q
      cases hm : ma l S with
      | none => rw [hm] at q; exact q
      | some p => obtain ⟨r, S1⟩ := p; rw [hm] at q; cases r <;> exact q
    exact bindAt hS hl q' fun d S1 ρ1 H1 x m1 hS1 e1 rx h1 => by
      cases rx <;> first | exact h1.elim | skip
      rename_i k
      refine ⟨k, rfl, ?_⟩
      cases k with
      | true => exact (show Tm X.K ca W (Rel X.K) mb σ H1 Q from ⟨ρ1, φ, S1, l, hS1, hl.mono e1, h1⟩)
      | false => exact AtM.here (b := V.bl false) h1 hS1 (.bl false)
theorem se_or {rest : List Expr} (h : SE ca W X a ma) (k : SE ca W X (.BoolOp .Or (b :: rest) pos) mb) : SE ca W X (.BoolOp .Or (a :: b :: rest) pos) (eOr ma mb) :=
  pe_imp (pe_or h k) fun σ H Q ⟨ρ, φ, S, l, hS, hl, q⟩ => by
    have q' : AtM X.K ca W (Rel X.K) ρ φ H σ (bnd (ma l S) fun d S1 => bnd (blOf d S1) fun c S1 => if c = true then some (.ok (.bl true), S1) else mb l S1) Q := by
      unfold eOr tOf at q
      cases hm : ma l S with
      | none => rw [hm] at q; exact q
      | some p => obtain ⟨r, S1⟩ := p; rw [hm] at q; cases r <;> exact q
    exact bindAt hS hl q' fun d S1 ρ1 H1 x m1 hS1 e1 rx h1 => by
      cases rx <;> first | exact h1.elim | skip
      rename_i k
      refine ⟨k, rfl, ?_⟩
      cases k with
      | false => exact (show Tm X.K ca W (Rel X.K) mb σ H1 Q from ⟨ρ1, φ, S1, l, hS1, hl.mono e1, h1⟩)
      | true => exact AtM.here (b := V.bl true) h1 hS1 (.bl true)
theorem se_not (h : SE ca W X a ma) : SE ca W X (.UnaryOp .Not a pos) (eNot ma) :=
  pe_imp (pe_not h) fun σ H Q ⟨ρ, φ, S, l, hS, hl, q⟩ => by
    have q' : AtM X.K ca W (Rel X.K) ρ φ H σ (bnd (ma l S) fun d S1 => bnd (blOf d S1) fun c S1 => some (.ok (.bl (!c)), S1)) Q := by
      unfold eNot tOf at q
      cases hm : ma l S with
      | none => rw [hm] at q; exact q
      | some p => obtain ⟨r, S1⟩ := p; rw [hm] at q; cases r <;> exact q
    exact bindAt hS hl q' fun d S1 ρ1 H1 x m1 hS1 e1 rx h1 => by
      cases rx <;> first | exact h1.elim | skip
      rename_i k
      exact ⟨k, rfl, AtM.here (b := V.bl (!k)) h1 hS1 (.bl (!k))⟩
theorem se_if {t : MT} (ht : ST ca W X c t) (ha : SE ca W X a ma) (hb : SE ca W X b mb) : SE ca W X (.IfExp c a b pos) (eIf t ma mb) :=
  pe_imp (pe_ifExp ht ha hb) fun σ H Q ⟨ρ, φ, S, l, hS, hl, q⟩ => bindAt hS hl q fun k S1 ρ1 H1 x m1 hS1 e1 rx h1 => by
    cases rx
    cases k with
    | true => exact (show Tm X.K ca W (Rel X.K) ma σ H1 Q from ⟨ρ1, φ, S1, l, hS1, hl.mono e1, h1⟩)
    | false => exact (show Tm X.K ca W (Rel X.K) mb σ H1 Q from ⟨ρ1, φ, S1, l, hS1, hl.mono e1, h1⟩)
theorem se_neg (h : SE ca W X a ma) : SE ca W X (.UnaryOp .USub a pos) (e1 fNeg ma) :=
  pe_imp (pe_un un_neg h) fun σ H Q ⟨ρ, φ, S, l, hS, hl, q⟩ => bindAt hS hl q fun d S1 ρ1 H1 x m1 hS1 e1 rx h1 => by
    cases rx <;> first | exact h1.elim | skip
    exact ⟨_, rfl, AtM.here h1 hS1 (.int _)⟩

/-! ### argument lists, displays -/
theorem sa_nil : SA ca W X [] aNil := pa_imp pa_nil fun σ H Q ⟨ρ, φ, S, l, hS, hl, q⟩ => AtM.here (b := ([] : List V)) q hS .nil
theorem sa_cons {es : List Expr} {m : MA} (ha : SE ca W X e ma) (hr : SA ca W X es m) (hs : starEach (e :: es) X.env = (false, eval e X.env) :: starEach es X.env) : SA ca W X (e :: es) (aCons ma m) :=
  pa_imp (pa_cons ha hr hs) fun σ H Q ⟨ρ, φ, S, l, hS, hl, q⟩ => bindAt hS hl q fun d S1 ρ1 H1 x m1 hS1 e1 rx h1 => bindAt hS1 (hl.mono e1) h1 fun ds S2 ρ2 H2 xs m2 hS2 e2 rs h2 => AtM.here (b := x :: xs) h2 hS2 (.cons (rx.mono e2) rs)
theorem guard_at {α β : Type} {R : List Addr → List Addr → Hp → β → α → Prop} {ρ φ : List Addr} {H : Hp} {σ : L2.St} {S : Store} {c : Bool} {m : M α} {Q : β → Hp → Prop} (h : AtM X.K ca W R ρ φ H σ (guard c m S) Q) : c = true ∧ AtM X.K ca W R ρ φ H σ (m S) Q := by
  unfold guard at h
  cases c with
  | true => exact ⟨rfl, h⟩
  | false => exact h.elim
theorem se_tup {es : List Expr} {x1} {m : MA} (h : SA ca W X es m) : SE ca W X (.Tuple es x1 pos) (eTup m) :=
  pe_imp (pe_tup h) fun σ H Q ⟨ρ, φ, S, l, hS, hl, q⟩ => bindAt hS hl q fun ds S1 ρ1 H1 xs m1 hS1 e1 rs h1 => by
    obtain ⟨hc, h1⟩ := guard_at h1
    exact ⟨line_le (by rw [rs.length]; exact of_decide_eq_true hc), new_tup hS1 rs h1⟩
theorem se_lst {es : List Expr} {m : MA} (h : SA ca W X es m) : SE ca W X (.List es pos) (eLst m) :=
  pe_imp (pe_lst h) fun σ H Q ⟨ρ, φ, S, l, hS, hl, q⟩ => bindAt hS hl q fun ds S1 ρ1 H1 xs m1 hS1 e1 rs h1 => by
    obtain ⟨hc, h1⟩ := guard_at h1
    exact ⟨line_le (by rw [rs.length]; exact of_decide_eq_true hc), new_fl hS1 rs h1⟩
theorem se_lstR {es : List Expr} {m : MA} (h : SA ca W X es m) : SE ca W X (.List es pos) (eLstR m) :=
  pe_imp (pe_lst h) fun σ H Q ⟨ρ, φ, S, l, hS, hl, q⟩ => bindAt hS hl q fun ds S1 ρ1 H1 xs m1 hS1 e1 rs h1 => by
    obtain ⟨hc, h1⟩ := guard_at h1
    exact ⟨line_le (by rw [rs.length]; exact of_decide_eq_true hc), new_lst hS1 rs h1⟩
/-! ### attributes -/
/-- the field f of the class of code c -/
structure FldF (K : PySem.W.Frag) (ca : Nat → Addr) (c : Nat) (f : Str) : Prop where
  cl : Cls K (ca c)
  no : NoAttr K (ca c) f
theorem se_fld {cc : Nat} {f : Str} (T : FldF X.K ca cc f) (h : SE ca W X e ma) (hb : attributeBase e f X.env (eval e X.env) = eval e X.env) : SE ca W X (.Attribute e f pos) (e1 (fFld cc f) ma) :=
  pe_imp (pe_fld h hb) fun σ H Q ⟨ρ, φ, S, l, hS, hl, q⟩ => bindAt hS hl q fun d S1 ρ1 H1 x m1 hS1 e1 rx h1 => by
    unfold fFld at h1
    split at h1
    · rename_i c' gs hi
      split at h1
      · rename_i hc
        subst hc
        obtain ⟨n, p, dx, fs, rfl, rfl, hn, hs, hp, hr⟩ := ins_rel hS1 rx hi
        split at h1
        · rename_i d' hd
          obtain ⟨v, hv, rv⟩ := hr.lookup hd
          exact ⟨p, _, dx, fs, v, rfl, hp, T.cl, T.no, hv, AtM.here h1 hS1 rv⟩
        · exact h1.elim
      · exact h1.elim
    · exact h1.elim
/-! ### subscripts -/
theorem ixN_len {n : Nat} {i : Int} {j : Nat} (h : ixN n i = some j) : j < n := by
  unfold ixN at h
  split at h
  · split at h
    · cases h; omega
    · cases h
  · split at h
    · cases h; omega
    · cases h
theorem at_rel {K : PySem.W.Frag} {ρ φ : List Addr} {H : Hp} {xs : List V} {ds : List D} {i : Int} {d : D} (r : Rels K ρ φ H xs ds) (h : atI ds i = some d) : ∃ v, atI xs i = some v ∧ Rel K ρ φ H v d := by
  unfold atI at h ⊢
  rw [r.length]
  cases e : ixN ds.length i with
  | none => rw [e] at h; cases h
  | some j => rw [e] at h; exact r.get (i := j) h
theorem dct_not_seq {d : D} {S : Store} (h : dctOf d S ≠ none) : seqOf d S = none := by
  unfold dctOf at h
  split at h
  · unfold seqOf listOf
    simp only
    split at h
    · rename_i hs; simp [hs]
    · exact absurd rfl h
  · exact absurd rfl h
/-- by what the first part gives -/
theorem e2_road1 {f : D → D → M D} {σ : L2.St} {H : Hp} {Q : VK} (P : D → Store → Prop) {A B : Prop}
    (h : Tm X.K ca W (Rel X.K) (e2 f ma mb) σ H Q)
    (hA : (∀ (ρ φ : List Addr) (S : Store) (l : Sl), SR X.K ca ρ φ S H → SlX W.x X.K ρ φ H σ l → AtM X.K ca W (Rel X.K) ρ φ H σ (e2 f ma mb l S) Q → (∀ x S1 y S2, ma l S = some (.ok x, S1) → mb l S1 = some (.ok y, S2) → P x S2) → A))
    (hB : (∀ (ρ φ : List Addr) (S : Store) (l : Sl), SR X.K ca ρ φ S H → SlX W.x X.K ρ φ H σ l → AtM X.K ca W (Rel X.K) ρ φ H σ (e2 f ma mb l S) Q → (∀ x S1 y S2, ma l S = some (.ok x, S1) → mb l S1 = some (.ok y, S2) → ¬ P x S2) → B)) : A ∨ B := by
  obtain ⟨ρ, φ, S, l, hS, hl, h⟩ := h
  by_cases c : ∀ x S1 y S2, ma l S = some (.ok x, S1) → mb l S1 = some (.ok y, S2) → P x S2
  · exact .inl (hA ρ φ S l hS hl h c)
  · refine .inr (hB ρ φ S l hS hl h fun x S1 y S2 m1 m2 hp => c fun x' S1' y' S2' n1 n2 => ?_)
    rw [m1] at n1
    cases n1
    rw [m2] at n2
    cases n2
    exact hp
theorem ix_seqS {W : WW} {ρ φ : List Addr} {S : Store} {H : Hp} {σ : L2.St} {x y : V} {a b : D} {Q : VK} (hS : SR X.K ca ρ φ S H) (rx : Rel X.K ρ φ H x a) (ry : Rel X.K ρ φ H y b) (hd : dctOf a S = none)
    (h : AtM X.K ca W (Rel X.K) ρ φ H σ (fIx a b S) Q) : rIx X.K x y H Q := by
  unfold fIx at h
  split at h
  · cases rx
    split at h
    · cases ry
      split at h
      · rename_i c hc
        split at hc
        · rename_i hz
          exact .inr (.inr ⟨_, _, c, rfl, rfl, line_le hz, hc, AtM.here h hS (.str _)⟩)
        · cases hc
      · exact h.elim
    · exact h.elim
  · rw [hd] at h
    simp only at h
    split at h
    · rename_i ds i hs
      cases ry
      split at h
      · rename_i d hd'
        obtain ⟨p, xs, rfl, q1, r1⟩ := seq_rel hS rx hs
        obtain ⟨v, hv, rv⟩ := at_rel r1 hd'
        rcases q1 with q1 | q1
        · exact .inl ⟨p, xs, _, v, rfl, rfl, q1, hv, AtM.here h hS rv⟩
        · exact .inr (.inl ⟨p, xs, _, v, rfl, rfl, q1, hv, AtM.here h hS rv⟩)
      · exact h.elim
    · exact h.elim
theorem ix_dct {W : WW} {ρ φ : List Addr} {S : Store} {H : Hp} {σ : L2.St} {x y : V} {a b : D} {ks : List (Key × D)} {Q : VK} (hS : SR X.K ca ρ φ S H) (rx : Rel X.K ρ φ H x a) (ry : Rel X.K ρ φ H y b) (hd : dctOf a S = some ks)
    (h : AtM X.K ca W (Rel X.K) ρ φ H σ (fIx a b S) Q) : ∃ p v, x = .ref p ∧ DGet H p y (some v) ∧ Q v H := by
  unfold fIx at h
  cases rx <;> first | (cases hd; done) | skip
  rename_i p n hn
  simp only [hd] at h
  cases hk : keyOf b with
  | none => rw [hk] at h; exact h.elim
  | some k =>
    rw [hk] at h
    simp only at h
    obtain ⟨p', o, e, _, q1, q2⟩ := dget_rel hS (.ref hn) ry hd hk
    cases e
    rcases q2 with ⟨rfl, z⟩ | ⟨v, u, rfl, z, rv⟩
    · rw [z] at h; exact h.elim
    · rw [z] at h; exact ⟨p, v, rfl, q1, AtM.here h hS rv⟩
theorem se_ix (hu : X.A.units + 1 < cLine) (ha : SE ca W X a ma) (hb : SE ca W X b mb) (h1 : PlainIx b) : SE ca W X (.Subscript a b pos) (e2 fIx ma mb) :=
  pe_imp (pe_or2 (pe_ix ix_seq ha hb h1) (pe_dget hu ha hb h1)) fun σ H Q h => e2_road1 (fun x S => dctOf x S = none) h
    (fun ρ φ S l hS hl h c => bindAt hS hl h fun a S1 ρ1 H1 x m1 hS1 e1 rx h1 => bindAt hS1 (hl.mono e1) h1 fun b S2 ρ2 H2 y m2 hS2 e2 ry h2 => ix_seqS hS2 (rx.mono e2) ry (c _ _ _ _ m1 m2) h2)
    (fun ρ φ S l hS hl h c => bindAt hS hl h fun a S1 ρ1 H1 x m1 hS1 e1 rx h1 => bindAt hS1 (hl.mono e1) h1 fun b S2 ρ2 H2 y m2 hS2 e2 ry h2 => by
      obtain ⟨ks, hk⟩ := Option.ne_none_iff_exists'.mp (c _ _ _ _ m1 m2)
      exact ix_dct hS2 (rx.mono e2) ry hk h2)
/-! ### slices -/
theorem so_no : SO' ca W X none oNo := ⟨fun pins s σ H Q I ⟨ρ, φ, S, l, hS, hl, q⟩ => po_none.run pins s σ H Q I (AtM.here (b := (none : Option Int)) q hS rfl)⟩
theorem so_so (h : SE ca W X e ma) : SO' ca W X (some e) (oSo ma) := ⟨fun pins s σ H Q I ⟨ρ, φ, S, l, hS, hl, q⟩ => (po_some h).run pins s σ H Q I (bindAt hS hl q fun d S1 ρ1 H1 x m1 hS1 e1 rx h1 => by
  cases rx <;> first | exact h1.elim | skip
  exact ⟨_, rfl, AtM.here (b := some _) h1 hS1 rfl⟩)⟩
def rSlA (K : PySem.W.Frag) : V → Option Int → Option Int → Hp → VK → Prop := fun x lo hi H Q => rSlL K x lo hi H Q ∨ rSlT K x lo hi H Q
theorem sl_A : L2.SlR X (rSlA X.K) := by
  intro pins s σ H x v vl vu lo hi sl Q I rx hs pl pu h
  rcases h with h | h
  · exact sl_list pins s σ H x v vl vu lo hi sl Q I rx hs pl pu h
  · exact sl_tup pins s σ H x v vl vu lo hi sl Q I rx hs pl pu h
theorem cut_rel {K : PySem.W.Frag} {ρ φ : List Addr} {H : Hp} {xs : List V} {ds : List D} {lo hi : Option Int} (r : Rels K ρ φ H xs ds) : Rels K ρ φ H (cutV xs lo hi) (cutD ds lo hi) := by
  unfold cutV cutD
  rw [r.length]
  exact (r.drop _).take _
theorem se_sl {lo hi : Option Expr} {p2 : Pos} {ml mh : Sl → M (Option Int)} (ha : SE ca W X a ma) (hl : SO' ca W X lo ml) (hh : SO' ca W X hi mh) : SE ca W X (.Subscript a (.Slice lo hi none p2) pos) (eSl ma ml mh) :=
  pe_imp (pe_slice sl_A ha hl hh) fun σ H Q ⟨ρ, φ, S, l, hS, hl, q⟩ => bindAt hS hl q fun d S1 ρ1 H1 x m1 hS1 e1 rx h1 => bindAt hS1 (hl.mono e1) h1 fun i S2 ρ2 H2 i' m2 hS2 e2 ri h2 => bindAt hS2 ((hl.mono e1).mono e2) h2 fun j S3 ρ3 H3 j' m3 hS3 e3 rj h3 => by
    cases ri
    cases rj
    have rx3 := (rx.mono e2).mono e3
    unfold fSl at h3
    split at h3
    · cases rx3 with
      | tup a1 a2 a3 a4 =>
        split at h3
        · exact h3.elim
        · rename_i hc
          exact .inr ⟨_, _, rfl, .inl (.inl a1), by rw [a4.length]; exact hc, new_tup hS3 (cut_rel a4) h3⟩
    · split at h3
      · rename_i ds hd
        obtain ⟨p, xs, rfl, q1, r1⟩ := list_rel hS3 rx3 hd
        exact .inl ⟨p, xs, rfl, q1, new_fl hS3 (cut_rel r1) h3⟩
      · exact h3.elim
end
end Sim

/-! Sim: calls. -/
namespace Sim
open PySem PySem.Spec L2 PyProof.Rows
section
variable {X : Cx} {ca : Nat → Addr} {W : WW} {e a b c o : Expr} {es : List Expr} {ma mb mc mo : ME} {m : MA} {pos p apos : Pos}
/-- a call by values is met by f -/
def CallS (K : PySem.W.Frag) (ca : Nat → Addr) (r : List V → Hp → VK → Prop) (f : List D → M D) : Prop := ∀ (W : WW) (ρ φ : List Addr) (S : Store) (H : Hp) (σ : L2.St) (xs : List V) (ds : List D) (Q : VK),
  SR K ca ρ φ S H → Rels K ρ φ H xs ds → AtM K ca W (Rel K) ρ φ H σ (f ds S) Q → r xs H Q
theorem cb_run {r : List V → Hp → VK → Prop} {f : List D → M D} (hs : CallS X.K ca r f) {σ : L2.St} {H : Hp} {Q : VK} (h : Tm X.K ca W (Rel X.K) (eA f m) σ H Q) : tCB r (Tm X.K ca W (Rels X.K) m) σ H Q := by
  obtain ⟨ρ, φ, S, l, hS, hl, h⟩ := h
  exact bindAt hS hl h fun ds S1 ρ1 H1 xs m1 hS1 e1 rx h1 => hs _ _ _ _ _ _ _ _ _ hS1 rx h1
/-- what a call's text must show -/
structure CallT (X : Cx) (e : Expr) (es : List Expr) (pos : Pos) : Prop where
  he : starEach (e :: es) X.env = (false, eval e X.env) :: starEach es X.env
  hpl : (backTo pos (starEach es X.env)).any (·.1) = false
theorem se_cb {x : Str} {id : String} {r : List V → Hp → VK → Prop} {f : List D → M D} (hc : CallR X (.builtin id) r) (hs : CallS X.K ca r f) (hm : X.mg x = none) (hv : bootBuiltins x = some (.builtin id)) (hn : x ≠ "__name__") (hdb : (x == ("__debug__" : Str)) = false) (hg : Gl X x)
    (ha : SA ca W X (e :: es) m) (T : CallT X e es pos) : SE ca W X (.Call (.Name x p) (e :: es) [] pos) (eA f m) := pe_imp (pe_callB hc hg hm hv ha hn hdb T.he T.hpl) fun _ _ _ h => cb_run hs h
theorem se_ct {x : Str} {id : String} {r : List V → Hp → VK → Prop} {f : List D → M D} (hc : CallR X (.type id) r) (hs : CallS X.K ca r f) (hm : X.mg x = none) (hv : bootBuiltins x = some (.type id)) (hn : x ≠ "__name__") (hdb : (x == ("__debug__" : Str)) = false) (hg : Gl X x)
    (ha : SA ca W X (e :: es) m) (T : CallT X e es pos) : SE ca W X (.Call (.Name x p) (e :: es) [] pos) (eA f m) := pe_imp (pe_callTy hc hg hm hv ha hn hdb T.he T.hpl) fun _ _ _ h => cb_run hs h
theorem one_of {f : D → M D} {W : WW} {K : PySem.W.Frag} {ρ φ : List Addr} {S : Store} {H : Hp} {σ : L2.St} {xs : List V} {ds : List D} {Q : VK} (r : Rels K ρ φ H xs ds) (h : AtM K ca W (Rel K) ρ φ H σ (a1 f ds S) Q) : ∃ x d, xs = [x] ∧ ds = [d] ∧ Rel K ρ φ H x d ∧ AtM K ca W (Rel K) ρ φ H σ (f d S) Q := by
  unfold a1 at h
  split at h
  · cases r with
    | cons r1 r2 => cases r2; exact ⟨_, _, rfl, rfl, r1, h⟩
  · exact h.elim
theorem two_of {f : D → D → M D} {W : WW} {K : PySem.W.Frag} {ρ φ : List Addr} {S : Store} {H : Hp} {σ : L2.St} {xs : List V} {ds : List D} {Q : VK} (r : Rels K ρ φ H xs ds) (h : AtM K ca W (Rel K) ρ φ H σ (a2 f ds S) Q) : ∃ x d y e, xs = [x, y] ∧ ds = [d, e] ∧ Rel K ρ φ H x d ∧ Rel K ρ φ H y e ∧ AtM K ca W (Rel K) ρ φ H σ (f d e S) Q := by
  unfold a2 at h
  split at h
  · cases r with
    | cons r1 r2 =>
      cases r2 with
      | cons r2 r3 => cases r3; exact ⟨_, _, _, _, rfl, rfl, r1, r2, h⟩
  · exact h.elim
/-! ### len, list, tuple, int, sum, isinstance -/
def rLenA (K : PySem.W.Frag) : List V → Hp → VK → Prop := fun xs H Q => (∃ p ys, xs = [.ref p] ∧ (SqL K H p ys ∨ SqT K H p ys) ∧ Q (.int ys.length) H) ∨ ((∃ z, xs = [.str z] ∧ z.length ≤ sizeLine ∧ Q (.int z.length) H) ∨ (∃ a kvs, xs = [V.ref a] ∧ H a = some (.dK kvs) ∧ Q (.int kvs.length) H))
theorem call_lenA : CallR X (.builtin "len") (rLenA X.K) := callR_or call_len_seq (callR_or call_len_str call_lenD)
theorem len_S : CallS X.K ca (rLenA X.K) (a1 fLen) := by
  intro W ρ φ S H σ xs ds Q hS rx h
  obtain ⟨x, d, rfl, rfl, r, h⟩ := one_of rx h
  unfold fLen at h
  split at h
  · cases r
    split at h
    · rename_i hz
      exact .inr (.inl ⟨_, rfl, line_le hz, AtM.here h hS (.int _)⟩)
    · exact h.elim
  · split at h
    · rename_i kvs hd
      obtain ⟨p, ks, rfl, q1, q2⟩ := dctU_rel hS r hd
      refine .inr (.inr ⟨p, ks, rfl, q1, ?_⟩)
      rw [q2.length]
      exact AtM.here h hS (.int _)
    · split at h
      · rename_i es hs
        obtain ⟨p, ys, rfl, q1, r1⟩ := seq_rel hS r hs
        refine .inl ⟨p, ys, rfl, q1, ?_⟩
        rw [r1.length]
        exact AtM.here h hS (.int _)
      · exact h.elim
def rListA (K : PySem.W.Frag) : List V → Hp → VK → Prop := fun xs H Q => ∃ p ys, xs = [.ref p] ∧ (SqL K H p ys ∨ SqT K H p ys) ∧ ∀ l, H l = none → Q (.ref l) (upd H l (.lst ys))
theorem call_listA : CallR X (.type "list") (rListA X.K) := call_list_of
theorem list_S : CallS X.K ca (rListA X.K) (a1 fList) := by
  intro W ρ φ S H σ xs ds Q hS rx h
  obtain ⟨x, d, rfl, rfl, r, h⟩ := one_of rx h
  unfold fList at h
  split at h
  · rename_i es hs
    obtain ⟨p, ys, rfl, q1, r1⟩ := seq_rel hS r hs
    exact ⟨p, ys, rfl, q1, new_fl hS r1 h⟩
  · exact h.elim
theorem listR_S : CallS X.K ca (rListA X.K) (a1 fListR) := by
  intro W ρ φ S H σ xs ds Q hS rx h
  obtain ⟨x, d, rfl, rfl, r, h⟩ := one_of rx h
  unfold fListR at h
  split at h
  · rename_i es hs
    obtain ⟨p, ys, rfl, q1, r1⟩ := seq_rel hS r hs
    exact ⟨p, ys, rfl, q1, new_lst hS r1 h⟩
  · exact h.elim
def rIntA : List V → Hp → VK → Prop := fun xs H Q => (∃ i, xs = [.int i] ∧ Q (.int i) H) ∨ ∃ k, xs = [.bl k] ∧ Q (.int (if k then 1 else 0)) H
theorem call_intA : CallR X (.type "int") rIntA := call_int1
theorem int_S : CallS X.K ca rIntA (a1 fInt) := by
  intro W ρ φ S H σ xs ds Q hS rx h
  obtain ⟨x, d, rfl, rfl, r, h⟩ := one_of rx h
  unfold fInt at h
  split at h
  · cases r; exact .inl ⟨_, rfl, AtM.here h hS (.int _)⟩
  · cases r; exact .inr ⟨_, rfl, AtM.here h hS (.int _)⟩
  · exact h.elim
theorem sum_S : CallS X.K ca (rSum X.K) (a1 fSum) := by
  intro W ρ φ S H σ xs ds Q hS rx h
  obtain ⟨x, d, rfl, rfl, r, h⟩ := one_of rx h
  unfold fSum at h
  split at h
  · rename_i es hs
    split at h
    · rename_i ns hn
      obtain ⟨p, ys, rfl, q1, r1⟩ := list_rel hS r hs
      have z := ints_rel r1 hn
      subst z
      exact ⟨p, ns, rfl, q1, AtM.here h hS (.int _)⟩
    · exact h.elim
  · exact h.elim
def rMax2 : List V → Hp → VK → Prop := fun xs H Q => ∃ i j, xs = [.int i, .int j] ∧ Q (.int (if j > i then j else i)) H
def rMin2 : List V → Hp → VK → Prop := fun xs H Q => ∃ i j, xs = [.int i, .int j] ∧ Q (.int (if j < i then j else i)) H
theorem call_max2A (hc : X.calm = true) : CallR X (.builtin "max") rMax2 := call_max2 hc
theorem call_min2A (hc : X.calm = true) : CallR X (.builtin "min") rMin2 := call_min2 hc
theorem max2_S : CallS X.K ca rMax2 (a2 fMax2) := by
  intro W ρ φ S H σ xs ds Q hS rx h
  obtain ⟨x, d, y, e, rfl, rfl, r, r', h⟩ := two_of rx h
  unfold fMax2 at h
  split at h
  · cases r; cases r'; exact ⟨_, _, rfl, AtM.here h hS (.int _)⟩
  · exact h.elim
theorem min2_S : CallS X.K ca rMin2 (a2 fMin2) := by
  intro W ρ φ S H σ xs ds Q hS rx h
  obtain ⟨x, d, y, e, rfl, rfl, r, r', h⟩ := two_of rx h
  unfold fMin2 at h
  split at h
  · cases r; cases r'; exact ⟨_, _, rfl, AtM.here h hS (.int _)⟩
  · exact h.elim
/-! ### isinstance -/
def tysA : List String := ["NoneType", "bool", "int", "str", "tuple", "list", "dict"]
def tysB : List String := ["bool", "int", "str", "tuple", "list", "dict"]
theorem kit_tab : ∀ t ∈ tysA, ∀ T ∈ tysB, kitB t T = some (t == T || (t == "bool" && T == "int")) := by decide +kernel
theorem ty_rel {ρ φ : List Addr} {S : Store} {H : Hp} {v : V} {d : D} {t : String} (hS : SR X.K ca ρ φ S H) (r : Rel X.K ρ φ H v d) (h : tyD d S = some t) : t ∈ tysA ∧ TyX X.K H v (.type t) := by
  cases r with
  | non => cases h; exact ⟨by decide, .base .non⟩
  | bl b => cases h; exact ⟨by decide, .base (.bl b)⟩
  | int i => cases h; exact ⟨by decide, .base (.int i)⟩
  | str s => cases h; exact ⟨by decide, .base (.str s)⟩
  | tup h1 n m r => cases h; exact ⟨by decide, .base (.tup h1)⟩
  | fl h1 n m r => cases h; exact ⟨by decide, .base (.lst h1)⟩
  | scr h1 => cases h
  | ref h1 =>
    unfold tyD at h
    simp only at h
    split at h
    · rename_i es hs
      cases h
      obtain ⟨p, xs, e, q, _⟩ := cat_rel hS (.ref h1) (ds := es) (by unfold catOf; simp only [hs])
      cases e
      exact ⟨by decide, .base (.lst q)⟩
    · rename_i es hs
      cases h
      obtain ⟨p, xs, e, q, _⟩ := dctU_rel hS (.ref h1) (ks := es) (by unfold dctU; simp only [hs])
      cases e
      exact ⟨by decide, .base (.dK q)⟩
    · cases h
theorem se_isi {T : String} {x : Str} {px p1 : Pos} (hT : T ∈ tysB) (hm : X.mg "isinstance" = none) (hg : Gl X "isinstance") (hmT : X.mg x = none) (hgT : Gl X x) (hvT : bootBuiltins x = some (.type T)) (hn : x ≠ "__name__") (hdb : (x == ("__debug__" : Str)) = false)
    (ha : SE ca W X a ma) (T1 : CallT X a [.Name x px] pos) (T2 : CallT X (.Name x px) [] pos) : SE ca W X (.Call (.Name "isinstance" p1) [a, .Name x px] [] pos) (e1 (fIsi T) ma) := by
  have hp : PA X [a, .Name x px] (tCons (Tm X.K ca W (Rel X.K) ma) (tCons (tC (.ty T)) tNil)) := pa_cons ha (pa_cons (pe_bltn hgT hmT hvT (show Value.type T = Value.type T from rfl) hn hdb) pa_nil T2.he) T1.he
  refine pe_imp (pe_callB call_isi hg hm (by decide +kernel) hp (by decide) (by decide) T1.he T1.hpl) fun σ H Q ⟨ρ, φ, S, l, hS, hl, q⟩ => bindAt hS hl q fun d S1 ρ1 H1 x m1 hS1 e1 rx h1 => ?_
  show rIsi X.K [x, .ty T] H1 Q
  unfold fIsi at h1
  split at h1
  · rename_i t ht
    obtain ⟨t1, t2⟩ := ty_rel hS1 rx ht
    exact ⟨x, .ty T, .type t, .type T, _, rfl, .ty T, t2, kit_ty (kit_tab t t1 T hT), AtM.here h1 hS1 (.bl _)⟩
  · exact h1.elim
structure ClsI (K : PySem.W.Frag) (mg : Str → Option Value) (ca : Nat → Addr) (c : Nat) (x : Str) : Prop where
  mg : mg x = some (.ref (ca c))
  cl : Cls K (ca c)
  ha : PySem.W.findIn K (.ref (ca c)) "__class__" = some (some (.builtin "object.__class__"))
  hn : PySem.W.specialIn K (.builtin "object.__class__") "__get__" = some (some (.builtin "getset_descriptor.__get__"))
  ht : PySem.W.takesIn K (.builtin "object.__class__") = some true
  hm : PySem.W.mroIn K (ca c) (.type "object") = some true
  kit : PySem.W.kitOne K (.ref (ca c)) (.ref (ca c)) = some true
theorem se_isC {cc : Nat} {x : Str} {px p1 : Pos} (T : ClsI X.K X.mg ca cc x) (hm : X.mg "isinstance" = none) (hg : Gl X "isinstance") (hgT : Gl X x) (hdb : (x == ("__debug__" : Str)) = false)
    (ha : SE ca W X a ma) (T1 : CallT X a [.Name x px] pos) (T2 : CallT X (.Name x px) [] pos) : SE ca W X (.Call (.Name "isinstance" p1) [a, .Name x px] [] pos) (e1 (fIsC cc) ma) := by
  have hp : PA X [a, .Name x px] (tCons (Tm X.K ca W (Rel X.K) ma) (tCons (tC (.ref (ca cc))) tNil)) := pa_cons ha (pa_cons (pe_glob hgT T.mg (show Value.ref (ca cc) = Value.ref (ca cc) from rfl) hdb) pa_nil T2.he) T1.he
  refine pe_imp (pe_callB call_isi hg hm (by decide +kernel) hp (by decide) (by decide) T1.he T1.hpl) fun σ H Q ⟨ρ, φ, S, l, hS, hl, q⟩ => bindAt hS hl q fun d S1 ρ1 H1 x m1 hS1 e1 rx h1 => ?_
  show rIsi X.K [x, .ref (ca cc)] H1 Q
  unfold fIsC at h1
  split at h1
  · rename_i c' gs hi
    split at h1
    · rename_i hc
      subst hc
      obtain ⟨n, p, dx, fs, rfl, rfl, hn, hs, hp, hr⟩ := ins_rel hS1 rx hi
      exact ⟨_, _, _, _, _, rfl, .own _, .base (.ins hp T.cl T.ha T.hn T.ht T.hm), T.kit, AtM.here h1 hS1 (.bl _)⟩
    · exact h1.elim
  · exact h1.elim

/-! ### methods of lists, dicts, texts -/
/-- what a method call's text must show -/
structure MethT (X : Cx) (o : Expr) (name : Str) (es : List Expr) (apos cpos : Pos) : Prop where
  base : attributeBase o name X.env (eval o X.env) = eval o X.env
  few : ((backTo cpos (starEach es X.env)).all (fun x => !x.1) && (backToKw cpos (keywordEach [] X.env)).all (fun x => x.1.isSome)
    && decide (es.length + ([] : List Keyword).length + (if ([] : List Keyword).isEmpty then 0 else 1) < 30)) = true
  line : (apos.endLine == cpos.line) = true
theorem lst_at {K : PySem.W.Frag} {ρ φ : List Addr} {S : Store} {H : Hp} {v : V} {n : Nat} {ds : List D} (hS : SR K ca ρ φ S H) (r : Rel K ρ φ H v (.ref n)) (h : S[n]? = some ⟨.lst ds, false⟩) : ∃ p xs, v = .ref p ∧ ρ[n]? = some p ∧ H p = some (.lst xs) ∧ Rels K ρ φ H xs ds := by
  cases r with
  | ref h1 =>
    rename_i a
    obtain ⟨ho, q1, q2⟩ := hS.obj h1 h
    unfold RelO at q2
    split at q2
    · rename_i xs es' e; cases e; exact ⟨a, xs, rfl, h1, q1, q2⟩
    · rename_i e; cases e
    · rename_i e; cases e
    · exact q2.elim
theorem put_at {K : PySem.W.Frag} {ρ φ : List Addr} {S : Store} {H : Hp} {σ : L2.St} {W : WW} {n : Nat} {p : Addr} {xs : List V} {ds : List D} {v : V} {d : D} {Q : VK} (hS : SR K ca ρ φ S H) (hn : ρ[n]? = some p) (r : Rels K ρ φ H xs ds) (rv : Rel K ρ φ H v d)
    (h : AtM K ca W (Rel K) ρ φ H σ (some (.ok d, S.set n ⟨.lst ds, false⟩)) Q) : Q v (upd H p (.lst xs)) := by
  have hp : p ∈ ρ := List.mem_of_getElem? hn
  have e : Ext ρ H ρ (upd H p (.lst xs)) := Ext.put hp (hS.trk hp)
  exact h ρ _ v (hS.put (c := ⟨.lst ds, false⟩) hn (r.mono e)) e (rv.mono e)
/-- a method by values is met by f -/
def MthS (K : PySem.W.Frag) (ca : Nat → Addr) (r : V → List V → Hp → VK → Prop) (f : D → List D → M D) : Prop := ∀ (W : WW) (ρ φ : List Addr) (S : Store) (H : Hp) (σ : L2.St) (x : V) (a : D) (xs : List V) (ds : List D) (Q : VK),
  SR K ca ρ φ S H → Rel K ρ φ H x a → Rels K ρ φ H xs ds → AtM K ca W (Rel K) ρ φ H σ (f a ds S) Q → r x xs H Q
structure StarT (X : Cx) (e : Expr) (es : List Expr) (cpos : Pos) : Prop where
  hs : starEach (e :: es) X.env = (false, eval e X.env) :: starEach es X.env
  hp : (backTo cpos (starEach es X.env)).any (·.1) = false
theorem bm_run {T : String} {r : V → List V → Hp → VK → Prop} {f : D → List D → M D} {chk : D → Store → Bool} (hs : MthS X.K ca r f)
    (hk : ∀ (ρ φ : List Addr) (S : Store) (H : Hp) (v : V) (d : D), SR X.K ca ρ φ S H → Rel X.K ρ φ H v d → chk d S = true → tyV X.K T v H) {σ : L2.St} {H : Hp} {Q : VK} (h : Tm X.K ca W (Rel X.K) (eBM chk f mo m) σ H Q) : tBM X.K T r (Tm X.K ca W (Rel X.K) mo) (Tm X.K ca W (Rels X.K) m) σ H Q := by
  obtain ⟨ρ, φ, S, l, hS, hl, q⟩ := h
  refine bindAt hS hl q fun x S1 ρ1 H1 v m1 hS1 e1 rx h1 => ?_
  cases hc : chk x S1 with
  | false => rw [hc] at h1; exact h1.elim
  | true =>
    rw [hc] at h1
    exact ⟨hk _ _ _ _ _ _ hS1 rx hc, bindAt hS1 (hl.mono e1) h1 fun d S2 ρ2 H2 w m2 hS2 e2 rd h2 => hs _ _ _ _ _ _ _ _ _ _ _ hS2 (rx.mono e2) rd h2⟩
theorem isL_ty {K : PySem.W.Frag} (ρ φ : List Addr) (S : Store) (H : Hp) (v : V) (d : D) (hS : SR K ca ρ φ S H) (r : Rel K ρ φ H v d) (h : isL d S = true) : tyV K "list" v H := by
  unfold isL at h
  cases e : listOf d S with
  | none => rw [e] at h; cases h
  | some ds =>
    obtain ⟨p, xs, rfl, q, _⟩ := list_rel hS r e
    exact .inl ⟨rfl, xs, q⟩
theorem isS_ty {K : PySem.W.Frag} (ρ φ : List Addr) (S : Store) (H : Hp) (v : V) (d : D) (hS : SR K ca ρ φ S H) (r : Rel K ρ φ H v d) (h : isS d S = true) : tyV K "str" v H := by
  cases r <;> first | (cases h; done) | rfl
theorem append_S : MthS X.K ca rAppend (m1 fAppend) := by
  intro W ρ φ S H σ x a xs ds Q hS rx rs h
  unfold m1 at h
  split at h
  · rename_i y
    cases rs with
    | cons ry rn =>
      cases rn
      unfold fAppend at h
      split at h
      · split at h
        · rename_i n es hn
          split at h
          · rename_i hz
            obtain ⟨p, vs, rfl, h1, h2, h3⟩ := lst_at hS rx hn
            exact ⟨p, vs, _, rfl, rfl, h2, line_lt (by rw [h3.length]; exact hz), put_at hS h1 (h3.append (.cons ry .nil)) .non h⟩
          · exact h.elim
        · exact h.elim
      · exact h.elim
  · exact h.elim
theorem se_append (ho : SE ca W X o mo) (ha : SA ca W X [e] m) (T : MethT X o "append" [e] apos pos) (R : StarT X e [] pos) : SE ca W X (.Call (.Attribute o "append" apos) [e] [] pos) (eBM isL (m1 fAppend) mo m) :=
  pe_imp (pe_bm PySem.F.plainAttrs_list PySem.F.slot_list_append PySem.F.type_list_append mt_append ho ha T.base T.few T.line R.hs R.hp) fun σ H Q h => bm_run append_S isL_ty h
theorem pop_S : MthS X.K ca rPopAt (m1 fPopAt) := by
  intro W ρ φ S H σ x a xs ds Q hS rx rs h
  unfold m1 at h
  split at h
  · rename_i y
    cases rs with
    | cons ry rn =>
      cases rn
      unfold fPopAt at h
      split at h
      · split at h
        · rename_i n es hn
          split at h
          · split at h
            · rename_i d r
              split at h
              · rename_i hz
                obtain ⟨p, vs, rfl, h1, h2, h3⟩ := lst_at hS rx hn
                cases ry
                cases h3 with
                | cons r1 r2 =>
                  rename_i v vs
                  refine ⟨p, v :: vs, 0, 0, v, rfl, rfl, h2, by decide, by decide, ?_, rfl, put_at hS h1 r2 r1 h⟩
                  unfold seqIndex?
                  simp
              · exact h.elim
            · exact h.elim
          · exact h.elim
        · exact h.elim
      · exact h.elim
  · exact h.elim
theorem se_pop (ho : SE ca W X o mo) (ha : SA ca W X [e] m) (T : MethT X o "pop" [e] apos pos) (R : StarT X e [] pos) : SE ca W X (.Call (.Attribute o "pop" apos) [e] [] pos) (eBM isL (m1 fPopAt) mo m) :=
  pe_imp (pe_bm PySem.F.plainAttrs_list PySem.F.slot_list_pop PySem.F.type_list_pop mt_popAt ho ha T.base T.few T.line R.hs R.hp) fun σ H Q h => bm_run pop_S isL_ty h
def rSIndex : V → List V → Hp → VK → Prop := fun x xs H Q => ∃ a b i rest, x = .str a ∧ xs = [.str b] ∧ Builtin.Str.occurrences a b 0 a.length 1 = i :: rest ∧ Q (.int (i : Nat)) H
theorem sindex_S : MthS X.K ca rSIndex (m1 fIndexS) := by
  intro W ρ φ S H σ x a xs ds Q hS rx rs h
  unfold m1 at h
  split at h
  · rename_i y
    cases rs with
    | cons ry rn =>
      cases rn
      unfold fIndexS at h
      split at h
      · split at h
        · rename_i i r hr
          cases rx
          cases ry
          exact ⟨_, _, i, r, rfl, rfl, hr, AtM.here h hS (.int _)⟩
        · exact h.elim
      · exact h.elim
  · exact h.elim
theorem lindex_S : MthS X.K ca (rIndexD X.K) (m1 fIndexL) := by
  intro W ρ φ S H σ x a xs ds Q hS rx rs h
  unfold m1 at h
  split at h
  · rename_i y
    cases rs with
    | cons ry rn =>
      cases rn
      unfold fIndexL at h
      split at h
      · rename_i ys u h1 h2
        split at h
        · rename_i hc
          split at h
          · rename_i j hj
            have d1 := py_rel hS _ rx h1
            have d2 := py_rel hS _ ry h2
            obtain ⟨hj1, hj2, hj3⟩ := List.findIdx?_eq_some_iff_getElem.mp hj
            cases d1 with
            | lst q1 q2 => exact ⟨_, _, u, ys, j, _, rfl, rfl, .lst q1 q2, d2, hc.2, hc.1, List.getElem?_eq_getElem hj1, hj2, fun m z' hm hz => (by
                obtain ⟨hm1, hm2⟩ := List.getElem?_eq_some_iff.mp hz
                have := hj3 m hm
                subst hm2
                simpa using this), AtM.here h hS (.int _)⟩
          · exact h.elim
        · exact h.elim
      · exact h.elim
  · exact h.elim
theorem se_index (hu : X.A.units + 65 < cLine) (ho : SE ca W X o mo) (ha : SA ca W X [e] m) (T : MethT X o "index" [e] apos pos) (R : StarT X e [] pos) : SE ca W X (.Call (.Attribute o "index" apos) [e] [] pos) (eIndex mo m) := by
  refine pe_imp (pe_or2 (pe_bm PySem.F.plainAttrs_str PySem.F.slot_str_index PySem.F.type_str_index mt_sindex ho ha T.base T.few T.line R.hs R.hp)
    (pe_bm PySem.F.plainAttrs_list PySem.F.slot_list_index PySem.F.type_list_index (mt_indexD hu) ho ha T.base T.few T.line R.hs R.hp)) fun σ H Q ⟨ρ, φ, S, l, hS, hl, q⟩ => ?_
  by_cases c : ∀ x S1, mo l S = some (.ok x, S1) → isS x S1 = true
  · refine .inl (bm_run (r := rSIndex) (f := m1 fIndexS) (chk := isS) sindex_S isS_ty ⟨ρ, φ, S, l, hS, hl, ?_⟩)
    unfold eIndex at q
    unfold eBM
    cases e : mo l S with
    | none => rw [e] at q; exact q
    | some p =>
      obtain ⟨r, S1⟩ := p
      cases r with
      | error z => rw [e] at q; exact q
      | ok x =>
        have z := c x S1 e
        rw [e] at q
        simp only [bnd, z, if_true] at q ⊢
        exact q
  · refine .inr (bm_run (r := rIndexD X.K) (f := m1 fIndexL) (chk := isL) lindex_S isL_ty ⟨ρ, φ, S, l, hS, hl, ?_⟩)
    unfold eIndex at q
    unfold eBM
    cases e : mo l S with
    | none => rw [e] at q; exact q
    | some p =>
      obtain ⟨r, S1⟩ := p
      cases r with
      | error z => rw [e] at q; exact q
      | ok x =>
        have z : isS x S1 = false := by
          cases z : isS x S1 with
          | false => rfl
          | true =>
            refine absurd (fun x' S1' e' => ?_) c
            rw [e] at e'
            cases e'
            exact z
        rw [e] at q
        simp only [bnd, z, Bool.false_eq_true, if_false] at q ⊢
        exact q
/-! ### d.get -/
theorem se_get1 (hu : X.A.units + 1 < cLine) (ho : SE ca W X o mo) (ha : SE ca W X e ma) (T : M1 X o "get" apos e pos) : SE ca W X (.Call (.Attribute o "get" apos) [e] [] pos) (eGet1 mo ma) :=
  pe_imp (pe_dget1 hu ho ha T) fun σ H Q ⟨ρ, φ, S, l, hS, hl, q⟩ => bindAt hS hl q fun x S1 ρ1 H1 v m1 hS1 e1 rx h1 => by
    cases hc : dctOf x S1 with
    | none => rw [hc] at h1; exact h1.elim
    | some ks =>
      rw [hc] at h1
      obtain ⟨p, kvs, rfl, q1, _⟩ := dct_rel hS1 rx hc
      refine ⟨p, rfl, .inl ⟨kvs, q1⟩, bindAt hS1 (hl.mono e1) h1 fun y S2 ρ2 H2 w m2 hS2 e2 ry h2 => ?_⟩
      unfold fGet1 at h2
      split at h2
      · rename_i ks2 k hk1 hk2
        obtain ⟨p', o, e', _, g1, g2⟩ := dget_rel hS2 (rx.mono e2) ry hk1 hk2
        cases e'
        refine ⟨o, g1, ?_⟩
        rcases g2 with ⟨rfl, z⟩ | ⟨v, u, rfl, z, rv⟩
        · rw [z] at h2; exact AtM.here h2 hS2 .non
        · rw [z] at h2; exact AtM.here h2 hS2 rv
      · exact h2.elim
theorem se_get2 {f : Expr} (hu : X.A.units + 1 < cLine) (ho : SE ca W X o mo) (ha : SE ca W X e ma) (hf : SE ca W X f mb) (T : M2 X o "get" apos e f pos) : SE ca W X (.Call (.Attribute o "get" apos) [e, f] [] pos) (eGet2 mo ma mb) :=
  pe_imp (pe_dget2 hu ho ha hf T) fun σ H Q ⟨ρ, φ, S, l, hS, hl, q⟩ => bindAt hS hl q fun x S1 ρ1 H1 v m1 hS1 e1 rx h1 => by
    cases hc : dctOf x S1 with
    | none => rw [hc] at h1; exact h1.elim
    | some ks =>
      rw [hc] at h1
      obtain ⟨p, kvs, rfl, q1, _⟩ := dct_rel hS1 rx hc
      refine ⟨p, rfl, .inl ⟨kvs, q1⟩, bindAt hS1 (hl.mono e1) h1 fun y S2 ρ2 H2 w m2 hS2 e2 ry h2 => bindAt hS2 ((hl.mono e1).mono e2) h2 fun z S3 ρ3 H3 t m3 hS3 e3 rz h3 => ?_⟩
      unfold fGet2 at h3
      split at h3
      · rename_i ks2 k hk1 hk2
        obtain ⟨p', o, e', _, g1, g2⟩ := dget_rel hS3 ((rx.mono e2).mono e3) (ry.mono e3) hk1 hk2
        cases e'
        refine ⟨o, g1, ?_⟩
        rcases g2 with ⟨rfl, z'⟩ | ⟨v, u, rfl, z', rv⟩
        · rw [z'] at h3; exact AtM.here h3 hS3 rz
        · rw [z'] at h3; exact AtM.here h3 hS3 rv
      · exact h3.elim
end
end Sim

/-! Sim: calls of own defs, what is walked, comprehensions. -/
namespace Sim
open PySem PySem.Spec L2 PyProof.Rows
/-- no wish: no error leaves -/
def W0 (ξ : Option XI) : WW := ⟨fun _ _ _ _ => False, ξ⟩
/-- what a def promises that runs as g -/
def spM (K : PySem.W.Frag) (ca : Nat → Addr) (g : List D → M D) : Sp := fun vs H Q E =>
  ∃ (ρ φ : List Addr) (S : Store) (ds : List D), SR K ca ρ φ S H ∧ Rels K ρ φ H vs ds ∧ AtM K ca ⟨fun C d _ H' => E C d H', none⟩ (Rel K) ρ φ H [] (g ds S) Q
section
variable {K : PySem.W.Frag} {ca : Nat → Addr}
theorem at_slot {α β : Type} {R : List Addr → List Addr → Hp → β → α → Prop} {W W' : WW} {ρ φ : List Addr} {H : Hp} {σ σ' : L2.St} {c : Out α} {Q : β → Hp → Prop} (hw : ∀ C d H', W.f C d σ H' → W'.f C d σ' H') (h : AtM K ca W R ρ φ H σ c Q) : AtM K ca W' R ρ φ H σ' c Q := by
  unfold AtM at h ⊢
  split at h
  · exact h
  · exact fun ρ' H' C d h1 h2 h3 => hw _ _ _ (h ρ' H' C d h1 h2 h3)
  · exact h
theorem at_noErr {α β : Type} {R : List Addr → List Addr → Hp → β → α → Prop} {W W' : WW} {ρ φ : List Addr} {H : Hp} {σ σ' : L2.St} {m : M α} {S : Store} {Q : β → Hp → Prop} (h : AtM K ca W R ρ φ H σ (noErr m S) Q) : AtM K ca W' R ρ φ H σ' (m S) Q := by
  unfold noErr at h
  split at h
  · rename_i e; rw [e]; exact h
  · exact h.elim
end
/-- a def at a module's name: it runs as g, at most k calls deep -/
structure FnS (P : Program) (w : World) (K : PySem.W.Frag) (mg : Str → Option Value) (base : Heap) (ca : Nat → Addr) (k : Nat) (x : Str) (g : List D → M D) : Prop where
  ex : ∃ (f : Addr) (fd : FuncData) (ps : List Str), FnOk P w K mg base (L2.CX P w) k f fd ps (spM K ca g) ∧ mg x = some (.ref f) ∧ PySem.W.keepIn K (.ref f) = true ∧ Binds K fd ps []
/-- a method of the class of code c -/
structure MeS (P : Program) (w : World) (K : PySem.W.Frag) (mg : Str → Option Value) (base : Heap) (ca : Nat → Addr) (k : Nat) (c : Nat) (m : Str) (g : List D → M D) : Prop where
  cl : Cls K (ca c)
  ex : ∃ (f : Addr) (fd : FuncData) (ps : List Str), FnOk P w K mg base (L2.CX P w) k f fd ps (spM K ca g) ∧ Meth K (ca c) m f ∧ Binds K fd ps []
/-- a class by its __init__ -/
structure MkS (P : Program) (w : World) (K : PySem.W.Frag) (mg : Str → Option Value) (base : Heap) (ca : Nat → Addr) (k : Nat) (c : Nat) (x : Str) (g : List D → M D) : Prop where
  ex : ∃ (f : Addr) (fd : FuncData) (ps : List Str), FnOk P w K mg base (L2.CX P w) k f fd ps (spM K ca g) ∧ Mk K (ca c) f ∧ mg x = some (.ref (ca c)) ∧ Binds K fd ps []
section
variable {X : Cx} {ca : Nat → Addr} {W : WW} {e a b c o : Expr} {es : List Expr} {ma mb mc mo : ME} {m : MA} {g : List D → M D} {pos p apos : Pos} {k : Nat} {x : Str}
theorem sp_of {ρ φ : List Addr} {S : Store} {H : Hp} {σ : L2.St} {vs : List V} {ds : List D} {Q : VK} (hS : SR X.K ca ρ φ S H) (r : Rels X.K ρ φ H vs ds) (h : AtM X.K ca W (Rel X.K) ρ φ H σ (g ds S) Q) : spM X.K ca g vs H Q (WE W.f σ) :=
  ⟨ρ, φ, S, ds, hS, r, at_slot (fun _ _ _ z => z) h⟩
theorem se_call (F : FnS X.prog X.w X.K X.mg X.base ca k x g) (hr : Room k X.A) (tk : Takes X W.f) (hg : Gl X x) (hdb : (x == ("__debug__" : Str)) = false) (ha : SA ca W X (e :: es) m) (T : CallT X e es pos) : SE ca W X (.Call (.Name x p) (e :: es) [] pos) (eA g m) := by
  obtain ⟨f, fd, ps, F1, hm, hk, hb⟩ := F.ex
  exact pe_imp (pe_callS F1 hr hg hm hk hb (passAt tk) ha hdb T.he T.hpl) fun σ H Q ⟨ρ, φ, S, l, hS, hl, q⟩ => bindAt hS hl q fun ds S1 ρ1 H1 xs m1 hS1 e1 rs h1 => sp_of hS1 rs h1
theorem se_call0 (F : FnS X.prog X.w X.K X.mg X.base ca k x g) (hr : Room k X.A) (hg : Gl X x) (hdb : (x == ("__debug__" : Str)) = false) : SE ca W X (.Call (.Name x p) [] [] pos) (eA (fun ds => noErr (g ds)) aNil) := by
  obtain ⟨f, fd, ps, F1, hm, hk, hb⟩ := F.ex
  exact pe_imp (pe_call0 F1 hr hg hm hk hb .nil passL hdb) fun σ H Q ⟨ρ, φ, S, l, hS, hl, q⟩ => by
    show spM X.K ca g ([] ++ []) H Q E0
    exact ⟨ρ, φ, S, [], hS, .nil, at_noErr q⟩
/-! ### methods -/
theorem meth_run {c : Nat} {mn : Str} {σ : L2.St} {H : Hp} {Q : VK} (h : Tm X.K ca W (Rel X.K) (eMeth c mn g mo m) σ H Q) :
    Tm X.K ca W (Rel X.K) mo σ H (fun x H1 => ∃ a dx fs, x = .ref a ∧ H1 a = some (.ins (ca c) dx fs) ∧ fs.lookup mn = none ∧ Tm X.K ca W (Rels X.K) m σ H1 (fun vs H2 => spM X.K ca g (x :: vs) H2 Q (WE W.f σ))) := by
  obtain ⟨ρ, φ, S, l, hS, hl, q⟩ := h
  refine bindAt hS hl q fun x S1 ρ1 H1 v m1 hS1 e1 rx h1 => ?_
  cases hi : insOf x S1 with
  | none => rw [hi] at h1; exact h1.elim
  | some cf =>
    obtain ⟨c', gs⟩ := cf
    rw [hi] at h1
    simp only at h1
    split at h1
    · rename_i hc
      obtain ⟨hc1, hc2⟩ := hc
      subst hc1
      obtain ⟨n, p, dx, fs, rfl, rfl, hn, hs, hp, hr⟩ := ins_rel hS1 rx hi
      refine ⟨p, dx, fs, rfl, hp, hr.lookup_none hc2, bindAt hS1 (hl.mono e1) h1 fun ds S2 ρ2 H2 vs m2 hS2 e2 rs h2 => ?_⟩
      exact sp_of hS2 (.cons (rx.mono e2) rs) h2
    · exact h1.elim
/-- what a method's call must show -/
structure OMeth (X : Cx) (o : Expr) (mn : Str) (es : List Expr) (apos pos : Pos) : Prop where
  ht : ∃ pl : Sem Bool, eval (.Call (.Attribute o mn apos) es [] pos) X.env = (do
      let ov ← eval o X.env
      standAt apos.atName
      let (f, first) ← holding [ov] (getMethod ov mn pl)
      callWith pos f first (backTo pos (starEach es X.env)) (backToKw pos (keywordEach [] X.env)))
theorem se_meth {c : Nat} {mn : Str} (F : MeS X.prog X.w X.K X.mg X.base ca k c mn g) (hr : Room k X.A) (tk : Takes X W.f) (ho : SE ca W X o mo) (ha : SA ca W X (e :: es) m) (T : CallT X e es pos) (O : OMeth X o mn (e :: es) apos pos) :
    SE ca W X (.Call (.Attribute o mn apos) (e :: es) [] pos) (eMeth c mn g mo m) := by
  obtain ⟨f, fd, ps, F1, hm, hb⟩ := F.ex
  obtain ⟨pl, ht⟩ := O.ht
  refine ⟨fun pins s σ H Q I h => ?_⟩
  refine PySem.W.methodCall_KW (pl := pl) (thn (ho.run pins s σ H _ I (meth_run h)) fun u s1 ⟨x, H1, I1, rx, a, dx, fs, ex, ea, l, q⟩ => ?_) ht
  subst ex
  obtain rfl : u = Value.ref a := rx
  refine getmeth_ok I1 ea F.cl hm l ?_
  refine PySem.W.callWith_K (first := [.ref a]) (h₀ := X.base) I.ok.mod.kin hm.kp (thn (ha.run pos pins s1 σ H1 _ I1 q) fun us s2 ⟨vs, H2, I2, r, q2⟩ => ⟨I2.kIn, ?_⟩) T.he T.hpl
  exact run_fnS (us := .ref a :: us) (vs := .ref a :: vs) (E := WE W.f) F1 hr hb (passAt tk σ) I2 (.cons rfl r) q2
theorem se_meth0 {c : Nat} {mn : Str} (F : MeS X.prog X.w X.K X.mg X.base ca k c mn g) (hr : Room k X.A) (tk : Takes X W.f) (ho : SE ca W X o mo) (O : OMeth X o mn [] apos pos) :
    SE ca W X (.Call (.Attribute o mn apos) [] [] pos) (eMeth c mn g mo aNil) := by
  obtain ⟨f, fd, ps, F1, hm, hb⟩ := F.ex
  obtain ⟨pl, ht⟩ := O.ht
  refine ⟨fun pins s σ H Q I h => ?_⟩
  refine PySem.W.methodCall_KW (pl := pl) (thn (ho.run pins s σ H _ I (meth_run h)) fun u s1 ⟨x, H1, I1, rx, a, dx, fs, ex, ea, l, q⟩ => ?_) ht
  subst ex
  obtain rfl : u = Value.ref a := rx
  refine getmeth_ok I1 ea F.cl hm l ?_
  obtain ⟨ρ2, φ2, S2, l2, hS2, hl2, q2⟩ := q
  have q3 : spM X.K ca g [.ref a] H1 Q (WE W.f σ) := AtM.here (b := ([] : List V)) q2 hS2 .nil
  exact PySem.W.callWith_K0 (first := [.ref a]) I1.kIn hm.kp (run_fnS (us := [.ref a]) (vs := [.ref a]) (E := WE W.f) F1 hr hb (passAt tk σ) I1 (.cons rfl .nil) q3)
/-! ### a new instance -/
theorem make_run {c : Nat} {ρ φ : List Addr} {S : Store} {H : Hp} {σ : L2.St} {vs : List V} {ds : List D} {Q : VK} (hS : SR X.K ca ρ φ S H) (r : Rels X.K ρ φ H vs ds) (h : AtM X.K ca W (Rel X.K) ρ φ H σ (fMake c (fun ds => noErr (g ds)) ds S) Q) :
    ∀ x dx, H x = none → H dx = none → dx ≠ x → spM X.K ca g (.ref x :: (vs ++ [])) (upd (upd H dx (.own x)) x (.ins (ca c) dx [])) (fun v H2 => v = .non ∧ Q (.ref x) H2) E0 := by
  intro x dx hx hdx hne
  have hx' : upd H dx (.own x) x = none := by rw [upd_ne (Ne.symm hne)]; exact hx
  have e1 : Ext ρ H ρ (upd H dx (.own x)) := Ext.lay hdx
  have hS1 := hS.lay (o := .own x) hdx
  have e2 : Ext ρ (upd H dx (.own x)) (ρ ++ [x]) (upd (upd H dx (.own x)) x (.ins (ca c) dx [])) := Ext.grow hx'
  have hS2 : SR X.K ca (ρ ++ [x]) φ (S ++ [⟨.ins c [], false⟩]) (upd (upd H dx (.own x)) x (.ins (ca c) dx [])) := hS1.grow hx' ⟨rfl, .nil⟩
  have hx3 : (ρ ++ [x])[S.length]? = some x := by rw [← hS.len]; simp
  refine ⟨ρ ++ [x], φ, _, .ref S.length :: ds, hS2, .cons (.ref hx3) (by rw [List.append_nil]; exact r.mono (e1.trans e2)), ?_⟩
  unfold fMake at h
  simp only at h
  refine at_noErr (W := W) (σ := σ) ?_
  split at h
  · rename_i S' hm
    rw [hm]
    intro ρ' H' v hS' e' rv
    cases rv
    exact ⟨rfl, h ρ' H' (.ref x) hS' ((e1.trans e2).trans e') (.ref (e'.at hx3))⟩
  · rename_i y S' hm
    unfold noErr at hm
    split at hm <;> cases hm
  · exact h.elim
theorem se_make {c : Nat} (F : MkS X.prog X.w X.K X.mg X.base ca k c x g) (hr : Room (k + 1) X.A) (hg : Gl X x) (hdb : (x == ("__debug__" : Str)) = false) (ha : SA ca W X (e :: es) m) (T : CallT X e es pos) : SE ca W X (.Call (.Name x p) (e :: es) [] pos) (eA (fMake c (fun ds => noErr (g ds))) m) := by
  obtain ⟨f, fd, ps, F1, M, hm, hb⟩ := F.ex
  exact pe_imp (pe_make M F1 hr hg hm hb .nil passL ha hdb T.he T.hpl) fun σ H Q ⟨ρ, φ, S, l, hS, hl, q⟩ => bindAt hS hl q fun ds S1 ρ1 H1 xs m1 hS1 e1 rs h1 => make_run hS1 rs h1
theorem se_make0 {c : Nat} (F : MkS X.prog X.w X.K X.mg X.base ca k c x g) (hr : Room (k + 1) X.A) (hg : Gl X x) (hdb : (x == ("__debug__" : Str)) = false) : SE ca W X (.Call (.Name x p) [] [] pos) (eA (fMake c (fun ds => noErr (g ds))) aNil) := by
  obtain ⟨f, fd, ps, F1, M, hm, hb⟩ := F.ex
  exact pe_imp (pe_make0 M F1 hr hg hm hb .nil passL hdb) fun σ H Q ⟨ρ, φ, S, l, hS, hl, q⟩ => make_run (ds := []) hS .nil q
end
/-! ### what is walked -/
/-- J gives the items that src tells, as the store stands -/
def Feeds (K : PySem.W.Frag) (ca : Nat → Addr) (ρ φ : List Addr) (H : Hp) (J : It) (src : Src) : Prop :=
  ∀ (ρ' φ' : List Addr) (S' : Store) (H' : Hp) (ds : List D), SR K ca ρ' φ' S' H' → Ext ρ H ρ' H' → (∀ a ∈ φ', a ∈ φ ∨ H a = none) → src S' = some ds → ∀ i : Nat,
    (∀ d, ds[i]? = some d → J.go i H' ∧ ∀ x H'', J.yld i H' x H'' → SR K ca ρ' φ' S' H'' ∧ Ext ρ' H' ρ' H'' ∧ Rel K ρ' φ' H'' x d) ∧ (ds[i]? = none → J.stop i H')
def SI (ca : Nat → Addr) (W : WW) (X : Cx) (tg iter : Expr) (m : Sl → M Src) : Prop := PI X tg iter (Tm X.K ca W (Feeds X.K ca) m)
section
variable {X : Cx} {ca : Nat → Addr} {W : WW} {tg e a b : Expr} {ma mb : ME} {pos p tpos : Pos}
theorem move_of {ρ φ ρ' φ' : List Addr} {H H' : Hp} (e : Ext ρ H ρ' H') (hp : ∀ a ∈ φ', a ∈ φ ∨ H a = none) : Move ρ φ H ρ' φ' H' :=
  ⟨fun q o h n m => ⟨e.keep q o h n, e.notin (by rw [h]; simp) n, fun z => by
    rcases hp q z with y | y
    · exact m y
    · rw [h] at y; cases y⟩, fun n a h => e.at h⟩
theorem pi_imp {e : Expr} {t t' : TI} (h : PI X tg e t) (i : ∀ σ H R, t' σ H R → t σ H R) : PI X tg e t' := ⟨fun pins s σ H R I q => h.run pins s σ H R I (i σ H R q)⟩
theorem isL_rel {ρ φ : List Addr} {S : Store} {H : Hp} {v : V} {d : D} (hS : SR X.K ca ρ φ S H) (r : Rel X.K ρ φ H v d) (h : isL d S = true) : ∃ p xs, v = .ref p ∧ SqL X.K H p xs := by
  unfold isL at h
  cases e : listOf d S with
  | none => rw [e] at h; cases h
  | some ds =>
    obtain ⟨p, xs, rfl, q, _⟩ := list_rel hS r e
    exact ⟨p, xs, rfl, q⟩
theorem feeds_list {ρ φ : List Addr} {H : Hp} {p : Addr} {x : D} (r : Rel X.K ρ φ H (.ref p) x) : Feeds X.K ca ρ φ H (Itl X.K p) (listOf x) := by
  intro ρ' φ' S' H' ds hS' e' hp hs i
  obtain ⟨q, xs, ep, q1, q2⟩ := list_rel hS' (r.move (move_of e' hp)) hs
  cases ep
  refine ⟨fun d hd => ?_, fun hd => ⟨xs, q1, by rw [q2.length]; exact List.getElem?_eq_none_iff.mp hd⟩⟩
  obtain ⟨v, hv, rv⟩ := q2.get hd
  refine ⟨⟨xs, v, q1, hv⟩, fun y H'' hy => ?_⟩
  obtain ⟨rfl, hy⟩ := hy
  have z := hy xs q1
  rw [hv] at z
  cases z
  exact ⟨hS', Ext.refl _ _, rv⟩
theorem si_list (h : SE ca W X e ma) : SI ca W X tg e (iL ma) :=
  pi_imp (pi_list h) fun σ H R ⟨ρ, φ, S, l, hS, hl, q⟩ => bindAt hS hl q fun x S1 ρ1 H1 v m1 hS1 e1 rx h1 => by
    split at h1
    · rename_i hc
      obtain ⟨p, xs, rfl, q1⟩ := isL_rel hS1 rx hc
      exact ⟨p, rfl, ⟨xs, q1⟩, AtM.here (b := Itl X.K p) h1 hS1 (feeds_list rx)⟩
    · exact h1.elim
theorem signs_get {z : Str} {i : Nat} {d : D} (h : (signsOf z)[i]? = some d) : ∃ c, z.cps[i]? = some c ∧ d = .str ⟨#[c]⟩ := by
  unfold signsOf at h
  rw [List.getElem?_map] at h
  cases e : z.cps.toList[i]? with
  | none => rw [e] at h; cases h
  | some c => rw [e] at h; cases h; exact ⟨c, by simpa using e, rfl⟩
theorem si_str (h : SE ca W X e ma) : SI ca W X tg e (iS ma) :=
  pi_imp (pi_str h) fun σ H R ⟨ρ, φ, S, l, hS, hl, q⟩ => bindAt hS hl q fun x S1 ρ1 H1 v m1 hS1 e1 rx h1 => by
    cases rx <;> first | exact h1.elim | skip
    rename_i z
    refine ⟨z, rfl, AtM.here (b := Its z) h1 hS1 ?_⟩
    intro ρ' φ' S' H' ds hS' e' hp hs i
    cases hs
    refine ⟨fun d hd => ?_, fun hd => ?_⟩
    · obtain ⟨c, hc, rfl⟩ := signs_get hd
      refine ⟨(Array.getElem?_eq_some_iff.mp hc).1, fun y H'' hy => ?_⟩
      obtain ⟨rfl, c', hc', rfl⟩ := hy
      rw [hc] at hc'
      cases hc'
      exact ⟨hS', Ext.refl _ _, .str _⟩
    · have := List.getElem?_eq_none_iff.mp hd
      unfold signsOf at this
      show z.cps.size ≤ i
      simpa using this
theorem range_get {lo : Int} {n i : Nat} {d : D} (h : (rangeD lo n)[i]? = some d) : i < n ∧ d = .int (lo + (i : Int)) := by
  unfold rangeD at h
  rw [List.getElem?_map] at h
  by_cases c : i < n
  · rw [List.getElem?_range c] at h
    cases h
    exact ⟨c, rfl⟩
  · rw [List.getElem?_eq_none (by simpa using c)] at h
    cases h
theorem feeds_range {ρ φ : List Addr} {H : Hp} {lo : Int} {n : Nat} : Feeds X.K ca ρ φ H (Itr lo n) (fun _ => some (rangeD lo n)) := by
  intro ρ' φ' S' H' ds hS' e' hp hs i
  cases hs
  refine ⟨fun d hd => ?_, fun hd => ?_⟩
  · obtain ⟨h1, rfl⟩ := range_get hd
    refine ⟨h1, fun y H'' hy => ?_⟩
    obtain ⟨rfl, rfl⟩ := hy
    exact ⟨hS', Ext.refl _ _, .int _⟩
  · have := List.getElem?_eq_none_iff.mp hd
    unfold rangeD at this
    show n ≤ i
    simpa using this
theorem big_of {i : Int} (h : bigI i = true) : -(2 ^ 62) ≤ i ∧ i < 2 ^ 62 := by
  unfold bigI at h
  have := of_decide_eq_true h
  omega
theorem si_r1 (hm : X.mg "range" = none) (hg : Gl X "range") (h : SE ca W X a ma) (hs : starEach [a] X.env = [(false, eval a X.env)]) (hs' : starEach [a] X.env = (false, eval a X.env) :: starEach [] X.env) : SI ca W X tg (.Call (.Name "range" p) [a] [] pos) (iR1 ma) :=
  pi_imp (pi_range1 hg hm (pa_cons h pa_nil hs') hs) fun σ H R ⟨ρ, φ, S, l, hS, hl, q⟩ => bindAt hS hl q fun x S1 ρ1 H1 v m1 hS1 e1 rx h1 => by
    cases rx <;> first | exact h1.elim | skip
    rename_i n
    simp only at h1
    split at h1
    · rename_i hb
      obtain ⟨b1, b2⟩ := big_of hb
      exact ⟨n, rfl, b1, b2, AtM.here (b := Itr 0 n.toNat) h1 hS1 feeds_range⟩
    · exact h1.elim
theorem si_r2 (hm : X.mg "range" = none) (hg : Gl X "range") (h : SE ca W X a ma) (k : SE ca W X b mb) (hs : starEach [a, b] X.env = [(false, eval a X.env), (false, eval b X.env)]) (hs2 : starEach [b] X.env = [(false, eval b X.env)])
    (hs' : starEach [a, b] X.env = (false, eval a X.env) :: starEach [b] X.env) (hs2' : starEach [b] X.env = (false, eval b X.env) :: starEach [] X.env) : SI ca W X tg (.Call (.Name "range" p) [a, b] [] pos) (iR2 ma mb) :=
  pi_imp (pi_range2 hg hm (pa_cons h (pa_cons k pa_nil hs2') hs') hs hs2) fun σ H R ⟨ρ, φ, S, l, hS, hl, q⟩ => bindAt hS hl q fun x S1 ρ1 H1 v m1 hS1 e1 rx h1 => bindAt hS1 (hl.mono e1) h1 fun y S2 ρ2 H2 w m2 hS2 e2 ry h2 => by
    cases rx <;> first | exact h2.elim | skip
    cases ry <;> first | exact h2.elim | skip
    rename_i lo hi
    simp only at h2
    split at h2
    · rename_i hb
      obtain ⟨b1, b2⟩ := big_of hb.1
      obtain ⟨b3, b4⟩ := big_of hb.2
      exact ⟨lo, hi, rfl, ⟨b1, b2, b3, b4⟩, AtM.here (b := Itr lo (hi - lo).toNat) h2 hS2 feeds_range⟩
    · exact h2.elim
theorem enum_get {ds : List D} {i : Nat} {d : D} (h : (enumD ds)[i]? = some d) : ∃ x, ds[i]? = some x ∧ d = .tup [.int (i : Nat), x] := by
  unfold enumD at h
  rw [List.getElem?_map, List.getElem?_zipIdx] at h
  cases e : ds[i]? with
  | none => rw [e] at h; cases h
  | some x => rw [e] at h; cases h; exact ⟨x, rfl, by simp⟩
theorem si_enum {elts : List Expr} {kk : Nat} (hm : X.mg "enumerate" = none) (hg : Gl X "enumerate") (h : SE ca W X e ma) (hs : starEach [e] X.env = [(false, eval e X.env)]) (hs' : starEach [e] X.env = (false, eval e X.env) :: starEach [] X.env) :
    SI ca W X (.Tuple elts kk tpos) (.Call (.Name "enumerate" p) [e] [] pos) (iEn ma) :=
  pi_imp (pi_enum hg hm (pa_cons h pa_nil hs') hs) fun σ H R ⟨ρ, φ, S, l, hS, hl, q⟩ => bindAt hS hl q fun x S1 ρ1 H1 v m1 hS1 e1 rx h1 => by
    split at h1
    · rename_i hc
      obtain ⟨p, xs, rfl, q1⟩ := isL_rel hS1 rx hc
      refine ⟨p, xs, rfl, q1, AtM.here (b := Ite X.K p) h1 hS1 ?_⟩
      intro ρ' φ' S' H' ds hS' e' hp hs i
      cases e3 : listOf x S' with
      | none => simp only [e3] at hs; cases hs
      | some es =>
        simp only [e3] at hs
        cases hs
        obtain ⟨q', ys, ep, q2, q3⟩ := list_rel hS' (rx.move (move_of e' hp)) e3
        cases ep
        refine ⟨fun d hd => ?_, fun hd => ⟨ys, q2, ?_⟩⟩
        · obtain ⟨y, hy, rfl⟩ := enum_get hd
          obtain ⟨v, hv, rv⟩ := q3.get hy
          refine ⟨⟨ys, v, q2, hv⟩, fun z H'' hz => ?_⟩
          obtain ⟨T, w, rfl, hT, rfl, hw⟩ := hz
          have z2 := hw ys q2
          rw [hv] at z2
          cases z2
          have e5 : Ext ρ' H' ρ' (upd H' T (.tup [.int (i : Nat), v])) := Ext.lay hT
          exact ⟨hS'.lay hT, e5, .tup upd_same (hS'.fresh hT).1 (hS'.fresh hT).2 (.cons (.int _) (.cons (rv.mono e5) .nil))⟩
        · rw [q3.length]
          have := List.getElem?_eq_none_iff.mp hd
          unfold enumD at this
          simpa using this
    · exact h1.elim
theorem zip_get : ∀ {xs ys : List D} {i : Nat} {d : D}, (zipD xs ys)[i]? = some d → ∃ x y, xs[i]? = some x ∧ ys[i]? = some y ∧ d = .tup [x, y] := by
  intro xs ys i d h
  unfold zipD at h
  rw [List.getElem?_zipWith] at h
  cases e1 : xs[i]? with
  | none => simp [e1] at h
  | some x =>
    cases e2 : ys[i]? with
    | none => simp [e1, e2] at h
    | some y => simp [e1, e2] at h; exact ⟨x, y, rfl, rfl, h.symm⟩
theorem zip_none : ∀ {xs ys : List D} {i : Nat}, (zipD xs ys)[i]? = none → xs.length ≤ i ∨ ys.length ≤ i := by
  intro xs ys i h
  have := List.getElem?_eq_none_iff.mp h
  unfold zipD at this
  rw [List.length_zipWith] at this
  omega
theorem si_zip {elts : List Expr} {kk : Nat} (hm : X.mg "zip" = none) (hg : Gl X "zip") (h : SE ca W X a ma) (k : SE ca W X b mb) (hs1 : starEach [a, b] X.env = (false, eval a X.env) :: starEach [b] X.env) (hs2 : starEach [b] X.env = (false, eval b X.env) :: starEach [] X.env)
    (hpl : (backTo pos (starEach [b] X.env)).any (·.1) = false) : SI ca W X (.Tuple elts kk tpos) (.Call (.Name "zip" p) [a, b] [] pos) (iZ ma mb) :=
  pi_imp (pi_zip hg hm (pa_cons h (pa_cons k pa_nil hs2) hs1) hs1 hpl) fun σ H R ⟨ρ, φ, S, l, hS, hl, q⟩ => bindAt hS hl q fun x S1 ρ1 H1 v m1 hS1 e1 rx h1 => bindAt hS1 (hl.mono e1) h1 fun y S2 ρ2 H2 w m2 hS2 e2 ry h2 => by
    split at h2
    · rename_i hc
      have rx2 := rx.mono e2
      obtain ⟨p, xs, rfl, q1⟩ := isL_rel hS2 rx2 hc.1
      obtain ⟨q, ys, rfl, q2⟩ := isL_rel hS2 ry hc.2
      refine ⟨p, q, xs, ys, rfl, q1, q2, AtM.here (b := Itz X.K p q) h2 hS2 ?_⟩
      intro ρ' φ' S' H' ds hS' e' hp hs i
      simp only at hs
      split at hs
      · rename_i es fs h3 h4
        cases hs
        obtain ⟨p', us, ep, g1, g2⟩ := list_rel hS' (rx2.move (move_of e' hp)) h3
        cases ep
        obtain ⟨q', ws, eq', g3, g4⟩ := list_rel hS' (ry.move (move_of e' hp)) h4
        cases eq'
        refine ⟨fun d hd => ?_, fun hd => ⟨us, ws, g1, g3, ?_⟩⟩
        · obtain ⟨d1, d2, hd1, hd2, rfl⟩ := zip_get hd
          obtain ⟨v1, hv1, rv1⟩ := g2.get hd1
          obtain ⟨v2, hv2, rv2⟩ := g4.get hd2
          refine ⟨⟨us, ws, v1, v2, g1, g3, hv1, hv2⟩, fun z H'' hz => ?_⟩
          obtain ⟨T, t1, t2, rfl, hT, rfl, ht1, ht2⟩ := hz
          have z1 := ht1 us g1
          rw [hv1] at z1
          cases z1
          have z2 := ht2 ws g3
          rw [hv2] at z2
          cases z2
          have e5 : Ext ρ' H' ρ' (upd H' T (.tup [v1, v2])) := Ext.lay hT
          exact ⟨hS'.lay hT, e5, .tup upd_same (hS'.fresh hT).1 (hS'.fresh hT).2 (.cons (rv1.mono e5) (.cons (rv2.mono e5) .nil))⟩
        · rw [g2.length, g4.length]
          exact zip_none hd
      · cases hs
    · exact h2.elim
/-! ### targets -/
/-- the target's reading stores what tgSet stores; vs: the slots that it may change -/
def TgOk (K : PySem.W.Frag) (ξ : Option XI) (g : TG) (tg : Tg) : Prop := ∀ (ρ φ : List Addr) (H : Hp) (σ : L2.St) (l l' : Sl) (x : V) (d : D) (Q : L2.St → Hp → Prop),
  SlX ξ K ρ φ H σ l → Rel K ρ φ H x d → tgSet tg d l = some l' → (∀ σ', SlX ξ K ρ φ H σ' l' → (∀ vs, (∀ i ∈ tgIx tg, i ∈ vs) → wipe σ' vs = wipe σ vs) → Q σ' H) → g x σ H Q
theorem wipe_set {i : Nat} {o : Option V} : ∀ {vs : List Nat} {σ : L2.St}, i ∈ vs → wipe (σ.set i o) vs = wipe σ vs
  | v :: vs, σ, h => by
    show (wipe (σ.set i o) vs).set v none = (wipe σ vs).set v none
    by_cases c : i ∈ vs
    · rw [wipe_set c]
    · have e : i = v := (List.mem_cons.mp h).resolve_right c
      subst e
      have q : ∀ (vs : List Nat) (σ : L2.St), i ∉ vs → wipe (σ.set i o) vs = (wipe σ vs).set i o := by
        intro vs
        induction vs with
        | nil => intro σ _; rfl
        | cons w ws ih =>
          intro σ hn
          show (wipe (σ.set i o) ws).set w none = ((wipe σ ws).set w none).set i o
          rw [ih σ (fun z => hn (List.mem_cons_of_mem _ z)), List.set_comm]
          intro z
          subst z
          exact hn List.mem_cons_self
      rw [q vs σ c, List.set_set]
theorem tg_one {ξ : Option XI} {i : Nat} (hi : freeS ξ i) : TgOk X.K ξ (gName i) (.one i) := by
  intro ρ φ H σ l l' x d Q hl r h q
  cases h
  exact q _ (hl.set r hi) fun vs hv => wipe_set (hv i (List.mem_singleton.mpr rfl))
theorem tgs_ok {ξ : Option XI} : ∀ (is : List Nat) (hi : ∀ i ∈ is, freeS ξ i) (ρ φ : List Addr) (H : Hp) (σ : L2.St) (l l' : Sl) (xs : List V) (ds : List D) (Q : L2.St → Hp → Prop),
    SlX ξ X.K ρ φ H σ l → Rels X.K ρ φ H xs ds → setAll is ds l = some l' → (∀ σ', SlX ξ X.K ρ φ H σ' l' → (∀ vs, (∀ i ∈ is, i ∈ vs) → wipe σ' vs = wipe σ vs) → Q σ' H) → (is.foldr (fun i t => gCons (gName i) t) gNil) xs σ H Q
  | [], _, ρ, φ, H, σ, l, l', _, _, Q, hl, .nil, h, q => by
    cases h
    exact ⟨rfl, q _ hl fun _ _ => rfl⟩
  | [], _, ρ, φ, H, σ, l, l', _, _, Q, hl, .cons r rs, h, q => by cases h
  | i :: is, hi, ρ, φ, H, σ, l, l', _, _, Q, hl, .nil, h, q => by cases h
  | i :: is, hi, ρ, φ, H, σ, l, l', _, _, Q, hl, .cons r rs, h, q => by
    refine ⟨_, _, rfl, ?_⟩
    exact tgs_ok is (fun j hj => hi j (List.mem_cons_of_mem _ hj)) ρ φ H _ _ l' _ _ Q (hl.set r (hi i List.mem_cons_self)) rs h fun σ' h1 h2 => q σ' h1 fun vs hv => by
      rw [h2 vs fun j hj => hv j (List.mem_cons_of_mem _ hj), wipe_set (hv i List.mem_cons_self)]
theorem setAll_len : ∀ {is : List Nat} {ds : List D} {l l' : Sl}, setAll is ds l = some l' → ds.length = is.length
  | [], [], _, _, _ => rfl
  | i :: is, d :: ds, l, l', h => by rw [List.length_cons, List.length_cons, setAll_len (is := is) h]
  | [], _ :: _, _, _, h => by cases h
  | _ :: _, [], _, _, h => by cases h
theorem tg_many {ξ : Option XI} {is : List Nat} (hi : ∀ i ∈ is, freeS ξ i) : TgOk X.K ξ (gTup X.K is.length (is.foldr (fun i t => gCons (gName i) t) gNil)) (.many is) := by
  intro ρ φ H σ l l' x d Q hl r h q
  unfold tgSet at h
  simp only at h
  cases r <;> first | (cases h; done) | skip
  rename_i p xs ds h1 h2 h3 h4
  refine ⟨p, xs, rfl, .inl (.inl h1), by rw [h4.length]; exact setAll_len h, ?_⟩
  exact tgs_ok is hi ρ φ H σ l l' xs ds Q hl h4 h q
end
end Sim

/-! Sim: comprehensions. -/
namespace Sim
open PySem PySem.Spec L2 PyProof.Rows
section
variable {K : PySem.W.Frag} {ca : Nat → Addr} {ρ ρ' φ : List Addr} {S : Store} {H H' : Hp}
/-- a private place is laid -/
theorem SR.hide (h : SR K ca ρ φ S H) {p : Addr} {o : HO} (hp : H p = none) : SR K ca ρ (p :: φ) S (upd H p o) := by
  obtain ⟨f1, f2⟩ := h.fresh hp
  have mv : Move ρ φ H ρ (p :: φ) (upd H p o) := ⟨fun q u hq n m => ⟨by rw [upd_ne (ne_of_none hq hp)]; exact hq, n, fun z => by
    rcases List.mem_cons.mp z with y | y
    · subst y; rw [hq] at hp; cases hp
    · exact m y⟩, fun _ _ z => z⟩
  refine ⟨h.nd, h.len, fun a ha => ?_, fun a ha => ?_, fun n a c h1 h2 => ?_⟩
  · rcases List.mem_cons.mp ha with y | y
    · subst y; exact f1
    · exact h.dj a y
  · rcases List.mem_cons.mp ha with y | y
    · subst y; rw [upd_same]; simp
    · exact Ext.trk (Ext.lay (ρ := ρ) hp) a (h.ph a y)
  · obtain ⟨ho, q1, q2⟩ := h.ob n a c h1 h2
    exact ⟨ho, q1.lay hp, q2.move mv⟩
theorem hide_move {p : Addr} {o : HO} (hp : H p = none) : Move ρ φ H ρ (p :: φ) (upd H p o) := ⟨fun q u hq n m => ⟨by rw [upd_ne (ne_of_none hq hp)]; exact hq, n, fun z => by
    rcases List.mem_cons.mp z with y | y
    · subst y; rw [hq] at hp; cases hp
    · exact m y⟩, fun _ _ z => z⟩
theorem priv_move {p : Addr} {o : HO} (hp : p ∈ φ) : Move ρ φ H ρ φ (upd H p o) := ⟨fun q u hq n m => ⟨by rw [upd_ne (fun z => m (by rw [z]; exact hp))]; exact hq, n, m⟩, fun _ _ z => z⟩
/-- a private place changes -/
theorem SR.priv (h : SR K ca ρ φ S H) {p : Addr} {o : HO} (hp : p ∈ φ) : SR K ca ρ φ S (upd H p o) := by
  refine ⟨h.nd, h.len, h.dj, fun a ha => ?_, fun n a c h1 h2 => ?_⟩
  · by_cases c : a = p
    · subst c; rw [upd_same]; simp
    · rw [upd_ne c]; exact h.ph a ha
  · obtain ⟨ho, q1, q2⟩ := h.ob n a c h1 h2
    exact ⟨ho, q1.put (fun z => h.dj p hp (z ▸ List.mem_of_getElem? h1)), q2.move (priv_move hp)⟩
theorem SR.less {ψ : List Addr} (h : SR K ca ρ φ S H) (hp : ∀ a ∈ ψ, a ∈ φ) : SR K ca ρ ψ S H :=
  ⟨h.nd, h.len, fun a ha => h.dj a (hp a ha), fun a ha => h.ph a (hp a ha), fun n a c h1 h2 => by
    obtain ⟨ho, q1, q2⟩ := h.ob n a c h1 h2
    exact ⟨ho, q1, q2.less hp⟩⟩
theorem XF.less {ψ : List Addr} {d : Option Addr} {fs : Option (List (Str × D))} (h : XF K ρ φ H d fs) (hp : ∀ a ∈ ψ, a ∈ φ) : XF K ρ ψ H d fs := by
  cases fs with
  | none => exact h
  | some gs =>
    obtain ⟨dd, hs, h1, h2, h3, h4, h5⟩ := h
    exact ⟨dd, hs, h1, h2, h3, fun z => h4 (hp _ z), h5.less hp⟩
theorem SlX.less {ξ : Option XI} {ψ : List Addr} {σ : L2.St} {l : Sl} (h : SlX ξ K ρ φ H σ l) (hp : ∀ a ∈ ψ, a ∈ φ) : SlX ξ K ρ ψ H σ l := ⟨h.sl.less hp, fun z hz => ⟨(h.er z hz).1, (h.er z hz).2.less hp⟩⟩
theorem SlR.wipe {σ : L2.St} {l : Sl} (h : SlR K ρ φ H σ l) : ∀ vs : List Nat, SlR K ρ φ H (wipe σ vs) (wipeD l vs)
  | [] => h
  | v :: vs => (SlR.wipe h vs).unset v
theorem bindN {α β γ δ : Type} {W : WW} {ξ : Option XI} {R : List Addr → List Addr → Hp → β → α → Prop} {R' : List Addr → List Addr → Hp → δ → γ → Prop} {σ τ : L2.St} {l : Sl} {Q : β → Hp → Prop} {Q' : δ → Hp → Prop} {m : Sl → M α} {k : α → M γ} {ψ ρb : List Addr} {Hb : Hp} (hS : SR K ca ρ φ S H) (hl : SlX ξ K ρ φ H σ l) (h : AtM K ca W R' ρb ψ Hb τ (bndN (m l S) k) Q')
    (q : ∀ a S1 ρ1 H1 b, m l S = some (.ok a, S1) → SR K ca ρ1 φ S1 H1 → Ext ρ H ρ1 H1 → R ρ1 φ H1 b a → AtM K ca W R' ρb ψ Hb τ (k a S1) Q' → Q b H1) : Tm K ca (W0 ξ) R m σ H Q := by
  refine ⟨ρ, φ, S, l, hS, hl, ?_⟩
  cases hm : m l S with
  | none => rw [hm] at h; exact h
  | some p =>
    obtain ⟨r, S1⟩ := p
    rw [hm] at h
    cases r with
    | error x => exact h.elim
    | ok a => exact fun ρ1 H1 b hS1 e1 r1 => q a S1 ρ1 H1 b hm hS1 e1 r1 h
theorem ext_new {p : Addr} {o : HO} (e : Ext ρ H ρ' H') (hp : H p = none) : Ext ρ H ρ' (upd H' p o) :=
  ⟨e.pre, fun b u hb n => by rw [upd_ne (ne_of_none hb hp)]; exact e.keep b u hb n, fun b hb => by
    by_cases c : b = p
    · subst c; rw [upd_same]; simp
    · rw [upd_ne c]; exact e.trk b hb⟩
theorem wipe_wipe (σ : L2.St) : ∀ vs : List Nat, wipe (wipe σ vs) vs = wipe σ vs := by
  have q : ∀ (ws vs : List Nat), (∀ w ∈ ws, w ∈ vs) → wipe (wipe σ ws) vs = wipe σ vs := by
    intro ws
    induction ws with
    | nil => intro vs _; rfl
    | cons w ws ih =>
      intro vs h
      show wipe ((wipe σ ws).set w none) vs = wipe σ vs
      rw [wipe_set (h w List.mem_cons_self), ih vs fun x hx => h x (List.mem_cons_of_mem _ hx)]
  exact fun vs => q vs vs fun _ h => h
end
section
variable {X : Cx} {ca : Nat → Addr} {W : WW}
/-- the tests of a comprehension -/
def STs (ca : Nat → Addr) (X : Cx) (ifs : List Expr) (t : MT) : Prop := PTs X ifs (Tm X.K ca (W0 none) REq t)
theorem pts_imp {e : List Expr} {t t' : TT} (h : PTs X e t) (i : ∀ σ H Q, t' σ H Q → t σ H Q) : PTs X e t' := ⟨fun pins s σ H Q I q => h.run pins s σ H Q I (i σ H Q q)⟩
theorem ts_nil : STs ca X [] tYes' := pts_imp pts_nil fun σ H Q ⟨ρ, φ, S, l, hS, hl, q⟩ => AtM.here (b := true) q hS rfl
theorem ts_one {c : Expr} {t : MT} (h : ST ca (W0 none) X c t) : STs ca X [c] t := pts_one h
/-- the block of a comprehension -/
abbrev blkX (X : Cx) (scope : Scope) (s : Shared) (H : Hp) (C : Addr) (cl : List (Str × Addr)) (fp : List Addr) : Cx := X.blk s H scope (compEnvC scope cl C X.env) fp
/-- what a comprehension's text must show -/
structure CompT (X : Cx) (tg iter : Expr) (ifs : List Expr) (elt : Expr) (scope : Scope) (own : List (Str × Nat)) (g : TG) (tgd : Tg) (ca : Nat → Addr) (t : MT) (me : ME) : Prop where
  calm : X.calm = true
  nd : X.N.Nodup
  ok : BlkOk X.N X.env.scope scope own
  tgs : TgOk X.K none g tgd
  ix : ∀ i ∈ tgIx tgd, i ∈ own.map (·.2)
  pg : ∀ (s : Shared) (H : Hp) (C : Addr) (cl : List (Str × Addr)) (fp : List Addr), PG (blkX X scope s H C cl fp) tg g
  ts : ∀ (s : Shared) (H : Hp) (C : Addr) (cl : List (Str × Addr)) (fp : List Addr), STs ca (blkX X scope s H C cl fp) ifs t
  el : ∀ (s : Shared) (H : Hp) (C : Addr) (cl : List (Str × Addr)) (fp : List Addr), SE ca (W0 none) (blkX X scope s H C cl fp) elt me
  fs : ∀ x, foldedSetIterable iter X.env x = pure x
theorem comp_run {mi : Sl → M Src} {g : TG} {tgd : Tg} {t : MT} {me : ME} {vs : List Nat} {σ : L2.St} {H : Hp} {Q : VK} (hg : TgOk X.K none g tgd) (hix : ∀ i ∈ tgIx tgd, i ∈ vs)
    (h : Tm X.K ca W (Rel X.K) (eComp vs mi tgd t me) σ H Q) : tLc (Tm X.K ca W (Feeds X.K ca) mi) g (Tm X.K ca (W0 none) REq t) (Tm X.K ca (W0 none) (Rel X.K) me) vs σ H Q := by
  obtain ⟨ρ, φ, S, l, hS, hl, q⟩ := h
  refine bindAt hS hl q fun src S1 ρ1 H1 J m1 hS1 e1 fd h1 => ?_
  have hl1 := hl.mono e1
  intro Dd hD
  split at h1
  · exact h1.elim
  rename_i ds0 hds0
  have hD1 : Dd ∉ ρ1 := (hS1.fresh hD).1
  have hD2 : Dd ∉ φ := (hS1.fresh hD).2
  refine ⟨fun i m H' => ∃ (ρ' : List Addr) (S' : Store) (xs : List V) (acc : List D), SR X.K ca ρ' (Dd :: φ) S' H' ∧ Ext ρ1 H1 ρ' H' ∧ H' Dd = some (.lst xs) ∧ Rels X.K ρ' (Dd :: φ) H' xs acc ∧ AtM X.K ca W (Rel X.K) ρ1 φ H1 σ (compG src tgd t me (wipeD l vs) m i acc S') Q,
    ⟨ds0.length + 1, ρ1, S1, [], [], hS1.hide hD, Ext.lay hD, upd_same, .nil, h1⟩, ?_⟩
  rintro i m H' ⟨ρ', S', xs, acc, hS', e', hx, hr, ha⟩
  have hDρ : Dd ∉ ρ' := hS'.dj Dd List.mem_cons_self
  cases m with
  | zero => exact ha.elim
  | succ m =>
    unfold compG at ha
    cases hs : src S' with
    | none => rw [hs] at ha; exact ha.elim
    | some ds =>
      rw [hs] at ha
      simp only at ha
      have hp : ∀ a ∈ Dd :: φ, a ∈ φ ∨ H1 a = none := fun a hm => by
        rcases List.mem_cons.mp hm with y | y
        · subst y; exact .inr hD
        · exact .inl y
      obtain ⟨f1, f2⟩ := fd ρ' (Dd :: φ) S' H' ds hS' e' hp hs i
      cases hi : ds[i]? with
      | none =>
        rw [hi] at ha
        refine .inl ⟨f2 hi, ?_⟩
        exact ha ρ' H' (V.ref Dd) (hS'.less fun a hm => List.mem_cons_of_mem _ hm) e' (.fl hx hDρ hD2 (hr.less fun a hm => List.mem_cons_of_mem _ hm))
      | some d =>
        rw [hi] at ha
        simp only at ha
        obtain ⟨g1, g2⟩ := f1 d hi
        refine .inr ⟨g1, fun H'' => ∃ (ρ' : List Addr) (S' : Store) (xs : List V) (acc : List D), SR X.K ca ρ' (Dd :: φ) S' H'' ∧ Ext ρ1 H1 ρ' H'' ∧ H'' Dd = some (.lst xs) ∧ Rels X.K ρ' (Dd :: φ) H'' xs acc ∧ AtM X.K ca W (Rel X.K) ρ1 φ H1 σ (compG src tgd t me (wipeD l vs) m (i + 1) acc S') Q,
          fun H'' z => ⟨m, Nat.lt_succ_self m, z⟩, fun x H2 hy => ?_⟩
        obtain ⟨hS2, e2, rx⟩ := g2 x H2 hy
        cases ht : tgSet tgd d (wipeD l vs) with
        | none => rw [ht] at ha; exact ha.elim
        | some l1 =>
          rw [ht] at ha
          simp only at ha
          have hlw : SlX none X.K ρ' (Dd :: φ) H2 (wipe σ vs) (wipeD l vs) := ⟨(hl1.sl.move (move_of (e'.trans e2) hp)).wipe vs, fun _ z => nomatch z⟩
          refine hg ρ' (Dd :: φ) H2 _ _ _ x d _ hlw rx ht fun σ2 hl2 hw => ⟨(hw vs hix).trans (wipe_wipe σ vs), ?_⟩
          refine bindN (ψ := φ) (R := REq) (ρ := ρ') (τ := σ) (W := W) (R' := Rel X.K) (Q' := Q) hS2 hl2 ha fun c S3 ρ3 H3 c' m3 hS3 e3 rc h3 => ?_
          have rc' : c' = c := rc
          subst rc'
          have eX := (e'.trans e2).trans e3
          have keepD : ∀ {ρa : List Addr} {Ha : Hp}, Ext ρ' H' ρa Ha → Ha Dd = some (.lst xs) := fun e => e.keep _ _ hx hDρ
          cases c' with
          | true =>
            rw [if_pos rfl]
            refine bindN (ψ := φ) (R := Rel X.K) (ρ := ρ3) (τ := σ) (W := W) (R' := Rel X.K) (Q' := Q) hS3 (hl2.mono e3) h3 fun d4 S4 ρ4 H4 y m4 hS4 e4 ry h4 => ?_
            split at h4
            · rename_i hz
              have e04 := (e2.trans e3).trans e4
              have hr4 := hr.mono e04
              refine ⟨xs, keepD e04, line_lt (by rw [hr.length]; exact hz), ρ4, S4, xs ++ [y], acc ++ [d4], hS4.priv List.mem_cons_self, ?_, upd_same, (hr4.append (.cons ry .nil)).move (priv_move List.mem_cons_self), ?_⟩
              · exact ext_new (eX.trans e4) hD
              · exact h4
            · exact h4.elim
          | false =>
            rw [if_neg Bool.false_ne_true]
            exact ⟨ρ3, S3, xs, acc, hS3, eX, keepD (e2.trans e3), hr.mono (e2.trans e3), h3⟩
theorem se_comp {tg iter : Expr} {ifs : List Expr} {elt : Expr} {scope : Scope} {own : List (Str × Nat)} {g : TG} {tgd : Tg} {t : MT} {me : ME} {mi : Sl → M Src} {pos : Pos} (T : CompT X tg iter ifs elt scope own g tgd ca t me) (hi : SI ca W X tg iter mi) :
    SE ca W X (.ListComp elt [⟨tg, iter, ifs, 0⟩] scope pos) (eComp (own.map (·.2)) mi tgd t me) :=
  pe_imp (pe_lc (tt := Tm X.K ca (W0 none) REq t) (te := Tm X.K ca (W0 none) (Rel X.K) me) T.calm T.nd hi T.ok T.pg T.ts T.el T.fs) fun σ H Q h => comp_run T.tgs T.ix h
end
end Sim

/-! Sim: statements. -/
namespace Sim
open PySem PySem.Spec L2 PyProof.Rows
section
variable {X : Cx} {ca : Nat → Addr} {W : WW} {e a b c o : Expr} {ma mb mc mo : ME} {pos p : Pos} {st : Stmt} {rest : List Stmt} {u v : MS}
theorem ss_nil : SSs ca W X [] sNext := pss_imp pss_nil fun D σ H ⟨ρ, φ, S, l, hS, hl, q⟩ => q ρ H σ hS (Ext.refl _ _) hl
theorem seq_run {D : Ends} {σ : L2.St} {H : Hp} (h : TmS X.K ca W (sSeq u v) D σ H) : TmS X.K ca W u { D with nx := TmS X.K ca W v D } σ H := by
  obtain ⟨ρ, φ, S, l, hS, hl, q⟩ := h
  refine ⟨ρ, φ, S, l, hS, hl, ?_⟩
  unfold sSeq at q
  cases hm : u l S with
  | none => rw [hm] at q; exact q
  | some p =>
    obtain ⟨f, S'⟩ := p
    rw [hm] at q
    cases f with
    | nx l' => exact fun ρ' H' σ' hS' e' hl' => ⟨ρ', φ, S', l', hS', hl', q.mono e'⟩
    | bk l' => exact q
    | ct l' => exact q
    | rt d => exact q
    | ex x l' => exact q
theorem ss_cons (h1 : SS ca W X st u) (h2 : SSs ca W X rest v) : SSs ca W X (st :: rest) (sSeq u v) := pss_imp (pss_cons h1 h2) fun D σ H h => seq_run h
theorem ss_one (h1 : SS ca W X st u) : SSs ca W X [st] u := pss_one h1
theorem ss_pass : SS ca W X (.Pass pos) sNext := ps_imp ps_pass fun D σ H ⟨ρ, φ, S, l, hS, hl, q⟩ => q ρ H σ hS (Ext.refl _ _) hl
theorem ss_break : SS ca W X (.Break pos) sBreak := ps_imp ps_break fun D σ H ⟨ρ, φ, S, l, hS, hl, q⟩ => q ρ H σ hS (Ext.refl _ _) hl
theorem ss_cont : SS ca W X (.Continue pos) sCont := ps_imp ps_continue fun D σ H ⟨ρ, φ, S, l, hS, hl, q⟩ => q ρ H σ hS (Ext.refl _ _) hl
theorem ss_retN : SS ca W X (.Return none pos) sRetN := ps_imp ps_retN fun D σ H ⟨ρ, φ, S, l, hS, hl, q⟩ => q ρ H .non hS (Ext.refl _ _) .non
theorem bindS {α β : Type} {R : List Addr → List Addr → Hp → β → α → Prop} {ρ φ : List Addr} {S : Store} {H : Hp} {σ : L2.St} {l : Sl} {Q : β → Hp → Prop} {m : Sl → M α} {k : α → Store → OutS} {D : Ends} (hS : SR X.K ca ρ φ S H) (hl : SlX W.x X.K ρ φ H σ l) (h : AtS X.K ca W ρ φ H (bndS l (m l S) k) D)
    (q : ∀ a S1 ρ1 H1 b, m l S = some (.ok a, S1) → SR X.K ca ρ1 φ S1 H1 → Ext ρ H ρ1 H1 → R ρ1 φ H1 b a → AtS X.K ca W ρ1 φ H1 (k a S1) D → Q b H1) : Tm X.K ca W R m σ H Q := bindAtS hS hl h (fun e h => h.mono e) q
theorem ss_drop (h : SE ca W X e ma) (hs : swapsWith e none pos.line X.env = pure false) : SS ca W X (.Expr e pos) (sDrop ma) :=
  ps_imp (ps_expr h hs) fun D σ H ⟨ρ, φ, S, l, hS, hl, q⟩ => bindS hS hl q fun d S1 ρ1 H1 x m1 hS1 e1 rx h1 => h1 ρ1 H1 σ hS1 (Ext.refl _ _) (hl.mono e1)
theorem ss_ret (h : SE ca W X e ma) : SS ca W X (.Return (some e) pos) (sRet ma) :=
  ps_imp (ps_ret h) fun D σ H ⟨ρ, φ, S, l, hS, hl, q⟩ => bindS hS hl q fun d S1 ρ1 H1 x m1 hS1 e1 rx h1 => h1 ρ1 H1 x hS1 (Ext.refl _ _) rx
theorem set_run {i : Nat} (hi : freeS W.x i) {D : Ends} {σ : L2.St} {H : Hp} (h : TmS X.K ca W (sSet i ma) D σ H) : tAsg (Tm X.K ca W (Rel X.K) ma) (gName i) D σ H := by
  obtain ⟨ρ, φ, S, l, hS, hl, q⟩ := h
  exact bindS hS hl q fun d S1 ρ1 H1 x m1 hS1 e1 rx h1 => h1 ρ1 H1 _ hS1 (Ext.refl _ _) ((hl.mono e1).set rx hi)
theorem ss_set {i : Nat} {x : Str} {pos' : Pos} (hN : X.N.Nodup) (hi : X.N[i]? = some x) (hx : Loc X.env.scope x) (hf : freeS W.x i) (h : SE ca W X e ma) (hs : swapsWith e (some (.Name x pos')) pos.line X.env = pure false) (hg : X.fn x = true ∨ X.env.scope.names.lookup x = some .local) :
    SS ca W X (.Assign [.Name x pos'] e pos) (sSet i ma) := ps_imp (ps_set hN hi hx h hs hg) fun D σ H h => set_run hf h
/-- y = [.. for ..] -/
theorem ss_setLc {i : Nat} {y : Str} {py : Pos} {elt tg iter : Expr} {ifs : List Expr} {scope : Scope} {own : List (Str × Nat)} {spos : Pos} {g : TG} {tgd : Tg} {t : MT} {me : ME} {mi : Sl → M Src} (T : CompT X tg iter ifs elt scope own g tgd ca t me) (hy : X.N[i]? = some y) (hyl : X.env.scope.names.lookup y = some .local) (hf : freeS W.x i)
    (hsw : swapsWith (.ListComp elt [⟨tg, iter, ifs, 0⟩] scope pos) (some (.Name y py)) spos.line X.env = pure true) (hi : SI ca W X tg iter mi) :
    SS ca W X (.Assign [.Name y py] (.ListComp elt [⟨tg, iter, ifs, 0⟩] scope pos) spos) (sSet i (eComp (own.map (·.2)) mi tgd t me)) :=
  ps_imp (ps_setLc (tt := Tm X.K ca (W0 none) REq t) (te := Tm X.K ca (W0 none) (Rel X.K) me) T.calm T.nd hy hyl hsw hi T.ok T.pg T.ts T.el T.fs) fun D σ H ⟨ρ, φ, S, l, hS, hl, q⟩ =>
    comp_run (W := W) T.tgs T.ix (bindS hS hl q fun d S1 ρ1 H1 x m1 hS1 e1 rx h1 => h1 ρ1 H1 _ hS1 (Ext.refl _ _) ((hl.mono e1).set rx hf))
/-- a, b, .. = e -/
theorem ss_setT {is : List Nat} {es : List Expr} {k : Nat} {pt : Pos} {g : TG} (hf : ∀ i ∈ is, freeS W.x i) (hg : PG X (.Tuple es k pt) g) (eg : g = gTup X.K is.length (is.foldr (fun i t => gCons (gName i) t) gNil)) (h : SE ca W X e ma)
    (hs : swapsWithSole [.Tuple es k pt] e pos.line X.env = pure false) (hw : swappedStores [.Tuple es k pt] e X.env = pure none) (h1 : (assignEach [.Tuple es k pt] X.env).map (·.2) = [assign (.Tuple es k pt) X.env]) : SS ca W X (.Assign [.Tuple es k pt] e pos) (sSetT is ma) := by
  subst eg
  exact ps_imp (ps_asg h hg hs hw h1) fun D σ H ⟨ρ, φ, S, l, hS, hl, q⟩ => bindS hS hl q fun d S1 ρ1 H1 x m1 hS1 e1 rx h1 => by
    split at h1
    · rename_i l' hl'
      exact tg_many hf ρ1 φ H1 σ l l' x d D.nx (hl.mono e1) rx hl' fun σ' hl2 _ => h1 ρ1 H1 σ' hS1 (Ext.refl _ _) hl2
    · exact h1.elim
theorem ss_if {t : MT} {xs ys : List Stmt} (h : ST ca W X c t) (h1 : SSs ca W X xs u) (h2 : SSs ca W X ys v) : SS ca W X (.If c xs ys pos) (sIf t u v) :=
  ps_imp (ps_if h h1 h2) fun D σ H ⟨ρ, φ, S, l, hS, hl, q⟩ => bindS hS hl q fun k S1 ρ1 H1 x m1 hS1 e1 rx h1 => by
    have rx' : x = k := rx
    subst rx'
    cases x with
    | true => exact (show TmS X.K ca W u D σ H1 from ⟨ρ1, φ, S1, l, hS1, hl.mono e1, h1⟩)
    | false => exact (show TmS X.K ca W v D σ H1 from ⟨ρ1, φ, S1, l, hS1, hl.mono e1, h1⟩)
/-! ### stores -/
theorem ss_fld {cc : Nat} {f : Str} {pos' : Pos} (T : FldF X.K ca cc f) (ho : SE ca W X o mo) (h : SE ca W X e ma) (hs : swapsWith e (some (.Attribute o f pos')) pos.line X.env = pure false) : SS ca W X (.Assign [.Attribute o f pos'] e pos) (sFld cc mo f ma) :=
  ps_imp (ps_fld ho h hs) fun D σ H ⟨ρ, φ, S, l, hS, hl, q⟩ => bindS hS hl q fun d S1 ρ1 H1 y m1 hS1 e1 ry h1 => bindS hS1 (hl.mono e1) h1 fun x S2 ρ2 H2 w m2 hS2 e2 rx h2 => by
    split at h2
    · rename_i S3 h3
      unfold putFldD at h3
      split at h3
      · split at h3
        · rename_i n c' fs hn
          split at h3
          · rename_i hc
            obtain ⟨hc1, hc2⟩ := hc
            subst hc1
            cases h3
            obtain ⟨n', p, dx, gs, en, rfl, hp, hs, hH, hr⟩ := ins_rel hS2 rx (c := c') (gs := fs) (by unfold insOf; simp only [hn])
            cases en
            have e3 : Ext ρ2 H2 ρ2 (upd H2 p (.ins (ca c') dx (putF f y gs))) := Ext.put (List.mem_of_getElem? hp) (hS2.trk (List.mem_of_getElem? hp))
            refine ⟨p, _, dx, gs, rfl, hH, T.cl, T.no, by rw [hr.length]; exact hc2, ?_⟩
            exact h2 ρ2 _ σ (hS2.put (c := ⟨.ins c' fs, false⟩) hp ⟨rfl, relK_putF ((ry.mono e2).mono e3) (hr.mono e3)⟩) e3 (((hl.mono e1).mono e2).mono e3)
          · cases h3
        · cases h3
      · cases h3
    · exact h2.elim
theorem ss_put {i : Expr} {mi : ME} {pos' : Pos} (hu : X.A.units + 1 < cLine) (ho : SE ca W X o mo) (hi : SE ca W X i mi) (h : SE ca W X e ma) (hs : swapsWith e (some (.Subscript o i pos')) pos.line X.env = pure false)
    (hs2 : swapsWithSole [.Subscript o i pos'] e pos.line X.env = pure false) (hw : swappedStores [.Subscript o i pos'] e X.env = pure none) (h1 : (assignEach [.Subscript o i pos'] X.env).map (·.2) = [assign (.Subscript o i pos') X.env])
    (hsub : ∀ v, assign (.Subscript o i pos') X.env v = (do
      let ov ← holding [v] (eval o X.env)
      let iv ← holding [v, ov] (eval i X.env)
      standAt pos'
      holding [v, ov, iv] (setItem ov iv v)
      release [v, ov, iv] [])) : SS ca W X (.Assign [.Subscript o i pos'] e pos) (sPut mo mi ma) :=
  ps_imp (ps_or2 (ps_asg h (pg_sub ho hi set_list hsub) hs2 hw h1) (ps_dput hu ho hi h hs)) fun D σ H ⟨ρ, φ, S, l, hS, hl, q⟩ => by
    by_cases c : ∀ d S1 x S2 k S3, ma l S = some (.ok d, S1) → mo l S1 = some (.ok x, S2) → mi l S2 = some (.ok k, S3) → dctOf x S3 = none
    · refine .inl (bindS hS hl q fun d S1 ρ1 H1 y m1 hS1 e1 ry h1 => bindS hS1 (hl.mono e1) h1 fun x S2 ρ2 H2 w m2 hS2 e2 rx h2 => bindS hS2 ((hl.mono e1).mono e2) h2 fun k S3 ρ3 H3 z m3 hS3 e3 rk h3 => ?_)
      have hd := c _ _ _ _ _ _ m1 m2 m3
      split at h3
      · rename_i S4 h4
        unfold putIxD at h4
        split at h4
        · rename_i n
          split at h4
          · rename_i ds hn
            split at h4
            · split at h4
              · rename_i j hj
                cases h4
                obtain ⟨p, xs, rfl, g1, g2, g3⟩ := lst_at hS3 (rx.mono e3) hn
                cases rk
                have e4 : Ext ρ3 H3 ρ3 (upd H3 p (.lst (xs.set j y))) := Ext.put (List.mem_of_getElem? g1) (hS3.trk (List.mem_of_getElem? g1))
                refine ⟨p, xs, _, j, rfl, rfl, g2, by rw [g3.length]; exact hj, ?_⟩
                exact h3 ρ3 _ σ (hS3.put (c := ⟨.lst ds, false⟩) g1 (Rels.set ((ry.mono (e2.trans e3)).mono e4) j (g3.mono e4))) e4 ((((hl.mono e1).mono e2).mono e3).mono e4)
              · cases h4
            · cases h4
          · rename_i kvs hn
            unfold dctOf at hd
            simp only [hn] at hd
            cases hd
          · cases h4
        · cases h4
      · exact h3.elim
    · refine .inr (bindS hS hl q fun d S1 ρ1 H1 y m1 hS1 e1 ry h1 => bindS hS1 (hl.mono e1) h1 fun x S2 ρ2 H2 w m2 hS2 e2 rx h2 => bindS hS2 ((hl.mono e1).mono e2) h2 fun k S3 ρ3 H3 z m3 hS3 e3 rk h3 => ?_)
      have hd : dctOf x S3 ≠ none := fun hd => c fun d' S1' x' S2' k' S3' n1 n2 n3 => by
        rw [m1] at n1; cases n1
        rw [m2] at n2; cases n2
        rw [m3] at n3; cases n3
        exact hd
      split at h3
      · rename_i S4 h4
        unfold putIxD at h4
        split at h4
        · rename_i n
          split at h4
          · rename_i ds hn
            unfold dctOf at hd
            simp only [hn] at hd
            exact absurd rfl hd
          · rename_i kvs hn
            split at h4
            · rename_i kk hk
              split at h4
              · rename_i hz
                cases h4
                obtain ⟨p, ks, ep, g1, g2⟩ := dctU_rel hS3 (rx.mono e3) (ks := kvs) (by unfold dctU; simp only [hn])
                subst ep
                cases rx with
                | ref hp =>
                  have hp3 := e3.at hp
                  have ez := key_rel rk hk
                  subst ez
                  have e4 : Ext ρ3 H3 ρ3 (upd H3 p (.dK (putK ks kk y))) := Ext.put (List.mem_of_getElem? hp3) (hS3.trk (List.mem_of_getElem? hp3))
                  refine ⟨p, _, rfl, DPut.k g1 (line_lt (by rw [g2.length]; exact hz)), ?_⟩
                  exact h3 ρ3 _ σ (hS3.put (c := ⟨.dct kvs, false⟩) hp3 (relK_put ((ry.mono (e2.trans e3)).mono e4) (g2.mono e4))) e4 ((((hl.mono e1).mono e2).mono e3).mono e4)
              · cases h4
            · cases h4
          · cases h4
        · cases h4
      · exact h3.elim
/-! ### loops -/
theorem for_run {mi : Sl → M Src} {g : TG} {tgd : Tg} {D : Ends} {σ : L2.St} {H : Hp} (hg : TgOk X.K W.x g tgd) (h : TmS X.K ca W (sFor mi tgd u) D σ H) : tFor (Tm X.K ca W (Feeds X.K ca) mi) g (TmS X.K ca W u) D σ H := by
  obtain ⟨ρ, φ, S, l, hS, hl, q⟩ := h
  refine bindS hS hl q fun src S1 ρ1 H1 J m1 hS1 e1 fd h1 => ?_
  have hl1 := hl.mono e1
  split at h1
  · exact h1.elim
  rename_i ds0 hds0
  refine ⟨fun i m σ' H' => ∃ (ρ' : List Addr) (S' : Store) (l' : Sl), SR X.K ca ρ' φ S' H' ∧ Ext ρ1 H1 ρ' H' ∧ SlX W.x X.K ρ' φ H' σ' l' ∧ AtS X.K ca W ρ' φ H' (forG src tgd u m i l' S') D,
    ⟨ds0.length + 1, ρ1, S1, l, hS1, Ext.refl _ _, hl1, h1⟩, ?_⟩
  rintro i m σ' H' ⟨ρ', S', l', hS', e', hl', ha⟩
  cases m with
  | zero => exact ha.elim
  | succ m =>
    unfold forG at ha
    cases hs : src S' with
    | none => rw [hs] at ha; exact ha.elim
    | some ds =>
      rw [hs] at ha
      simp only at ha
      obtain ⟨f1, f2⟩ := fd ρ' φ S' H' ds hS' e' (fun a h => .inl h) hs i
      cases hi : ds[i]? with
      | none =>
        rw [hi] at ha
        exact .inl ⟨f2 hi, ha ρ' H' σ' hS' (Ext.refl _ _) hl'⟩
      | some d =>
        rw [hi] at ha
        simp only at ha
        obtain ⟨g1, g2⟩ := f1 d hi
        refine .inr ⟨g1, fun σ'' H'' => ∃ (ρ' : List Addr) (S' : Store) (l' : Sl), SR X.K ca ρ' φ S' H'' ∧ Ext ρ1 H1 ρ' H'' ∧ SlX W.x X.K ρ' φ H'' σ'' l' ∧ AtS X.K ca W ρ' φ H'' (forG src tgd u m (i + 1) l' S') D,
          fun σ'' H'' z => ⟨m, Nat.lt_succ_self m, z⟩, fun x H2 hy => ?_⟩
        obtain ⟨hS2, e2, rx⟩ := g2 x H2 hy
        cases ht : tgSet tgd d l' with
        | none => rw [ht] at ha; exact ha.elim
        | some l1 =>
          rw [ht] at ha
          simp only at ha
          refine hg ρ' φ H2 σ' l' l1 x d _ (hl'.mono e2) rx ht fun σ2 hl2 _ => ?_
          refine ⟨ρ', φ, S', l1, hS2, hl2, ?_⟩
          have ha := ha.mono e2
          cases hb : u l1 S' with
          | none => rw [hb] at ha; exact ha.elim
          | some pr =>
            obtain ⟨f, S3⟩ := pr
            rw [hb] at ha
            cases f with
            | nx l3 => exact fun ρ3 H3 σ3 hS3 e3 hl3 => ⟨ρ3, S3, l3, hS3, (e'.trans e2).trans e3, hl3, ha.mono e3⟩
            | ct l3 => exact fun ρ3 H3 σ3 hS3 e3 hl3 => ⟨ρ3, S3, l3, hS3, (e'.trans e2).trans e3, hl3, ha.mono e3⟩
            | bk l3 => exact ha
            | rt d3 => exact ha
            | ex x3 l3 => exact ha
theorem ss_for {tg iter : Expr} {body : List Stmt} {mi : Sl → M Src} {g : TG} {tgd : Tg} (hp : PassesOwn (model X.prog X.w) X.A X.env X.xe) (hc : X.calm = true) (hg : TgOk X.K W.x g tgd) (hpg : PG X tg g) (hi : SI ca W X tg iter mi) (hb : SSs ca W X body u) (hs : ∀ x, foldedSetIterable iter X.env x = pure x) :
    SS ca W X (.For tg iter body [] pos) (sFor mi tgd u) := ps_imp (ps_for hp hc hi hpg hb hs) fun D σ H h => for_run hg h
theorem while_run {t : MT} {D : Ends} {σ : L2.St} {H : Hp} (h : TmS X.K ca W (sWhile t u) D σ H) : tWhile (Tm X.K ca W REq t) (TmS X.K ca W u) D σ H := by
  obtain ⟨ρ0, φ, S0, l0, hS0, hl0, q0⟩ := h
  refine ⟨fun m σ H => ∃ (ρ : List Addr) (S : Store) (l : Sl), SR X.K ca ρ φ S H ∧ SlX W.x X.K ρ φ H σ l ∧ AtS X.K ca W ρ φ H (whileF t u m l S) D, ⟨fuelN, ρ0, S0, l0, hS0, hl0, q0⟩, ?_⟩
  rintro m σ H ⟨ρ, S, l, hS, hl, q⟩
  cases m with
  | zero => exact ⟨ρ, φ, S, l, hS, hl, q.elim⟩
  | succ m =>
    refine bindS hS hl q fun k S1 ρ1 H1 x m1 hS1 e1 rx h1 => ?_
    have rx' : x = k := rx
    subst rx'
    have hl1 := hl.mono e1
    cases x with
    | false =>
      rw [if_neg Bool.false_ne_true]
      exact h1 ρ1 H1 σ hS1 (Ext.refl _ _) hl1
    | true =>
      rw [if_pos rfl]
      refine ⟨fun σ H => ∃ (ρ : List Addr) (S : Store) (l : Sl), SR X.K ca ρ φ S H ∧ SlX W.x X.K ρ φ H σ l ∧ AtS X.K ca W ρ φ H (whileF t u m l S) D, fun σ' H' z => ⟨m, Nat.lt_succ_self m, z⟩, ?_⟩
      refine ⟨ρ1, φ, S1, l, hS1, hl1, ?_⟩
      simp only [if_true] at h1
      cases hb : u l S1 with
      | none => rw [hb] at h1; exact h1.elim
      | some pr =>
        obtain ⟨f, S3⟩ := pr
        rw [hb] at h1
        cases f with
        | nx l3 => exact fun ρ3 H3 σ3 hS3 e3 hl3 => ⟨ρ3, S3, l3, hS3, hl3, h1.mono e3⟩
        | ct l3 => exact fun ρ3 H3 σ3 hS3 e3 hl3 => ⟨ρ3, S3, l3, hS3, hl3, h1.mono e3⟩
        | bk l3 => exact h1
        | rt d3 => exact h1
        | ex x3 l3 => exact h1
theorem ss_while {body : List Stmt} {t : MT} (hp : PassesOwn (model X.prog X.w) X.A X.env X.xe) (h : ST ca W X c t) (hb : SSs ca W X body u) : SS ca W X (.While c body [] pos) (sWhile t u) := ps_imp (ps_while hp h hb) fun D σ H h => while_run h
end
end Sim

/-! Sim: errors, defs. -/
namespace Sim
open PySem PySem.Spec L2 PyProof.Rows
/-- an own error class without an __init__ of its own -/
structure ExB (K : PySem.W.Frag) (mg : Str → Option Value) (ca : Nat → Addr) (c : Nat) (x : Str) : Prop where
  q : PySem.W.excIn K (ca c) [.type "ValueError", .type "Exception", .type "BaseException", .type "object"] "ValueError.__new__" = true
  g : mg x = some (.ref (ca c))
  k : PySem.W.keepIn K (.ref (ca c)) = true
  b : PySem.W.subIn K (.ref (ca c)) (.type "BaseException") = some true
  t : PySem.W.typeIn K (.ref (ca c)) = some (.type "type")
section
variable {X : Cx} {ca : Nat → Addr} {W : WW} {e a b c o : Expr} {ma mb mc mo : ME} {pos p : Pos}
theorem ss_raiseB {cc : Nat} {x m : Str} {j : Nat} {p2 pos' : Pos} (T : ExB X.K X.mg ca cc x) (hc : X.calm = true) (tk : Takes X W.f) (hg : Gl X x) (hdb : (x == ("__debug__" : Str)) = false) : SS ca W X (.Raise (some (.Call (.Name x p) [.Constant (.str m) j p2] [] pos)) none pos') (sRaiseB cc) :=
  ps_imp (ps_raise hc tk (pmk_own PySem.F.excBase_ValueError T.q T.g T.k (raises_own T.b T.t) hg hdb)) fun D σ H ⟨ρ, φ, S, l, hS, hl, q⟩ => q ρ H σ (.ref (ca cc)) none hS (Ext.refl _ _) hl ⟨rfl, rfl⟩
/-! ### an error class whose __init__ keeps its argument -/
/-- what that __init__ does -/
def spInitE (K : PySem.W.Frag) (C : Addr) (f : Str) : Sp := fun vs H Q _ => ∃ (a : Addr) (v : V), vs = [.ref a, v] ∧ H a = some (exo a C none) ∧ ∀ dx, H dx = none → dx ≠ a → Q .non (upd (upd H dx (exd dx [(f, v)])) a (exo a C (some dx)))
/-- such a class, its __init__ at most k calls deep -/
structure ExN (P : Program) (w : World) (K : PySem.W.Frag) (mg : Str → Option Value) (base : Heap) (ca : Nat → Addr) (k : Nat) (c : Nat) (x f : Str) : Prop where
  T : OexC K (ca c)
  g : mg x = some (.ref (ca c))
  ex : ∃ (fI : Addr) (fd : FuncData) (ps : List Str), PySem.W.findIn K (.ref (ca c)) "__init__" = some (some (.ref fI)) ∧ PySem.W.typeIn K (.ref fI) = some (.type "function") ∧ FnOk P w K mg base (L2.CX P w) k fI fd ps (spInitE K (ca c) f) ∧ Binds K fd ps []
theorem ss_raiseN {cc : Nat} {x f : Str} {k : Nat} {m : MA} {pos' : Pos} (T : ExN X.prog X.w X.K X.mg X.base ca k cc x f) (hr : Room (k + 1) X.A) (hc : X.calm = true) (tk : Takes X W.f) (hg : Gl X x) (hdb : (x == ("__debug__" : Str)) = false) (ha : SA ca W X [e] m) (Tc : CallT X e [] pos) :
    SS ca W X (.Raise (some (.Call (.Name x p) [e] [] pos)) none pos') (sRaiseN cc f m) := by
  obtain ⟨fI, fd, ps, h1, h2, F, hb⟩ := T.ex
  refine ps_imp (ps_raise hc tk (pmk_oex T.T h1 h2 F hr hb .nil passL hg T.g ha hdb Tc.he Tc.hpl)) fun D σ H ⟨ρ, φ, S, l, hS, hl, q⟩ => bindS hS hl q fun ds S1 ρ1 H1 vs m1 hS1 e1 rs h1 => ?_
  split at h1
  · rename_i d
    cases rs with
    | cons rv rn =>
      cases rn
      rename_i v
      refine ⟨(show 1 ≤ 1000 by decide), fun a' hna => ?_⟩
      refine ⟨a', v, rfl, upd_same, fun dx hdx hne => ⟨rfl, dx, [(f, v)], upd_same, ?_, ?_, ?_⟩⟩
      · rw [upd_ne hne, upd_same]
      · rw [upd_ne hne] at hdx; exact hdx
      · have hd1 : H1 dx = none := by rw [upd_ne hne] at hdx; exact hdx
        have eH : upd (del (upd (upd (upd H1 a' (exo a' (ca cc) none)) dx (exd dx [(f, v)])) a' (exo a' (ca cc) (some dx))) a') dx (.xd [(f, v)]) = upd H1 dx (.xd [(f, v)]) := by
          funext z
          by_cases z1 : z = dx
          · subst z1; rw [upd_same, upd_same]
          · rw [upd_ne z1, upd_ne z1]
            by_cases z2 : z = a'
            · subst z2; rw [del_same]; exact hna.symm
            · rw [del_ne z2, upd_ne z2, upd_ne z1, upd_ne z2]
        rw [eH]
        have e2 : Ext ρ1 H1 ρ1 (upd H1 dx (.xd [(f, v)])) := Ext.lay hd1
        exact h1 ρ1 _ σ (.ref (ca cc)) (some dx) (hS1.lay hd1) e2 ((hl.mono e1).mono e2) ⟨rfl, dx, [(f, v)], rfl, upd_same, (hS1.fresh hd1).1, (hS1.fresh hd1).2, .cons (rv.mono e2) .nil⟩
  · exact h1.elim
/-! ### try -/
theorem suite_no {D : Ends} {ρ φ : List Addr} {H : Hp} {r : OutS} {ξ : Option XI} (hW : W.x = none) (h : AtS X.K ca W ρ φ H (noEx r) D) : AtS X.K ca (W0 none) ρ φ H r D := by
  unfold noEx at h
  cases r with
  | none => exact h
  | some p =>
    obtain ⟨f, S⟩ := p
    cases f with
    | nx l => exact fun ρ' H' σ' h1 h2 h3 => h ρ' H' σ' h1 h2 (by rw [hW]; exact h3)
    | bk l => exact fun ρ' H' σ' h1 h2 h3 => h ρ' H' σ' h1 h2 (by rw [hW]; exact h3)
    | ct l => exact fun ρ' H' σ' h1 h2 h3 => h ρ' H' σ' h1 h2 (by rw [hW]; exact h3)
    | rt d => exact h
    | ex x l => exact h.elim
theorem pss_ex {α : Type} {p : α → Prop} {sts : List Stmt} {t : α → TS} (h : ∀ x, p x → PSs X sts (t x)) : PSs X sts (fun D σ H => ∃ x, p x ∧ t x D σ H) := ⟨fun pins s σ H D I ⟨x, hx, q⟩ => (h x hx).run pins s σ H D I q⟩
/-- except X: .., without a name -/
theorem ss_try0 {x : Str} {cv : Value} {body suite : List Stmt} {b0 : Stmt} {np pos' : Pos} {u : MS} {v : Exn → MS} {catch_ : Nat → Option Bool} (hW : W.x = none) (hs : X.stack = X.env :: X.outer) (hf : X.env.frame = some X.env.locals) (hc : Names X x cv) (tk : Takes X W.f)
    (hk : ∀ c b, catch_ c = some b → PySem.W.exmOne X.K (.ref (ca c)) cv = some b)
    (hb : ∀ (Wf : WX) (pn : List (Addr × Obj)) (xe : Value → Shared → Prop), Takes (X.tr pn xe) Wf → PassesOwn (model X.prog X.w) X.A X.env xe → SSs ca ⟨Wf, none⟩ (X.tr pn xe) body u)
    (hsu : ∀ (a : Addr) (oe : Obj) (cls : Value) (d : Option Addr) (pn : List (Addr × Obj)), Zc cls d oe → (∃ vs, oe.data = .fields vs) → ∀ xn : Exn, SSs ca (W0 none) (X.suite a ((a, oe) :: pn)) (b0 :: suite) (v xn)) :
    SS ca W X (.Try body [.ExceptHandler (some (.Name x np)) none (b0 :: suite) pos'] [] [] pos) (sTry u catch_ none v) := by
  refine ps_imp (ps_try_only (tb := fun Wf => TmS X.K ca ⟨Wf, none⟩ u) (ts := fun a cls d D σ H => ∃ xn : Exn, True ∧ TmS X.K ca (W0 none) (v xn) D σ H) hs hf hc tk (fun Wf pn xe t1 t2 => hb Wf pn xe t1 t2)
    (fun a oe cls d pn z1 z2 => pss_ex fun xn _ => hsu a oe cls d pn z1 z2 xn)) fun D σ H ⟨ρ, φ, S, l, hS, hl, q⟩ => ?_
  refine ⟨ρ, φ, S, l, hS, by rw [hW] at hl; exact hl, ?_⟩
  unfold sTry at q
  cases hm : u l S with
  | none => rw [hm] at q; exact q
  | some pr =>
    obtain ⟨f, S1⟩ := pr
    rw [hm] at q
    cases f with
    | nx l1 => exact fun ρ' H' σ' h1 h2 h3 => q ρ' H' σ' h1 h2 (by rw [hW]; exact h3)
    | bk l1 => exact fun ρ' H' σ' h1 h2 h3 => q ρ' H' σ' h1 h2 (by rw [hW]; exact h3)
    | ct l1 => exact fun ρ' H' σ' h1 h2 h3 => q ρ' H' σ' h1 h2 (by rw [hW]; exact h3)
    | rt d1 => exact q
    | ex xn l1 =>
      intro ρ1 H1 σ1 C d hS1 e1 hl1 hx
      simp only at q
      cases hk1 : catch_ xn.c with
      | none => rw [hk1] at q; exact q.elim
      | some b =>
        rw [hk1] at q
        have hx1 : C = .ref (ca xn.c) := hx.1
        subst hx1
        refine ⟨b, hk xn.c b hk1, fun hb1 a' ha' => ?_, fun hb1 => ?_⟩
        · subst hb1
          refine ⟨xn, trivial, ρ1, φ, S1, l1, hS1, hl1, suite_no (ξ := none) hW (q.mono e1)⟩
        · subst hb1
          exact q ρ1 H1 σ1 _ d hS1 e1 (by rw [hW]; exact hl1) hx
theorem slx_unset {K : PySem.W.Frag} {ξ : Option XI} {ρ φ : List Addr} {H : Hp} {σ : L2.St} {l : Sl} {i : Nat} (h : SlX ξ K ρ φ H σ l) : SlX Option.none K ρ φ H (σ.set i Option.none) (l.set i Option.none) := SlX.of (h.sl.unset i)
/-- except X as n: .. -/
theorem ss_tryN {x n : Str} {cv : Value} {i : Nat} {body suite : List Stmt} {b0 : Stmt} {np pos' : Pos} {u : MS} {v : Exn → MS} {catch_ : Nat → Option Bool} (hW : W.x = none) (hs : X.stack = X.env :: X.outer) (hf : X.env.frame = some X.env.locals) (hN : X.N.Nodup) (hi : X.N[i]? = some n) (hln : X.env.kindOf n = some .local) (hc : Names X x cv) (tk : Takes X W.f)
    (hk : ∀ c b, catch_ c = some b → PySem.W.exmOne X.K (.ref (ca c)) cv = some b)
    (hb : ∀ (Wf : WX) (pn : List (Addr × Obj)) (xe : Value → Shared → Prop), Takes (X.tr pn xe) Wf → PassesOwn (model X.prog X.w) X.A X.env xe → SSs ca ⟨Wf, none⟩ (X.tr pn xe) body u)
    (hsu : ∀ (a : Addr) (oe : Obj) (cls : Value) (d : Option Addr) (pn : List (Addr × Obj)), Zc cls d oe → (∃ vs, oe.data = .fields vs) → ∀ xn : Exn, cls = .ref (ca xn.c) → SSs ca (W0 (some ⟨i, a, d, xn.fs⟩)) (X.suite a ((a, oe) :: pn)) (b0 :: suite) (v xn)) :
    SS ca W X (.Try body [.ExceptHandler (some (.Name x np)) (some n) (b0 :: suite) pos'] [] [] pos) (sTry u catch_ (some i) v) := by
  refine ps_imp (ps_try_as (tb := fun Wf => TmS X.K ca ⟨Wf, none⟩ u) (ts := fun a cls d D σ H => ∃ xn : Exn, cls = .ref (ca xn.c) ∧ TmS X.K ca (W0 (some ⟨i, a, d, xn.fs⟩)) (v xn) D σ H) hs hf hN hi hln hc tk (fun Wf pn xe t1 t2 => hb Wf pn xe t1 t2)
    (fun a oe cls d pn z1 z2 => pss_ex fun xn z => hsu a oe cls d pn z1 z2 xn z)) fun D σ H ⟨ρ, φ, S, l, hS, hl, q⟩ => ?_
  refine ⟨ρ, φ, S, l, hS, by rw [hW] at hl; exact hl, ?_⟩
  unfold sTry at q
  cases hm : u l S with
  | none => rw [hm] at q; exact q
  | some pr =>
    obtain ⟨f, S1⟩ := pr
    rw [hm] at q
    cases f with
    | nx l1 => exact fun ρ' H' σ' h1 h2 h3 => q ρ' H' σ' h1 h2 (by rw [hW]; exact h3)
    | bk l1 => exact fun ρ' H' σ' h1 h2 h3 => q ρ' H' σ' h1 h2 (by rw [hW]; exact h3)
    | ct l1 => exact fun ρ' H' σ' h1 h2 h3 => q ρ' H' σ' h1 h2 (by rw [hW]; exact h3)
    | rt d1 => exact q
    | ex xn l1 =>
      intro ρ1 H1 σ1 C d hS1 e1 hl1 hx
      simp only at q
      cases hk1 : catch_ xn.c with
      | none => rw [hk1] at q; exact q.elim
      | some b =>
        rw [hk1] at q
        have hx1 : C = .ref (ca xn.c) := hx.1
        subst hx1
        refine ⟨b, hk xn.c b hk1, fun hb1 a' ha' => ?_, fun hb1 => ?_⟩
        · subst hb1
          simp only at q
          split at q
          · rename_i hlen
            refine ⟨xn, rfl, ρ1, φ, S1, l1.set i none, hS1, ⟨hl1.sl.unset i, fun z hz => ?_⟩, ?_⟩
            · cases hz
              exact ⟨List.getElem?_set_self (by rw [hl1.sl.len]; exact hlen), hx.2⟩
            · have q1 := q.mono e1
              unfold unsetS at q1
              cases hv : v xn (l1.set i none) S1 with
              | none => rw [hv] at q1; exact q1
              | some pr2 =>
                obtain ⟨f2, S2⟩ := pr2
                rw [hv] at q1
                cases f2 with
                | nx l2 => exact fun ρ' H' σ' h1 h2 h3 => q1 ρ' H' _ h1 h2 (by rw [hW]; exact slx_unset h3)
                | bk l2 => exact fun ρ' H' σ' h1 h2 h3 => q1 ρ' H' _ h1 h2 (by rw [hW]; exact slx_unset h3)
                | ct l2 => exact fun ρ' H' σ' h1 h2 h3 => q1 ρ' H' _ h1 h2 (by rw [hW]; exact slx_unset h3)
                | rt d2 => exact q1
                | ex x2 l2 => exact q1.elim
          · exact q.elim
        · subst hb1
          exact q ρ1 H1 σ1 _ d hS1 e1 (by rw [hW]; exact hl1) hx
/-- e.f of the error that the suite holds -/
theorem se_xf {aa : Addr} {oe : Obj} {cls : Value} {d : Option Addr} {pn : List (Addr × Obj)} {x f : Str} {i cc : Nat} {xn : Exn} {px : Pos} (T : XfC X.K (ca cc)) (hno : PySem.W.findIn X.K (.ref (ca cc)) f = some none) (hz : Zc cls d oe) (hf : ∃ vs, oe.data = .fields vs) (hcls : cls = .ref (ca xn.c))
    (hN : X.N[i]? = some x) (hv : Vis X.env.scope x) (hd : (x == ("__debug__" : Str)) = false) (hcd : (x == ("__classdict__" : Str)) = false) (hb : attributeBase (.Name x px) f X.env (eval (.Name x px) X.env) = eval (.Name x px) X.env) :
    SE ca (W0 (some ⟨i, aa, d, xn.fs⟩)) (X.suite aa ((aa, oe) :: pn)) (.Attribute (.Name x px) f pos) (eXF cc f xn) := by
  refine pe_imp (pe_xf (C := ca cc) (te := tVar i) T hno hz hf (pe_var (X := X.suite aa ((aa, oe) :: pn)) hN hv hd hcd) hb) fun σ H Q ⟨ρ, φ, S, l, hS, hl, q⟩ => ?_
  unfold eXF at q
  split at q
  · rename_i hc
    obtain ⟨g1, g2⟩ := hl.er _ rfl
    refine ⟨.ref aa, g1, rfl, by rw [hcls, hc], ?_⟩
    cases hfs : xn.fs with
    | none => rw [hfs] at q; exact q.elim
    | some gs =>
      rw [hfs] at q
      simp only [hfs] at g2
      obtain ⟨dd, hs, k1, k2, k3, k4, k5⟩ := g2
      simp only at q
      split at q
      · rename_i dv hdv
        obtain ⟨v, hv1, rv⟩ := k5.lookup hdv
        exact ⟨dd, hs, v, k1, k2, hv1, AtM.here q hS rv⟩
      · exact q.elim
  · exact q.elim
end
/-! ### a def -/
section
variable {P : Program} {w : World} {K : PySem.W.Frag} {mg : Str → Option Value} {base : Heap} {ca : Nat → Addr}
theorem fn_sound {x qual : Str} {st : Stmt} {f : Addr} {fd : FuncData} {N ps : List Str} {k : Nat} {body : MS} {np : Nat} (F : Fun K x qual st f fd) (S : FnScope N ps (defScope st)) (hnp : ps.length = np) (hnn : np ≤ N.length)
    (hb : ∀ (cdv : Value) (A : Around) (outer : List Env) (s : Shared) (H : Hp) (E : XK), Room k (A.deeper (envOfC qual (defScope st) s.heap.objs.size f cdv)) →
      Takes (cxOf (L2.CX P w) P w K mg base N qual (defScope st) f cdv A outer s H E) (fun C d _ H => E C d H) →
      SSs ca ⟨fun C d _ H => E C d H, none⟩ (cxOf (L2.CX P w) P w K mg base N qual (defScope st) f cdv A outer s H E) (defBody st) body) :
    FnOk P w K mg base (L2.CX P w) (k + 1) f fd ps (spM K ca (fnM N.length np body)) := by
  refine F.okX S (fun vs H Q E h => ?_) (fun cdv A outer s H vs Q E hr h => ⟨_, hb cdv A outer s H E hr (takes_of rfl rfl rfl rfl), ?_⟩)
  · obtain ⟨ρ, φ, S, ds, hS, rs, h⟩ := h
    unfold fnM at h
    split at h
    · rename_i hl; rw [rs.length, hl, hnp]
    · exact h.elim
  · obtain ⟨ρ, φ, S, ds, hS, rs, h⟩ := h
    unfold fnM at h
    split at h
    · rename_i hl
      refine ⟨ρ, φ, S, ds.map some ++ List.replicate (N.length - np) none, hS, SlX.of ?_, ?_⟩
      · have e : start N vs = vs.map some ++ List.replicate (N.length - np) none := by
          show vs.map some ++ List.replicate (N.length - vs.length) none = _
          rw [rs.length, hl]
        rw [e]
        exact SlR.start _ rs
      · cases hm : body (ds.map some ++ List.replicate (N.length - np) none) S with
        | none => rw [hm] at h; exact h.elim
        | some pr =>
          obtain ⟨fl, S1⟩ := pr
          rw [hm] at h
          cases fl with
          | nx l1 => exact fun ρ1 H1 σ1 h1 h2 h3 => h ρ1 H1 .non h1 h2 .non
          | rt d => exact h
          | ex xn l1 => exact fun ρ1 H1 σ1 C d h1 h2 h3 h4 => h ρ1 H1 C d h1 h2 h4
          | bk l1 => exact h.elim
          | ct l1 => exact h.elim
    · exact h.elim
end
end Sim

/-! Sim: short forms. -/
namespace Sim
open PySem PySem.Spec L2 PyProof.Rows
theorem bt_len : bootBuiltins "len" = some (.builtin "len") := by decide +kernel
theorem bt_list : bootBuiltins "list" = some (.type "list") := by decide +kernel
theorem bt_int : bootBuiltins "int" = some (.type "int") := by decide +kernel
theorem bt_bool : bootBuiltins "bool" = some (.type "bool") := by decide +kernel
theorem bt_str : bootBuiltins "str" = some (.type "str") := by decide +kernel
theorem bt_tuple : bootBuiltins "tuple" = some (.type "tuple") := by decide +kernel
theorem bt_sum : bootBuiltins "sum" = some (.builtin "sum") := by decide +kernel
theorem bt_max : bootBuiltins "max" = some (.builtin "max") := by decide +kernel
theorem bt_min : bootBuiltins "min" = some (.builtin "min") := by decide +kernel
/-- the built-in names that the text does not bind -/
structure Std (mg : Str → Option Value) : Prop where
  len : mg "len" = none
  list : mg "list" = none
  int : mg "int" = none
  bool : mg "bool" = none
  str : mg "str" = none
  tuple : mg "tuple" = none
  sum : mg "sum" = none
  max : mg "max" = none
  min : mg "min" = none
  isinstance : mg "isinstance" = none
  range : mg "range" = none
  enumerate : mg "enumerate" = none
  zip : mg "zip" = none
  sorted : mg "sorted" = none
  ValueError : mg "ValueError" = none
theorem hu65 {k : Nat} {A : Around} (r : Room k A) : A.units + 65 < cLine := by have := r.un; omega
theorem hu64 {k : Nat} {A : Around} (r : Room k A) : A.units + 64 < cLine := by have := r.un; omega
theorem hu1 {k : Nat} {A : Around} (r : Room k A) : A.units + 1 < cLine := by have := r.un; omega
theorem hu0 {k : Nat} {A : Around} (r : Room k A) : A.units < cLine := by have := r.un; omega
section
variable {X : Cx} {ca : Nat → Addr} {W : WW} {e a b c o : Expr} {es : List Expr} {ma mb mc mo : ME} {m : MA} {pos p apos : Pos}
theorem sv (i : Nat) {x : Str} (hN : X.N[i]? = some x := by rfl) (hv : Vis X.env.scope x := by first | exact Or.inl rfl | exact Or.inr (Or.inl rfl) | exact Or.inr (Or.inr rfl)) (hd : (x == ("__debug__" : Str)) = false := by decide)
    (hcd : (x == ("__classdict__" : Str)) = false := by decide) : SE ca W X (.Name x pos) (eVar i) := se_var hN hv hd hcd
theorem se_len (T : Std X.mg) (hg : Gl X "len") (ha : SA ca W X (e :: es) m) (Tc : CallT X e es pos) : SE ca W X (.Call (.Name "len" p) (e :: es) [] pos) (eA (a1 fLen) m) := se_cb call_lenA len_S T.len bt_len (by decide) (by decide) hg ha Tc
theorem se_list (T : Std X.mg) (hg : Gl X "list") (ha : SA ca W X (e :: es) m) (Tc : CallT X e es pos) : SE ca W X (.Call (.Name "list" p) (e :: es) [] pos) (eA (a1 fList) m) := se_ct call_listA list_S T.list bt_list (by decide) (by decide) hg ha Tc
theorem se_listR (T : Std X.mg) (hg : Gl X "list") (ha : SA ca W X (e :: es) m) (Tc : CallT X e es pos) : SE ca W X (.Call (.Name "list" p) (e :: es) [] pos) (eA (a1 fListR) m) := se_ct call_listA listR_S T.list bt_list (by decide) (by decide) hg ha Tc
theorem se_intC (T : Std X.mg) (hg : Gl X "int") (ha : SA ca W X (e :: es) m) (Tc : CallT X e es pos) : SE ca W X (.Call (.Name "int" p) (e :: es) [] pos) (eA (a1 fInt) m) := se_ct call_intA int_S T.int bt_int (by decide) (by decide) hg ha Tc
theorem se_sum (hc : X.calm = true) (T : Std X.mg) (hg : Gl X "sum") (ha : SA ca W X (e :: es) m) (Tc : CallT X e es pos) : SE ca W X (.Call (.Name "sum" p) (e :: es) [] pos) (eA (a1 fSum) m) := se_cb (cr_sum hc) sum_S T.sum bt_sum (by decide) (by decide) hg ha Tc
theorem se_max2 (hc : X.calm = true) (T : Std X.mg) (hg : Gl X "max") (ha : SA ca W X (e :: es) m) (Tc : CallT X e es pos) : SE ca W X (.Call (.Name "max" p) (e :: es) [] pos) (eA (a2 fMax2) m) := se_cb (call_max2A hc) max2_S T.max bt_max (by decide) (by decide) hg ha Tc
theorem se_min2 (hc : X.calm = true) (T : Std X.mg) (hg : Gl X "min") (ha : SA ca W X (e :: es) m) (Tc : CallT X e es pos) : SE ca W X (.Call (.Name "min" p) (e :: es) [] pos) (eA (a2 fMin2) m) := se_cb (call_min2A hc) min2_S T.min bt_min (by decide) (by decide) hg ha Tc
theorem se_isI {px p1 : Pos} (T : Std X.mg) (hg : Gl X "isinstance") (hgT : Gl X "int") (ha : SE ca W X a ma) (T1 : CallT X a [.Name "int" px] pos) (T2 : CallT X (.Name "int" px) [] pos) : SE ca W X (.Call (.Name "isinstance" p1) [a, .Name "int" px] [] pos) (e1 (fIsi "int") ma) :=
  se_isi (by decide) T.isinstance hg T.int hgT bt_int (by decide) (by decide) ha T1 T2
theorem se_isB {px p1 : Pos} (T : Std X.mg) (hg : Gl X "isinstance") (hgT : Gl X "bool") (ha : SE ca W X a ma) (T1 : CallT X a [.Name "bool" px] pos) (T2 : CallT X (.Name "bool" px) [] pos) : SE ca W X (.Call (.Name "isinstance" p1) [a, .Name "bool" px] [] pos) (e1 (fIsi "bool") ma) :=
  se_isi (by decide) T.isinstance hg T.bool hgT bt_bool (by decide) (by decide) ha T1 T2
theorem se_isL {px p1 : Pos} (T : Std X.mg) (hg : Gl X "isinstance") (hgT : Gl X "list") (ha : SE ca W X a ma) (T1 : CallT X a [.Name "list" px] pos) (T2 : CallT X (.Name "list" px) [] pos) : SE ca W X (.Call (.Name "isinstance" p1) [a, .Name "list" px] [] pos) (e1 (fIsi "list") ma) :=
  se_isi (by decide) T.isinstance hg T.list hgT bt_list (by decide) (by decide) ha T1 T2
theorem se_isS {px p1 : Pos} (T : Std X.mg) (hg : Gl X "isinstance") (hgT : Gl X "str") (ha : SE ca W X a ma) (T1 : CallT X a [.Name "str" px] pos) (T2 : CallT X (.Name "str" px) [] pos) : SE ca W X (.Call (.Name "isinstance" p1) [a, .Name "str" px] [] pos) (e1 (fIsi "str") ma) :=
  se_isi (by decide) T.isinstance hg T.str hgT bt_str (by decide) (by decide) ha T1 T2
theorem se_isT {px p1 : Pos} (T : Std X.mg) (hg : Gl X "isinstance") (hgT : Gl X "tuple") (ha : SE ca W X a ma) (T1 : CallT X a [.Name "tuple" px] pos) (T2 : CallT X (.Name "tuple" px) [] pos) : SE ca W X (.Call (.Name "isinstance" p1) [a, .Name "tuple" px] [] pos) (e1 (fIsi "tuple") ma) :=
  se_isi (by decide) T.isinstance hg T.tuple hgT bt_tuple (by decide) (by decide) ha T1 T2
/-! ### operators -/
theorem se_add (ha : SE ca W X a ma) (hb : SE ca W X b mb) : SE ca W X (.BinOp a .Add b pos) (e2 fAdd ma mb) := se_bin op_addA add_S ha hb
theorem se_sub (ha : SE ca W X a ma) (hb : SE ca W X b mb) : SE ca W X (.BinOp a .Sub b pos) (e2 fSub ma mb) := se_bin op_sub sub_S ha hb
theorem se_mul (ha : SE ca W X a ma) (hb : SE ca W X b mb) : SE ca W X (.BinOp a .Mult b pos) (e2 fMul ma mb) := se_bin op_mulA mul_S ha hb
theorem se_div (ha : SE ca W X a ma) (hb : SE ca W X b mb) : SE ca W X (.BinOp a .FloorDiv b pos) (e2 fDiv ma mb) := se_bin op_fdivW div_S ha hb
theorem se_mod (ha : SE ca W X a ma) (hb : SE ca W X b mb) : SE ca W X (.BinOp a .Mod b pos) (e2 fMod ma mb) := se_bin op_mod mod_S ha hb
theorem se_pow (ha : SE ca W X a ma) (hb : SE ca W X b mb) : SE ca W X (.BinOp a .Pow b pos) (e2 fPow ma mb) := se_bin op_pow pow_S ha hb
theorem se_lt (hu : X.A.units < cLine) (ha : SE ca W X a ma) (hb : SE ca W X b mb) : SE ca W X (.Compare a [.Lt] [b] pos) (e2 fLt ma mb) := se_cmp (op_ltA hu) lt_S ha hb (nomark _)
theorem se_le (ha : SE ca W X a ma) (hb : SE ca W X b mb) : SE ca W X (.Compare a [.LtE] [b] pos) (e2 fLe ma mb) := se_cmp op_le cmpI_S ha hb (nomark _)
theorem se_gt (ha : SE ca W X a ma) (hb : SE ca W X b mb) : SE ca W X (.Compare a [.Gt] [b] pos) (e2 fGt ma mb) := se_cmp op_gt cmpI_S ha hb (nomark _)
theorem se_ge (ha : SE ca W X a ma) (hb : SE ca W X b mb) : SE ca W X (.Compare a [.GtE] [b] pos) (e2 fGe ma mb) := se_cmp op_ge cmpI_S ha hb (nomark _)
theorem se_eq (hu : X.A.units + 64 < cLine) (ha : SE ca W X a ma) (hb : SE ca W X b mb) : SE ca W X (.Compare a [.Eq] [b] pos) (e2 fEq ma mb) := se_cmp (op_eqD hu) eq_S ha hb (nomark _)
theorem se_ne (hu : X.A.units + 64 < cLine) (ha : SE ca W X a ma) (hb : SE ca W X b mb) : SE ca W X (.Compare a [.NotEq] [b] pos) (e2 fNe ma mb) := se_cmp (op_neD hu) ne_S ha hb (nomark _)
theorem se_is (ha : SE ca W X a ma) (hb : SE ca W X b mb) : SE ca W X (.Compare a [.Is] [b] pos) (e2 fIs ma mb) := se_cmp (r := rIsNo) op_isN is_S ha hb (nomark _)
theorem se_isNot (ha : SE ca W X a ma) (hb : SE ca W X b mb) : SE ca W X (.Compare a [.IsNot] [b] pos) (e2 fIsNot ma mb) := se_cmp (r := rIsNotNo) op_notN isNot_S ha hb (nomark _)
theorem st_lt (hu : X.A.units < cLine) (ha : SE ca W X a ma) (hb : SE ca W X b mb) : ST ca W X (.Compare a [.Lt] [b] pos) (tOf (e2 fLt ma mb)) := st_cmp (op_ltA hu) lt_S ha hb (nomark _)
theorem st_le (ha : SE ca W X a ma) (hb : SE ca W X b mb) : ST ca W X (.Compare a [.LtE] [b] pos) (tOf (e2 fLe ma mb)) := st_cmp op_le cmpI_S ha hb (nomark _)
theorem st_gt (ha : SE ca W X a ma) (hb : SE ca W X b mb) : ST ca W X (.Compare a [.Gt] [b] pos) (tOf (e2 fGt ma mb)) := st_cmp op_gt cmpI_S ha hb (nomark _)
theorem st_ge (ha : SE ca W X a ma) (hb : SE ca W X b mb) : ST ca W X (.Compare a [.GtE] [b] pos) (tOf (e2 fGe ma mb)) := st_cmp op_ge cmpI_S ha hb (nomark _)
theorem st_eq (hu : X.A.units + 64 < cLine) (ha : SE ca W X a ma) (hb : SE ca W X b mb) : ST ca W X (.Compare a [.Eq] [b] pos) (tOf (e2 fEq ma mb)) := st_cmp (op_eqD hu) eq_S ha hb (nomark _)
theorem st_ne (hu : X.A.units + 64 < cLine) (ha : SE ca W X a ma) (hb : SE ca W X b mb) : ST ca W X (.Compare a [.NotEq] [b] pos) (tOf (e2 fNe ma mb)) := st_cmp (op_neD hu) ne_S ha hb (nomark _)
theorem st_is (ha : SE ca W X a ma) (hb : SE ca W X b mb) : ST ca W X (.Compare a [.Is] [b] pos) (tOf (e2 fIs ma mb)) := st_cmp (r := rIsNo) op_isN is_S ha hb (nomark _)
theorem st_isNot (ha : SE ca W X a ma) (hb : SE ca W X b mb) : ST ca W X (.Compare a [.IsNot] [b] pos) (tOf (e2 fIsNot ma mb)) := st_cmp (r := rIsNotNo) op_notN isNot_S ha hb (nomark _)
theorem se_lele (ha : SE ca W X a ma) (hb : SE ca W X b mb) (hc : SE ca W X c mc) (hm : lastMarks [.LtE, .LtE] [b, c] = false) : SE ca W X (.Compare a [.LtE, .LtE] [b, c] pos) (eChain fLe fLe ma mb mc) := se_chain op_le op_le cmpI_S cmpI_S ha hb hc hm
theorem st_lele (ha : SE ca W X a ma) (hb : SE ca W X b mb) (hc : SE ca W X c mc) (hm : lastMarks [.LtE, .LtE] [b, c] = false) : ST ca W X (.Compare a [.LtE, .LtE] [b, c] pos) (tOf (eChain fLe fLe ma mb mc)) := st_chain op_le op_le cmpI_S cmpI_S ha hb hc hm
theorem se_ltle (hu : X.A.units < cLine) (ha : SE ca W X a ma) (hb : SE ca W X b mb) (hc : SE ca W X c mc) (hm : lastMarks [.Lt, .LtE] [b, c] = false) : SE ca W X (.Compare a [.Lt, .LtE] [b, c] pos) (eChain fLt fLe ma mb mc) := se_chain (op_ltA hu) op_le lt_S cmpI_S ha hb hc hm
theorem st_ltle (hu : X.A.units < cLine) (ha : SE ca W X a ma) (hb : SE ca W X b mb) (hc : SE ca W X c mc) (hm : lastMarks [.Lt, .LtE] [b, c] = false) : ST ca W X (.Compare a [.Lt, .LtE] [b, c] pos) (tOf (eChain fLt fLe ma mb mc)) := st_chain (op_ltA hu) op_le lt_S cmpI_S ha hb hc hm
theorem se_ltlt (hu : X.A.units < cLine) (ha : SE ca W X a ma) (hb : SE ca W X b mb) (hc : SE ca W X c mc) (hm : lastMarks [.Lt, .Lt] [b, c] = false) : SE ca W X (.Compare a [.Lt, .Lt] [b, c] pos) (eChain fLt fLt ma mb mc) := se_chain (op_ltA hu) (op_ltA hu) lt_S lt_S ha hb hc hm
end
/-! ### what the top has left, def by def -/
/-- a def at a module's name -/
def DefF (K : PySem.W.Frag) (mg : Str → Option Value) (x : Str) (st : Stmt) (ps : List Str) : Prop := ∃ (f : Addr) (fd : FuncData), Fun K x x st f fd ∧ mg x = some (.ref f) ∧ Binds K fd ps []
/-- a method -/
def MetF (K : PySem.W.Frag) (C : Addr) (m qual : Str) (st : Stmt) (ps : List Str) : Prop := ∃ (f : Addr) (fd : FuncData), Fun K m qual st f fd ∧ Meth K C m f ∧ Binds K fd ps []
/-- an __init__ -/
def MakF (K : PySem.W.Frag) (mg : Str → Option Value) (C : Addr) (x qual : Str) (st : Stmt) (ps : List Str) : Prop := ∃ (f : Addr) (fd : FuncData), Fun K "__init__" qual st f fd ∧ Mk K C f ∧ mg x = some (.ref C) ∧ Binds K fd ps []
section
variable {P : Program} {w : World} {K : PySem.W.Frag} {mg : Str → Option Value} {base : Heap} {ca : Nat → Addr}
abbrev cxF (P : Program) (w : World) (K : PySem.W.Frag) (mg : Str → Option Value) (base : Heap) (N : List Str) (qual : Str) (st : Stmt) (f : Addr) (cdv : Value) (A : Around) (outer : List Env) (s : Shared) (H : Hp) (E : XK) : Cx :=
  cxOf (L2.CX P w) P w K mg base N qual (defScope st) f cdv A outer s H E
def BodyOk (P : Program) (w : World) (K : PySem.W.Frag) (mg : Str → Option Value) (base : Heap) (ca : Nat → Addr) (N : List Str) (qual : Str) (st : Stmt) (k : Nat) (body : MS) : Prop :=
  ∀ (f : Addr) (cdv : Value) (A : Around) (outer : List Env) (s : Shared) (H : Hp) (E : XK), Room k (A.deeper (envOfC qual (defScope st) s.heap.objs.size f cdv)) →
      Takes (cxF P w K mg base N qual st f cdv A outer s H E) (fun C d _ H => E C d H) →
      SSs ca ⟨fun C d _ H => E C d H, none⟩ (cxF P w K mg base N qual st f cdv A outer s H E) (defBody st) body
theorem fn_def {x : Str} {st : Stmt} {N ps : List Str} {k : Nat} {body : MS} {np : Nat} (T : DefF K mg x st ps) (S : FnScope N ps (defScope st)) (hnp : ps.length = np) (hnn : np ≤ N.length) (hb : BodyOk P w K mg base ca N x st k body) : FnS P w K mg base ca (k + 1) x (fnM N.length np body) := by
  obtain ⟨f, fd, F, hm, b⟩ := T
  exact ⟨⟨f, fd, ps, fn_sound F S hnp hnn (hb f), hm, F.kp, b⟩⟩
theorem fn_met {m qual : Str} {c : Nat} {st : Stmt} {N ps : List Str} {k : Nat} {body : MS} {np : Nat} (cl : Cls K (ca c)) (T : MetF K (ca c) m qual st ps) (S : FnScope N ps (defScope st)) (hnp : ps.length = np) (hnn : np ≤ N.length) (hb : BodyOk P w K mg base ca N qual st k body) : MeS P w K mg base ca (k + 1) c m (fnM N.length np body) := by
  obtain ⟨f, fd, F, hm, b⟩ := T
  exact ⟨cl, ⟨f, fd, ps, fn_sound F S hnp hnn (hb f), hm, b⟩⟩
theorem fn_mak {x qual : Str} {c : Nat} {st : Stmt} {N ps : List Str} {k : Nat} {body : MS} {np : Nat} (T : MakF K mg (ca c) x qual st ps) (S : FnScope N ps (defScope st)) (hnp : ps.length = np) (hnn : np ≤ N.length) (hb : BodyOk P w K mg base ca N qual st k body) : MkS P w K mg base ca (k + 1) c x (fnM N.length np body) := by
  obtain ⟨f, fd, F, hm, hg, b⟩ := T
  exact ⟨⟨f, fd, ps, fn_sound F S hnp hnn (hb f), hm, hg, b⟩⟩
end
end Sim

/-! Sim: the end. -/
namespace Sim
open PySem PySem.Spec L2 PyProof.Rows
section
variable {K : PySem.W.Frag} {h : Heap} {mg : Str → Option Value} {f C : Addr} {x qual : Str} {st : Stmt} {ps : List Str} {oc kV doc pm cd ct : Value} {od an : Option Addr} {sl : Array (Option Value)}
/-- the arguments bind -/
def BindOk (x qual : Str) (st : Stmt) (ps : List Str) : Prop := ∀ (kV doc pm : Value) (an : Option Addr) (cdv ct : Value) (us : List Value), us.length = ps.length → bindArgs (PySem.W.fnOf x qual (defArgs st) (defBody st) (defScope st) .none kV doc pm an cdv ct) ⟨us, []⟩ = pure (ps.zip us)
theorem defF_of (X : K.In h) (G : h.Ns mainGlobals mg) (a : PySem.W.nsIn K mainGlobals x = some (some (.ref f))) (l : K.lookup f = some ⟨oc, od, .func (PySem.W.fnOf x x (defArgs st) (defBody st) (defScope st) .none kV doc pm an cd ct), sl⟩)
    (c : PySem.W.codeIn K cd x = true) (k : PySem.W.keepIn K (.ref f) = true) (hb : BindOk x x st ps) : DefF K mg x st ps := ⟨f, _, fun_mk l c k, PySem.W.mg_of X G a, (fun_mk l c k).binds hb⟩
theorem metF_of (a : PySem.W.findIn K (.ref C) x = some (some (.ref f))) (i : PySem.W.isFn K (.ref f) = true) (l : K.lookup f = some ⟨oc, od, .func (PySem.W.fnOf x qual (defArgs st) (defBody st) (defScope st) .none kV doc pm an cd ct), sl⟩)
    (c : PySem.W.codeIn K cd qual = true) (k : PySem.W.keepIn K (.ref f) = true) (hb : BindOk x qual st ps) : MetF K C x qual st ps := ⟨f, _, fun_mk l c k, ⟨a, i, k⟩, (fun_mk l c k).binds hb⟩
theorem makF_of (X : K.In h) (G : h.Ns mainGlobals mg) (g : PySem.W.nsIn K mainGlobals x = some (some (.ref C))) (mk : PySem.W.makesIn K C = true) (kc : PySem.W.keepIn K (.ref C) = true) (a : PySem.W.findIn K (.ref C) "__init__" = some (some (.ref f))) (i : PySem.W.isFn K (.ref f) = true)
    (l : K.lookup f = some ⟨oc, od, .func (PySem.W.fnOf "__init__" qual (defArgs st) (defBody st) (defScope st) .none kV doc pm an cd ct), sl⟩) (c : PySem.W.codeIn K cd qual = true) (k : PySem.W.keepIn K (.ref f) = true) (hb : BindOk "__init__" qual st ps) : MakF K mg C x qual st ps :=
  ⟨f, _, fun_mk l c k, ⟨mk, a, i, kc⟩, PySem.W.mg_of X G g, (fun_mk l c k).binds hb⟩
end
/-- the law's promise -/
def spLaw (K : PySem.W.Frag) : Sp := fun vs H Q _ => ∃ (a : Addr) (ns : List Int), vs = [.ref a] ∧ SqL K H a (ns.map V.int) ∧ ns.length ≤ 63 ∧ ∀ H', Q (.bl true) H'
/-- the law, run on plain data, is true -/
def LawTrue (g : List D → M D) : Prop := ∀ ns : List Int, ns.length ≤ 63 → ∃ S', g [.scr ns] [] = some (.ok (.bl true), S')
theorem law_sp {K : PySem.W.Frag} {ca : Nat → Addr} {g : List D → M D} (hg : LawTrue g) (vs : List V) (H : Hp) (Q : VK) (E : XK) (h : spLaw K vs H Q E) : spM K ca g vs H Q E := by
  obtain ⟨a, ns, rfl, hS, hl, q⟩ := h
  obtain ⟨S', e⟩ := hg ns hl
  refine ⟨[], [], [], [.scr ns], ⟨List.nodup_nil, rfl, (fun _ z => nomatch z), (fun _ z => nomatch z), (fun n a c z _ => by simp at z)⟩, .cons (.scr ?_) .nil, ?_⟩
  · rcases hS with hS | hS
    · exact .inl ⟨hS, by simp, by simp⟩
    · exact .inr fun H' => .inr hS
  · rw [e]
    intro ρ' H' b _ _ rb
    cases rb
    exact q H'
theorem law_fn {P : Program} {w : World} {K : PySem.W.Frag} {mg : Str → Option Value} {base : Heap} {ca : Nat → Addr} {k : Nat} {x : Str} {g : List D → M D} {fa : Addr} (hg : LawTrue g) (F : FnS P w K mg base ca k x g) (hm : mg x = some (.ref fa)) :
    ∃ (fd : FuncData) (ps : List Str), FnOk P w K mg base (L2.CX P w) k fa fd ps (spLaw K) := by
  obtain ⟨f, fd, ps, F1, h1, _, _⟩ := F.ex
  have e : fa = f := by
    have := hm.symm.trans h1
    cases this
    rfl
  subst e
  exact ⟨fd, ps, F1.imp fun vs H Q E h => law_sp hg vs H Q E h⟩
theorem cx_false {P : Program} {w : World} {H : Hp} {s : Shared} {e : Value} {s' : Shared} (h : L2.CX P w [] H s (fun _ _ _ => False) e s') : False := by
  obtain ⟨_, _, _, _, _, _, _, _, _, _, _, _, z⟩ := h
  exact z
/-- addresses by codes -/
def caL (l : List (Nat × Addr)) (n : Nat) : Addr := ((l.find? fun p => p.1 == n).map (·.2)).getD 0
end Sim

namespace Sim
open PySem PySem.Spec L2
section
variable {ca : Nat → Addr} {X : Cx} {pos : Pos}
theorem bt_isinstance : bootBuiltins "isinstance" = some (.builtin "isinstance") := by decide +kernel
theorem bt_ValueError : bootBuiltins "ValueError" = some (.type "ValueError") := by decide +kernel
/-- isinstance(e, C), e the error that the suite holds, one without fields -/
theorem se_isE {aa : Addr} {oe : Obj} {cls : Value} {d : Option Addr} {pn : List (Addr × Obj)} {n : Str} {i : Nat} {xn : Exn} {tab : Nat → Option Bool} {v : V} {cv : Value} {te : Expr} {p1 px : Pos} (hz : Zc cls d oe) (hf : ∃ vs, oe.data = .fields vs) (hcls : cls = .ref (ca xn.c))
    (hX : ∀ c b, tab c = some b → ExcC X.K (ca c) ∧ PySem.W.kitOne X.K (.ref (ca c)) cv = some b) (hC : PE (X.suite aa ((aa, oe) :: pn)) te (tC v)) (hcv : ∀ u, RelV v u → u = cv)
    (hN : X.N[i]? = some n) (hv : Vis X.env.scope n) (hd : (n == ("__debug__" : Str)) = false) (hcd : (n == ("__classdict__" : Str)) = false) (hm : X.mg "isinstance" = none) (hg : Gl X "isinstance")
    (T1 : CallT X (.Name n px) [te] pos) (T2 : CallT X te [] pos) :
    SE ca (W0 (some ⟨i, aa, d, xn.fs⟩)) (X.suite aa ((aa, oe) :: pn)) (.Call (.Name "isinstance" p1) [.Name n px, te] [] pos) (eIsE tab xn) := by
  have bad : ∀ {σ H Q}, Tm X.K ca (W0 (some ⟨i, aa, d, xn.fs⟩)) (Rel X.K) (eIsE tab xn) σ H Q → d = none ∧ ∃ b, tab xn.c = some b := fun ⟨ρ, φ, S, l, hS, hl, q⟩ => by
    obtain ⟨g1, g2⟩ := hl.er _ rfl
    unfold eIsE at q
    cases hfs : xn.fs with
    | some gs => rw [hfs] at q; exact q.elim
    | none =>
      rw [hfs] at q
      simp only [hfs] at g2
      refine ⟨g2, ?_⟩
      cases ht : tab xn.c with
      | none => rw [ht] at q; exact q.elim
      | some b => exact ⟨b, rfl⟩
  by_cases hdn : d = none
  · cases ht : tab xn.c with
    | none => exact ⟨fun pins s σ H Q I h => by obtain ⟨_, b, e⟩ := bad h; rw [ht] at e; cases e⟩
    | some b =>
      subst hdn
      subst hcls
      obtain ⟨hE, hK⟩ := hX _ _ ht
      have hp : PA (X.suite aa ((aa, oe) :: pn)) [.Name n px, te] (tCons (tVar i) (tCons (tC v) tNil)) := pa_cons (pe_var (X := X.suite aa ((aa, oe) :: pn)) hN hv hd hcd) (pa_cons hC pa_nil T2.he) T1.he
      refine pe_imp (pe_callB (call_isE hE hz hf) hg hm bt_isinstance hp (by decide) (by decide) T1.he T1.hpl) fun σ H Q ⟨ρ, φ, S, l, hS, hl, q⟩ => ?_
      obtain ⟨g1, g2⟩ := hl.er _ rfl
      refine ⟨.ref aa, g1, ?_⟩
      refine ⟨v, cv, b, rfl, hcv, hK, ?_⟩
      unfold eIsE at q
      cases hfs : xn.fs with
      | some gs => rw [hfs] at q; exact q.elim
      | none =>
        rw [hfs, ht] at q
        exact AtM.here q hS (.bl _)
  · exact ⟨fun pins s σ H Q I h => absurd (bad h).1 hdn⟩
theorem kit_self {K : PySem.W.Frag} (t : Value) : PySem.W.kitOne K t t = some true := by
  unfold PySem.W.kitOne
  rw [if_pos (beq_iff_eq.mpr rfl)]
theorem kit_ref {K : PySem.W.Frag} {D C : Addr} {b : Bool} (hd : PySem.W.hasDictIn K C = true) (ht : PySem.W.typeIn K (.ref C) = some (.type "type")) (hs : PySem.W.subIn K (.ref D) (.ref C) = some b) (hn : b = true ∨ D ≠ C) : PySem.W.kitOne K (.ref D) (.ref C) = some b := by
  unfold PySem.W.kitOne
  by_cases e : (Value.ref D == Value.ref C) = true
  · rw [if_pos e]
    rcases hn with h | h
    · rw [h]
    · exact absurd (Value.ref.inj (beq_iff_eq.mp e)) h
  · rw [if_neg e]
    obtain ⟨cd, hc, _⟩ := PySem.W.any_some hd
    have e2 : ((PySem.W.clsIn K C).isSome && PySem.W.typeIn K (.ref C) == some (.type "type")) = true := by rw [hc, ht] <;> rfl
    show (if ((PySem.W.clsIn K C).isSome && PySem.W.typeIn K (.ref C) == some (.type "type")) = true then PySem.W.subIn K (.ref D) (.ref C) else none) = some b
    rw [if_pos e2]
    exact hs
theorem kit_VE {K : PySem.W.Frag} {D : Addr} {b : Bool} (hs : PySem.W.subIn K (.ref D) (.type "ValueError") = some b) : PySem.W.kitOne K (.ref D) (.type "ValueError") = some b := by
  unfold PySem.W.kitOne
  rw [if_neg (fun e => by have := beq_iff_eq.mp e; cases this)]
  show (if PySem.W.kitMeta "ValueError" = true then PySem.W.subIn K (.ref D) (.type "ValueError") else none) = some b
  rw [if_pos (by decide +kernel)]
  exact hs
end
/-! ### sep.join(a list of texts) -/
def strsOf : List D → Option (List Str)
  | [] => some []
  | .str z :: r => (strsOf r).map (z :: ·)
  | _ :: _ => none
def fJoin (a x : D) : M D := fun S => match a with
  | .str z => match listOf x S with
    | some ds => match strsOf ds with
      | some ys => if (ys.map (·.length)).sum + ys.length * z.length ≤ 16777216 then some (.ok (.str (Txt.join z ys)), S) else none
      | none => none
    | none => none
  | _ => none
def rJoin (K : PySem.W.Frag) : V → List V → Hp → VK → Prop := fun x xs H Q => ∃ a p, ∃ ys : List Str, x = .str a ∧ xs = [.ref p] ∧ (SqL K H p (ys.map V.str) ∨ SqT K H p (ys.map V.str)) ∧ (ys.map (·.length)).sum + ys.length * a.length ≤ 16777216 ∧ Q (.str (Txt.join a ys)) H
theorem strs_rel {K : PySem.W.Frag} {ρ φ : List Addr} {H : Hp} : ∀ {vs : List V} {ds : List D} {ys : List Str}, Rels K ρ φ H vs ds → strsOf ds = some ys → vs = ys.map V.str
  | _, _, _, .nil, h => by cases h; rfl
  | _, _, _, .cons r rs, h => by
    cases r <;> first | (cases h; done) | skip
    unfold strsOf at h
    rename_i ds z
    cases e : strsOf ds with
    | none => rw [e] at h; cases h
    | some ms => rw [e] at h; cases h; rw [strs_rel rs e]; rfl
section
variable {ca : Nat → Addr} {X : Cx} {W : WW} {o e : Expr} {mo : ME} {m : MA} {apos pos : Pos}
theorem join_S : MthS X.K ca (rJoin X.K) (m1 fJoin) := by
  intro W ρ φ S H σ x a xs ds Q hS rx rs h
  unfold m1 at h
  split at h
  · rename_i y
    cases rs with
    | cons ry rn =>
      cases rn
      unfold fJoin at h
      split at h
      · split at h
        · rename_i es hes
          split at h
          · rename_i ys hys
            split at h
            · rename_i hz
              obtain ⟨p, vs, rfl, q, r⟩ := list_rel hS ry hes
              have e := strs_rel r hys
              subst e
              cases rx
              exact ⟨_, p, ys, rfl, rfl, .inl q, hz, AtM.here h hS (.str _)⟩
            · exact h.elim
          · exact h.elim
        · exact h.elim
      · exact h.elim
  · exact h.elim
theorem se_join (ho : SE ca W X o mo) (ha : SA ca W X [e] m) (T : MethT X o "join" [e] apos pos) (R : StarT X e [] pos) : SE ca W X (.Call (.Attribute o "join" apos) [e] [] pos) (eBM isS (m1 fJoin) mo m) :=
  pe_imp (pe_bm PySem.F.plainAttrs_str PySem.F.slot_str_join PySem.F.type_str_join mt_join ho ha T.base T.few T.line R.hs R.hp) fun σ H Q h => bm_run join_S isS_ty h
end
end Sim

namespace Law
open PySem L2 Sim
def tab_NoDeed (c : Nat) : Option Bool := if c = 2 then some false else none
def tab_ValueError (c : Nat) : Option Bool := if c = 2 then some true else none
def tab_BadHead (c : Nat) : Option Bool := if c = 2 then some true else none
def catch_LineError (c : Nat) : Option Bool := if c = 2 then some true else none
def c_SIGNS : Str := " !\"#$&'()*+,-./0123456789:;<=>?@ABCDEFGHIJKLMNOPQRSTUVWXYZ[\\]^_`abcdefghijklmnopqrstuvwxyz{|}~"
/-- text_at -/
def b_text_at : MS :=
  sSeq (sIf (tOr (tOf (e2 fGe (eVar 1) (eA (a1 fLen) (aCons (eVar 0) (aNil))))) (tOr (tOf (e2 fGt (e2 fIx (eVar 0) (eVar 1)) (eC (.int 20)))) (tOf (e2 fGt (e2 fAdd (e2 fAdd (eVar 1) (eC (.int 1))) (e2 fIx (eVar 0) (eVar 1))) (eA (a1 fLen) (aCons (eVar 0) (aNil))))))) (sRaiseB 2) (sNext))
  (sSeq (sSet 2 (e2 fAdd (e2 fAdd (eVar 1) (eC (.int 1))) (e2 fIx (eVar 0) (eVar 1))))
  (sSeq (sSet 3 (eC (.str "")))
  (sSeq (sFor (iL (eSl (eVar 0) (oSo (e2 fAdd (eVar 1) (eC (.int 1)))) (oSo (eVar 2)))) (.one 4) (sSeq (sIf (tOf (e2 fGe (eVar 4) (eA (a1 fLen) (aCons (eC (.str c_SIGNS)) (aNil))))) (sRaiseB 2) (sNext))
  (sSet 3 (e2 fAdd (eVar 3) (e2 fIx (eC (.str c_SIGNS)) (eVar 4))))))
  (sRet (eTup (aCons (eVar 3) (aCons (eVar 2) (aNil))))))))
def m_text_at : List D → M D := fnM 5 2 b_text_at
/-- _law_row -/
def b__law_row : MS :=
  sSeq (sSet 1 (eC (.int 7)))
  (sSeq (sFor (iL (eVar 0)) (.one 2) (sSet 1 (e2 fMod (e2 fAdd (e2 fAdd (e2 fMul (eVar 1) (eC (.int 48271))) (eVar 2)) (eC (.int 11))) (eC (.int 2147483647)))))
  (sRet (eLstR (aCons (eVar 0) (aCons (eC (.int 0)) (aCons (eC (.int 0)) (aCons (eVar 1) (aNil))))))))
def m__law_row : List D → M D := fnM 3 1 b__law_row
/-- _law_taken -/
def b__law_taken : MS :=
  sSeq (sIf (tOf (e2 fGt (e2 fIx (eVar 0) (eC (.int 2))) (eC (.int 0)))) (sSeq (sSet 2 (e2 fMod (e2 fIx (eVar 0) (eC (.int 2))) (eVar 1)))
  (sSeq (sPut (eVar 0) (eC (.int 2)) (e2 fDiv (e2 fIx (eVar 0) (eC (.int 2))) (eVar 1)))
  (sRet (eVar 2)))) (sNext))
  (sSeq (sIf (tOf (e2 fLt (e2 fIx (eVar 0) (eC (.int 1))) (eA (a1 fLen) (aCons (e2 fIx (eVar 0) (eC (.int 0))) (aNil))))) (sSeq (sSet 3 (e2 fIx (e2 fIx (eVar 0) (eC (.int 0))) (e2 fIx (eVar 0) (eC (.int 1)))))
  (sSeq (sPut (eVar 0) (eC (.int 1)) (e2 fAdd (e2 fIx (eVar 0) (eC (.int 1))) (eC (.int 1))))
  (sSeq (sIf (tOf (e2 fGe (eVar 3) (e2 fPow (eC (.int 10)) (eC (.int 18))))) (sPut (eVar 0) (eC (.int 2)) (e2 fDiv (eVar 3) (eVar 1))) (sNext))
  (sRet (e2 fMod (eVar 3) (eVar 1)))))) (sNext))
  (sSeq (sPut (eVar 0) (eC (.int 3)) (e2 fMod (e2 fAdd (e2 fMul (e2 fIx (eVar 0) (eC (.int 3))) (eC (.int 48271))) (eC (.int 12345))) (eC (.int 2147483647))))
  (sRet (e2 fMod (e2 fDiv (e2 fIx (eVar 0) (eC (.int 3))) (eC (.int 1009))) (eVar 1)))))
def m__law_taken : List D → M D := fnM 4 2 b__law_taken
/-- _law_whole -/
def b__law_whole : MS :=
  sRet (eAnd (e1 (fIsi "int") (eVar 0)) (eNot (e1 (fIsi "bool") (eVar 0))))
def m__law_whole : List D → M D := fnM 1 1 b__law_whole
/-- _law_signs -/
def b__law_signs : MS :=
  sSeq (sSet 0 (eC (.str " !\"#$&'()*+,-./0123456789:;<=>?@ABCDEFGHIJKLMNOPQRSTUVWXYZ[\\]^_`")))
  (sRet (e2 fAdd (eVar 0) (eC (.str "abcdefghijklmnopqrstuvwxyz{|}~"))))
def m__law_signs : List D → M D := fnM 1 0 b__law_signs
/-- _law_found -/
def b__law_found : MS :=
  sSeq (sTry (sRet (eA m_text_at (aCons (eVar 0) (aCons (eVar 1) (aNil))))) catch_LineError (some 2) (fun xn => sIf (tAnd (tOf (eIsE tab_BadHead xn)) (tAnd (tOf (eIsE tab_ValueError xn)) (tNot (tOf (eIsE tab_NoDeed xn))))) (sRet (eC (.non))) (sNext)))
  (sRet (eTup (aNil)))
def m__law_found : List D → M D := fnM 3 2 b__law_found
/-- law -/
def b_law : MS :=
  sSeq (sSet 1 (eA m__law_row (aCons (eVar 0) (aNil))))
  (sSeq (sSet 2 (e2 fIx (eLst (aCons (eA m__law_taken (aCons (eVar 1) (aCons (eC (.int 22)) (aNil)))) (aCons (eA m__law_taken (aCons (eVar 1) (aCons (eC (.int 256)) (aNil)))) (aNil)))) (eA m__law_taken (aCons (eVar 1) (aCons (eC (.int 2)) (aNil))))))
  (sSeq (sSet 3 (e2 fIx (eLst (aCons (eC (.int 94)) (aCons (eC (.int 96)) (aNil)))) (eA m__law_taken (aCons (eVar 1) (aCons (eC (.int 2)) (aNil))))))
  (sSeq (sSet 4 (eComp [11] (iR1 (eA m__law_taken (aCons (eVar 1) (aCons (eC (.int 4)) (aNil))))) (.one 11) (tYes') (eA m__law_taken (aCons (eVar 1) (aCons (eC (.int 256)) (aNil))))))
  (sSeq (sSet 5 (eComp [11] (iR1 (eA (a2 fMin2) (aCons (eVar 2) (aCons (eC (.int 24)) (aNil))))) (.one 11) (tYes') (eA m__law_taken (aCons (eVar 1) (aCons (eVar 3) (aNil))))))
  (sSeq (sIf (tOf (e2 fEq (eA m__law_taken (aCons (eVar 1) (aCons (eC (.int 3)) (aNil)))) (eC (.int 1)))) (sSet 5 (eSl (eVar 5) oNo (oSo (e2 fSub (e2 fSub (eA (a1 fLen) (aCons (eVar 5) (aNil))) (eC (.int 1))) (eA m__law_taken (aCons (eVar 1) (aCons (eC (.int 3)) (aNil)))))))) (sNext))
  (sSeq (sSet 6 (e2 fAdd (e2 fAdd (eVar 4) (eLst (aCons (eVar 2) (aNil)))) (eVar 5)))
  (sSeq (sIf (tOf (e2 fEq (eA m__law_taken (aCons (eVar 1) (aCons (eC (.int 6)) (aNil)))) (eC (.int 1)))) (sSet 6 (eVar 4)) (sNext))
  (sSeq (sSet 7 (eAnd (e2 fGe (eA (a1 fLen) (aCons (eVar 6) (aNil))) (e2 fAdd (e2 fAdd (eA (a1 fLen) (aCons (eVar 4) (aNil))) (eC (.int 1))) (eVar 2))) (e2 fLe (eVar 2) (eC (.int 20)))))
  (sSeq (sFor (iL (eSl (eVar 5) oNo (oSo (eVar 2)))) (.one 8) (sSet 7 (eAnd (eVar 7) (e2 fLe (eVar 8) (eC (.int 93))))))
  (sSeq (sSet 9 (eA m__law_found (aCons (eVar 6) (aCons (eA (a1 fLen) (aCons (eVar 4) (aNil))) (aNil)))))
  (sSeq (sIf (tNot (tOf (eVar 7))) (sRet (e2 fIs (eVar 9) (eC (.non)))) (sNext))
  (sSeq (sSet 10 (eBM isS (m1 fJoin) (eC (.str "")) (aCons (eComp [8] (iL (eVar 5)) (.one 8) (tYes') (e2 fIx (eA (fun ds => noErr (m__law_signs ds)) aNil) (eVar 8))) (aNil))))
  (sRet (eAnd (e2 fEq (eVar 9) (eTup (aCons (eVar 10) (aCons (eA (a1 fLen) (aCons (eVar 6) (aNil))) (aNil))))) (eAnd (e1 (fIsi "str") (e2 fIx (eVar 9) (eC (.int 0)))) (eA m__law_whole (aCons (e2 fIx (eVar 9) (eC (.int 1))) (aNil))))))))))))))))))
def m_law : List D → M D := fnM 12 1 b_law
end Law

/-! plain facts about the mirror language -/
namespace Sim
open PySem PySem.Spec L2
theorem rangeD_succ (lo : Int) (n : Nat) : rangeD lo (n + 1) = .int lo :: rangeD (lo + 1) n := by
  unfold rangeD
  rw [List.range_succ_eq_map, List.map_cons, List.map_map]
  congr 1
  · simp
  · apply List.map_congr_left
    intro i _
    show D.int (lo + ((i + 1 : Nat) : Int)) = D.int (lo + 1 + (i : Int))
    congr 1
    omega
theorem rangeD_zero (lo : Int) : rangeD lo 0 = [] := rfl
theorem rangeD_len (lo : Int) (n : Nat) : (rangeD lo n).length = n := by unfold rangeD; simp
theorem listOf_fl (ds : List D) : listOf (.fl ds) = fun _ => some ds := rfl
theorem listOf_scr (ns : List Int) : listOf (.scr ns) = fun _ => some (ns.map D.int) := rfl
theorem isL_fl (ds : List D) (S : Store) : isL (.fl ds) S = true := rfl
theorem isL_scr (ns : List Int) (S : Store) : isL (.scr ns) S = true := rfl
theorem bigI_of {i : Int} (h0 : -4611686018427387904 ≤ i) (h1 : i < 4611686018427387904) : bigI i = true := by
  unfold bigI
  exact decide_eq_true ⟨h0, h1⟩
/-! ### data -/
mutual
def toP : D → Option PyData
  | .non => some .none
  | .bl b => some (.bool b)
  | .int i => some (.int i)
  | .str s => some (.str s)
  | .tup ds => (toPs ds).map .tuple
  | .fl ds => (toPs ds).map .list
  | .scr ns => some (.list (ns.map PyData.int))
  | .ref _ => none
def toPs : List D → Option (List PyData)
  | [] => some []
  | d :: ds => match toP d, toPs ds with
    | some x, some xs => some (x :: xs)
    | _, _ => none
end
mutual
def depD : D → Nat
  | .tup ds => depDs ds + 1
  | .fl ds => depDs ds + 1
  | _ => 1
def depDs : List D → Nat
  | [] => 1
  | d :: ds => max (depD d) (depDs ds)
end
theorem mapM_py {S : Store} {k : Nat} (ih : ∀ d x, toP d = some x → depD d ≤ k → pyD S k d = some x) : ∀ (ds : List D) (xs : List PyData), toPs ds = some xs → depDs ds ≤ k → ds.mapM (pyD S k) = some xs
  | [], xs, h, _ => by unfold toPs at h; cases h; rfl
  | d :: ds, xs, h, hd => by
    unfold toPs at h
    unfold depDs at hd
    cases e1 : toP d with
    | none => rw [e1] at h; cases h
    | some x =>
      cases e2 : toPs ds with
      | none => rw [e1, e2] at h; cases h
      | some ys =>
        rw [e1, e2] at h
        cases h
        rw [List.mapM_cons, ih d x e1 (by omega), mapM_py ih ds ys e2 (by omega)]
        rfl
theorem pyD_of {S : Store} : ∀ (k : Nat) (d : D) (x : PyData), toP d = some x → depD d ≤ k → pyD S k d = some x
  | 0, d, x, _, hd => by
    exfalso
    cases d <;> (unfold depD at hd; omega)
  | k + 1, d, x, h, hd => by
    cases d with
    | non => unfold toP at h; cases h; rfl
    | bl b => unfold toP at h; cases h; rfl
    | int i => unfold toP at h; cases h; rfl
    | str s => unfold toP at h; cases h; rfl
    | scr ns => unfold toP at h; cases h; rfl
    | ref n => unfold toP at h; cases h
    | tup ds =>
      unfold toP at h
      unfold depD at hd
      cases e : toPs ds with
      | none => rw [e] at h; cases h
      | some ys =>
        rw [e] at h
        cases h
        unfold pyD
        rw [mapM_py (pyD_of k) ds ys e (by omega)]
        rfl
    | fl ds =>
      unfold toP at h
      unfold depD at hd
      cases e : toPs ds with
      | none => rw [e] at h; cases h
      | some ys =>
        rw [e] at h
        cases h
        unfold pyD
        rw [mapM_py (pyD_of k) ds ys e (by omega)]
        rfl
theorem toPs_ints : ∀ ns : List Int, toPs (ns.map D.int) = some (ns.map PyData.int)
  | [] => rfl
  | n :: ns => by rw [List.map_cons]; unfold toPs; rw [toPs_ints ns]; rfl
theorem depDs_ints : ∀ ns : List Int, depDs (ns.map D.int) = 1
  | [] => rfl
  | n :: ns => by rw [List.map_cons]; unfold depDs; rw [depDs_ints ns]; rfl
theorem lay_ints : ∀ ns : List Int, PyData.canLayAll0 (ns.map PyData.int) = true
  | [] => rfl
  | n :: ns => by rw [List.map_cons]; unfold PyData.canLayAll0; rw [lay_ints ns]; rfl
theorem dep_ints : ∀ ns : List Int, PyData.depthAll (ns.map PyData.int) = 0
  | [] => rfl
  | n :: ns => by rw [List.map_cons]; unfold PyData.depthAll; rw [dep_ints ns]; rfl
theorem shaped_ints (ns : List Int) : SeqAt.shaped (.list (ns.map PyData.int)) = true := by
  unfold SeqAt.shaped
  rw [Bool.and_eq_true]
  refine ⟨?_, ?_⟩
  · unfold PyData.canLay0; exact lay_ints ns
  · unfold PyData.depth; rw [dep_ints]; decide
theorem eqv_ints : ∀ (a b : List Int), PyData.eqvAll (a.map PyData.int) (b.map PyData.int) = decide (a = b)
  | [], [] => rfl
  | [], _ :: _ => rfl
  | _ :: _, [] => rfl
  | x :: xs, y :: ys => by
    rw [List.map_cons, List.map_cons]
    unfold PyData.eqvAll
    rw [eqv_ints xs ys]
    show ((x == y) && decide (xs = ys)) = decide (x :: xs = y :: ys)
    by_cases c : x = y
    · subst c; simp
    · simp [c]
theorem eqD_of {a b : D} {x y : PyData} {S : Store} (ha : toP a = some x) (hb : toP b = some y) (da : depD a ≤ 8) (db : depD b ≤ 8) (sa : SeqAt.shaped x = true) (sb : SeqAt.shaped y = true) : eqD a b S = some (PyData.eqv x y) := by
  unfold eqD
  rw [pyD_of pyDepth a x ha da, pyD_of pyDepth b y hb db]
  simp only [sa, sb, and_self, if_true]
theorem eqD_int (i j : Int) (S : Store) : eqD (.int i) (.int j) S = some (decide (i = j)) := by
  rw [eqD_of (a := .int i) (b := .int j) (x := .int i) (y := .int j) rfl rfl (show 1 ≤ 8 by decide) (show 1 ≤ 8 by decide) rfl rfl]
  show some (i == j) = _
  by_cases c : i = j <;> simp [c]
theorem eqD_ints (a b : List Int) (S : Store) : eqD (.fl (a.map D.int)) (.fl (b.map D.int)) S = some (decide (a = b)) := by
  rw [eqD_of (x := .list (a.map .int)) (y := .list (b.map .int)) (by unfold toP; rw [toPs_ints]; rfl) (by unfold toP; rw [toPs_ints]; rfl) (by unfold depD; rw [depDs_ints]; decide) (by unfold depD; rw [depDs_ints]; decide) (shaped_ints a) (shaped_ints b)]
  show some (PyData.eqvAll _ _) = _
  rw [eqv_ints]
theorem shaped_str {s : Str} (h : PyData.strOk s = true) : SeqAt.shaped (.str s) = true := by
  unfold SeqAt.shaped PyData.canLay0 PyData.depth
  rw [h]; decide
theorem eqD_str {s t : Str} (S : Store) (h1 : PyData.strOk s = true) (h2 : PyData.strOk t = true) : eqD (.str s) (.str t) S = some (decide (s = t)) := by
  rw [eqD_of (a := .str s) (b := .str t) (x := .str s) (y := .str t) rfl rfl (show 1 ≤ 8 by decide) (show 1 ≤ 8 by decide) (shaped_str h1) (shaped_str h2)]
  show some (s == t) = _
  by_cases c : s = t <;> simp [c]
theorem natlit (n : Nat) : ((no_index (OfNat.ofNat n) : Nat) : Int) = (OfNat.ofNat n : Int) := rfl
/-! ### steps -/
theorem seq_nx {a b : MS} {l l' : Sl} {S S' : Store} (h : a l S = some (.nx l', S')) : sSeq a b l S = b l' S' := by unfold sSeq; rw [h]
theorem seq_rt {a b : MS} {l : Sl} {S S' : Store} {d : D} (h : a l S = some (.rt d, S')) : sSeq a b l S = some (.rt d, S') := by unfold sSeq; rw [h]
theorem seq_ex {a b : MS} {l l' : Sl} {S S' : Store} {x : Exn} (h : a l S = some (.ex x l', S')) : sSeq a b l S = some (.ex x l', S') := by unfold sSeq; rw [h]
theorem fn_rt {n np : Nat} {body : MS} {ds : List D} {S S' : Store} {d : D} (hl : ds.length = np) (h : body (ds.map some ++ List.replicate (n - np) none) S = some (.rt d, S')) : fnM n np body ds S = some (.ok d, S') := by unfold fnM; rw [if_pos hl, h]
theorem fn_nx {n np : Nat} {body : MS} {ds : List D} {S S' : Store} {l : Sl} (hl : ds.length = np) (h : body (ds.map some ++ List.replicate (n - np) none) S = some (.nx l, S')) : fnM n np body ds S = some (.ok .non, S') := by unfold fnM; rw [if_pos hl, h]
theorem fn_ex {n np : Nat} {body : MS} {ds : List D} {S S' : Store} {l : Sl} {x : Exn} (hl : ds.length = np) (h : body (ds.map some ++ List.replicate (n - np) none) S = some (.ex x l, S')) : fnM n np body ds S = some (.error x, S') := by unfold fnM; rw [if_pos hl, h]
theorem fMul_l {i j : Int} (h0 : -18446744073709551616 < i) (h1 : i < 18446744073709551616) (S : Store) : fMul (.int i) (.int j) S = some (.ok (.int (i * j)), S) := by unfold fMul; simp only; rw [if_pos (.inl ⟨h0, h1⟩)]
theorem fMul_r {i j : Int} (h0 : -18446744073709551616 < j) (h1 : j < 18446744073709551616) (S : Store) : fMul (.int i) (.int j) S = some (.ok (.int (i * j)), S) := by unfold fMul; simp only; rw [if_pos (.inr ⟨h0, h1⟩)]
theorem fMod_i {i j : Int} (h : 0 < j) (S : Store) : fMod (.int i) (.int j) S = some (.ok (.int (i % j)), S) := by unfold fMod; simp only; rw [if_pos h]
theorem fDiv_i {i j : Int} (h : 0 < j) (h1 : j < 1606938044258990275541962092341162602522202993782792835301376) (S : Store) : fDiv (.int i) (.int j) S = some (.ok (.int (i / j)), S) := by unfold fDiv; simp only; rw [if_pos ⟨h, h1⟩]
theorem fAdd_i (i j : Int) (S : Store) : fAdd (.int i) (.int j) S = some (.ok (.int (i + j)), S) := rfl
theorem fSub_i (i j : Int) (S : Store) : fSub (.int i) (.int j) S = some (.ok (.int (i - j)), S) := rfl
theorem fLt_i (i j : Int) (S : Store) : fLt (.int i) (.int j) S = some (.ok (.bl (decide (i < j))), S) := rfl
theorem fCmp_i (p : Int → Int → Bool) (i j : Int) (S : Store) : fCmpI p (.int i) (.int j) S = some (.ok (.bl (p i j)), S) := rfl
theorem fEq_i (i j : Int) (S : Store) : fEq (.int i) (.int j) S = some (.ok (.bl (decide (i = j))), S) := by unfold fEq; rw [eqD_int]
theorem fNe_i (i j : Int) (S : Store) : fNe (.int i) (.int j) S = some (.ok (.bl (!decide (i = j))), S) := by unfold fNe; rw [eqD_int]
theorem atI_n {α : Type} {xs : List α} {j : Nat} {x : α} (h : xs[j]? = some x) : atI xs (j : Int) = some x := by
  have hj := (List.getElem?_eq_some_iff.mp h).1
  unfold atI ixN
  rw [if_pos (by omega), if_pos (by omega)]
  simpa using h
theorem atI_i {α : Type} {xs : List α} {i : Int} {x : α} (h0 : 0 ≤ i) (h : xs[i.toNat]? = some x) : atI xs i = some x := by
  obtain ⟨j, rfl⟩ := Int.eq_ofNat_of_zero_le h0
  exact atI_n (by simpa using h)
theorem fIx_fl {ds : List D} {i : Int} {d : D} (h0 : 0 ≤ i) (h : ds[i.toNat]? = some d) (S : Store) : fIx (.fl ds) (.int i) S = some (.ok d, S) := by
  unfold fIx dctOf seqOf listOf; simp only [atI_i h0 h]
theorem fIx_tup {ds : List D} {i : Int} {d : D} (h0 : 0 ≤ i) (h : ds[i.toNat]? = some d) (S : Store) : fIx (.tup ds) (.int i) S = some (.ok d, S) := by
  unfold fIx dctOf seqOf; simp only [atI_i h0 h]
theorem fIx_scr {ns : List Int} {i : Int} {n : Int} (h0 : 0 ≤ i) (h : ns[i.toNat]? = some n) (S : Store) : fIx (.scr ns) (.int i) S = some (.ok (.int n), S) := by
  unfold fIx dctOf seqOf listOf
  simp only [atI_i h0 (show (ns.map D.int)[i.toNat]? = some (.int n) by rw [List.getElem?_map, h]; rfl)]
theorem fIx_ref {n : Nat} {ds : List D} {b : Bool} {i : Int} {d : D} {S : Store} (hS : S[n]? = some ⟨.lst ds, b⟩) (h0 : 0 ≤ i) (h : ds[i.toNat]? = some d) : fIx (.ref n) (.int i) S = some (.ok d, S) := by
  unfold fIx dctOf seqOf listOf; simp only [hS, atI_i h0 h]
theorem fIx_str {s : Str} {i : Int} {c : Nat} (hl : s.length ≤ 16777216) (h0 : 0 ≤ i) (h : s.cps.toList[i.toNat]? = some c) (S : Store) : fIx (.str s) (.int i) S = some (.ok (.str ⟨#[c]⟩), S) := by
  unfold fIx
  have e : s.length ≤ lineN := hl
  simp only [e, if_true, atI_i h0 h]
theorem fIx_dct {n : Nat} {kvs : List (Key × D)} {b : Bool} {k : D} {kk : Key} {d : D} {S : Store} (hS : S[n]? = some ⟨.dct kvs, b⟩) (hk : keyOf k = some kk) (h : valD kvs kk = some d) : fIx (.ref n) k S = some (.ok d, S) := by
  unfold fIx dctOf; simp only [hS, hk, h]
theorem putIx_lst {n : Nat} {ds : List D} {i : Int} {d : D} {S : Store} (hS : S[n]? = some ⟨.lst ds, false⟩) (h0 : 0 ≤ i) (h : i < ds.length) : putIxD (.ref n) (.int i) d S = some (S.set n ⟨.lst (ds.set i.toNat d), false⟩) := by
  unfold putIxD ixN
  simp only [hS, h0, h, if_true]
theorem fLen_fl (ds : List D) (S : Store) : fLen (.fl ds) S = some (.ok (.int ds.length), S) := rfl
theorem fLen_tup (ds : List D) (S : Store) : fLen (.tup ds) S = some (.ok (.int ds.length), S) := rfl
theorem fLen_scr (ns : List Int) (S : Store) : fLen (.scr ns) S = some (.ok (.int ns.length), S) := by unfold fLen dctU seqOf listOf; simp
theorem fLen_str {s : Str} (h : s.length ≤ 16777216) (S : Store) : fLen (.str s) S = some (.ok (.int s.length), S) := by unfold fLen; simp only; rw [if_pos (show s.length ≤ lineN from h)]
theorem fLen_ref {n : Nat} {ds : List D} {b : Bool} {S : Store} (hS : S[n]? = some ⟨.lst ds, b⟩) : fLen (.ref n) S = some (.ok (.int ds.length), S) := by unfold fLen dctU seqOf listOf; simp only [hS]
theorem fAdd_fl {xs ys : List D} (h : xs.length + ys.length ≤ 16777216) (S : Store) : fAdd (.fl xs) (.fl ys) S = some (.ok (.fl (xs ++ ys)), S) := by unfold fAdd catOf; simp only; rw [if_pos (show _ ≤ lineN from h)]
theorem fAdd_str {s t : Str} (h : s.length + t.length ≤ 16777216) (S : Store) : fAdd (.str s) (.str t) S = some (.ok (.str (s ++ t)), S) := by unfold fAdd; simp only; rw [if_pos (show _ ≤ lineN from h)]
theorem fIsi_int (T : String) (i : Int) (S : Store) : fIsi T (.int i) S = some (.ok (.bl ("int" == T || ("int" == "bool" && T == "int"))), S) := rfl
theorem sFor_fl {a : ME} {tg : Tg} {body : MS} {l : Sl} {S S1 : Store} {ds : List D} (h : a l S = some (.ok (.fl ds), S1)) : sFor (iL a) tg body l S = forL tg body ds l S1 := by
  have e : iL a l S = some (.ok (fun _ => some ds), S1) := by unfold iL; rw [h]; rfl
  unfold sFor
  rw [e]
  exact forG_all
theorem sFor_scr {a : ME} {tg : Tg} {body : MS} {l : Sl} {S S1 : Store} {ns : List Int} (h : a l S = some (.ok (.scr ns), S1)) : sFor (iL a) tg body l S = forL tg body (ns.map D.int) l S1 := by
  have e : iL a l S = some (.ok (fun _ => some (ns.map D.int)), S1) := by unfold iL; rw [h]; rfl
  unfold sFor
  rw [e]
  exact forG_all
theorem sFor_str {a : ME} {tg : Tg} {body : MS} {l : Sl} {S S1 : Store} {z : Str} (h : a l S = some (.ok (.str z), S1)) : sFor (iS a) tg body l S = forL tg body (signsOf z) l S1 := by
  have e : iS a l S = some (.ok (fun _ => some (signsOf z)), S1) := by unfold iS; rw [h]; rfl
  unfold sFor
  rw [e]
  exact forG_all
theorem iR1_ok {a : ME} {l : Sl} {S S1 : Store} {n : Int} (h : a l S = some (.ok (.int n), S1)) (h0 : -4611686018427387904 ≤ n) (h1 : n < 4611686018427387904) : iR1 a l S = some (.ok (fun _ => some (rangeD 0 n.toNat)), S1) := by
  unfold iR1
  rw [h]
  simp only [bnd]
  rw [if_pos (bigI_of h0 h1)]
theorem sFor_r1 {a : ME} {tg : Tg} {body : MS} {l : Sl} {S S1 : Store} {n : Int} (h : a l S = some (.ok (.int n), S1)) (h0 : -4611686018427387904 ≤ n) (h1 : n < 4611686018427387904) : sFor (iR1 a) tg body l S = forL tg body (rangeD 0 n.toNat) l S1 := by
  unfold sFor
  rw [iR1_ok h h0 h1]
  exact forG_all
theorem eComp_of {vs : List Nat} {mi : Sl → M Src} {tg : Tg} {t : MT} {e : ME} {l : Sl} {S S1 : Store} {ds : List D} (h : mi l S = some (.ok (fun _ => some ds), S1)) : eComp vs mi tg t e l S = compL tg t e (wipeD l vs) [] ds S1 := by
  unfold eComp
  rw [h]
  exact compG_all
theorem eComp_fl {vs : List Nat} {a : ME} {tg : Tg} {t : MT} {e : ME} {l : Sl} {S S1 : Store} {ds : List D} (h : a l S = some (.ok (.fl ds), S1)) : eComp vs (iL a) tg t e l S = compL tg t e (wipeD l vs) [] ds S1 :=
  eComp_of (by unfold iL; rw [h]; rfl)
theorem eComp_str {vs : List Nat} {a : ME} {tg : Tg} {t : MT} {e : ME} {l : Sl} {S S1 : Store} {z : Str} (h : a l S = some (.ok (.str z), S1)) : eComp vs (iS a) tg t e l S = compL tg t e (wipeD l vs) [] (signsOf z) S1 :=
  eComp_of (by unfold iS; rw [h]; rfl)
theorem eComp_r1 {vs : List Nat} {a : ME} {tg : Tg} {t : MT} {e : ME} {l : Sl} {S S1 : Store} {n : Int} (h : a l S = some (.ok (.int n), S1)) (h0 : -4611686018427387904 ≤ n) (h1 : n < 4611686018427387904) : eComp vs (iR1 a) tg t e l S = compL tg t e (wipeD l vs) [] (rangeD 0 n.toNat) S1 :=
  eComp_of (iR1_ok h h0 h1)
theorem compL_map {α : Type} {tg : Tg} {e : ME} {l : Sl} {S : Store} (g f : α → D) : ∀ (xs : List α) (acc : List D), (∀ a ∈ xs, ∃ l1, tgSet tg (g a) l = some l1 ∧ e l1 S = some (.ok (f a), S)) → acc.length + xs.length ≤ 16777216 →
    compL tg tYes' e l acc (xs.map g) S = some (.ok (.fl (acc ++ xs.map f)), S)
  | [], acc, _, _ => by rw [List.map_nil, compL]; simp
  | d :: ds, acc, h, hl => by
    obtain ⟨l1, h1, h2⟩ := h d List.mem_cons_self
    rw [List.length_cons] at hl
    rw [List.map_cons, compL]
    simp only [h1, tYes', bndN, if_true, h2]
    rw [if_pos (show acc.length < lineN by show _ < 16777216; omega), compL_map g f ds (acc ++ [f d]) (fun d hd => h d (List.mem_cons_of_mem _ hd)) (by rw [List.length_append]; simp; omega), List.map_cons, List.append_assoc]
    rfl
theorem sIx_lo {n : Nat} {i : Int} (h0 : 0 ≤ i) (h1 : i ≤ n) {d : Nat} : HT.sIx n d (some i) = i.toNat := by
  obtain ⟨k, rfl⟩ := Int.eq_ofNat_of_zero_le h0
  rw [HT.sIx_nat]
  omega
theorem cut_mid {xs : List D} {i j : Int} (h0 : 0 ≤ i) (h1 : i ≤ j) (h2 : j ≤ xs.length) : cutD xs (some i) (some j) = (xs.drop i.toNat).take (j.toNat - i.toNat) := by
  unfold cutD
  rw [sIx_lo h0 (by omega), sIx_lo (by omega) h2]
theorem cut_lo {xs : List D} {i : Int} (h0 : 0 ≤ i) (h1 : i ≤ xs.length) : cutD xs (some i) none = xs.drop i.toNat := by
  unfold cutD
  rw [sIx_lo h0 h1]
  show (xs.drop i.toNat).take (xs.length - i.toNat) = _
  rw [List.take_of_length_le (by simp)]
theorem cut_hi {xs : List D} {j : Int} (h0 : 0 ≤ j) (h1 : j ≤ xs.length) : cutD xs none (some j) = xs.take j.toNat := by
  unfold cutD
  rw [sIx_lo h0 h1]
  show (xs.drop 0).take (j.toNat - 0) = _
  simp
theorem fIx_t0 (a : D) (r : List D) (S : Store) : fIx (.tup (a :: r)) (.int 0) S = some (.ok a, S) := fIx_tup (by decide) rfl S
theorem fIx_t1 (a b : D) (r : List D) (S : Store) : fIx (.tup (a :: b :: r)) (.int 1) S = some (.ok b, S) := fIx_tup (by decide) rfl S
theorem fIx_t2 (a b c : D) (r : List D) (S : Store) : fIx (.tup (a :: b :: c :: r)) (.int 2) S = some (.ok c, S) := fIx_tup (by decide) rfl S
theorem fIx_t3 (a b c d : D) (r : List D) (S : Store) : fIx (.tup (a :: b :: c :: d :: r)) (.int 3) S = some (.ok d, S) := fIx_tup (by decide) rfl S
theorem fIx_f0 (a : D) (r : List D) (S : Store) : fIx (.fl (a :: r)) (.int 0) S = some (.ok a, S) := fIx_fl (by decide) rfl S
theorem fIx_f1 (a b : D) (r : List D) (S : Store) : fIx (.fl (a :: b :: r)) (.int 1) S = some (.ok b, S) := fIx_fl (by decide) rfl S
theorem fIx_f2 (a b c : D) (r : List D) (S : Store) : fIx (.fl (a :: b :: c :: r)) (.int 2) S = some (.ok c, S) := fIx_fl (by decide) rfl S
theorem fIx_f3 (a b c d : D) (r : List D) (S : Store) : fIx (.fl (a :: b :: c :: d :: r)) (.int 3) S = some (.ok d, S) := fIx_fl (by decide) rfl S
theorem pow17 (S : Store) : fPow (.int 10) (.int 17) S = some (.ok (.int 100000000000000000), S) := by
  unfold fPow
  simp only
  rw [if_pos (by decide +kernel)]
  have : (10 : Int) ^ (17 : Int).toNat = 100000000000000000 := by decide +kernel
  rw [this]
theorem pow9 (S : Store) : fPow (.int 10) (.int 9) S = some (.ok (.int 1000000000), S) := by
  unfold fPow
  simp only
  rw [if_pos (by decide +kernel)]
  have : (10 : Int) ^ (9 : Int).toNat = 1000000000 := by decide +kernel
  rw [this]
theorem pow41 (S : Store) : fPow (.int 10) (.int 41) S = some (.ok (.int 100000000000000000000000000000000000000000), S) := by
  unfold fPow
  simp only
  rw [if_pos (by decide +kernel)]
  have : (10 : Int) ^ (41 : Int).toNat = 100000000000000000000000000000000000000000 := by decide +kernel
  rw [this]
theorem pow18 (S : Store) : fPow (.int 10) (.int 18) S = some (.ok (.int 1000000000000000000), S) := by
  unfold fPow
  simp only
  rw [if_pos (by decide +kernel)]
  have : (10 : Int) ^ (18 : Int).toNat = 1000000000000000000 := by decide +kernel
  rw [this]
/-! ### loops by an invariant -/
theorem forG_rule {src : Src} {tg : Tg} {body : MS} {ds : List D} {Inv : Nat → Sl → Store → Prop} {Q : Fl → Store → Prop}
    (hsrc : ∀ i l S, Inv i l S → src S = some ds)
    (hstep : ∀ i d l S, Inv i l S → ds[i]? = some d → ∃ l1, tgSet tg d l = some l1 ∧ ((∃ l' S', body l1 S = some (.nx l', S') ∧ Inv (i + 1) l' S') ∨ (∃ l' S', body l1 S = some (.ct l', S') ∧ Inv (i + 1) l' S') ∨ (∃ l' S', body l1 S = some (.bk l', S') ∧ Q (.nx l') S') ∨ (∃ d' S', body l1 S = some (.rt d', S') ∧ Q (.rt d') S') ∨ (∃ x l' S', body l1 S = some (.ex x l', S') ∧ Q (.ex x l') S')))
    (hend : ∀ l S, Inv ds.length l S → Q (.nx l) S) : ∀ (k i : Nat) (l : Sl) (S : Store), ds.length < k + i → i ≤ ds.length → Inv i l S → ∃ r S', forG src tg body k i l S = some (r, S') ∧ Q r S'
  | 0, i, l, S, h, h', _ => absurd h (by omega)
  | k + 1, i, l, S, h, h', hI => by
    unfold forG
    simp only [hsrc i l S hI]
    by_cases c : i < ds.length
    · have hd : ds[i]? = some ds[i] := List.getElem?_eq_getElem c
      obtain ⟨l1, e1, hs⟩ := hstep i _ l S hI hd
      rw [hd]
      simp only [e1]
      rcases hs with ⟨l', S', e2, hI'⟩ | ⟨l', S', e2, hI'⟩ | ⟨l', S', e2, hq⟩ | ⟨d', S', e2, hq⟩ | ⟨x, l', S', e2, hq⟩
      · rw [e2]; exact forG_rule hsrc hstep hend k (i + 1) l' S' (by omega) (by omega) hI'
      · rw [e2]; exact forG_rule hsrc hstep hend k (i + 1) l' S' (by omega) (by omega) hI'
      · rw [e2]; exact ⟨_, _, rfl, hq⟩
      · rw [e2]; exact ⟨_, _, rfl, hq⟩
      · rw [e2]; exact ⟨_, _, rfl, hq⟩
    · have e : i = ds.length := by omega
      subst e
      rw [List.getElem?_eq_none (Nat.le_refl _)]
      exact ⟨_, _, rfl, hend l S hI⟩
theorem sFor_rule {items : Sl → M Src} {src : Src} {tg : Tg} {body : MS} {ds : List D} (Inv : Nat → Sl → Store → Prop) (Q : Fl → Store → Prop) {l : Sl} {S S1 : Store}
    (hi : items l S = some (.ok src, S1)) (h0 : Inv 0 l S1)
    (hsrc : ∀ i l S, Inv i l S → src S = some ds)
    (hstep : ∀ i d l S, Inv i l S → ds[i]? = some d → ∃ l1, tgSet tg d l = some l1 ∧ ((∃ l' S', body l1 S = some (.nx l', S') ∧ Inv (i + 1) l' S') ∨ (∃ l' S', body l1 S = some (.ct l', S') ∧ Inv (i + 1) l' S') ∨ (∃ l' S', body l1 S = some (.bk l', S') ∧ Q (.nx l') S') ∨ (∃ d' S', body l1 S = some (.rt d', S') ∧ Q (.rt d') S') ∨ (∃ x l' S', body l1 S = some (.ex x l', S') ∧ Q (.ex x l') S')))
    (hend : ∀ l S, Inv ds.length l S → Q (.nx l) S) : ∃ r S', sFor items tg body l S = some (r, S') ∧ Q r S' := by
  unfold sFor
  rw [hi]
  simp only [bndS, hsrc 0 l S1 h0]
  exact forG_rule hsrc hstep hend _ 0 l S1 (by omega) (by omega) h0
theorem sFor_thru {items : Sl → M Src} {src : Src} {tg : Tg} {body : MS} {ds : List D} (Inv : Nat → Sl → Store → Prop) {l : Sl} {S S1 : Store}
    (hi : items l S = some (.ok src, S1)) (h0 : Inv 0 l S1)
    (hsrc : ∀ i l S, Inv i l S → src S = some ds)
    (hstep : ∀ i d l S, Inv i l S → ds[i]? = some d → ∃ l1, tgSet tg d l = some l1 ∧ ∃ l' S', body l1 S = some (.nx l', S') ∧ Inv (i + 1) l' S') :
    ∃ l' S', sFor items tg body l S = some (.nx l', S') ∧ Inv ds.length l' S' := by
  obtain ⟨r, S', h1, l', h2, h3⟩ := sFor_rule (ds := ds) Inv (fun r S' => ∃ l', r = .nx l' ∧ Inv ds.length l' S') hi h0 hsrc (fun i d l S a b => by
    obtain ⟨l1, h1, h2⟩ := hstep i d l S a b
    exact ⟨l1, h1, .inl h2⟩) (fun l S h => ⟨l, rfl, h⟩)
  subst h2
  exact ⟨l', S', h1, h3⟩
theorem iL_fl {a : ME} {l : Sl} {S S1 : Store} {ds : List D} (h : a l S = some (.ok (.fl ds), S1)) : iL a l S = some (.ok (fun _ => some ds), S1) := by unfold iL; rw [h]; rfl
theorem iL_ref {a : ME} {l : Sl} {S S1 : Store} {n : Nat} {ds : List D} {b : Bool} (h : a l S = some (.ok (.ref n), S1)) (hS : S1[n]? = some ⟨.lst ds, b⟩) : iL a l S = some (.ok (Sim.listOf (.ref n)), S1) := by
  unfold iL
  rw [h]
  simp only [bnd]
  rw [if_pos (by unfold isL Sim.listOf; simp only [hS]; rfl)]
theorem listOf_ref {n : Nat} {ds : List D} {b : Bool} {S : Store} (hS : S[n]? = some ⟨.lst ds, b⟩) : Sim.listOf (.ref n) S = some ds := by unfold Sim.listOf; simp only [hS]
theorem iEn_fl {a : ME} {l : Sl} {S S1 : Store} {ds : List D} (h : a l S = some (.ok (.fl ds), S1)) : iEn a l S = some (.ok (fun _ => some (enumD ds)), S1) := by unfold iEn; rw [h]; rfl
theorem enumD_get {ds : List D} {i : Nat} {d : D} (h : (enumD ds)[i]? = some d) : ∃ x, ds[i]? = some x ∧ d = .tup [.int (i : Nat), x] := by
  unfold enumD at h
  rw [List.getElem?_map, List.getElem?_zipIdx] at h
  cases e : ds[i]? with
  | none => rw [e] at h; cases h
  | some x =>
    rw [e] at h
    refine ⟨x, rfl, ?_⟩
    have h : D.tup [.int ((0 + i : Nat) : Int), x] = d := Option.some.inj h
    rw [← h, Nat.zero_add]
theorem ln0 : decide (0 ≤ lineN) = true := decide_eq_true (by unfold lineN; decide)
theorem ln1 : decide (1 ≤ lineN) = true := decide_eq_true (by unfold lineN; decide)
theorem ln2 : decide (2 ≤ lineN) = true := decide_eq_true (by unfold lineN; decide)
theorem ln3 : decide (3 ≤ lineN) = true := decide_eq_true (by unfold lineN; decide)
theorem ln4 : decide (4 ≤ lineN) = true := decide_eq_true (by unfold lineN; decide)
theorem ln5 : decide (5 ≤ lineN) = true := decide_eq_true (by unfold lineN; decide)
theorem ln6 : decide (6 ≤ lineN) = true := decide_eq_true (by unfold lineN; decide)
theorem ln7 : decide (7 ≤ lineN) = true := decide_eq_true (by unfold lineN; decide)
theorem ln8 : decide (8 ≤ lineN) = true := decide_eq_true (by unfold lineN; decide)
theorem ln9 : decide (9 ≤ lineN) = true := decide_eq_true (by unfold lineN; decide)
theorem ln10 : decide (10 ≤ lineN) = true := decide_eq_true (by unfold lineN; decide)
theorem ln11 : decide (11 ≤ lineN) = true := decide_eq_true (by unfold lineN; decide)
theorem ln12 : decide (12 ≤ lineN) = true := decide_eq_true (by unfold lineN; decide)
theorem nl0 : ((0 : Nat) : Int) = 0 := rfl
theorem nl1 : ((1 : Nat) : Int) = 1 := rfl
theorem nl2 : ((2 : Nat) : Int) = 2 := rfl
theorem nl3 : ((3 : Nat) : Int) = 3 := rfl
theorem nl4 : ((4 : Nat) : Int) = 4 := rfl
theorem nl5 : ((5 : Nat) : Int) = 5 := rfl
theorem nl6 : ((6 : Nat) : Int) = 6 := rfl
theorem nl7 : ((7 : Nat) : Int) = 7 := rfl
theorem nl8 : ((8 : Nat) : Int) = 8 := rfl
theorem nl9 : ((9 : Nat) : Int) = 9 := rfl
theorem nl10 : ((10 : Nat) : Int) = 10 := rfl
theorem nl11 : ((11 : Nat) : Int) = 11 := rfl
theorem nl12 : ((12 : Nat) : Int) = 12 := rfl
theorem nl13 : ((13 : Nat) : Int) = 13 := rfl
theorem nl14 : ((14 : Nat) : Int) = 14 := rfl
theorem nl15 : ((15 : Nat) : Int) = 15 := rfl
theorem nl16 : ((16 : Nat) : Int) = 16 := rfl
theorem nl17 : ((17 : Nat) : Int) = 17 := rfl
theorem nl18 : ((18 : Nat) : Int) = 18 := rfl
theorem nl19 : ((19 : Nat) : Int) = 19 := rfl
theorem nl20 : ((20 : Nat) : Int) = 20 := rfl
theorem nl21 : ((21 : Nat) : Int) = 21 := rfl
theorem nl22 : ((22 : Nat) : Int) = 22 := rfl
theorem nl23 : ((23 : Nat) : Int) = 23 := rfl
theorem nl24 : ((24 : Nat) : Int) = 24 := rfl
theorem nl25 : ((25 : Nat) : Int) = 25 := rfl
/-! ### a comprehension over a stored list -/
theorem compG_at {src : Src} {tg : Tg} {t : MT} {e : ME} {l : Sl} {S : Store} {ds : List D} (hs : src S = some ds) (he : ∀ d ∈ ds, ∃ l1 y, tgSet tg d l = some l1 ∧ t l1 S = some (.ok true, S) ∧ e l1 S = some (.ok y, S)) :
    ∀ (k i : Nat) (acc : List D), compG src tg t e l k i acc S = compG (fun _ => some ds) tg t e l k i acc S
  | 0, _, _ => rfl
  | k + 1, i, acc => by
    unfold compG
    simp only [hs]
    cases hd : ds[i]? with
    | none => rfl
    | some d =>
      obtain ⟨l1, y, h1, h2, h3⟩ := he d (List.mem_of_getElem? hd)
      simp only [h1, h2, h3, bndN, if_true]
      split
      · exact compG_at hs he k (i + 1) _
      · rfl
theorem eComp_ref {α : Type} {vs : List Nat} {a : ME} {tg : Tg} {e : ME} {l : Sl} {S : Store} {n : Nat} {b : Bool} (g f : α → D) (xs : List α) (ha : a l S = some (.ok (.ref n), S)) (hS : S[n]? = some ⟨.lst (xs.map g), b⟩)
    (h : ∀ x ∈ xs, ∃ l1, tgSet tg (g x) (wipeD l vs) = some l1 ∧ e l1 S = some (.ok (f x), S)) (hl : xs.length ≤ 16777216) : eComp vs (iL a) tg tYes' e l S = some (.ok (.fl (xs.map f)), S) := by
  unfold eComp
  rw [iL_ref ha hS]
  simp only [bnd, listOf_ref hS]
  rw [compG_at (listOf_ref hS) (fun d hd => by
    obtain ⟨x, hx, rfl⟩ := List.mem_map.mp hd
    obtain ⟨l1, h1, h2⟩ := h x hx
    exact ⟨l1, f x, h1, rfl, h2⟩), compG_all, compL_map g f xs [] h (by simpa using hl)]
  rfl
theorem fList_ref {n : Nat} {ds : List D} {b : Bool} {S : Store} (hS : S[n]? = some ⟨.lst ds, b⟩) : fList (.ref n) S = some (.ok (.fl ds), S) := by unfold fList seqOf Sim.listOf; simp only [hS]
theorem isS_str (z : Str) (S : Store) : isS (.str z) S = true := rfl
theorem isS_fl (ds : List D) (S : Store) : isS (.fl ds) S = false := rfl
theorem isS_ref (n : Nat) (S : Store) : isS (.ref n) S = false := rfl
end Sim

local macro_rules | `(tactic| walk_at "ev") => `(tactic| try simp only [Sim.sSeq, Sim.sNext, Sim.sIf, Sim.sSet, Sim.sRet, Sim.sRetN, Sim.sDrop, Sim.sFor, Sim.sPut, Sim.sFld, Sim.sWhile, Sim.bndS, Sim.bnd, Sim.bndN, Sim.eVar, Sim.eC, Sim.e1, Sim.e2, Sim.eA, Sim.a1, Sim.a2, Sim.m1, Sim.eTup, Sim.eLst, Sim.eLstR, Sim.eSl, Sim.oNo, Sim.oSo, Sim.iofD, Sim.aNil, Sim.aCons, Sim.tOf, Sim.tAnd, Sim.tOr, Sim.tNot, Sim.blOf, Sim.eAnd, Sim.eOr, Sim.eNot, Sim.eIf, Sim.eComp, Sim.eMeth, Sim.eBM, Sim.fnM, Sim.iL, Sim.iS, Sim.iR1, Sim.iR2, Sim.iEn, Sim.iZ, Sim.okV, Sim.guard, Sim.wipeD, Sim.tYes', Sim.tgSet, Nat.reduceSub, List.replicate, List.getElem?_cons_zero, List.getElem?_cons_succ, List.getElem?_nil, List.set_cons_zero, List.set_cons_succ, List.set_nil, List.map_cons, List.map_nil, List.length_cons, List.length_nil, List.append_nil, List.cons_append, List.nil_append, Nat.reduceAdd, Nat.reduceLeDiff, decide_true, decide_false, if_true, if_false, Bool.false_eq_true, ↓reduceIte, reduceIte, reduceCtorEq, Bool.not_true, Bool.not_false, Sim.forG_all, Sim.compG_all])
local macro_rules | `(tactic| walk_at "ev*") => `(tactic| simp only [Sim.sSeq, Sim.sNext, Sim.sIf, Sim.sSet, Sim.sRet, Sim.sRetN, Sim.sDrop, Sim.sFor, Sim.sPut, Sim.sFld, Sim.sWhile, Sim.bndS, Sim.bnd, Sim.bndN, Sim.eVar, Sim.eC, Sim.e1, Sim.e2, Sim.eA, Sim.a1, Sim.a2, Sim.m1, Sim.eTup, Sim.eLst, Sim.eLstR, Sim.eSl, Sim.oNo, Sim.oSo, Sim.iofD, Sim.aNil, Sim.aCons, Sim.tOf, Sim.tAnd, Sim.tOr, Sim.tNot, Sim.blOf, Sim.eAnd, Sim.eOr, Sim.eNot, Sim.eIf, Sim.eComp, Sim.eMeth, Sim.eBM, Sim.fnM, Sim.iL, Sim.iS, Sim.iR1, Sim.iR2, Sim.iEn, Sim.iZ, Sim.okV, Sim.guard, Sim.wipeD, Sim.tYes', Sim.tgSet, Nat.reduceSub, List.replicate, List.getElem?_cons_zero, List.getElem?_cons_succ, List.getElem?_nil, List.set_cons_zero, List.set_cons_succ, List.set_nil, List.map_cons, List.map_nil, List.length_cons, List.length_nil, List.append_nil, List.cons_append, List.nil_append, Nat.reduceAdd, Nat.reduceLeDiff, decide_true, decide_false, if_true, if_false, Bool.false_eq_true, ↓reduceIte, reduceIte, reduceCtorEq, Bool.not_true, Bool.not_false, Sim.forG_all, Sim.compG_all, Sim.fAdd_i, Sim.fSub_i, Sim.fLt_i, Sim.fCmp_i, Sim.fEq_i, Sim.fNe_i, Sim.fLen_fl, Sim.fLen_tup, Sim.fLen_scr, Sim.listOf_fl, Sim.listOf_scr, Sim.isL_fl, Sim.isL_scr, Sim.sTry, Sim.unsetS, Sim.noEx, Sim.sSetT, Sim.setAll, Sim.sBreak, Sim.sCont, Sim.sRaiseB, Sim.eIndex, Sim.eGet1, Sim.eGet2, Sim.eChain, Sim.isS_str, Sim.isS_fl, Sim.isS_ref, and_true, true_and, and_self, and_false, false_and, List.set_set, Sim.nl0, Sim.nl1, Sim.nl2, Sim.nl3, Sim.nl4, Sim.nl5, Sim.nl6, Sim.nl7, Sim.nl8, Sim.nl9, Sim.nl10, Sim.nl11, Sim.nl12, Sim.nl13, Sim.nl14, Sim.nl15, Sim.nl16, Sim.nl17, Sim.nl18, Sim.nl19, Sim.nl20, Sim.nl21, Sim.nl22, Sim.nl23, Sim.nl24, Sim.nl25, Sim.ln0, Sim.ln1, Sim.ln2, Sim.ln3, Sim.ln4, Sim.ln5, Sim.ln6, Sim.ln7, Sim.ln8, Sim.ln9, Sim.ln10, Sim.ln11, Sim.ln12, Sim.fMod_i, Sim.fDiv_i, Sim.fIx_t0, Sim.fIx_t1, Sim.fIx_t2, Sim.fIx_t3, Sim.fIx_f0, Sim.fIx_f1, Sim.fIx_f2, Sim.fIx_f3, Sim.pow9, Sim.pow17, Sim.pow18, Sim.pow41, Int.reduceEq, Int.reduceLT, Int.reduceLE, Int.reduceAdd, Int.reduceSub, Int.reduceMul, Int.reduceNeg, Int.reduceNe, eq_self, Int.reduceToNat, not_true_eq_false, not_false_eq_true, *])
/-! the draws: the row, taken -/
namespace Law
open PySem PySem.Spec L2 Sim
structure Row where
  ns : List Int
  i : Int
  c : Int
  m : Int
def rowD (R : Row) : Cell := ⟨.lst [.scr R.ns, .int R.i, .int R.c, .int R.m], false⟩
structure RowOk (R : Row) : Prop where
  i0 : 0 ≤ R.i
  c0 : 0 ≤ R.c
  m0 : 0 ≤ R.m
  m1 : R.m < 2147483647
def mixL : List Int → Int → Int
  | [], m => m
  | n :: ns, m => mixL ns ((m * 48271 + n + 11) % 2147483647)
theorem mixL_ok : ∀ (ns : List Int) (m : Int), 0 ≤ m → m < 2147483647 → 0 ≤ mixL ns m ∧ mixL ns m < 2147483647
  | [], m, h0, h1 => ⟨h0, h1⟩
  | n :: ns, m, h0, h1 => mixL_ok ns _ (Int.emod_nonneg _ (by decide)) (Int.emod_lt_of_pos _ (by decide))
def row0 (ns : List Int) : Row := ⟨ns, 0, 0, mixL ns 7⟩
theorem row0_ok (ns : List Int) : RowOk (row0 ns) := ⟨Int.le_refl _, Int.le_refl _, (mixL_ok ns 7 (by decide) (by decide)).1, (mixL_ok ns 7 (by decide) (by decide)).2⟩
theorem row_loop {x : Option D} : ∀ (ns : List Int) (m : Int) (c : Option D) (S : Store), 0 ≤ m → m < 2147483647 → ∃ c', forL (.one 2) (sSet 1 (e2 fMod (e2 fAdd (e2 fAdd (e2 fMul (eVar 1) (eC (.int 48271))) (eVar 2)) (eC (.int 11))) (eC (.int 2147483647)))) (ns.map D.int) [x, some (.int m), c] S = some (.nx [x, some (.int (mixL ns m)), c'], S)
  | [], m, c, S, h0, h1 => ⟨c, rfl⟩
  | n :: ns, m, c, S, h0, h1 => by
    obtain ⟨c', h⟩ := row_loop ns ((m * 48271 + n + 11) % 2147483647) (some (.int n)) S (Int.emod_nonneg _ (by decide)) (Int.emod_lt_of_pos _ (by decide))
    refine ⟨c', ?_⟩
    rw [List.map_cons, forL]
    walk_at "ev"
    have e1 : fMul (.int m) (.int 48271) S = some (.ok (.int (m * 48271)), S) := by unfold fMul; simp only; rw [if_pos (by omega)]
    simp only [e1, fAdd, fMod]
    walk_at "ev"
    exact h
theorem row_eq (ns : List Int) (S : Store) : m__law_row [.scr ns] S = some (.ok (.ref S.length), S ++ [rowD (row0 ns)]) := by
  unfold m__law_row b__law_row
  walk_at "ev"
  obtain ⟨c', h⟩ := row_loop (x := some (.scr ns)) ns 7 none S (by decide) (by decide)
  simp only [isL_scr, listOf_scr, if_true, forG_all, h]
  walk_at "ev"
  rfl
def tk (R : Row) (k : Int) : Int × Row :=
  if 0 < R.c then (R.c % k, { R with c := R.c / k })
  else if R.i < R.ns.length then
    let z := R.ns.getD R.i.toNat 0
    (z % k, if 1000000000000000000 ≤ z then { R with i := R.i + 1, c := z / k } else { R with i := R.i + 1 })
  else
    let m := (R.m * 48271 + 12345) % 2147483647
    (m / 1009 % k, { R with m := m })
theorem tk_lo {R : Row} {k : Int} (hk : 0 < k) : 0 ≤ (tk R k).1 := by
  unfold tk
  split
  · exact Int.emod_nonneg _ (by omega)
  · split
    · exact Int.emod_nonneg _ (by omega)
    · exact Int.emod_nonneg _ (by omega)
theorem tk_hi {R : Row} {k : Int} (hk : 0 < k) : (tk R k).1 < k := by
  unfold tk
  split
  · exact Int.emod_lt_of_pos _ hk
  · split
    · exact Int.emod_lt_of_pos _ hk
    · exact Int.emod_lt_of_pos _ hk
theorem tk_ok {R : Row} {k : Int} (h : RowOk R) (hk : 0 < k) : RowOk (tk R k).2 := by
  obtain ⟨h1, h2, h3, h4⟩ := h
  unfold tk
  split
  · exact ⟨h1, Int.ediv_nonneg h2 (by omega), h3, h4⟩
  · split
    · simp only
      split
      · exact ⟨by show 0 ≤ R.i + 1; omega, Int.ediv_nonneg (by omega) (by omega), h3, h4⟩
      · exact ⟨by show 0 ≤ R.i + 1; omega, h2, h3, h4⟩
    · exact ⟨h1, h2, Int.emod_nonneg _ (by decide), Int.emod_lt_of_pos _ (by decide)⟩
theorem taken_eq {R : Row} {n : Nat} {S : Store} {k : Int} (hS : S[n]? = some (rowD R)) (h : RowOk R) (h0 : 0 < k) (h1 : k < 1606938044258990275541962092341162602522202993782792835301376) :
    m__law_taken [.ref n, .int k] S = some (.ok (.int (tk R k).1), S.set n (rowD (tk R k).2)) := by
  obtain ⟨hi, hc, hm0, hm1⟩ := h
  have hn : n < S.length := (List.getElem?_eq_some_iff.mp hS).1
  have hS' : S[n]? = some ⟨.lst [.scr R.ns, .int R.i, .int R.c, .int R.m], false⟩ := hS
  have g0 := fIx_ref (i := 0) hS' (by decide) rfl
  have g1 := fIx_ref (i := 1) hS' (by decide) rfl
  have g2 := fIx_ref (i := 2) hS' (by decide) rfl
  have g3 := fIx_ref (i := 3) hS' (by decide) rfl
  have gp : ∀ S, fPow (.int 10) (.int 18) S = some (.ok (.int 1000000000000000000), S) := fun _ => rfl
  have p1 := fun d => putIx_lst (i := 1) (d := d) hS' (by decide) (by simp)
  have p2 := fun d => putIx_lst (i := 2) (d := d) hS' (by decide) (by simp)
  have p3 := fun d => putIx_lst (i := 3) (d := d) hS' (by decide) (by simp)
  have gm : ∀ i S, fMod (.int i) (.int k) S = some (.ok (.int (i % k)), S) := fun i S => fMod_i h0 S
  have gd : ∀ i S, fDiv (.int i) (.int k) S = some (.ok (.int (i / k)), S) := fun i S => fDiv_i h0 h1 S
  unfold m__law_taken b__law_taken tk
  refine fn_rt rfl ?_
  by_cases c1 : 0 < R.c
  · rw [if_pos c1]
    refine seq_rt ?_
    walk_at "ev*"
    rfl
  · rw [if_neg c1]
    refine Eq.trans (seq_nx (by walk_at "ev*"; rfl)) ?_
    by_cases c2 : R.i < R.ns.length
    · have gz : ∀ S, fIx (.scr R.ns) (.int R.i) S = some (.ok (.int (R.ns.getD R.i.toNat 0)), S) := fun S => fIx_scr hi (by
        rw [List.getElem?_eq_getElem (by omega), List.getD_eq_getElem?_getD, List.getElem?_eq_getElem (by omega)]; rfl) S
      rw [if_pos c2]
      refine seq_rt ?_
      have hS1 : (S.set n ⟨.lst [.scr R.ns, .int (R.i + 1), .int R.c, .int R.m], false⟩)[n]? = some ⟨.lst [.scr R.ns, .int (R.i + 1), .int R.c, .int R.m], false⟩ := List.getElem?_set_self hn
      have p2' := fun d => putIx_lst (i := 2) (d := d) hS1 (by decide) (by simp)
      by_cases c3 : 1000000000000000000 ≤ R.ns.getD R.i.toNat 0
      · walk_at "ev*"
        rfl
      · walk_at "ev*"
        rfl
    · rw [if_neg c2]
      refine Eq.trans (seq_nx (by walk_at "ev*"; rfl)) ?_
      have gmul : ∀ S, fMul (.int R.m) (.int 48271) S = some (.ok (.int (R.m * 48271)), S) := fun S => fMul_l (by omega) (by omega) S
      have gmm : ∀ i S, fMod (.int i) (.int 2147483647) S = some (.ok (.int (i % 2147483647)), S) := fun i S => fMod_i (by decide) S
      have gdd : ∀ i S, fDiv (.int i) (.int 1009) S = some (.ok (.int (i / 1009)), S) := fun i S => fDiv_i (by decide) (by decide) S
      refine Eq.trans (seq_nx (by walk_at "ev*"; rfl)) ?_
      have hS1 := List.getElem?_set_self (l := S) (a := (⟨.lst [.scr R.ns, .int R.i, .int R.c, .int ((R.m * 48271 + 12345) % 2147483647)], false⟩ : Cell)) hn
      have g3' := fIx_ref (i := 3) hS1 (by decide) rfl
      walk_at "ev*"
      rfl
def dr (R : Row) (k : Int) : Nat → List Int × Row
  | 0 => ([], R)
  | n + 1 => ((tk R k).1 :: (dr (tk R k).2 k n).1, (dr (tk R k).2 k n).2)
theorem dr_ok {k : Int} (hk : 0 < k) : ∀ (n : Nat) {R : Row}, RowOk R → RowOk (dr R k n).2
  | 0, _, h => h
  | n + 1, _, h => dr_ok hk n (tk_ok h hk)
theorem dr_len {k : Int} : ∀ (n : Nat) {R : Row}, (dr R k n).1.length = n
  | 0, _ => rfl
  | n + 1, _ => by unfold dr; rw [List.length_cons, dr_len n]
theorem dr_in {k : Int} (hk : 0 < k) : ∀ (n : Nat) {R : Row}, ∀ x ∈ (dr R k n).1, 0 ≤ x ∧ x < k
  | 0, _, _, h => nomatch h
  | n + 1, R, x, h => by
    unfold dr at h
    rcases List.mem_cons.mp h with e | e
    · subst e; exact ⟨tk_lo hk, tk_hi hk⟩
    · exact dr_in hk n x e
theorem set_same {S : Store} {n : Nat} {c : Cell} (h : S[n]? = some c) : S.set n c = S := by
  apply List.ext_getElem?
  intro i
  by_cases e : n = i
  · subst e
    rw [List.getElem?_set_self (List.getElem?_eq_some_iff.mp h).1, h]
  · rw [List.getElem?_set_ne e]
theorem comp_dr {id j : Nat} {k : Int} (hk : 0 < k) {e : ME} {l : Sl} (he : ∀ (d : D) (R : Row) (S : Store), S[id]? = some (rowD R) → RowOk R → e (l.set j (some d)) S = some (.ok (.int (tk R k).1), S.set id (rowD (tk R k).2))) :
    ∀ (n : Nat) (lo : Int) (acc : List D) (R : Row) (S : Store), S[id]? = some (rowD R) → RowOk R → acc.length + n ≤ 16777216 →
      compL (.one j) tYes' e l acc (rangeD lo n) S = some (.ok (.fl (acc ++ (dr R k n).1.map D.int)), S.set id (rowD (dr R k n).2))
  | 0, lo, acc, R, S, hS, hR, hl => by
    rw [rangeD_zero, compL]
    show some _ = some (Except.ok (D.fl (acc ++ [])), S.set id (rowD R))
    rw [List.append_nil, set_same hS]
  | n + 1, lo, acc, R, S, hS, hR, hl => by
    rw [rangeD_succ, compL]
    have hn : id < S.length := (List.getElem?_eq_some_iff.mp hS).1
    simp only [tgSet, tYes', bndN, if_true, he _ R S hS hR]
    rw [if_pos (show acc.length < lineN by show _ < 16777216; omega), comp_dr hk he n (lo + 1) (acc ++ [D.int (tk R k).1]) (tk R k).2 _ (List.getElem?_set_self hn) (tk_ok hR hk) (by rw [List.length_append]; simp; omega), List.append_assoc, List.set_set]
    rfl
theorem draw {R : Row} {n : Nat} {S : Store} (k : Int) (hS : S[n]? = some (rowD R)) (o : RowOk R) (h0 : 0 < k) (h1 : k < 1606938044258990275541962092341162602522202993782792835301376) :
    ∃ r R', m__law_taken [.ref n, .int k] S = some (.ok (.int r), S.set n (rowD R')) ∧ RowOk R' ∧ 0 ≤ r ∧ r < k := ⟨_, _, taken_eq hS o h0 h1, tk_ok o h0, tk_lo h0, tk_hi h0⟩
theorem draw0 {R : Row} (k : Int) (o : RowOk R) (h0 : 0 < k) (h1 : k < 1606938044258990275541962092341162602522202993782792835301376) :
    ∃ r R', m__law_taken [.ref 0, .int k] [rowD R] = some (.ok (.int r), [rowD R']) ∧ RowOk R' ∧ 0 ≤ r ∧ r < k := ⟨_, _, taken_eq (S := [rowD R]) rfl o h0 h1, tk_ok o h0, tk_lo h0, tk_hi h0⟩
end Law

/-! signs and texts -/
namespace Law
open PySem PySem.Spec L2 Sim
def SG : List Nat := [32, 33, 34, 35, 36, 38, 39, 40, 41, 42, 43, 44, 45, 46, 47, 48, 49, 50, 51, 52, 53, 54, 55, 56, 57, 58, 59, 60, 61, 62, 63, 64, 65, 66, 67, 68, 69, 70, 71, 72, 73, 74, 75, 76, 77, 78, 79, 80, 81, 82, 83, 84, 85, 86, 87, 88, 89, 90, 91, 92, 93, 94, 95, 96, 97, 98, 99, 100, 101, 102, 103, 104, 105, 106, 107, 108, 109, 110, 111, 112, 113, 114, 115, 116, 117, 118, 119, 120, 121, 122, 123, 124, 125, 126]
def sg : Str := ⟨SG.toArray⟩
theorem SG_len : SG.length = 94 := by decide +kernel
theorem sg_len : sg.length = 94 := by decide +kernel
theorem sg_list : sg.cps.toList = SG := rfl
theorem SIGNS_eq : (" !\"#$&'()*+,-./0123456789:;<=>?@ABCDEFGHIJKLMNOPQRSTUVWXYZ[\\]^_`abcdefghijklmnopqrstuvwxyz{|}~" : Str) = sg := by decide +kernel
theorem SG_lt : ∀ c ∈ SG, c < 128 := by decide +kernel
theorem SG_nd : SG.Nodup := by decide +kernel
def sgc (i : Nat) : Nat := SG.getD i 0
theorem sgc_get {i : Nat} (h : i < 94) : SG[i]? = some (sgc i) := by
  unfold sgc
  rw [List.getD_eq_getElem?_getD, List.getElem?_eq_getElem (by rw [SG_len]; exact h)]
  rfl
theorem sgc_occ : ∀ i < 94, Builtin.Str.occurrences sg ⟨#[sgc i]⟩ 0 sg.length 1 = [i] := by decide +kernel
theorem sgc_inj {i j : Nat} (hi : i < 94) (hj : j < 94) (h : sgc i = sgc j) : i = j := by
  have e1 := sgc_get hi
  have e2 := sgc_get hj
  rw [h] at e1
  exact nd_ix' SG_nd e1 e2
def tx (l : List Nat) : Str := ⟨(l.map sgc).toArray⟩
def Sig (l : List Nat) : Prop := ∀ i ∈ l, i < 94
theorem tx_len (l : List Nat) : (tx l).length = l.length := by unfold tx Str.length; simp
theorem tx_nil : ("" : Str) = tx [] := by decide +kernel
theorem tx_app (l m : List Nat) : tx l ++ tx m = tx (l ++ m) := by
  show Str.append (tx l) (tx m) = _
  unfold Str.append tx
  simp
theorem tx_one {l : List Nat} {i : Nat} : tx l ++ ⟨#[sgc i]⟩ = tx (l ++ [i]) := tx_app l [i]
theorem tx_inj {l m : List Nat} (hl : Sig l) (hm : Sig m) (h : tx l = tx m) : l = m := by
  unfold tx at h
  have h2 : l.map sgc = m.map sgc := by
    have := congrArg (fun s : Str => s.cps.toList) h
    simpa using this
  clear h
  induction l generalizing m with
  | nil => cases m with
    | nil => rfl
    | cons x xs => simp at h2
  | cons x xs ih => cases m with
    | nil => simp at h2
    | cons y ys =>
      rw [List.map_cons, List.map_cons] at h2
      injection h2 with h3 h4
      rw [sgc_inj (hl x List.mem_cons_self) (hm y List.mem_cons_self) h3, ih (fun i h => hl i (List.mem_cons_of_mem _ h)) (fun i h => hm i (List.mem_cons_of_mem _ h)) h4]
theorem tx_ok {l : List Nat} (h : Sig l) : PyData.strOk (tx l) = true := by
  unfold PyData.strOk tx
  rw [← Array.all_toList]
  simp only [List.all_map, List.all_eq_true]
  intro i hi
  have e := sgc_get (h i hi)
  have := SG_lt _ (List.mem_of_getElem? e)
  simp only [Function.comp, decide_eq_true_eq]
  omega
theorem signs_tx (l : List Nat) : signsOf (tx l) = l.map fun i => D.str ⟨#[sgc i]⟩ := by
  unfold signsOf tx
  simp [Function.comp_def]
theorem fIx_sg {i : Int} (h0 : 0 ≤ i) (h1 : i < 94) (S : Store) : fIx (.str sg) (.int i) S = some (.ok (.str ⟨#[sgc i.toNat]⟩), S) :=
  fIx_str (by rw [sg_len]; decide) h0 (by rw [sg_list]; exact sgc_get (by omega)) S
theorem signs_eq (S : Store) : m__law_signs [] S = some (.ok (.str sg), S) := by
  unfold m__law_signs b__law_signs
  refine fn_rt rfl ?_
  have e : fAdd (.str " !\"#$&'()*+,-./0123456789:;<=>?@ABCDEFGHIJKLMNOPQRSTUVWXYZ[\\]^_`") (.str "abcdefghijklmnopqrstuvwxyz{|}~") S = some (.ok (.str sg), S) := by
    rw [fAdd_str (by decide +kernel)]
    have : (" !\"#$&'()*+,-./0123456789:;<=>?@ABCDEFGHIJKLMNOPQRSTUVWXYZ[\\]^_`" : Str) ++ ("abcdefghijklmnopqrstuvwxyz{|}~" : Str) = sg := by decide +kernel
    rw [this]
  walk_at "ev*"
theorem noErr_ok {α : Type} {m : M α} {S S' : Store} {a : α} (h : m S = some (.ok a, S')) : noErr m S = some (.ok a, S') := by unfold noErr; rw [h]
def txl : Int → Int → Nat → Nat → List Nat
  | _, _, _, 0 => []
  | cell, step, k, n + 1 => ((cell + step * k) % 94).toNat :: txl (cell / 94) step (k + 1) n
theorem txl_succ (cell step : Int) (k n : Nat) : txl cell step k (n + 1) = ((cell + step * k) % 94).toNat :: txl (cell / 94) step (k + 1) n := rfl
theorem txl_len : ∀ (n : Nat) (cell step : Int) (k : Nat), (txl cell step k n).length = n
  | 0, _, _, _ => rfl
  | n + 1, cell, step, k => by unfold txl; rw [List.length_cons, txl_len n]
theorem txl_sig : ∀ (n : Nat) (cell step : Int) (k : Nat), Sig (txl cell step k n)
  | 0, _, _, _ => fun _ h => nomatch h
  | n + 1, cell, step, k => fun i h => by
    unfold txl at h
    rcases List.mem_cons.mp h with e | e
    · have := Int.emod_lt_of_pos (cell + step * k) (show (0 : Int) < 94 by decide)
      have := Int.emod_nonneg (cell + step * k) (show (94 : Int) ≠ 0 by decide)
      omega
    · exact txl_sig n _ _ _ i e
def bT : MS := sSeq (sSet 4 (e2 fAdd (eVar 4) (e2 fIx (eVar 2) (e2 fMod (e2 fAdd (eVar 0) (e2 fMul (eVar 3) (eVar 5))) (eC (.int 94)))))) (sSet 0 (e2 fDiv (eVar 0) (eC (.int 94))))
theorem text_loop {step : Int} (hs : 0 ≤ step ∧ step ≤ 7) {x : Option D} : ∀ (n k : Nat) (cell : Int) (acc : List Nat) (o : Option D) (S : Store), acc.length + n ≤ 1000 →
    ∃ c' o', forL (.one 5) bT (rangeD k n) [some (.int cell), x, some (.str sg), some (.int step), some (.str (tx acc)), o] S = some (.nx [some (.int c'), x, some (.str sg), some (.int step), some (.str (tx (acc ++ txl cell step k n))), o'], S)
  | 0, k, cell, acc, o, S, h => ⟨cell, o, by rw [rangeD_zero]; unfold txl; rw [List.append_nil]; rfl⟩
  | n + 1, k, cell, acc, o, S, h => by
    obtain ⟨c', o', ih⟩ := text_loop hs n (k + 1) (cell / 94) (acc ++ [((cell + step * k) % 94).toNat]) (some (.int k)) S (by rw [List.length_append]; simp; omega)
    refine ⟨c', o', ?_⟩
    rw [rangeD_succ]
    have m1 := Int.emod_nonneg (cell + step * k) (show (94 : Int) ≠ 0 by decide)
    have m2 := Int.emod_lt_of_pos (cell + step * k) (show (0 : Int) < 94 by decide)
    have g1 : ∀ S, fMul (.int step) (.int (k : Int)) S = some (.ok (.int (step * k)), S) := fun S => fMul_l (by omega) (by omega) S
    have g2 : ∀ S, fMod (.int (cell + step * k)) (.int 94) S = some (.ok (.int ((cell + step * k) % 94)), S) := fun S => fMod_i (by decide) S
    have g3 : ∀ S, fIx (.str sg) (.int ((cell + step * k) % 94)) S = some (.ok (.str ⟨#[sgc ((cell + step * k) % 94).toNat]⟩), S) := fun S => fIx_sg m1 m2 S
    have g4 : ∀ S, fAdd (.str (tx acc)) (.str ⟨#[sgc ((cell + step * k) % 94).toNat]⟩) S = some (.ok (.str (tx (acc ++ [((cell + step * k) % 94).toNat]))), S) := fun S => by
      rw [fAdd_str (by rw [tx_len]; show acc.length + 1 ≤ _; omega), tx_one]
    have g5 : ∀ S, fDiv (.int cell) (.int 94) S = some (.ok (.int (cell / 94)), S) := fun S => fDiv_i (by decide) (by decide) S
    have e1 : bT [some (.int cell), x, some (.str sg), some (.int step), some (.str (tx acc)), some (.int k)] S = some (.nx [some (.int (cell / 94)), x, some (.str sg), some (.int step), some (.str (tx (acc ++ [((cell + step * k) % 94).toNat]))), some (.int k)], S) := by
      unfold bT
      clear ih
      walk_at "ev*"
    unfold forL
    simp only [tgSet, List.set_cons_succ, List.set_cons_zero, e1]
    have e2 : ((k : Int) + 1) = ((k + 1 : Nat) : Int) := by omega
    rw [e2, ih, txl_succ, List.append_assoc]
    rfl
def tlx (cell : Int) (n : Nat) : List Nat := txl cell (1 + cell % 7) 0 n
theorem tlx_len (cell : Int) (n : Nat) : (tlx cell n).length = n := txl_len _ _ _ _
theorem tlx_sig (cell : Int) (n : Nat) : Sig (tlx cell n) := txl_sig _ _ _ _
end Law

/-! lists of whole numbers, texts told -/
namespace Law
open PySem PySem.Spec L2 Sim
def nD (l : List Nat) : List D := l.map fun i => D.int (i : Nat)
theorem nD_len (l : List Nat) : (nD l).length = l.length := by unfold nD; simp
theorem nD_ints (l : List Nat) : nD l = (l.map fun i => ((i : Nat) : Int)).map D.int := by unfold nD; rw [List.map_map]; rfl
def tn (l : List Nat) : List Int := (l.length : Int) :: l.map fun i => ((i : Nat) : Int)
theorem tn_len (l : List Nat) : (tn l).length = l.length + 1 := by unfold tn; simp
theorem index_sg {i : Nat} (h : i < 94) (S : Store) : fIndexS (.str sg) (.str ⟨#[sgc i]⟩) S = some (.ok (.int (i : Nat)), S) := by
  unfold fIndexS
  simp only [sgc_occ i h]
theorem told_core {l : List Nat} (h : Sig l) (hl : l.length ≤ 1000) (S : Store) {o : ME} (ho : ∀ l S, o l S = some (.ok (.str sg), S)) :
    sRet (e2 fAdd (eLst (aCons (eA (a1 fLen) (aCons (eVar 0) aNil)) aNil)) (eComp [1] (iS (eVar 0)) (.one 1) tYes' (eIndex o (aCons (eVar 1) aNil)))) [some (.str (tx l)), none] S = some (.rt (.fl ((tn l).map D.int)), S) := by
  have g0 : ∀ S, fLen (.str (tx l)) S = some (.ok (.int l.length), S) := fun S => by rw [fLen_str (by rw [tx_len]; omega), tx_len]
  have g1 : eComp [1] (iS (eVar 0)) (.one 1) tYes' (eIndex o (aCons (eVar 1) aNil)) [some (.str (tx l)), none] S = some (.ok (.fl (nD l)), S) := by
    have lp := compL_map (tg := .one 1) (e := eIndex o (aCons (eVar 1) aNil)) (l := [some (.str (tx l)), none]) (S := S) (fun i => D.str ⟨#[sgc i]⟩) (fun i => D.int (i : Nat)) l [] (fun i hi => by
      refine ⟨_, rfl, ?_⟩
      have g2 := fun S => index_sg (h i hi) S
      walk_at "ev*") (by simp; omega)
    rw [← signs_tx] at lp
    rw [eComp_str (z := tx l) (S1 := S) rfl]
    exact lp
  have g3 : ∀ S, fAdd (.fl [.int (l.length : Nat)]) (.fl (nD l)) S = some (.ok (.fl ((tn l).map D.int)), S) := fun S => by
    rw [fAdd_fl (by rw [nD_len]; show 1 + l.length ≤ _; omega)]
    unfold tn
    rw [List.map_cons, ← nD_ints]
    rfl
  have g4 : eLst (aCons (eA (a1 fLen) (aCons (eVar 0) aNil)) aNil) [some (.str (tx l)), none] S = some (.ok (.fl [.int (l.length : Nat)]), S) := by
    clear g1 g3
    walk_at "ev*"
  simp only [sRet, e2, g1, g4, g3, bnd, bndS]
/-! ### whole numbers, lists of them -/
theorem whole_int (i : Int) (S : Store) : m__law_whole [.int i] S = some (.ok (.bl true), S) := by rfl
theorem whole_loop {x y : Option D} : ∀ (ns : List Int) (o : Option D) (S : Store), ∃ o', forL (.one 2) (sIf (tNot (tOf (eA m__law_whole (aCons (eVar 2) aNil)))) (sRet (eC (.bl false))) sNext) (ns.map D.int) [x, y, o] S = some (.nx [x, y, o'], S)
  | [], o, S => ⟨o, rfl⟩
  | n :: ns, o, S => by
    obtain ⟨o', ih⟩ := whole_loop ns (some (.int n)) S
    refine ⟨o', ?_⟩
    rw [List.map_cons, forL]
    have g := fun S => whole_int n S
    have e : sIf (tNot (tOf (eA m__law_whole (aCons (eVar 2) aNil)))) (sRet (eC (.bl false))) sNext [x, y, some (.int n)] S = some (.nx [x, y, some (.int n)], S) := by
      clear ih
      walk_at "ev*"
    simp only [tgSet, List.set_cons_succ, List.set_cons_zero, e]
    exact ih
def inD1 (ns : List Int) : D := .fl (ns.map D.int)
theorem fAdd_in {a b : List Int} (h : a.length + b.length ≤ 16777216) (S : Store) : fAdd (inD1 a) (inD1 b) S = some (.ok (inD1 (a ++ b)), S) := by
  unfold inD1
  rw [fAdd_fl (by rw [List.length_map, List.length_map]; exact h), List.map_append]
end Law

/-! a text read off a list of numbers -/
namespace Law
open PySem PySem.Spec L2 Sim
def xBad : Exn := ⟨2, none⟩
def txAt (ns : List Int) (at_ : Int) : Option (List Nat × Int) :=
  if at_ ≥ ns.length then none else
  let n := ns.getD at_.toNat 0
  if n > 20 ∨ at_ + 1 + n > ns.length then none else
  let xs := (ns.drop (at_ + 1).toNat).take n.toNat
  if xs.all (fun x => decide (x < 94)) = true then some (xs.map Int.toNat, at_ + 1 + n) else none
def bA : MS := sSeq (sIf (tOf (e2 fGe (eVar 4) (eA (a1 fLen) (aCons (eC (.str c_SIGNS)) (aNil))))) (sRaiseB 2) (sNext)) (sSet 3 (e2 fAdd (eVar 3) (e2 fIx (eC (.str c_SIGNS)) (eVar 4))))
theorem at_loop {x y z : Option D} : ∀ (xs : List Int) (acc : List Nat) (o : Option D) (S : Store), (∀ n ∈ xs, 0 ≤ n) → acc.length + xs.length ≤ 1000 →
    (xs.all (fun x => decide (x < 94)) = true ∧ ∃ o', forL (.one 4) bA (xs.map D.int) [x, y, z, some (.str (tx acc)), o] S = some (.nx [x, y, z, some (.str (tx (acc ++ xs.map Int.toNat))), o'], S)) ∨
    (xs.all (fun x => decide (x < 94)) = false ∧ ∃ l', forL (.one 4) bA (xs.map D.int) [x, y, z, some (.str (tx acc)), o] S = some (.ex xBad l', S))
  | [], acc, o, S, _, _ => .inl ⟨rfl, o, by simp only [List.map_nil, List.append_nil]; rfl⟩
  | n :: xs, acc, o, S, h, hl => by
    have hn := h n List.mem_cons_self
    rw [List.length_cons] at hl
    have e0 : c_SIGNS = sg := SIGNS_eq
    have gl : ∀ S, fLen (.str sg) S = some (.ok (.int 94), S) := fun S => by rw [fLen_str (by rw [sg_len]; decide), sg_len]; rfl
    by_cases c : n < 94
    · have g3 : ∀ S, fIx (.str sg) (.int n) S = some (.ok (.str ⟨#[sgc n.toNat]⟩), S) := fun S => fIx_sg hn c S
      have g4 : ∀ S, fAdd (.str (tx acc)) (.str ⟨#[sgc n.toNat]⟩) S = some (.ok (.str (tx (acc ++ [n.toNat]))), S) := fun S => by
        rw [fAdd_str (by rw [tx_len]; show acc.length + 1 ≤ _; omega), tx_one]
      have c' : ¬ (94 : Int) ≤ n := by omega
      have e1 : bA [x, y, z, some (.str (tx acc)), some (.int n)] S = some (.nx [x, y, z, some (.str (tx (acc ++ [n.toNat]))), some (.int n)], S) := by
        unfold bA
        walk_at "ev*"
      have ih := at_loop (x := x) (y := y) (z := z) xs (acc ++ [n.toNat]) (some (.int n)) S (fun m hm => h m (List.mem_cons_of_mem _ hm)) (by rw [List.length_append]; simp; omega)
      have e2 : (n :: xs).all (fun x => decide (x < 94)) = xs.all (fun x => decide (x < 94)) := by rw [List.all_cons]; simp [c]
      rw [e2, List.map_cons, forL]
      simp only [tgSet, List.set_cons_succ, List.set_cons_zero, e1]
      rw [List.append_assoc] at ih
      exact ih
    · refine .inr ⟨by rw [List.all_cons]; simp [c], ?_⟩
      have c' : (94 : Int) ≤ n := by omega
      have e1 : bA [x, y, z, some (.str (tx acc)), some (.int n)] S = some (.ex xBad [x, y, z, some (.str (tx acc)), some (.int n)], S) := by
        unfold bA
        walk_at "ev*"
        rfl
      rw [List.map_cons, forL]
      simp only [tgSet, List.set_cons_succ, List.set_cons_zero, e1]
      exact ⟨_, rfl⟩
theorem getD_mem {ns : List Int} {i : Nat} (h : i < ns.length) : ns[i]? = some (ns.getD i 0) := by
  rw [List.getD_eq_getElem?_getD, List.getElem?_eq_getElem h]; rfl
theorem textAt_eq {ns : List Int} {at_ : Int} (h0 : 0 ≤ at_) (hn : ∀ n ∈ ns, 0 ≤ n) (S : Store) :
    m_text_at [.fl (ns.map D.int), .int at_] S = match txAt ns at_ with
      | some (l, b) => some (.ok (.tup [.str (tx l), .int b]), S)
      | none => some (.error xBad, S) := by
  have gl : ∀ S, fLen (.fl (ns.map D.int)) S = some (.ok (.int ns.length), S) := fun _ => by rw [fLen_fl, List.length_map]
  unfold m_text_at b_text_at txAt
  by_cases c1 : at_ ≥ ns.length
  · rw [if_pos c1]
    have c1' : (ns.length : Int) ≤ at_ := c1
    refine fn_ex (x := xBad) rfl (seq_ex (l' := [some (.fl (ns.map D.int)), some (.int at_), none, none, none]) ?_)
    walk_at "ev*"
    rfl
  · rw [if_neg c1]
    have c1' : ¬ (ns.length : Int) ≤ at_ := c1
    have hi := getD_mem (ns := ns) (i := at_.toNat) (by omega)
    have gx : ∀ S, fIx (.fl (ns.map D.int)) (.int at_) S = some (.ok (.int (ns.getD at_.toNat 0)), S) := fun S => fIx_fl h0 (by rw [List.getElem?_map, hi]; rfl) S
    have hm := hn _ (List.mem_of_getElem? hi)
    generalize ns.getD at_.toNat 0 = n at *
    by_cases c2 : n > 20 ∨ at_ + 1 + n > ns.length
    · simp only
      rw [if_pos c2]
      refine fn_ex (x := xBad) rfl (seq_ex (l' := [some (.fl (ns.map D.int)), some (.int at_), none, none, none]) ?_)
      by_cases c3 : 20 < n
      · walk_at "ev*"
        rfl
      · have c4 : (ns.length : Int) < at_ + 1 + n := by omega
        walk_at "ev*"
        rfl
    · simp only
      rw [if_neg c2]
      have c3 : ¬ 20 < n := by omega
      have c4 : ¬ (ns.length : Int) < at_ + 1 + n := by omega
      have st2 : ∀ (rest : MS), sSeq (sSet 2 (e2 fAdd (e2 fAdd (eVar 1) (eC (.int 1))) (e2 fIx (eVar 0) (eVar 1)))) (sSeq (sSet 3 (eC (.str ""))) rest) [some (.fl (ns.map D.int)), some (.int at_), none, none, none] S = rest [some (.fl (ns.map D.int)), some (.int at_), some (.int (at_ + 1 + n)), some (.str ""), none] S := fun rest => by
        refine Eq.trans (seq_nx (by walk_at "ev*"; rfl)) ?_
        exact seq_nx (by walk_at "ev*")
      have st1 : ∀ (rest : MS), sSeq (sIf (tOr (tOf (e2 fGe (eVar 1) (eA (a1 fLen) (aCons (eVar 0) (aNil))))) (tOr (tOf (e2 fGt (e2 fIx (eVar 0) (eVar 1)) (eC (.int 20)))) (tOf (e2 fGt (e2 fAdd (e2 fAdd (eVar 1) (eC (.int 1))) (e2 fIx (eVar 0) (eVar 1))) (eA (a1 fLen) (aCons (eVar 0) (aNil))))))) (sRaiseB 2) (sNext)) rest ([D.fl (ns.map D.int), .int at_].map some ++ List.replicate (5 - 2) none) S = rest [some (.fl (ns.map D.int)), some (.int at_), none, none, none] S := fun rest => seq_nx (by clear st2; walk_at "ev*")
      have eS : ∀ S, fSl (.fl (ns.map D.int)) (some (at_ + 1)) (some (at_ + 1 + n)) S = some (.ok (.fl (((ns.drop (at_ + 1).toNat).take n.toNat).map D.int)), S) := fun S => by
        show some (Except.ok (D.fl (cutD (ns.map D.int) (some (at_ + 1)) (some (at_ + 1 + n)))), S) = _
        rw [cut_mid (by omega) (by omega) (by rw [List.length_map]; omega), show (at_ + 1 + n).toNat - (at_ + 1).toNat = n.toNat by omega, List.map_take, List.map_drop]
      have hp : ∀ m ∈ (ns.drop (at_ + 1).toNat).take n.toNat, 0 ≤ m := fun m h => hn m (List.mem_of_mem_drop (List.mem_of_mem_take h))
      have hlen : ((ns.drop (at_ + 1).toNat).take n.toNat).length ≤ 20 := by rw [List.length_take]; omega
      generalize (ns.drop (at_ + 1).toNat).take n.toNat = xs at *
      have lp := at_loop (x := some (.fl (ns.map D.int))) (y := some (.int at_)) (z := some (.int (at_ + 1 + n))) xs [] none S hp (by simp; omega)
      rw [← tx_nil] at lp
      have fo : sFor (iL (eSl (eVar 0) (oSo (e2 fAdd (eVar 1) (eC (.int 1)))) (oSo (eVar 2)))) (.one 4) bA [some (.fl (ns.map D.int)), some (.int at_), some (.int (at_ + 1 + n)), some (.str ""), none] S =
          forL (.one 4) bA (xs.map D.int) [some (.fl (ns.map D.int)), some (.int at_), some (.int (at_ + 1 + n)), some (.str ""), none] S := sFor_fl (by
        clear lp st1 st2
        walk_at "ev*")
      rcases lp with ⟨ha, o', lp⟩ | ⟨ha, l', lp⟩
      · rw [if_pos ha]
        refine fn_rt rfl ?_
        rw [st1, st2]
        refine Eq.trans (seq_nx (fo.trans lp)) ?_
        clear lp fo st1 st2
        walk_at "ev*"
      · rw [if_neg (by rw [ha]; decide)]
        refine fn_ex (l := l') rfl ?_
        rw [st1, st2]
        exact seq_ex (fo.trans lp)
theorem fIx_in {ns : List Int} {i : Int} (h0 : 0 ≤ i) (h1 : i < ns.length) (S : Store) : fIx (inD1 ns) (.int i) S = some (.ok (.int (ns.getD i.toNat 0)), S) :=
  fIx_fl h0 (by rw [List.getElem?_map, getD_mem (by omega)]; rfl) S
theorem fLen_in (ns : List Int) (S : Store) : fLen (inD1 ns) S = some (.ok (.int ns.length), S) := by unfold inD1; rw [fLen_fl, List.length_map]
end Law

/-! law k02 -/
namespace Law
open PySem PySem.Spec L2 Sim
theorem cut_pre (xs : List Int) (h : Int) : ∃ j, cutD (xs.map D.int) none (some h) = (xs.take j).map D.int ∧ ((xs.length : Int) ≤ h → xs.take j = xs) := by
  refine ⟨HT.sIx (xs.map D.int).length (xs.map D.int).length (some h), ?_, fun hh => ?_⟩
  · show ((xs.map D.int).drop 0).take (_ - 0) = _
    rw [List.drop_zero, Nat.sub_zero, List.map_take]
  · apply List.take_of_length_le
    unfold HT.sIx
    rw [List.length_map]
    simp only
    split <;> omega
theorem found_eq {ns : List Int} {i : Int} (h0 : 0 ≤ i) (hn : ∀ n ∈ ns, 0 ≤ n) (S : Store) : m__law_found [inD1 ns, .int i] S = some (.ok (match txAt ns i with
    | some (l, e) => .tup [.str (tx l), .int e]
    | none => .non), S) := by
  have t := textAt_eq h0 hn S
  unfold m__law_found b__law_found
  cases h : txAt ns i with
  | some v =>
    obtain ⟨l, e⟩ := v
    rw [h] at t
    refine fn_rt rfl (seq_rt ?_)
    show sTry _ _ _ _ [some (inD1 ns), some (.int i), none] S = _
    have e1 : sRet (eA m_text_at (aCons (eVar 0) (aCons (eVar 1) (aNil)))) [some (inD1 ns), some (.int i), none] S = some (.rt (.tup [.str (tx l), .int e]), S) := by
      replace t : m_text_at [inD1 ns, .int i] S = some (.ok (.tup [.str (tx l), .int e]), S) := t
      clear hn h
      walk_at "ev*"
    unfold sTry
    rw [e1]
  | none =>
    rw [h] at t
    refine fn_rt rfl (seq_rt ?_)
    show sTry _ _ _ _ [some (inD1 ns), some (.int i), none] S = _
    have e1 : sRet (eA m_text_at (aCons (eVar 0) (aCons (eVar 1) (aNil)))) [some (inD1 ns), some (.int i), none] S = some (.ex xBad [some (inD1 ns), some (.int i), none], S) := by
      replace t : m_text_at [inD1 ns, .int i] S = some (.error xBad, S) := t
      clear hn h
      walk_at "ev*"
    unfold sTry
    rw [e1]
    rfl
theorem join_tx : ∀ B : List Nat, Txt.join "" (B.map fun n => tx [n]) = tx B := by
  intro B
  rw [TL.join_eq]
  induction B with
  | nil => exact tx_nil
  | cons n t ih =>
    cases t with
    | nil => rfl
    | cons m r =>
      show tx [n] ++ "" ++ PySem.Str.join "" ((m :: r).map fun n => tx [n]) = _
      rw [ih, tx_nil, tx_app, tx_app]
      rfl
theorem strs_tx : ∀ B : List Nat, strsOf (B.map fun n => D.str (tx [n])) = some (B.map fun n => tx [n])
  | [] => rfl
  | n :: t => by rw [List.map_cons]; unfold strsOf; rw [strs_tx t]; rfl
theorem join_eq {B : List Nat} (h : B.length ≤ 1000) (S : Store) : fJoin (.str "") (.fl (B.map fun n => D.str (tx [n]))) S = some (.ok (.str (tx B)), S) := by
  unfold fJoin
  rw [listOf_fl]
  simp only [strs_tx]
  have hs : ((B.map fun n => tx [n]).map (·.length)).sum = B.length := by
    rw [List.map_map]
    clear h
    induction B with
    | nil => rfl
    | cons n t ih => rw [List.map_cons, List.sum_cons, ih, List.length_cons]; show (tx [n]).length + _ = _; rw [tx_len]; simp; omega
  have h0 : ("" : Str).length = 0 := by decide +kernel
  rw [if_pos (by rw [hs, h0]; omega), join_tx]
def bG : MS := sSet 7 (eAnd (eVar 7) (e2 fLe (eVar 8) (eC (.int 93))))
theorem and_step {g : Bool} {n : Int} {o1 o2 o3 o4 o5 o6 o0 o9 o10 o11 : Option D} (S : Store) : bG [o0, o1, o2, o3, o4, o5, o6, some (.bl g), some (.int n), o9, o10, o11] S = some (.nx [o0, o1, o2, o3, o4, o5, o6, some (.bl (g && decide (n ≤ 93))), some (.int n), o9, o10, o11], S) := by
  unfold bG
  cases g with
  | false => rfl
  | true => rw [Bool.true_and]; walk_at "ev*"
theorem good_loop {o1 o2 o3 o4 o5 o6 o0 o9 o10 o11 : Option D} : ∀ (B : List Int) (g : Bool) (o : Option D) (S : Store), ∃ o', forL (.one 8) bG (B.map D.int) [o0, o1, o2, o3, o4, o5, o6, some (.bl g), o, o9, o10, o11] S = some (.nx [o0, o1, o2, o3, o4, o5, o6, some (.bl (g && B.all (fun n => decide (n ≤ 93)))), o', o9, o10, o11], S)
  | [], g, o, S => ⟨o, by rw [List.map_nil, forL, List.all_nil, Bool.and_true]⟩
  | n :: B, g, o, S => by
    obtain ⟨o', ih⟩ := good_loop (o1 := o1) (o2 := o2) (o3 := o3) (o4 := o4) (o5 := o5) (o6 := o6) (o0 := o0) (o9 := o9) (o10 := o10) (o11 := o11) B (g && decide (n ≤ 93)) (some (.int n)) S
    refine ⟨o', ?_⟩
    rw [List.map_cons, forL]
    simp only [tgSet, List.set_cons_succ, List.set_cons_zero, and_step]
    rw [ih, List.all_cons, Bool.and_assoc]
theorem txAt_made (A B : List Int) (sz : Int) (h0 : 0 ≤ sz) (hB : ∀ n ∈ B, 0 ≤ n) (hl : (B.length : Int) ≤ sz) : txAt (A ++ [sz] ++ B) A.length =
    if (decide ((A.length : Int) + 1 + sz ≤ ((A ++ [sz] ++ B).length : Nat)) && decide (sz ≤ 20) && B.all (fun n => decide (n ≤ 93))) = true then some (B.map Int.toNat, (((A ++ [sz] ++ B).length : Nat) : Int)) else none := by
  have hlen : (A ++ [sz] ++ B).length = A.length + 1 + B.length := by rw [List.length_append, List.length_append]; rfl
  unfold txAt
  have e1 : (A ++ [sz] ++ B).getD ((A.length : Nat) : Int).toNat 0 = sz := by
    rw [Int.toNat_natCast, List.getD_eq_getElem?_getD, List.append_assoc, List.getElem?_append_right (Nat.le_refl _), Nat.sub_self]
    rfl
  rw [if_neg (by rw [hlen]; omega)]
  simp only [e1]
  by_cases c : sz > 20 ∨ (A.length : Int) + 1 + sz > ((A ++ [sz] ++ B).length : Nat)
  · rw [if_pos c, if_neg]
    rw [hlen] at c ⊢
    simp only [Bool.and_eq_true, decide_eq_true_eq, not_and]
    intro h
    omega
  · rw [if_neg c]
    have e2 : ((A ++ [sz] ++ B).drop ((A.length : Int) + 1).toNat).take sz.toNat = B := by
      rw [show ((A.length : Int) + 1).toNat = (A ++ [sz]).length by rw [List.length_append]; show _ = A.length + 1; omega, List.drop_left, List.take_of_length_le (by omega)]
    have e3 : B.all (fun x => decide (x < 94)) = B.all (fun n => decide (n ≤ 93)) := by
      congr 1
      funext n
      exact decide_eq_decide.mpr (by omega)
    have e4 : (A.length : Int) + 1 + sz = ((A ++ [sz] ++ B).length : Nat) := by rw [hlen] at c ⊢; omega
    rw [e2, e3]
    have d1 : decide ((A.length : Int) + 1 + sz ≤ ((A ++ [sz] ++ B).length : Nat)) = true := decide_eq_true (by omega)
    have d2 : decide (sz ≤ 20) = true := decide_eq_true (by omega)
    rw [d1, d2, Bool.true_and, Bool.true_and, e4]
theorem txAt_short (A : List Int) : txAt A A.length = none := by unfold txAt; rw [if_pos (by omega)]
theorem eqD_pair {s t : Str} {i j : Int} (S : Store) (h1 : PyData.strOk s = true) (h2 : PyData.strOk t = true) : eqD (.tup [.str s, .int i]) (.tup [.str t, .int j]) S = some (decide (s = t) && decide (i = j)) := by
  have sh : ∀ (s : Str) (i : Int), PyData.strOk s = true → SeqAt.shaped (.tuple [.str s, .int i]) = true := fun s i h => by
    unfold SeqAt.shaped PyData.canLay0 PyData.canLayAll0 PyData.depth
    simp [PyData.canLay0, PyData.canLayAll0, PyData.depthAll, PyData.depth, h]
  rw [eqD_of (a := .tup [.str s, .int i]) (b := .tup [.str t, .int j]) (x := .tuple [.str s, .int i]) (y := .tuple [.str t, .int j]) rfl rfl (by show 2 ≤ 8; decide) (by show 2 ≤ 8; decide) (sh s i h1) (sh t j h2)]
  show some ((s == t) && ((i == j) && true)) = _
  rw [Bool.and_true]
  by_cases c : s = t <;> by_cases c' : i = j <;> simp [c, c']
def sl (ns : List Int) (o2 o3 o4 o5 o6 o7 o8 o9 o10 : Option D) : Sl := [some (.scr ns), some (.ref 0), o2, o3, o4, o5, o6, o7, o8, o9, o10, none]
theorem draws {R R' : Row} {n k : Int} {ns : List Int} {o2 o3 o4 o5 : Option D} {src : ME} {ke : ME} (hk : 0 < k) (hk1 : k < 1606938044258990275541962092341162602522202993782792835301376) (o' : RowOk R') (n1 : n < 1000) (n0 : -1000 < n)
    (hs : src (sl ns o2 o3 o4 o5 none none none none none) [rowD R] = some (.ok (.int n), [rowD R'])) (hke : ∀ d S, ke ((sl ns o2 o3 o4 o5 none none none none none).set 11 (some d)) S = some (.ok (.int k), S)) :
    ∃ (A : List Int) (R2 : Row), RowOk R2 ∧ A.length = n.toNat ∧ (∀ x ∈ A, 0 ≤ x ∧ x < k) ∧
      eComp [11] (iR1 src) (.one 11) (tYes') (eA m__law_taken (aCons (eVar 1) (aCons ke (aNil)))) (sl ns o2 o3 o4 o5 none none none none none) [rowD R] = some (.ok (inD1 A), [rowD R2]) := by
  refine ⟨(dr R' k n.toNat).1, (dr R' k n.toNat).2, dr_ok hk _ o', dr_len _, dr_in hk _, ?_⟩
  rw [eComp_r1 (n := n) (S1 := [rowD R']) hs (by omega) (by omega)]
  exact comp_dr (id := 0) (k := k) hk (fun d R S hS hR => by
    have t := taken_eq (n := 0) hS hR (k := k) hk hk1
    have h := hke d S
    show eA m__law_taken (aCons (eVar 1) (aCons ke (aNil))) ((sl ns o2 o3 o4 o5 none none none none none).set 11 (some d)) S = _
    have h1 : eVar 1 ((sl ns o2 o3 o4 o5 none none none none none).set 11 (some d)) S = some (.ok (.ref 0), S) := rfl
    simp only [eA, aCons, aNil, bnd, h, h1, t]) n.toNat 0 [] R' [rowD R'] rfl o' (by simp; omega)
theorem law_true : LawTrue m_law := by
  intro ns hns
  have gr : ∀ S, m__law_row [.scr ns] S = some (.ok (.ref S.length), S ++ [rowD (row0 ns)]) := fun S => row_eq ns S
  replace gr : m__law_row [.scr ns] [] = some (.ok (.ref 0), [rowD (row0 ns)]) := gr []
  have o0 := row0_ok ns
  generalize row0 ns = R0 at *
  obtain ⟨a, R1, t1, o1, a0', a1'⟩ := draw0 22 o0 (by decide) (by decide)
  obtain ⟨b, R2, t2, o2, b0', b1'⟩ := draw0 256 o1 (by decide) (by decide)
  obtain ⟨i, R3, t3, o3, i0, i1⟩ := draw0 2 o2 (by decide) (by decide)
  obtain ⟨sz, gsz, z0, z1⟩ : ∃ sz, (∀ S, fIx (.fl [.int a, .int b]) (.int i) S = some (.ok (.int sz), S)) ∧ 0 ≤ sz ∧ sz < 256 := by
    have : i = 0 ∨ i = 1 := by omega
    rcases this with rfl | rfl
    · exact ⟨a, fun S => fIx_f0 _ _ S, a0', by omega⟩
    · exact ⟨b, fun S => fIx_f1 _ _ _ S, b0', by omega⟩
  obtain ⟨j, R4, t4, o4, j0, j1⟩ := draw0 2 o3 (by decide) (by decide)
  obtain ⟨mo, gmo, y0, y1⟩ : ∃ mo, (∀ S, fIx (.fl [.int 94, .int 96]) (.int j) S = some (.ok (.int mo), S)) ∧ 0 < mo ∧ mo ≤ 96 := by
    have : j = 0 ∨ j = 1 := by omega
    rcases this with rfl | rfl
    · exact ⟨94, fun S => fIx_f0 _ _ S, by decide, by decide⟩
    · exact ⟨96, fun S => fIx_f1 _ _ _ S, by decide, by decide⟩
  obtain ⟨n, R5, t5, o5, n0, n1⟩ := draw0 4 o4 (by decide) (by decide)
  obtain ⟨A, R6, o6, hA, hA0, cA⟩ := draws (R := R4) (n := n) (k := 256) (ns := ns) (o2 := some (.int sz)) (o3 := some (.int mo)) (o4 := none) (o5 := none) (src := eA m__law_taken (aCons (eVar 1) (aCons (eC (.int 4)) (aNil)))) (ke := eC (.int 256)) (by decide) (by decide) o5 (by omega) (by omega) (by unfold sl; clear gr t1 t2 t3 t4 gsz gmo; walk_at "ev*") (fun _ _ => rfl)
  have gmin : ∀ S, fMin2 (.int sz) (.int 24) S = some (.ok (.int (if 24 < sz then 24 else sz)), S) := fun _ => rfl
  have hmin : (if 24 < sz then 24 else sz) ≤ 24 ∧ (if 24 < sz then 24 else sz) ≤ sz ∧ 0 ≤ (if 24 < sz then 24 else sz) := by split <;> omega
  generalize (if 24 < sz then (24 : Int) else sz) = mi at *
  obtain ⟨B0, R7, o7, hB, hB0, cB⟩ := draws (R := R6) (R' := R6) (n := mi) (k := mo) (ns := ns) (o2 := some (.int sz)) (o3 := some (.int mo)) (o4 := some (inD1 A)) (o5 := none) (src := eA (a2 fMin2) (aCons (eVar 2) (aCons (eC (.int 24)) (aNil)))) (ke := eVar 3) y0 (by omega) o6 (by omega) (by omega) (by unfold sl; clear gr t1 t2 t3 t4 t5 gsz gmo cA; walk_at "ev*") (fun _ _ => rfl)
  -- the cut
  obtain ⟨d, R8, t8, o8, d0, d1⟩ := draw0 3 o7 (by decide) (by decide)
  have gB0 := fLen_in B0
  obtain ⟨B, R9, o9, hBs, hBl, s5⟩ : ∃ (B : List Int) (R9 : Row), RowOk R9 ∧ (∀ x ∈ B, x ∈ B0) ∧ B.length ≤ B0.length ∧
      sIf (tOf (e2 fEq (eA m__law_taken (aCons (eVar 1) (aCons (eC (.int 3)) (aNil)))) (eC (.int 1)))) (sSet 5 (eSl (eVar 5) oNo (oSo (e2 fSub (e2 fSub (eA (a1 fLen) (aCons (eVar 5) (aNil))) (eC (.int 1))) (eA m__law_taken (aCons (eVar 1) (aCons (eC (.int 3)) (aNil)))))))) (sNext) (sl ns (some (.int sz)) (some (.int mo)) (some (inD1 A)) (some (inD1 B0)) none none none none none) [rowD R7] = some (.nx (sl ns (some (.int sz)) (some (.int mo)) (some (inD1 A)) (some (inD1 B)) none none none none none), [rowD R9]) := by
    by_cases c : d = 1
    · obtain ⟨d', R9, t9, o9, d0', d1'⟩ := draw0 3 o8 (by decide) (by decide)
      obtain ⟨q, hq, _⟩ := cut_pre B0 ((B0.length : Nat) - 1 - d')
      have gs : ∀ S, fSl (inD1 B0) none (some ((B0.length : Nat) - 1 - d')) S = some (.ok (inD1 (B0.take q)), S) := fun S => by
        show some (Except.ok (D.fl (cutD (B0.map D.int) none _)), S) = _
        rw [hq]
        rfl
      refine ⟨B0.take q, R9, o9, fun x hx => List.mem_of_mem_take hx, by rw [List.length_take]; omega, ?_⟩
      unfold sl
      subst c
      clear gr t1 t2 t3 t4 t5 gsz gmo cA cB gmin hmin hA hB hA0 hB0 hq o0 o1 o2 o3 o4 o5 o6 o7 o8 o9
      generalize ((B0.length : Nat) : Int) = L at *
      walk_at "ev*"
    · refine ⟨B0, R8, o8, fun x hx => hx, Nat.le_refl _, ?_⟩
      unfold sl
      clear gr t1 t2 t3 t4 t5 gsz gmo cA cB gmin hmin hA hB hA0 hB0 o0 o1 o2 o3 o4 o5 o6 o7 o8
      walk_at "ev*"
  have hBz : (B.length : Int) ≤ sz := by omega
  have hBn : ∀ x ∈ B, 0 ≤ x := fun x hx => (hB0 x (hBs x hx)).1
  have hAl : A.length ≤ 4 := by omega
  have hBl2 : B.length ≤ 24 := by omega
  have f1 : ∀ S, fAdd (inD1 A) (.fl [.int sz]) S = some (.ok (inD1 (A ++ [sz])), S) := fun S => fAdd_in (b := [sz]) (by simp; omega) S
  have f2 : ∀ S, fAdd (inD1 (A ++ [sz])) (inD1 B) S = some (.ok (inD1 (A ++ [sz] ++ B)), S) := fun S => fAdd_in (by rw [List.length_append]; simp; omega) S
  obtain ⟨e, R10, t10, o10, e0, e1'⟩ := draw0 6 o9 (by decide) (by decide)
  obtain ⟨N, hN, s7⟩ : ∃ N, ((e = 1 ∧ N = A) ∨ (e ≠ 1 ∧ N = A ++ [sz] ++ B)) ∧ sIf (tOf (e2 fEq (eA m__law_taken (aCons (eVar 1) (aCons (eC (.int 6)) (aNil)))) (eC (.int 1)))) (sSet 6 (eVar 4)) (sNext) (sl ns (some (.int sz)) (some (.int mo)) (some (inD1 A)) (some (inD1 B)) (some (inD1 (A ++ [sz] ++ B))) none none none none) [rowD R9] = some (.nx (sl ns (some (.int sz)) (some (.int mo)) (some (inD1 A)) (some (inD1 B)) (some (inD1 N)) none none none none), [rowD R10]) := by
    by_cases c : e = 1
    · refine ⟨A, .inl ⟨c, rfl⟩, ?_⟩
      unfold sl
      subst c
      clear gr t1 t2 t3 t4 t5 gsz gmo cA cB gmin hmin hA hB hA0 hB0 s5 f1 f2 hBs hBn o0 o1 o2 o3 o4 o5 o6 o7 o8 o9 o10
      walk_at "ev*"
    · refine ⟨A ++ [sz] ++ B, .inr ⟨c, rfl⟩, ?_⟩
      unfold sl
      clear gr t1 t2 t3 t4 t5 gsz gmo cA cB gmin hmin hA hB hA0 hB0 s5 f1 f2 hBs hBn o0 o1 o2 o3 o4 o5 o6 o7 o8 o9 o10
      generalize inD1 (A ++ [sz] ++ B) = Y at *
      walk_at "ev*"
  have gN := fLen_in N
  have gA := fLen_in A
  have gB := fLen_in B
  have hge : ∀ i j S, fGe (.int i) (.int j) S = some (.ok (.bl (decide (i ≥ j))), S) := fun _ _ _ => rfl
  have hle : ∀ i j S, fLe (.int i) (.int j) S = some (.ok (.bl (decide (i ≤ j))), S) := fun _ _ _ => rfl
  -- what is good
  have s8 : sSet 7 (eAnd (e2 fGe (eA (a1 fLen) (aCons (eVar 6) (aNil))) (e2 fAdd (e2 fAdd (eA (a1 fLen) (aCons (eVar 4) (aNil))) (eC (.int 1))) (eVar 2))) (e2 fLe (eVar 2) (eC (.int 20)))) (sl ns (some (.int sz)) (some (.int mo)) (some (inD1 A)) (some (inD1 B)) (some (inD1 N)) none none none none) [rowD R10] = some (.nx (sl ns (some (.int sz)) (some (.int mo)) (some (inD1 A)) (some (inD1 B)) (some (inD1 N)) (some (.bl (decide ((A.length : Int) + 1 + sz ≤ (N.length : Nat)) && decide (sz ≤ 20)))) none none none), [rowD R10]) := by
    unfold sl
    clear gr t1 t2 t3 t4 t5 gsz gmo cA cB gmin hmin hA hB hA0 hB0 s5 s7 f1 f2 hBs hBn t8 t10 gB gB0 hN o0 o1 o2 o3 o4 o5 o6 o7 o8 o9 o10 hge hle hBz hBl hBl2 hAl
    generalize ((A.length : Nat) : Int) = u at *
    generalize ((N.length : Nat) : Int) = w at *
    by_cases c : u + 1 + sz ≤ w
    · rw [decide_eq_true c, Bool.true_and]
      walk_at "ev*"
    · rw [decide_eq_false c, Bool.false_and]
      walk_at "ev*"
  obtain ⟨q, hq, hq2⟩ := cut_pre B sz
  have gs : ∀ S, fSl (inD1 B) none (some sz) S = some (.ok (.fl (B.map D.int)), S) := fun S => by
    show some (Except.ok (D.fl (cutD (B.map D.int) none _)), S) = _
    rw [hq, hq2 hBz]
  generalize hg0 : (decide ((A.length : Int) + 1 + sz ≤ (N.length : Nat)) && decide (sz ≤ 20)) = g0 at *
  obtain ⟨o', lp⟩ := good_loop (o0 := some (.scr ns)) (o1 := some (.ref 0)) (o2 := some (.int sz)) (o3 := some (.int mo)) (o4 := some (inD1 A)) (o5 := some (inD1 B)) (o6 := some (inD1 N)) (o9 := none) (o10 := none) (o11 := none) B g0 none [rowD R10]
  have s9 : sFor (iL (eSl (eVar 5) oNo (oSo (eVar 2)))) (.one 8) bG (sl ns (some (.int sz)) (some (.int mo)) (some (inD1 A)) (some (inD1 B)) (some (inD1 N)) (some (.bl g0)) none none none) [rowD R10] = some (.nx (sl ns (some (.int sz)) (some (.int mo)) (some (inD1 A)) (some (inD1 B)) (some (inD1 N)) (some (.bl (g0 && B.all (fun n => decide (n ≤ 93))))) o' none none), [rowD R10]) :=
    (sFor_fl (ds := B.map D.int) (S1 := [rowD R10]) (by
      unfold sl
      clear gr t1 t2 t3 t4 t5 gsz gmo cA cB gmin hmin hA hB hA0 hB0 s5 s7 s8 f1 f2 hBs hBn t8 t10 gB gB0 gN gA hN o0 o1 o2 o3 o4 o5 o6 o7 o8 o9 o10 hge hle hBz hBl hBl2 hAl hg0 lp hq hq2
      walk_at "ev*")).trans lp
  have hNn : ∀ x ∈ N, 0 ≤ x := fun x hx => by
    have hab : ∀ x ∈ A ++ [sz] ++ B, 0 ≤ x := fun x hx => by
      rcases List.mem_append.mp hx with h | h
      · rcases List.mem_append.mp h with h | h
        · exact (hA0 x h).1
        · rw [List.mem_singleton.mp h]; exact z0
      · exact hBn x h
    rcases hN with ⟨_, rfl⟩ | ⟨_, rfl⟩
    · exact (hA0 x hx).1
    · exact hab x hx
  have gf := found_eq (ns := N) (i := (A.length : Nat)) (by omega) hNn
  have hT : txAt N A.length = if (g0 && B.all (fun n => decide (n ≤ 93))) = true then some (B.map Int.toNat, ((N.length : Nat) : Int)) else none := by
    rcases hN with ⟨_, rfl⟩ | ⟨_, rfl⟩
    · have : g0 = false := by rw [← hg0, decide_eq_false (by omega), Bool.false_and]
      rw [txAt_short, this, Bool.false_and, if_neg (by decide)]
    · rw [txAt_made A B sz z0 hBn hBz, ← hg0]
  rw [hT] at gf
  generalize hgg : (g0 && B.all (fun n => decide (n ≤ 93))) = g at *
  have isN : ∀ S, fIs .non .non S = some (.ok (.bl true), S) := fun _ => rfl
  have post : (sSeq (sSet 9 (eA m__law_found (aCons (eVar 6) (aCons (eA (a1 fLen) (aCons (eVar 4) (aNil))) (aNil)))))
      (sSeq (sIf (tNot (tOf (eVar 7))) (sRet (e2 fIs (eVar 9) (eC (.non)))) (sNext))
      (sSeq (sSet 10 (eBM isS (m1 fJoin) (eC (.str "")) (aCons (eComp [8] (iL (eVar 5)) (.one 8) (tYes') (e2 fIx (eA (fun ds => noErr (m__law_signs ds)) aNil) (eVar 8))) (aNil))))
      (sRet (eAnd (e2 fEq (eVar 9) (eTup (aCons (eVar 10) (aCons (eA (a1 fLen) (aCons (eVar 6) (aNil))) (aNil))))) (eAnd (e1 (fIsi "str") (e2 fIx (eVar 9) (eC (.int 0)))) (eA m__law_whole (aCons (e2 fIx (eVar 9) (eC (.int 1))) (aNil))))))))) (sl ns (some (.int sz)) (some (.int mo)) (some (inD1 A)) (some (inD1 B)) (some (inD1 N)) (some (.bl g)) o' none none) [rowD R10] = some (.rt (.bl true), [rowD R10]) := by
    cases g with
    | false =>
      rw [if_neg (by decide)] at gf
      simp only at gf
      clear gr t1 t2 t3 t4 t5 gsz gmo cA cB gmin hmin hA hB hA0 hB0 s5 s7 s8 s9 f1 f2 hBs hBn t8 t10 gB gB0 gN hN o0 o1 o2 o3 o4 o5 o6 o7 o8 o9 o10 hge hle hBz hBl hBl2 hAl hg0 lp hq hq2 gs hT hgg hNn
      refine Eq.trans (seq_nx (S' := [rowD R10]) (l' := sl ns (some (.int sz)) (some (.int mo)) (some (inD1 A)) (some (inD1 B)) (some (inD1 N)) (some (.bl false)) o' (some .non) none) (by unfold sl; walk_at "ev*")) ?_
      refine seq_rt ?_
      unfold sl
      clear gf gA
      walk_at "ev*"
    | true =>
      rw [if_pos rfl] at gf
      simp only at gf
      have hB93 : ∀ x ∈ B, x < 94 := fun x hx => by
        have h2 : B.all (fun n => decide (n ≤ 93)) = true := by
          cases g0 with
          | false => rw [Bool.false_and] at hgg; cases hgg
          | true => rw [Bool.true_and] at hgg; exact hgg
        have := of_decide_eq_true (List.all_eq_true.mp h2 x hx)
        omega
      have hSig : Sig (B.map Int.toNat) := fun i hi => by
        obtain ⟨x, hx, rfl⟩ := List.mem_map.mp hi
        have := hB93 x hx; have := hBn x hx
        omega
      have c1 : ∀ l S, l = sl ns (some (.int sz)) (some (.int mo)) (some (inD1 A)) (some (inD1 B)) (some (inD1 N)) (some (.bl true)) o' (some (.tup [.str (tx (B.map Int.toNat)), .int (N.length : Nat)])) none → eComp [8] (iL (eVar 5)) (.one 8) (tYes') (e2 fIx (eA (fun ds => noErr (m__law_signs ds)) aNil) (eVar 8)) l S = some (.ok (.fl ((B.map Int.toNat).map fun n => D.str (tx [n]))), S) := fun l S hl => by
        subst hl
        rw [eComp_fl (ds := B.map D.int) (S1 := S) rfl, List.map_map]
        refine (compL_map D.int (fun n => D.str (tx [n.toNat])) B [] (fun n hn => ⟨_, rfl, ?_⟩) (by simp; omega))
        have g := fun S => noErr_ok (signs_eq S)
        have g2 := fun S => fIx_sg (hBn n hn) (hB93 n hn) S
        have g3 : tx [n.toNat] = ⟨#[sgc n.toNat]⟩ := rfl
        rw [g3]
        unfold sl
        clear gr t1 t2 t3 t4 t5 gsz gmo cA cB gmin hmin hA hB hA0 hB0 s5 s7 s8 s9 f1 f2 hBs hBn t8 t10 gB gB0 gN hN o0 o1 o2 o3 o4 o5 o6 o7 o8 o9 o10 hge hle hBz hBl hBl2 hAl hg0 lp hq hq2 gs hT hgg hNn hB93 hSig gf gA hn g3
        walk_at "ev*"
      have gj := fun S => join_eq (B := B.map Int.toNat) (by rw [List.length_map]; omega) S
      generalize B.map Int.toNat = T at *
      have ge : ∀ S, fEq (.tup [.str (tx T), .int ((N.length : Nat) : Int)]) (.tup [.str (tx T), .int ((N.length : Nat) : Int)]) S = some (.ok (.bl true), S) := fun S => by unfold fEq; rw [eqD_pair S (tx_ok hSig) (tx_ok hSig)]; simp
      have gi : ∀ z S, fIsi "str" (.str z) S = some (.ok (.bl true), S) := fun _ _ => rfl
      have gw : ∀ i S, m__law_whole [.int i] S = some (.ok (.bl true), S) := fun i S => whole_int i S
      clear gr t1 t2 t3 t4 t5 gsz gmo cA cB gmin hmin hA hB hA0 hB0 s5 s7 s8 s9 f1 f2 hBs hBn t8 t10 gB gB0 hN o0 o1 o2 o3 o4 o5 o6 o7 o8 o9 o10 hge hle hBz hBl hBl2 hAl hg0 lp hq hq2 gs hT hgg hNn hB93 hSig
      refine Eq.trans (seq_nx (S' := [rowD R10]) (l' := sl ns (some (.int sz)) (some (.int mo)) (some (inD1 A)) (some (inD1 B)) (some (inD1 N)) (some (.bl true)) o' (some (.tup [.str (tx T), .int (N.length : Nat)])) none) (by unfold sl; clear c1 gj ge gi gw gN isN; walk_at "ev*")) ?_
      clear gf
      refine Eq.trans (seq_nx (S' := [rowD R10]) (l' := sl ns (some (.int sz)) (some (.int mo)) (some (inD1 A)) (some (inD1 B)) (some (inD1 N)) (some (.bl true)) o' (some (.tup [.str (tx T), .int (N.length : Nat)])) none) (by unfold sl; clear c1 gj ge gi gw gN isN gA; walk_at "ev*")) ?_
      have cc := c1 _ [rowD R10] rfl
      refine Eq.trans (seq_nx (S' := [rowD R10]) (l' := sl ns (some (.int sz)) (some (.int mo)) (some (inD1 A)) (some (inD1 B)) (some (inD1 N)) (some (.bl true)) o' (some (.tup [.str (tx T), .int (N.length : Nat)])) (some (.str (tx T)))) (by
        have hs : isS (.str "") [rowD R10] = true := rfl
        simp only [sSet, eBM, eC, bnd, bndS, hs, if_true, aCons, aNil, cc, m1, gj]
        rfl)) ?_
      unfold sl
      clear c1 cc gj isN gA
      walk_at "ev*"
  refine ⟨[rowD R10], ?_⟩
  unfold m_law b_law
  refine fn_rt rfl ?_
  clear hT hNn gf hN lp hq hq2 gs hB0 hA0 hBs hBn o0 o1 o2 o3 o4 o5 o6 o7 o8 o9 o10 t8 t10
  refine Eq.trans (seq_nx (S' := [rowD R0]) (l' := [some (.scr ns), some (.ref 0), none, none, none, none, none, none, none, none, none, none]) (by clear cA cB post s5 s7 s8 s9; walk_at "ev*")) ?_
  refine Eq.trans (seq_nx (S' := [rowD R3]) (l' := sl ns (some (.int sz)) none none none none none none none none) (by clear cA cB post s5 s7 s8 s9 gr; unfold sl; walk_at "ev*")) ?_
  refine Eq.trans (seq_nx (S' := [rowD R4]) (l' := sl ns (some (.int sz)) (some (.int mo)) none none none none none none none) (by clear cA cB post s5 s7 s8 s9 gr t1 t2 t3; unfold sl; walk_at "ev*")) ?_
  refine Eq.trans (seq_nx (S' := [rowD R6]) (l' := sl ns (some (.int sz)) (some (.int mo)) (some (inD1 A)) none none none none none none) (by simp only [sSet, cA, bndS]; rfl)) ?_
  refine Eq.trans (seq_nx (S' := [rowD R7]) (l' := sl ns (some (.int sz)) (some (.int mo)) (some (inD1 A)) (some (inD1 B0)) none none none none none) (by simp only [sSet, cB, bndS]; rfl)) ?_
  refine Eq.trans (seq_nx s5) ?_
  refine Eq.trans (seq_nx (S' := [rowD R9]) (l' := sl ns (some (.int sz)) (some (.int mo)) (some (inD1 A)) (some (inD1 B)) (some (inD1 (A ++ [sz] ++ B))) none none none none) (by
    clear cA cB post s5 s7 s8 s9 gr t1 t2 t3 t4 t5
    unfold sl
    generalize inD1 (A ++ [sz] ++ B) = Y1 at *
    generalize inD1 (A ++ [sz]) = Y2 at *
    walk_at "ev*")) ?_
  refine Eq.trans (seq_nx s7) ?_
  refine Eq.trans (seq_nx s8) ?_
  refine Eq.trans (seq_nx s9) ?_
  exact post
end Law

namespace Law
open PySem PySem.Spec L2 Sim
def topS (i : Nat) : Stmt := PySem.Challenge.pw_oneline_k02_texts_that_are_none.main.body.getD i (.Pass ⟨0, 0, 0, 0⟩)
abbrev s_text_at : Stmt := topS 7
abbrev N_text_at : List Str := ["numbers", "at", "behind", "found", "number"]
abbrev s__law_row : Stmt := topS 9
abbrev N__law_row : List Str := ["_law_script", "_law_mixed", "_law_cell"]
abbrev s__law_taken : Stmt := topS 10
abbrev N__law_taken : List Str := ["_law_row_here", "_law_many", "_law_found_here", "_law_cell"]
abbrev s__law_whole : Stmt := topS 11
abbrev N__law_whole : List Str := ["_law_found_here"]
abbrev s__law_signs : Stmt := topS 12
abbrev N__law_signs : List Str := ["_law_found_here"]
abbrev s__law_found : Stmt := topS 13
abbrev N__law_found : List Str := ["_law_numbers", "_law_at", "e"]
abbrev s_law : Stmt := topS 14
abbrev N_law : List Str := ["_law_script", "_law_row_here", "_law_size", "_law_most", "_law_ahead", "_law_some", "_law_numbers", "_law_good", "_law_number", "_law_found_here", "_law_due", "_law_k"]
structure Txt (K : PySem.W.Frag) (mg : Str → Option Value) (ca : Nat → Addr) : Prop where
  std : Std mg
  d_text_at : DefF K mg "text_at" s_text_at ["numbers", "at"]
  d__law_row : DefF K mg "_law_row" s__law_row ["_law_script"]
  d__law_taken : DefF K mg "_law_taken" s__law_taken ["_law_row_here", "_law_many"]
  d__law_whole : DefF K mg "_law_whole" s__law_whole ["_law_found_here"]
  d__law_signs : DefF K mg "_law_signs" s__law_signs []
  d__law_found : DefF K mg "_law_found" s__law_found ["_law_numbers", "_law_at"]
  d_law : DefF K mg "law" s_law ["_law_script"]
  eb_BadHead : ExB K mg ca 2 "BadHead"
  te_BadHead : ∀ (c : Nat) (b : Bool), tab_BadHead c = some b → ExcC K (ca c) ∧ PySem.W.kitOne K (.ref (ca c)) (.ref (ca 2)) = some b
  te_ValueError : ∀ (c : Nat) (b : Bool), tab_ValueError c = some b → ExcC K (ca c) ∧ PySem.W.kitOne K (.ref (ca c)) (.type "ValueError") = some b
  te_NoDeed : ∀ (c : Nat) (b : Bool), tab_NoDeed c = some b → ExcC K (ca c) ∧ PySem.W.kitOne K (.ref (ca c)) (.ref (ca 1)) = some b
  gx_LineError : mg "LineError" = some (.ref (ca 0))
  ck_LineError : ∀ (c : Nat) (b : Bool), catch_LineError c = some b → PySem.W.exmOne K (.ref (ca c)) (.ref (ca 0)) = some b
  gx_BadHead : mg "BadHead" = some (.ref (ca 2))
  gx_NoDeed : mg "NoDeed" = some (.ref (ca 1))
  g_SIGNS : ∃ t : Tok, mg "SIGNS" = some (.str c_SIGNS t)
  g_LONGEST : ∃ t : Tok, mg "LONGEST" = some (.int 20 t)
section
variable {P : Program} {w : World} {K : PySem.W.Frag} {mg : Str → Option Value} {base : Heap} {ca : Nat → Addr}
theorem sc_text_at : FnScope N_text_at ["numbers", "at"] (defScope s_text_at) := ⟨rfl, rfl, rfl, by decide +kernel, rfl, by decide +kernel, by decide +kernel⟩
theorem body_text_at (T : Txt K mg ca) : BodyOk P w K mg base ca N_text_at "text_at" s_text_at 0 b_text_at := fun f cdv A outer s H E hr tk =>
  ss_cons (ss_if (st_w (sw_or (st_ge  (sv 1) (se_len T.std rfl (sa_cons (sv 0) (sa_nil) rfl) ⟨rfl, rfl⟩)) (sw_or (st_gt  (se_ix (hu1 hr) (sv 0) (sv 1) (fun _ _ => rfl)) (se_globI T.g_LONGEST rfl (by decide))) (sw_or1 (st_gt  (se_add (se_add (sv 1) (se_int)) (se_ix (hu1 hr) (sv 0) (sv 1) (fun _ _ => rfl))) (se_len T.std rfl (sa_cons (sv 0) (sa_nil) rfl) ⟨rfl, rfl⟩)))))) (ss_one (ss_raiseB T.eb_BadHead rfl tk rfl (by decide))) (ss_nil))
  (ss_cons (ss_set (i := 2) sc_text_at.nd rfl (.inl rfl) freeS.none (se_add (se_add (sv 1) (se_int)) (se_ix (hu1 hr) (sv 0) (sv 1) (fun _ _ => rfl))) rfl (by first | exact .inl rfl | exact .inr rfl))
  (ss_cons (ss_set (i := 3) sc_text_at.nd rfl (.inl rfl) freeS.none (se_str) rfl (by first | exact .inl rfl | exact .inr rfl))
  (ss_cons (ss_for (tgd := .one 4) (passes_of rfl) rfl (tg_one freeS.none) (pg_name (i := 4) sc_text_at.nd rfl (.inl rfl)) (si_list (se_sl (sv 0) (so_so (se_add (sv 1) (se_int))) (so_so (sv 2)))) (ss_cons (ss_if (st_ge  (sv 4) (se_len T.std rfl (sa_cons (se_globS T.g_SIGNS rfl (by decide)) (sa_nil) rfl) ⟨rfl, rfl⟩)) (ss_one (ss_raiseB T.eb_BadHead rfl tk rfl (by decide))) (ss_nil))
  (ss_one (ss_set (i := 3) sc_text_at.nd rfl (.inl rfl) freeS.none (se_add (sv 3) (se_ix (hu1 hr) (se_globS T.g_SIGNS rfl (by decide)) (sv 4) (fun _ _ => rfl))) rfl (by first | exact .inl rfl | exact .inr rfl)))) (fun _ => rfl))
  (ss_one (ss_ret (se_tup (sa_cons (sv 3) (sa_cons (sv 2) (sa_nil) rfl) rfl)))))))
theorem ok_text_at (T : Txt K mg ca) : FnS P w K mg base ca 1 "text_at" m_text_at := fn_def T.d_text_at sc_text_at rfl (by decide) (body_text_at T)
theorem sc__law_row : FnScope N__law_row ["_law_script"] (defScope s__law_row) := ⟨rfl, rfl, rfl, by decide +kernel, rfl, by decide +kernel, by decide +kernel⟩
theorem body__law_row (T : Txt K mg ca) : BodyOk P w K mg base ca N__law_row "_law_row" s__law_row 0 b__law_row := fun f cdv A outer s H E hr tk =>
  ss_cons (ss_set (i := 1) sc__law_row.nd rfl (.inl rfl) freeS.none (se_int) rfl (by first | exact .inl rfl | exact .inr rfl))
  (ss_cons (ss_for (tgd := .one 2) (passes_of rfl) rfl (tg_one freeS.none) (pg_name (i := 2) sc__law_row.nd rfl (.inl rfl)) (si_list (sv 0)) (ss_one (ss_set (i := 1) sc__law_row.nd rfl (.inl rfl) freeS.none (se_mod (se_add (se_add (se_mul (sv 1) (se_int)) (sv 2)) (se_int)) (se_int)) rfl (by first | exact .inl rfl | exact .inr rfl))) (fun _ => rfl))
  (ss_one (ss_ret (se_lstR (sa_cons (sv 0) (sa_cons (se_int) (sa_cons (se_int) (sa_cons (sv 1) (sa_nil) rfl) rfl) rfl) rfl)))))
theorem ok__law_row (T : Txt K mg ca) : FnS P w K mg base ca 1 "_law_row" m__law_row := fn_def T.d__law_row sc__law_row rfl (by decide) (body__law_row T)
theorem sc__law_taken : FnScope N__law_taken ["_law_row_here", "_law_many"] (defScope s__law_taken) := ⟨rfl, rfl, rfl, by decide +kernel, rfl, by decide +kernel, by decide +kernel⟩
theorem body__law_taken (T : Txt K mg ca) : BodyOk P w K mg base ca N__law_taken "_law_taken" s__law_taken 0 b__law_taken := fun f cdv A outer s H E hr tk =>
  ss_cons (ss_if (st_gt  (se_ix (hu1 hr) (sv 0) (se_int) (fun _ _ => rfl)) (se_int)) (ss_cons (ss_set (i := 2) sc__law_taken.nd rfl (.inl rfl) freeS.none (se_mod (se_ix (hu1 hr) (sv 0) (se_int) (fun _ _ => rfl)) (sv 1)) rfl (by first | exact .inl rfl | exact .inr rfl))
  (ss_cons (ss_put (hu1 hr) (sv 0) (se_int) (se_div (se_ix (hu1 hr) (sv 0) (se_int) (fun _ _ => rfl)) (sv 1)) rfl rfl rfl rfl (fun _ => rfl))
  (ss_one (ss_ret (sv 2))))) (ss_nil))
  (ss_cons (ss_if (st_lt (hu0 hr) (se_ix (hu1 hr) (sv 0) (se_int) (fun _ _ => rfl)) (se_len T.std rfl (sa_cons (se_ix (hu1 hr) (sv 0) (se_int) (fun _ _ => rfl)) (sa_nil) rfl) ⟨rfl, rfl⟩)) (ss_cons (ss_set (i := 3) sc__law_taken.nd rfl (.inl rfl) freeS.none (se_ix (hu1 hr) (se_ix (hu1 hr) (sv 0) (se_int) (fun _ _ => rfl)) (se_ix (hu1 hr) (sv 0) (se_int) (fun _ _ => rfl)) (fun _ _ => rfl)) rfl (by first | exact .inl rfl | exact .inr rfl))
  (ss_cons (ss_put (hu1 hr) (sv 0) (se_int) (se_add (se_ix (hu1 hr) (sv 0) (se_int) (fun _ _ => rfl)) (se_int)) rfl rfl rfl rfl (fun _ => rfl))
  (ss_cons (ss_if (st_ge  (sv 3) (se_pow (se_int) (se_int))) (ss_one (ss_put (hu1 hr) (sv 0) (se_int) (se_div (sv 3) (sv 1)) rfl rfl rfl rfl (fun _ => rfl))) (ss_nil))
  (ss_one (ss_ret (se_mod (sv 3) (sv 1))))))) (ss_nil))
  (ss_cons (ss_put (hu1 hr) (sv 0) (se_int) (se_mod (se_add (se_mul (se_ix (hu1 hr) (sv 0) (se_int) (fun _ _ => rfl)) (se_int)) (se_int)) (se_int)) rfl rfl rfl rfl (fun _ => rfl))
  (ss_one (ss_ret (se_mod (se_div (se_ix (hu1 hr) (sv 0) (se_int) (fun _ _ => rfl)) (se_int)) (sv 1))))))
theorem ok__law_taken (T : Txt K mg ca) : FnS P w K mg base ca 1 "_law_taken" m__law_taken := fn_def T.d__law_taken sc__law_taken rfl (by decide) (body__law_taken T)
theorem sc__law_whole : FnScope N__law_whole ["_law_found_here"] (defScope s__law_whole) := ⟨rfl, rfl, rfl, by decide +kernel, rfl, by decide +kernel, by decide +kernel⟩
theorem body__law_whole (T : Txt K mg ca) : BodyOk P w K mg base ca N__law_whole "_law_whole" s__law_whole 0 b__law_whole := fun f cdv A outer s H E hr tk =>
  ss_one (ss_ret (se_and (se_isI T.std rfl rfl (sv 0) ⟨rfl, rfl⟩ ⟨rfl, rfl⟩) (se_one (se_not (se_isB T.std rfl rfl (sv 0) ⟨rfl, rfl⟩ ⟨rfl, rfl⟩)))))
theorem ok__law_whole (T : Txt K mg ca) : FnS P w K mg base ca 1 "_law_whole" m__law_whole := fn_def T.d__law_whole sc__law_whole rfl (by decide) (body__law_whole T)
theorem sc__law_signs : FnScope N__law_signs [] (defScope s__law_signs) := ⟨rfl, rfl, rfl, by decide +kernel, rfl, by decide +kernel, by decide +kernel⟩
theorem body__law_signs (T : Txt K mg ca) : BodyOk P w K mg base ca N__law_signs "_law_signs" s__law_signs 0 b__law_signs := fun f cdv A outer s H E hr tk =>
  ss_cons (ss_set (i := 0) sc__law_signs.nd rfl (.inl rfl) freeS.none (se_str) rfl (by first | exact .inl rfl | exact .inr rfl))
  (ss_one (ss_ret (se_add (sv 0) (se_str))))
theorem ok__law_signs (T : Txt K mg ca) : FnS P w K mg base ca 1 "_law_signs" m__law_signs := fn_def T.d__law_signs sc__law_signs rfl (by decide) (body__law_signs T)
theorem sc__law_found : FnScope N__law_found ["_law_numbers", "_law_at"] (defScope s__law_found) := ⟨rfl, rfl, rfl, by decide +kernel, rfl, by decide +kernel, by decide +kernel⟩
theorem body__law_found (T : Txt K mg ca) : BodyOk P w K mg base ca N__law_found "_law_found" s__law_found 1 b__law_found := fun f cdv A outer s H E hr tk =>
  ss_cons (ss_tryN rfl rfl rfl sc__law_found.nd rfl rfl ⟨rfl, by decide, .inl T.gx_LineError⟩ tk (T.ck_LineError) (fun _ _ _ t1 t2 => ss_one (ss_ret (se_call (ok_text_at T) (hr.mono (by decide)) t1 rfl (by decide) (sa_cons (sv 0) (sa_cons (sv 1) (sa_nil) rfl) rfl) ⟨rfl, rfl⟩))) (fun a oe cls d pn hz hf xn hcls => ss_one (ss_if (st_w (sw_and (st_val (se_isE (v := .ref (ca 2)) hz hf hcls T.te_BadHead (pe_glob rfl T.gx_BadHead (show Value.ref _ = Value.ref _ from rfl) (by decide)) (fun _ h => h) rfl (by first | exact Or.inl rfl | exact Or.inr (Or.inl rfl)) (by decide) (by decide) T.std.isinstance rfl ⟨rfl, rfl⟩ ⟨rfl, rfl⟩) (by intro _; rfl)) (sw_and (st_val (se_isE (v := .ty "ValueError") hz hf hcls T.te_ValueError (pe_bltn rfl T.std.ValueError bt_ValueError (show Value.type _ = Value.type _ from rfl) (by decide) (by decide)) (fun _ h => h) rfl (by first | exact Or.inl rfl | exact Or.inr (Or.inl rfl)) (by decide) (by decide) T.std.isinstance rfl ⟨rfl, rfl⟩ ⟨rfl, rfl⟩) (by intro _; rfl)) (sw_and1 (st_not (st_val (se_isE (v := .ref (ca 1)) hz hf hcls T.te_NoDeed (pe_glob rfl T.gx_NoDeed (show Value.ref _ = Value.ref _ from rfl) (by decide)) (fun _ h => h) rfl (by first | exact Or.inl rfl | exact Or.inr (Or.inl rfl)) (by decide) (by decide) T.std.isinstance rfl ⟨rfl, rfl⟩ ⟨rfl, rfl⟩) (by intro _; rfl))))))) (ss_one (ss_ret (se_non))) (ss_nil))))
  (ss_one (ss_ret (se_tup (sa_nil))))
theorem ok__law_found (T : Txt K mg ca) : FnS P w K mg base ca 2 "_law_found" m__law_found := fn_def T.d__law_found sc__law_found rfl (by decide) (body__law_found T)
theorem sc_law : FnScope N_law ["_law_script"] (defScope s_law) := ⟨rfl, rfl, rfl, by decide +kernel, rfl, by decide +kernel, by decide +kernel⟩
theorem body_law (T : Txt K mg ca) : BodyOk P w K mg base ca N_law "law" s_law 2 b_law := fun f cdv A outer s H E hr tk =>
  ss_cons (ss_set (i := 1) sc_law.nd rfl (.inr rfl) freeS.none (se_call (ok__law_row T) (hr.mono (by decide)) tk rfl (by decide) (sa_cons (sv 0) (sa_nil) rfl) ⟨rfl, rfl⟩) rfl (by first | exact .inl rfl | exact .inr rfl))
  (ss_cons (ss_set (i := 2) sc_law.nd rfl (.inl rfl) freeS.none (se_ix (hu1 hr) (se_lst (sa_cons (se_call (ok__law_taken T) (hr.mono (by decide)) tk rfl (by decide) (sa_cons (sv 1) (sa_cons (se_int) (sa_nil) rfl) rfl) ⟨rfl, rfl⟩) (sa_cons (se_call (ok__law_taken T) (hr.mono (by decide)) tk rfl (by decide) (sa_cons (sv 1) (sa_cons (se_int) (sa_nil) rfl) rfl) ⟨rfl, rfl⟩) (sa_nil) rfl) rfl)) (se_call (ok__law_taken T) (hr.mono (by decide)) tk rfl (by decide) (sa_cons (sv 1) (sa_cons (se_int) (sa_nil) rfl) rfl) ⟨rfl, rfl⟩) (fun _ _ => rfl)) rfl (by first | exact .inl rfl | exact .inr rfl))
  (ss_cons (ss_set (i := 3) sc_law.nd rfl (.inr rfl) freeS.none (se_ix (hu1 hr) (se_lst (sa_cons (se_int) (sa_cons (se_int) (sa_nil) rfl) rfl)) (se_call (ok__law_taken T) (hr.mono (by decide)) tk rfl (by decide) (sa_cons (sv 1) (sa_cons (se_int) (sa_nil) rfl) rfl) ⟨rfl, rfl⟩) (fun _ _ => rfl)) rfl (by first | exact .inl rfl | exact .inr rfl))
  (ss_cons (ss_setLc (own := [("_law_k", 11)]) (tgd := .one 11) (i := 4) ⟨rfl, sc_law.nd, blkOk_by (own := [("_law_k", 11)]) (N := N_law) (sc := defScope s_law) (by decide +kernel), tg_one freeS.none, by decide, fun _ _ _ _ _ => pg_name (i := 11) sc_law.nd rfl (.inl rfl), fun _ _ _ _ _ => ts_nil, fun _ _ _ _ _ => se_call (ok__law_taken T) (hr.mono (by decide)) takes0 rfl (by decide) (sa_cons (sv 1) (sa_cons (se_int) (sa_nil) rfl) rfl) ⟨rfl, rfl⟩, fun _ => rfl⟩ rfl rfl freeS.none (sw_true rfl rfl rfl (by decide +kernel)) (si_r1 T.std.range rfl (se_call (ok__law_taken T) (hr.mono (by decide)) tk rfl (by decide) (sa_cons (sv 1) (sa_cons (se_int) (sa_nil) rfl) rfl) ⟨rfl, rfl⟩) rfl rfl))
  (ss_cons (ss_setLc (own := [("_law_k", 11)]) (tgd := .one 11) (i := 5) ⟨rfl, sc_law.nd, blkOk_by (own := [("_law_k", 11)]) (N := N_law) (sc := defScope s_law) (by decide +kernel), tg_one freeS.none, by decide, fun _ _ _ _ _ => pg_name (i := 11) sc_law.nd rfl (.inl rfl), fun _ _ _ _ _ => ts_nil, fun _ _ _ _ _ => se_call (ok__law_taken T) (hr.mono (by decide)) takes0 rfl (by decide) (sa_cons (sv 1) (sa_cons (sv 3) (sa_nil) rfl) rfl) ⟨rfl, rfl⟩, fun _ => rfl⟩ rfl rfl freeS.none (sw_true rfl rfl rfl (by decide +kernel)) (si_r1 T.std.range rfl (se_min2 rfl T.std rfl (sa_cons (sv 2) (sa_cons (se_int) (sa_nil) rfl) rfl) ⟨rfl, rfl⟩) rfl rfl))
  (ss_cons (ss_if (st_eq (hu64 hr) (se_call (ok__law_taken T) (hr.mono (by decide)) tk rfl (by decide) (sa_cons (sv 1) (sa_cons (se_int) (sa_nil) rfl) rfl) ⟨rfl, rfl⟩) (se_int)) (ss_one (ss_set (i := 5) sc_law.nd rfl (.inl rfl) freeS.none (se_sl (sv 5) so_no (so_so (se_sub (se_sub (se_len T.std rfl (sa_cons (sv 5) (sa_nil) rfl) ⟨rfl, rfl⟩) (se_int)) (se_call (ok__law_taken T) (hr.mono (by decide)) tk rfl (by decide) (sa_cons (sv 1) (sa_cons (se_int) (sa_nil) rfl) rfl) ⟨rfl, rfl⟩)))) rfl (by first | exact .inl rfl | exact .inr rfl))) (ss_nil))
  (ss_cons (ss_set (i := 6) sc_law.nd rfl (.inl rfl) freeS.none (se_add (se_add (sv 4) (se_lst (sa_cons (sv 2) (sa_nil) rfl))) (sv 5)) rfl (by first | exact .inl rfl | exact .inr rfl))
  (ss_cons (ss_if (st_eq (hu64 hr) (se_call (ok__law_taken T) (hr.mono (by decide)) tk rfl (by decide) (sa_cons (sv 1) (sa_cons (se_int) (sa_nil) rfl) rfl) ⟨rfl, rfl⟩) (se_int)) (ss_one (ss_set (i := 6) sc_law.nd rfl (.inl rfl) freeS.none (sv 4) rfl (by first | exact .inl rfl | exact .inr rfl))) (ss_nil))
  (ss_cons (ss_set (i := 7) sc_law.nd rfl (.inl rfl) freeS.none (se_and (se_ge  (se_len T.std rfl (sa_cons (sv 6) (sa_nil) rfl) ⟨rfl, rfl⟩) (se_add (se_add (se_len T.std rfl (sa_cons (sv 4) (sa_nil) rfl) ⟨rfl, rfl⟩) (se_int)) (sv 2))) (se_one (se_le  (sv 2) (se_int)))) rfl (by first | exact .inl rfl | exact .inr rfl))
  (ss_cons (ss_for (tgd := .one 8) (passes_of rfl) rfl (tg_one freeS.none) (pg_name (i := 8) sc_law.nd rfl (.inl rfl)) (si_list (se_sl (sv 5) so_no (so_so (sv 2)))) (ss_one (ss_set (i := 7) sc_law.nd rfl (.inl rfl) freeS.none (se_and (sv 7) (se_one (se_le  (sv 8) (se_int)))) rfl (by first | exact .inl rfl | exact .inr rfl))) (fun _ => rfl))
  (ss_cons (ss_set (i := 9) sc_law.nd rfl (.inl rfl) freeS.none (se_call (ok__law_found T) (hr.mono (by decide)) tk rfl (by decide) (sa_cons (sv 6) (sa_cons (se_len T.std rfl (sa_cons (sv 4) (sa_nil) rfl) ⟨rfl, rfl⟩) (sa_nil) rfl) rfl) ⟨rfl, rfl⟩) rfl (by first | exact .inl rfl | exact .inr rfl))
  (ss_cons (ss_if (st_not (st_val (sv 7) (by intro _; rfl))) (ss_one (ss_ret (se_is  (sv 9) (se_non)))) (ss_nil))
  (ss_cons (ss_set (i := 10) sc_law.nd rfl (.inl rfl) freeS.none (se_join (se_str) (sa_cons (se_comp (own := [("_law_number", 8)]) (tgd := .one 8) ⟨rfl, sc_law.nd, blkOk_by (own := [("_law_number", 8)]) (N := N_law) (sc := defScope s_law) (by decide +kernel), tg_one freeS.none, by decide, fun _ _ _ _ _ => pg_name (i := 8) sc_law.nd rfl (.inl rfl), fun _ _ _ _ _ => ts_nil, fun _ _ _ _ _ => se_ix (hu1 hr) (se_call0 (ok__law_signs T) (hr.mono (by decide)) rfl (by decide)) (sv 8) (fun _ _ => rfl), fun _ => rfl⟩ (si_list (sv 5))) (sa_nil) rfl) ⟨rfl, rfl, rfl⟩ ⟨rfl, rfl⟩) rfl (by first | exact .inl rfl | exact .inr rfl))
  (ss_one (ss_ret (se_and (se_eq (hu64 hr) (sv 9) (se_tup (sa_cons (sv 10) (sa_cons (se_len T.std rfl (sa_cons (sv 6) (sa_nil) rfl) ⟨rfl, rfl⟩) (sa_nil) rfl) rfl))) (se_and (se_isS T.std rfl rfl (se_ix (hu1 hr) (sv 9) (se_int) (fun _ _ => rfl)) ⟨rfl, rfl⟩ ⟨rfl, rfl⟩) (se_one (se_call (ok__law_whole T) (hr.mono (by decide)) tk rfl (by decide) (sa_cons (se_ix (hu1 hr) (sv 9) (se_int) (fun _ _ => rfl)) (sa_nil) rfl) ⟨rfl, rfl⟩))))))))))))))))))
theorem ok_law (T : Txt K mg ca) : FnS P w K mg base ca 3 "law" m_law := fn_def T.d_law sc_law rfl (by decide) (body_law T)
end
theorem all_mk {K : PySem.W.Frag} {h : Heap} {mg : Str → Option Value} (X : K.In h) (G : h.Ns mainGlobals mg)
  {C_BadHead : Addr}
  {C_LineError : Addr}
  {C_NoDeed : Addr}
  {f_text_at : Addr} {od_text_at an_text_at : Option Addr} {sl_text_at : Array (Option Value)} {oc_text_at kV_text_at dc_text_at pm_text_at cd_text_at ct_text_at : Value}
  {f__law_row : Addr} {od__law_row an__law_row : Option Addr} {sl__law_row : Array (Option Value)} {oc__law_row kV__law_row dc__law_row pm__law_row cd__law_row ct__law_row : Value}
  {f__law_taken : Addr} {od__law_taken an__law_taken : Option Addr} {sl__law_taken : Array (Option Value)} {oc__law_taken kV__law_taken dc__law_taken pm__law_taken cd__law_taken ct__law_taken : Value}
  {f__law_whole : Addr} {od__law_whole an__law_whole : Option Addr} {sl__law_whole : Array (Option Value)} {oc__law_whole kV__law_whole dc__law_whole pm__law_whole cd__law_whole ct__law_whole : Value}
  {f__law_signs : Addr} {od__law_signs an__law_signs : Option Addr} {sl__law_signs : Array (Option Value)} {oc__law_signs kV__law_signs dc__law_signs pm__law_signs cd__law_signs ct__law_signs : Value}
  {f__law_found : Addr} {od__law_found an__law_found : Option Addr} {sl__law_found : Array (Option Value)} {oc__law_found kV__law_found dc__law_found pm__law_found cd__law_found ct__law_found : Value}
  {f_law : Addr} {od_law an_law : Option Addr} {sl_law : Array (Option Value)} {oc_law kV_law dc_law pm_law cd_law ct_law : Value}
  {t_SIGNS : Tok}
  {t_LONGEST : Tok}
  (g_BadHead : PySem.W.nsIn K mainGlobals "BadHead" = some (some (.ref C_BadHead)))
  (g_LineError : PySem.W.nsIn K mainGlobals "LineError" = some (some (.ref C_LineError)))
  (g_NoDeed : PySem.W.nsIn K mainGlobals "NoDeed" = some (some (.ref C_NoDeed)))
  (std_len : PySem.W.nsIn K mainGlobals "len" = some none)
  (std_list : PySem.W.nsIn K mainGlobals "list" = some none)
  (std_int : PySem.W.nsIn K mainGlobals "int" = some none)
  (std_bool : PySem.W.nsIn K mainGlobals "bool" = some none)
  (std_str : PySem.W.nsIn K mainGlobals "str" = some none)
  (std_tuple : PySem.W.nsIn K mainGlobals "tuple" = some none)
  (std_sum : PySem.W.nsIn K mainGlobals "sum" = some none)
  (std_max : PySem.W.nsIn K mainGlobals "max" = some none)
  (std_min : PySem.W.nsIn K mainGlobals "min" = some none)
  (std_isinstance : PySem.W.nsIn K mainGlobals "isinstance" = some none)
  (std_range : PySem.W.nsIn K mainGlobals "range" = some none)
  (std_enumerate : PySem.W.nsIn K mainGlobals "enumerate" = some none)
  (std_zip : PySem.W.nsIn K mainGlobals "zip" = some none)
  (std_sorted : PySem.W.nsIn K mainGlobals "sorted" = some none)
  (std_ValueError : PySem.W.nsIn K mainGlobals "ValueError" = some none)
  (a_text_at : PySem.W.nsIn K mainGlobals "text_at" = some (some (.ref f_text_at)))
  (l_text_at : K.lookup f_text_at = some ⟨oc_text_at, od_text_at, .func (PySem.W.fnOf "text_at" "text_at" (defArgs s_text_at) (defBody s_text_at) (defScope s_text_at) .none kV_text_at dc_text_at pm_text_at an_text_at cd_text_at ct_text_at), sl_text_at⟩)
  (c_text_at : PySem.W.codeIn K cd_text_at "text_at" = true)
  (k_text_at : PySem.W.keepIn K (.ref f_text_at) = true)
  (a__law_row : PySem.W.nsIn K mainGlobals "_law_row" = some (some (.ref f__law_row)))
  (l__law_row : K.lookup f__law_row = some ⟨oc__law_row, od__law_row, .func (PySem.W.fnOf "_law_row" "_law_row" (defArgs s__law_row) (defBody s__law_row) (defScope s__law_row) .none kV__law_row dc__law_row pm__law_row an__law_row cd__law_row ct__law_row), sl__law_row⟩)
  (c__law_row : PySem.W.codeIn K cd__law_row "_law_row" = true)
  (k__law_row : PySem.W.keepIn K (.ref f__law_row) = true)
  (a__law_taken : PySem.W.nsIn K mainGlobals "_law_taken" = some (some (.ref f__law_taken)))
  (l__law_taken : K.lookup f__law_taken = some ⟨oc__law_taken, od__law_taken, .func (PySem.W.fnOf "_law_taken" "_law_taken" (defArgs s__law_taken) (defBody s__law_taken) (defScope s__law_taken) .none kV__law_taken dc__law_taken pm__law_taken an__law_taken cd__law_taken ct__law_taken), sl__law_taken⟩)
  (c__law_taken : PySem.W.codeIn K cd__law_taken "_law_taken" = true)
  (k__law_taken : PySem.W.keepIn K (.ref f__law_taken) = true)
  (a__law_whole : PySem.W.nsIn K mainGlobals "_law_whole" = some (some (.ref f__law_whole)))
  (l__law_whole : K.lookup f__law_whole = some ⟨oc__law_whole, od__law_whole, .func (PySem.W.fnOf "_law_whole" "_law_whole" (defArgs s__law_whole) (defBody s__law_whole) (defScope s__law_whole) .none kV__law_whole dc__law_whole pm__law_whole an__law_whole cd__law_whole ct__law_whole), sl__law_whole⟩)
  (c__law_whole : PySem.W.codeIn K cd__law_whole "_law_whole" = true)
  (k__law_whole : PySem.W.keepIn K (.ref f__law_whole) = true)
  (a__law_signs : PySem.W.nsIn K mainGlobals "_law_signs" = some (some (.ref f__law_signs)))
  (l__law_signs : K.lookup f__law_signs = some ⟨oc__law_signs, od__law_signs, .func (PySem.W.fnOf "_law_signs" "_law_signs" (defArgs s__law_signs) (defBody s__law_signs) (defScope s__law_signs) .none kV__law_signs dc__law_signs pm__law_signs an__law_signs cd__law_signs ct__law_signs), sl__law_signs⟩)
  (c__law_signs : PySem.W.codeIn K cd__law_signs "_law_signs" = true)
  (k__law_signs : PySem.W.keepIn K (.ref f__law_signs) = true)
  (a__law_found : PySem.W.nsIn K mainGlobals "_law_found" = some (some (.ref f__law_found)))
  (l__law_found : K.lookup f__law_found = some ⟨oc__law_found, od__law_found, .func (PySem.W.fnOf "_law_found" "_law_found" (defArgs s__law_found) (defBody s__law_found) (defScope s__law_found) .none kV__law_found dc__law_found pm__law_found an__law_found cd__law_found ct__law_found), sl__law_found⟩)
  (c__law_found : PySem.W.codeIn K cd__law_found "_law_found" = true)
  (k__law_found : PySem.W.keepIn K (.ref f__law_found) = true)
  (a_law : PySem.W.nsIn K mainGlobals "law" = some (some (.ref f_law)))
  (l_law : K.lookup f_law = some ⟨oc_law, od_law, .func (PySem.W.fnOf "law" "law" (defArgs s_law) (defBody s_law) (defScope s_law) .none kV_law dc_law pm_law an_law cd_law ct_law), sl_law⟩)
  (c_law : PySem.W.codeIn K cd_law "law" = true)
  (k_law : PySem.W.keepIn K (.ref f_law) = true)
  (xb_BadHead : PySem.W.excIn K C_BadHead [.type "ValueError", .type "Exception", .type "BaseException", .type "object"] "ValueError.__new__" = true)
  (xk_BadHead : PySem.W.keepIn K (.ref C_BadHead) = true)
  (xs_BadHead : PySem.W.subIn K (.ref C_BadHead) (.type "BaseException") = some true)
  (xt_BadHead : PySem.W.typeIn K (.ref C_BadHead) = some (.type "type"))
  (xe1_BadHead : PySem.W.findIn K (.ref C_BadHead) "__getattribute__" = some (some (.builtin "BaseException.__getattribute__")))
  (xe2_BadHead : PySem.W.findIn K (.ref C_BadHead) "__getattr__" = some none)
  (xe3_BadHead : PySem.W.subIn K (.ref C_BadHead) (.type "BaseException") = some true)
  (xe4_BadHead : PySem.W.hasDictIn K C_BadHead = true)
  (xe5_BadHead : PySem.W.findIn K (.ref C_BadHead) "__class__" = some (some (.builtin "object.__class__")))
  (xe6_BadHead : PySem.W.specialIn K (.builtin "object.__class__") "__get__" = some (some (.builtin "getset_descriptor.__get__")))
  (xe7_BadHead : PySem.W.takesIn K (.builtin "object.__class__") = some true)
  (xe8_BadHead : PySem.W.mroIn K C_BadHead (.type "object") = some true)
  (es_BadHead_ValueError : PySem.W.subIn K (.ref C_BadHead) (.type "ValueError") = some true)
  (ed_NoDeed : PySem.W.hasDictIn K C_NoDeed = true)
  (et_NoDeed : PySem.W.typeIn K (.ref C_NoDeed) = some (.type "type"))
  (es_BadHead_NoDeed : PySem.W.subIn K (.ref C_BadHead) (.ref C_NoDeed) = some false)
  (en_BadHead_NoDeed : C_BadHead ≠ C_NoDeed)
  (eb_LineError : PySem.W.subIn K (.ref C_LineError) (.type "BaseException") = some true)
  (ed_LineError : PySem.W.hasDictIn K C_LineError = true)
  (et_LineError : PySem.W.typeIn K (.ref C_LineError) = some (.type "type"))
  (es_BadHead_LineError : PySem.W.subIn K (.ref C_BadHead) (.ref C_LineError) = some true)
  (g_SIGNS : PySem.W.nsIn K mainGlobals "SIGNS" = some (some (.str c_SIGNS t_SIGNS)))
  (g_LONGEST : PySem.W.nsIn K mainGlobals "LONGEST" = some (some (.int 20 t_LONGEST))) : Txt K mg (caL [(2, C_BadHead), (0, C_LineError), (1, C_NoDeed)]) :=
  ⟨⟨PySem.W.mg_none_of X G std_len, PySem.W.mg_none_of X G std_list, PySem.W.mg_none_of X G std_int, PySem.W.mg_none_of X G std_bool, PySem.W.mg_none_of X G std_str, PySem.W.mg_none_of X G std_tuple, PySem.W.mg_none_of X G std_sum, PySem.W.mg_none_of X G std_max, PySem.W.mg_none_of X G std_min, PySem.W.mg_none_of X G std_isinstance, PySem.W.mg_none_of X G std_range, PySem.W.mg_none_of X G std_enumerate, PySem.W.mg_none_of X G std_zip, PySem.W.mg_none_of X G std_sorted, PySem.W.mg_none_of X G std_ValueError⟩,
   defF_of X G a_text_at l_text_at c_text_at k_text_at (fun _ _ _ _ _ _ us hl => match us, hl with | [_, _], _ => rfl),
   defF_of X G a__law_row l__law_row c__law_row k__law_row (fun _ _ _ _ _ _ us hl => match us, hl with | [_], _ => rfl),
   defF_of X G a__law_taken l__law_taken c__law_taken k__law_taken (fun _ _ _ _ _ _ us hl => match us, hl with | [_, _], _ => rfl),
   defF_of X G a__law_whole l__law_whole c__law_whole k__law_whole (fun _ _ _ _ _ _ us hl => match us, hl with | [_], _ => rfl),
   defF_of X G a__law_signs l__law_signs c__law_signs k__law_signs (fun _ _ _ _ _ _ us hl => match us, hl with | [], _ => rfl),
   defF_of X G a__law_found l__law_found c__law_found k__law_found (fun _ _ _ _ _ _ us hl => match us, hl with | [_, _], _ => rfl),
   defF_of X G a_law l_law c_law k_law (fun _ _ _ _ _ _ us hl => match us, hl with | [_], _ => rfl),
   ⟨xb_BadHead, PySem.W.mg_of X G g_BadHead, xk_BadHead, xs_BadHead, xt_BadHead⟩,
   (by intro c b h; unfold tab_BadHead at h; repeat (first | (split at h; (rename_i z; subst z; cases h; first | exact ⟨⟨xe1_BadHead, xe2_BadHead, xe3_BadHead, xe4_BadHead, xe5_BadHead, xe6_BadHead, xe7_BadHead, xe8_BadHead⟩, (kit_self _)⟩)) | (cases h; done))),
   (by intro c b h; unfold tab_ValueError at h; repeat (first | (split at h; (rename_i z; subst z; cases h; first | exact ⟨⟨xe1_BadHead, xe2_BadHead, xe3_BadHead, xe4_BadHead, xe5_BadHead, xe6_BadHead, xe7_BadHead, xe8_BadHead⟩, (kit_VE es_BadHead_ValueError)⟩)) | (cases h; done))),
   (by intro c b h; unfold tab_NoDeed at h; repeat (first | (split at h; (rename_i z; subst z; cases h; first | exact ⟨⟨xe1_BadHead, xe2_BadHead, xe3_BadHead, xe4_BadHead, xe5_BadHead, xe6_BadHead, xe7_BadHead, xe8_BadHead⟩, (kit_ref ed_NoDeed et_NoDeed es_BadHead_NoDeed (.inr en_BadHead_NoDeed))⟩)) | (cases h; done))),
   PySem.W.mg_of X G g_LineError,
   (by intro c b h; unfold catch_LineError at h; repeat (first | (split at h; (rename_i z; subst z; cases h; first | exact PySem.W.exm_ref eb_LineError ed_LineError et_LineError es_BadHead_LineError)) | (cases h; done))),
   PySem.W.mg_of X G g_BadHead,
   PySem.W.mg_of X G g_NoDeed,
   ⟨t_SIGNS, PySem.W.mg_of X G g_SIGNS⟩,
   ⟨t_LONGEST, PySem.W.mg_of X G g_LONGEST⟩⟩
theorem law_at {P : Program} {w : World} {K : PySem.W.Frag} {mg : Str → Option Value} {ca : Nat → Addr} (T : Txt K mg ca) {fa : Addr} (hm : mg "law" = some (.ref fa)) (hg : LawTrue m_law) :
    ∃ fd : FuncData, (∀ (s : Shared) (u : Value), BindsTo s fd ⟨[u], []⟩ [("_law_script", u)]) ∧ ∀ base : Heap, FnOk P w K mg base (L2.CX P w) 3 fa fd ["_law_script"] (spLaw K) := by
  obtain ⟨f, fd, F, h1, hb⟩ := T.d_law
  have e : fa = f := by
    have z := hm.symm.trans h1
    cases z
    rfl
  subst e
  obtain ⟨oc, od, kV, doc, pm, an, cdv, ct, osl, e, lk, hcd⟩ := id F.ex
  refine ⟨fd, fun s u => ?_, fun base => (fn_sound F sc_law rfl (by decide) (body_law T fa)).imp fun vs H Q E h => law_sp hg vs H Q E h⟩
  rw [e]
  exact .of_eq rfl
theorem walk {l : PySem.W.OpenLaw} {q : Program} {loose : List Str} {XP : (Str → Option Value) → Heap → Prop} {YP : World → Heap → Prop} {d : DefRec} {K : Params → PySem.W.Frag} (hg : LawTrue m_law) (hn : l.most = some 63) (hdf : d.params.defaults = []) (hd : d.name = "law")
    (hY : ∀ (w : World) (h : Heap), YP w h → (K w.params).In h)
    (F : ∀ (w : World) (mg : Str → Option Value) (h : Heap), (K w.params).In h → h.Ns mainGlobals mg → ∃ ca, Txt (K w.params) mg ca) :
    PySem.W.WalkO q loose XP YP l.row.toRowW d [] (fun f vs => PySem.call f vs) :=
  L2.walk_of (n := 63) (k := 3) (x := "_law_script") (CX := fun w => L2.CX l.prog w) (sp := fun w => spLaw (K w.params)) hn (by decide) hdf ⟨rfl, by decide, by decide⟩ hY
    (fun w mg fa h KX G hm => by
      obtain ⟨ca, T⟩ := F w mg h KX G
      rw [hd] at hm
      obtain ⟨fd, h1, h2⟩ := law_at (P := l.prog) (w := w) T hm hg
      exact ⟨fd, h1, fun base _ _ => h2 base⟩)
    (fun _ _ a ns hl _ hS => ⟨a, ns, rfl, hS, hl, fun _ => rfl⟩) fun _ _ _ _ _ z => cx_false z
end Law

open PySem PySem.W PyProof.Rows
set_option maxRecDepth 100000 in
set_option maxHeartbeats 0 in
theorem PySem.Challenge.cw_oneline_k02_texts_that_are_none_holds : PySem.Challenge.rw_oneline_k02_texts_that_are_none.Holds := by
  w_on; o_law; k_head; (case hw => w_witness2)
  k_fill
  refine Law.walk (l := PySem.Challenge.rw_oneline_k02_texts_that_are_none) Law.law_true rfl rfl rfl (fun w h Y => PySem.W.kIn_of Y) ?F
  case F =>
    intro w mg h KX G
    refine' ⟨_, Law.all_mk KX G ?h_g_BadHead ?h_g_LineError ?h_g_NoDeed ?h_std_len ?h_std_list ?h_std_int ?h_std_bool ?h_std_str ?h_std_tuple ?h_std_sum ?h_std_max ?h_std_min ?h_std_isinstance ?h_std_range ?h_std_enumerate ?h_std_zip ?h_std_sorted ?h_std_ValueError ?h_a_text_at ?h_l_text_at ?h_c_text_at ?h_k_text_at ?h_a__law_row ?h_l__law_row ?h_c__law_row ?h_k__law_row ?h_a__law_taken ?h_l__law_taken ?h_c__law_taken ?h_k__law_taken ?h_a__law_whole ?h_l__law_whole ?h_c__law_whole ?h_k__law_whole ?h_a__law_signs ?h_l__law_signs ?h_c__law_signs ?h_k__law_signs ?h_a__law_found ?h_l__law_found ?h_c__law_found ?h_k__law_found ?h_a_law ?h_l_law ?h_c_law ?h_k_law ?h_xb_BadHead ?h_xk_BadHead ?h_xs_BadHead ?h_xt_BadHead ?h_xe1_BadHead ?h_xe2_BadHead ?h_xe3_BadHead ?h_xe4_BadHead ?h_xe5_BadHead ?h_xe6_BadHead ?h_xe7_BadHead ?h_xe8_BadHead ?h_es_BadHead_ValueError ?h_ed_NoDeed ?h_et_NoDeed ?h_es_BadHead_NoDeed ?h_en_BadHead_NoDeed ?h_eb_LineError ?h_ed_LineError ?h_et_LineError ?h_es_BadHead_LineError ?h_g_SIGNS ?h_g_LONGEST⟩
    (case h_g_BadHead => k_is)
    (case h_g_LineError => k_is)
    (case h_g_NoDeed => k_is)
    (case h_std_len => k_is)
    (case h_std_list => k_is)
    (case h_std_int => k_is)
    (case h_std_bool => k_is)
    (case h_std_str => k_is)
    (case h_std_tuple => k_is)
    (case h_std_sum => k_is)
    (case h_std_max => k_is)
    (case h_std_min => k_is)
    (case h_std_isinstance => k_is)
    (case h_std_range => k_is)
    (case h_std_enumerate => k_is)
    (case h_std_zip => k_is)
    (case h_std_sorted => k_is)
    (case h_std_ValueError => k_is)
    (case h_a_text_at => k_is)
    (case h_l_text_at => k_is)
    (case h_c_text_at => k_is)
    (case h_k_text_at => k_is)
    (case h_a__law_row => k_is)
    (case h_l__law_row => k_is)
    (case h_c__law_row => k_is)
    (case h_k__law_row => k_is)
    (case h_a__law_taken => k_is)
    (case h_l__law_taken => k_is)
    (case h_c__law_taken => k_is)
    (case h_k__law_taken => k_is)
    (case h_a__law_whole => k_is)
    (case h_l__law_whole => k_is)
    (case h_c__law_whole => k_is)
    (case h_k__law_whole => k_is)
    (case h_a__law_signs => k_is)
    (case h_l__law_signs => k_is)
    (case h_c__law_signs => k_is)
    (case h_k__law_signs => k_is)
    (case h_a__law_found => k_is)
    (case h_l__law_found => k_is)
    (case h_c__law_found => k_is)
    (case h_k__law_found => k_is)
    (case h_a_law => k_is)
    (case h_l_law => k_is)
    (case h_c_law => k_is)
    (case h_k_law => k_is)
    (case h_xb_BadHead => k_exc)
    (case h_xk_BadHead => k_is)
    (case h_xs_BadHead => k_is)
    (case h_xt_BadHead => k_is)
    (case h_xe1_BadHead => k_is)
    (case h_xe2_BadHead => k_is)
    (case h_xe3_BadHead => k_is)
    (case h_xe4_BadHead => k_is)
    (case h_xe5_BadHead => k_is)
    (case h_xe6_BadHead => k_is)
    (case h_xe7_BadHead => k_is)
    (case h_xe8_BadHead => k_is)
    (case h_es_BadHead_ValueError => k_is)
    (case h_ed_NoDeed => k_is)
    (case h_et_NoDeed => k_is)
    (case h_es_BadHead_NoDeed => k_is)
    (case h_en_BadHead_NoDeed => decide)
    (case h_eb_LineError => k_is)
    (case h_ed_LineError => k_is)
    (case h_et_LineError => k_is)
    (case h_es_BadHead_LineError => k_is)
    (case h_g_SIGNS => k_is)
    (case h_g_LONGEST => k_is)
